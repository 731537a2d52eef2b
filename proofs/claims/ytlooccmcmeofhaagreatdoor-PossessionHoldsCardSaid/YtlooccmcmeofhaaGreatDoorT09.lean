/-
Lemmas of one proof, the texts SimCode to SimCase joined.
-/
import Derived.Test.YtlooccmcmeofhaaGreatDoorT08
import Derived.OrdersIn
set_option linter.unusedSimpArgs false
set_option linter.unusedVariables false
set_option maxRecDepth 100000
set_option maxHeartbeats 32000000
noncomputable section
open Go
open Bool (and_eq_true false_eq_true not_eq_false' not_eq_true' or_eq_false_iff or_eq_true)
open List (all_cons all_eq_true all_nil any_eq_false append_nil count_pos_iff count_set drop_drop eq_nil_iff_forall_not_mem eq_nil_of_length_eq_zero foldl_cons getElem?_drop getElem?_eq_getElem getElem_mem length_cons length_nil mapM_cons mem_append mem_append_left mem_append_right mem_cons mem_cons_of_mem mem_cons_self mem_filter mem_filterMap mem_iff_getElem? mem_of_getElem? mem_range nil_append range_eq_range' zip_cons_cons)
open Nat (add_zero beq_refl ble_eq blt_eq eq_of_beq_eq_true eq_or_lt_of_le le_max_left le_max_right le_of_ble_eq_true le_of_not_lt le_succ lt_of_lt_of_le lt_or_ge lt_or_gt_of_ne lt_succ_self lt_trans lt_trichotomy ne_of_lt sub_self testBit_or testBit_two_pow zero_add zero_le)
open Option (bind_eq_some_iff bind_some getD_some map_some)
variable {H H' H1:Go.Sim.Heap} {P:Go.Program} {T T':Go.Sim.TT Go.Sim.AV} {args:List Go.Sim.AV} {b b' c i id j' k l lo n p q sz:Nat} {cv:Go.Value} {e t:Go.TypeId} {f fid:Go.FuncId} {g':Go.Sim.Gh} {o out:Go.Sim.Out} {rec:Go.Sim.Rec} {rnd:Bool} {rx:List (List Go.Sim.AV)} {s:Go.Sim.OpI} {v:Go.Sim.AV} {vals:List Go.Value} {w':Go.World} {α β γ:Type}

namespace Go.Sim
variable {C:Cfg} {g:Gh} {n:Nat} {H:Heap} {w:World}
def AT (C:Cfg) (rec:Rec):Prop :=
 ∀ (ro:Option Nat) (fid:FuncId) (lo:Nat) (ops:Array Oper) (plan:List OpI) (T:TT AV) (H:Heap) (T':TT AV) (H':Heap) (M:List Nat) (g:Gh) (w:World) (a:Act) (Q:Exit->Act->World->Prop),
   XT C fid ops ops.toList plan 0 0 []=true->(∀ o ∈ ops.toList,∀ d,o.dst=some d->d < a.tmps.size)->lo<=H.n ->
   Zs C rec fid lo ops.toList ops.toList plan 0 [] T H 0 []=some (T',H')->Rel C g H w->ARel C lo g H.n T M a ->
   (∀ g' a' w',Rel C g' H' w'->Ext lo g H w g' H' w'->ARel C lo g' H'.n T' M a'->a'.tmps.size=a.tmps.size->Q .normal a' w') ->
   wpAnyIn (Yq ro) 0 C.P .any ops Q ops.size (Array.replicate ops.size false) a w
theorem Mp {n m:Nat} (hnm:n≤m):∀ (c:Code),Zz C fid n c=true→Zz C fid m c=true:=by
 intro c
 induction c with
 | region id ops draw =>
   intro h;simp only [Zz,and_eq_true,Array.all_eq_true'] at h ⊢;refine ⟨fun o ho => ?_,h.2⟩;have:=h.1 o ho;cases hd:o.dst with
   | none=>rfl
   | some d=>simp only [hd,decide_eq_true_eq] at this ⊢;exact lt_of_lt_of_le this hnm
 | seq a b iha ihb=>intro h;simp only [Zz,and_eq_true] at h ⊢;exact ⟨iha h.1,ihb h.2⟩
 | cond c a b iha ihb=>intro h;simp only [Zz,and_eq_true] at h ⊢;exact ⟨iha h.1,ihb h.2⟩
 | block id b ih=>intro h;simp only [Zz] at h ⊢;exact ih h
 | loop b ih=>intro h;simp only [Zz] at h ⊢;exact ih h
 | scope b ih=>intro h;simp only [Zz] at h ⊢;exact ih h
 | rangeFunc f ps a b iha ihb =>
   intro h;simp only [Zz,and_eq_true,Array.all_eq_true',decide_eq_true_eq] at h ⊢;exact ⟨⟨fun p hp=>lt_of_lt_of_le (h.1.1 p hp) hnm,iha h.1.2⟩,ihb h.2⟩
 | _=>intro _;rfl
theorem QZ.comp {s s1:St} {g1:Gh} {w1 w2:World} {e:Exit} {a2:Act} {size size':Nat} (h:QZ C lo g1 s1 w1 size' o e a2 w2) (hE:Ext lo g s.H w g1 s1.H w1) (hs:size'=size):QZ C lo g s w size o e a2 w2:=by
 obtain ⟨h0,g',h1,h2,h3,h4⟩:=h;exact ⟨h0,g',h1,hE.trans h2,h3,h4.trans hs⟩
theorem AU {g:Gh} {n:Nat}:∀ {ps:List Tmp} {vs:List AV} {cv:List Value} {T:TT AV} {tmps:Array Value},Xy g n T tmps->Zb g n vs cv->(∀ p ∈ ps,p < tmps.size) ->
 Xy g n (QV ps vs T) ((ps.zip cv).foldl (fun tmps (p:Tmp × Value)=>tmps.setIfInBounds p.1 p.2) tmps)/\((ps.zip cv).foldl (fun tmps (p:Tmp × Value)=>tmps.setIfInBounds p.1 p.2) tmps).size=tmps.size
 | [],vs,cv,T,tmps,hT,_,_=>by simpa [QV] using hT
 | p::ps,[],cv,T,tmps,hT,hv,_=>by
   have:=hv.nil_left;subst this;simpa [QV] using hT
 | p::ps,v::vs,cv,T,tmps,hT,hv,hp=>by
   obtain ⟨c,cv',rfl,h1,h2⟩:=hv.cons_left;simp only [QV,zip_cons_cons,foldl_cons];obtain ⟨k1,k2⟩:=AU (ps:=ps) (hT.set (hp p (by simp)) h1) h2 (fun q hq=>by simpa using hp q (by simp [hq]));exact ⟨k1,k2.trans (by simp)⟩
theorem AW {g:Gh} {n:Nat}:∀ {vs:List AV} {cv:List Value} {i:Nat} {T:TT AV} {tmps:Array Value},(∀ t,(t < i\/i+cv.length<=t)->VRel g n (Z1 T t) (tmps.getD t undef))->Zb g n vs cv->(∀ j v,cv[j]? = some v->tmps[i+j]? = some v) ->
 Xy g n (XR vs i T) tmps
 | [],cv,i,T,tmps,hT,hv,_=>by
   have:=hv.nil_left;subst this;exact fun t=>hT t (by simp;omega)
 | v::vs,cv,i,T,tmps,hT,hv,hj=>by
   obtain ⟨c,cv',rfl,h1,h2⟩:=hv.cons_left;simp only [XR];refine AW (cv:=cv') (fun t ht => ?_) h2 (fun j v hv=>by have:=hj (j+1) v (by simpa using hv);rw [show i+1+j=i+(j+1) by omega];exact this);rw [VH];by_cases e:t=i
   . subst e;rw [if_pos rfl];have:=hj 0 c rfl;simp only [add_zero] at this;simp [this,h1]
   . rw [if_neg e];exact hT t (by simp only [length_cons];omega)
def UR (tmps:Array Value):ResultVar->Sem Value
 | .tmp t=>Pure.pure (tmps.getD t undef)
 | .cell a t=>do loadVar t (<- asAddr (tmps.getD a undef))
theorem Mq (fn:Func) (tmps:Array Value):results fn tmps=(do
 let vs <- fn.results.mapM (UR tmps)
 Pure.pure (if h:vs.size=1 then vs[0] else .tuple vs):Sem Value):=by
 unfold results
 congr 1
theorem Rel.putO (hR:Rel C g H w) (hlo:lo<=id) (hid:id < H.n) (hl:(H.get id).live=true) {o o':Obj} (ho:w.heap[(g.L id).b]? = some o) (hno:∀ c e fz,o ≠ .cells c e fz) {b':ABlk}
 (hb:Yj C g H.n (w.putObj (g.L id).b o') (g.L id) b'):Rel C g (H.set id b') (w.putObj (g.L id).b o')/\Ext lo g H w g (H.set id b') (w.putObj (g.L id).b o') :=
 hR.upd hlo hid hl (fun b hb=>World.putObj_heap_other hb) World.putObj_size rfl rfl rfl hb fun x v hk=>by
  have:=hR.know _ _ _ hk;unfold World.cell? at this;rw [ho] at this;cases o<;>first | exact absurd rfl (hno _ _ _) | simp at this
theorem AX (hR:Rel C g H w) {T:TT AV} {tmps:Array Value} (hT:Xy g H.n T tmps):∀ {l:List ResultVar} {r:List AV},XQ C H T l=some r ->
 ∃ vs:List Value,Zb g H.n r vs/\(l.mapM (UR tmps)).run C.P w=.ok vs w
 | [],r,h=>by simp [XQ] at h;subst h;exact ⟨[],.nil,by simp⟩
 | x::l,r,h=>by
   unfold XQ at h;split at h
   . rename_i v hv
     split at h
     . rename_i l' hl'
       simp at h;subst h;obtain ⟨vs,h1,h2⟩:=AX hR hT hl';cases x with
       | tmp t =>
         simp at hv;subst hv;refine ⟨tmps.getD t undef::vs,.cons (hT t) h1, ?_⟩;simp only [mapM_cons,UR,Sem.run_bind,Sem.run_pure,Result.andThen_ok];simp only [h2,Result.andThen_ok]
       | cell c t =>
         have hv:Yl C.P H t (Z1 T c)=some v:=hv;obtain ⟨ad,cv,k1,k2,k3,k4⟩:=Ab (P:=C.P) hR hv (hT c);refine ⟨cv::vs,.cons k4 h1, ?_⟩;have ha:(asAddr (.pointer (some ad)):Sem Addr)=Pure.pure ad:=rfl;simp only [mapM_cons,UR,Sem.run_bind,Sem.run_pure,Result.andThen_ok,k1,ha,k3];simp only [h2,Result.andThen_ok]
     . cases h
   . cases h
theorem Qw {F:Fence} {n:Nat} {c:Code} {Q:Exit->Act->World->Prop} {a:Act} {w:World} (hc:∀ b,c ≠ .loop b) (h:c.wpIn F n P Q a w) :
 c.wpIn F n P Q a w /\ ∀ b,c=.loop b->QK F n P b Q a w:=⟨h,fun b e=>absurd e (hc b)⟩
theorem Mr (S:Sane C) (ih:∀ t o,rec t=some o->XJ C t o) (hdraw:AT C rec) {c:Code} {s:St} (hc:∀ f p x y,c ≠ .rangeFunc f p x y)
 (h:XS C rec (.code lo fid rnd c s)=some out):XJ C (.code lo fid rnd c s) out:=by
 intro ro g w a hro hlo hR hA hok;have stay:∀ {e:AExit} {e':Exit},Q3 e e'->out=⟨e,s⟩->QZ C lo g s w a.tmps.size out e' a w:=fun he ho=>by
  subst ho;exact ⟨he,g,hR,.refl _ _ _ _,hA,rfl⟩
 unfold XS at h;simp only [] at h;cases c with
 | skip=>simp at h;exact Qw (by simp) (wpIn_skip (stay (e:=.nrm) trivial h.symm))
 | label l=>simp at h;exact Qw (by simp) (wpIn_label (stay (e:=.nrm) trivial h.symm))
 | ret=>simp at h;exact Qw (by simp) (wpIn_ret (stay (e:=.ret) trivial h.symm))
 | exit id=>simp at h;exact Qw (by simp) (wpIn_exit (stay (e:=.ext id) rfl h.symm))
 | goto l=>simp at h;exact Qw (by simp) (wpIn_goto (stay (e:=.gto l) rfl h.symm))
 | seq x y =>
   simp only [Zz,and_eq_true] at hok;refine Qw (by simp) (wpIn_seq ?_);simp only [] at h;split at h
   . rename_i s1 hx
     have h1:=(ih _ _ hx ro g w a hro hlo hR hA hok.1).1;refine wpIn_mono h1 fun e a1 w1 hp => ?_
     obtain ⟨he,g1,k1,k2,k3,k4⟩:=hp;cases e<;>simp only [Q3] at he;have h2:=(ih _ _ h ro g1 w1 a1 hro (Nat.le_trans hlo k2.n) k1 k3 (by rw [k4];exact hok.2)).1;exact wpIn_mono h2 fun e a2 w2 hp=>hp.comp k2 k4
   . rename_i hno
     have h1:=(ih _ _ h ro g w a hro hlo hR hA hok.1).1;refine wpIn_mono h1 fun e a1 w1 hp => ?_
     cases e with
     | normal =>
       obtain ⟨he,_⟩:=hp;exfalso;obtain ⟨e,s1⟩:=out;cases e<;>simp only [Q3] at he;exact hno s1 h
     | _=>exact hp
 | cond c x y =>
   simp only [Zz,and_eq_true] at hok;simp only [] at h;split at h
   . rename_i hv
     have hb:=ZR hA.f hv;generalize hcv:a.eval c=cv at hb;cases hb;exact Qw (by simp) (wpIn_cond_true hcv (ih _ _ h ro g w a hro hlo hR hA hok.1).1)
   . rename_i hv
     have hb:=ZR hA.f hv;generalize hcv:a.eval c=cv at hb;cases hb;exact Qw (by simp) (wpIn_cond_false hcv (ih _ _ h ro g w a hro hlo hR hA hok.2).1)
   . cases h
 | block id b =>
   simp only [Zz] at hok;refine Qw (by simp) (wpIn_block ?_);simp only [] at h;split at h
   . rename_i id' s1 hx
     have h1:=(ih _ _ hx ro g w a hro hlo hR hA hok).1;simp at h;subst h;refine wpIn_mono h1 fun e a1 w1 hp => ?_
     obtain ⟨he,hrest⟩:=hp;cases e<;>simp only [Q3] at he
     rename_i j
     subst he;simp only [Exit.inBlock];split
     . exact ⟨trivial,hrest⟩
     . exact ⟨rfl,hrest⟩
   . rename_i hno
     have h1:=(ih _ _ h ro g w a hro hlo hR hA hok).1;refine wpIn_mono h1 fun e a1 w1 hp => ?_
     cases e with
     | exit j =>
       obtain ⟨he,_⟩:=hp;exfalso;obtain ⟨e,s1⟩:=out;cases e<;>simp only [Q3] at he;exact hno _ s1 h
     | _=>exact hp
 | loop b =>
   simp only [Zz] at hok;simp only [] at h;have key:QK (Yq ro) 0 C.P b (QZ C lo g s w a.tmps.size out) a w:=by
    refine QK.round ?_;split at h
    . rename_i s1 hx
      have h1:=(ih _ _ hx ro g w a hro hlo hR hA hok).1;refine wpIn_mono h1 fun e a1 w1 hp => ?_
      obtain ⟨he,g1,k1,k2,k3,k4⟩:=hp;cases e<;>simp only [Q3] at he;have h2:=(ih _ _ h ro g1 w1 a1 hro (Nat.le_trans hlo k2.n) k1 k3 (by simp only [Zz];rw [k4];exact hok)).2 b rfl;exact h2.mono fun e a2 w2 hp=>hp.comp k2 k4
    . rename_i hno
      have h1:=(ih _ _ h ro g w a hro hlo hR hA hok).1;refine wpIn_mono h1 fun e a1 w1 hp => ?_
      cases e with
      | normal =>
        obtain ⟨he,_⟩:=hp;exfalso;obtain ⟨e,s1⟩:=out;cases e<;>simp only [Q3] at he;exact hno s1 h
      | _=>exact hp
   exact ⟨key.wpIn,fun b' hb'=>by cases hb';exact key⟩
 | scope b =>
   simp only [Zz] at hok;simp only [] at h;refine Qw (by simp) (Mh ?_);split at h
   . cases h
   . rename_i hno
     have h1:=(ih _ _ h ro g w a hro hlo hR hA hok).1;refine wpIn_mono h1 fun e a1 w1 hp => ?_
     cases e with
     | goto l =>
       obtain ⟨he,_⟩:=hp;exfalso;obtain ⟨e,s1⟩:=out;cases e<;>simp only [Q3] at he;exact hno _ _ h
     | _=>exact hp
 | region id ops draw =>
   simp only [Zz,and_eq_true,Array.all_eq_true'] at hok;have hdst:∀ o ∈ ops.toList,∀ d,o.dst=some d->d < a.tmps.size:=fun o ho d hd=>by
    have:=hok.1 o (by simpa using ho);simpa [hd] using this
   have hdst':=hdst;cases draw with
   | false =>
     simp only [] at h;split at h
     . rename_i T1 H1 hx
       simp at h;subst h;refine Qw (by simp) (wpIn_region ?_);have:=Mo S ih (ro:=ro) (fid:=fid) (lo:=lo) (ops:=ops) (M:=s.M) (Q:=QZ C lo g s w a.tmps.size ⟨.nrm,⟨T1,H1,s.M⟩⟩) ops.toList 0 s.T s.H g w a rfl (by simp) hlo hx hR hA hdst (fun g' a' w' q1 q2 q3 q4=>⟨trivial,g',q1,q2,q3,q4⟩);have e:List.range' 0 ops.toList.length=List.range ops.size:=by rw [range_eq_range'];simp
       rw [e] at this;exact this
     . cases h
   | true =>
     simp only [] at h;split at h
     . rename_i T1 H1 hx
       simp at h;subst h;refine Qw (by simp) (wpIn_region_any S.orders ?_);have hR':Rel C g s.H { w with drawn:=w.drawn+1 }:=hR.congr rfl
       refine hdraw ro fid lo ops (C.plans fid id) s.T s.H T1 H1 s.M g _ a _ (by simpa using hok.2) hdst hlo hx hR' hA fun g' a' w' q1 q2 q3 q4 => ?_
       exact ⟨trivial,g',q1,(Ext.ofHeap rfl rfl rfl rfl:Ext lo g s.H w g s.H { w with drawn:=w.drawn+1 }).trans q2,q3,q4⟩
     . cases h
 | rangeFunc f ps x y=>exact absurd rfl (hc f ps x y)
 | _=>simp at h
theorem AY {lo:Nat} {fn:Func} {T:TT AV} {tmps:Array Value} {R:Ending->World->Prop}:∀ {M:List Nat} {ds:List Deferred} {g:Gh} {H H':Heap} {w:World},
 V5 lo g H.n M ds->Qd M H=some H'->Rel C g H w->Xy g H.n T tmps ->
 (∀ w',Rel C g H' w'->Ext lo g H w g H' w'->Xy g H'.n T tmps->H'.n=H.n -> ∃ v,(results fn tmps).run C.P w'=.ok v w'/\R (.returned v) w') ->
 LeavesInM Fence.wide 0 C.P fn tmps R ds .returning w
 | [],ds,g,H,H',w,hM,h,hR,hT,hend=>by
   rw [hM.nil_left];simp [Qd] at h;subst h;exact hend w hR (.refl _ _ _ _) hT rfl
 | id::M,ds,g,H,H',w,hM,h,hR,hT,hend=>by
   obtain ⟨d,ds',rfl,⟨h0,h1,h2⟩,h3⟩:=hM.cons_left;unfold Qd at h;split at h
   . rename_i hd
     have hblk:=hR.blk id h1;rw [hd] at hblk;have hput:=hR.putO (lo:=lo) (o':=.deferred none) (b':=.dead) h0 h1 (by rw [hd];rfl) hblk (by simp) trivial;refine ⟨by simp,.inl ⟨_,_,h2,run_takeDeferred hblk, ?_⟩⟩;refine AY (H:=H.set id .dead) h3 h hput.1 hT fun w' q1 q2 q3 q4 => ?_
     exact hend w' q1 (hput.2.trans q2) q3 q4
   . cases h
theorem Ms (args:Array Value) (k:Nat):k<=(args++Array.replicate (k - args.size) undef).size:=by
 simp;omega
theorem Mt (S:Sane C) (ih:∀ t o,rec t=some o->XJ C t o)
 (h:XS C rec (.call lo f args H)=some out):XJ C (.call lo f args H) out:=by
 intro hlo;unfold XS at h;simp only [] at h;split at h
 . cases h
 . rename_i hg
   obtain ⟨fn,c,hf,hb,hname,hok⟩:=S.good f hg;rw [hf] at h;simp only [hb] at h;refine ⟨⟨fn,hf,by rw [hb];rfl,hname⟩,fun g w cargs hR hargs => ?_⟩;split at h
   . rename_i e s hrun
     have hshut:∃ H1 v,Qd s.M s.H=some H1/\(e=.nrm\/e=.ret) /\ ∃ vs,XQ C H1 s.T fn.results.toList=some vs/\out=.ofVal v H1/\(vs=[v]\/(v=.tup vs/\vs.length ≠ 1)):=by
      have:(match Qd s.M s.H with
       | some H=>match XQ C H s.T fn.results.toList with
         | some [v]=>some (Out.ofVal v H)
         | some vs=>some (.ofVal (.tup vs) H)
         | none=>none
       | none=>none)=some out/\(e=.nrm\/e=.ret):=by
       cases e<;>simp only [] at h<;>first | exact ⟨h,.inl rfl⟩ | exact ⟨h,.inr rfl⟩ | cases h
      obtain ⟨h,he⟩:=this;split at h
      . rename_i H1 hs
        split at h
        . rename_i v hv
          simp at h;exact ⟨H1,v,hs,he,_,hv,h.symm,.inl rfl⟩
        . rename_i vs hno hv
          simp at h;exact ⟨H1,_,hs,he,vs,hv,h.symm,.inr ⟨rfl,fun hl=>by
           match vs,hl with
           | [x],_=>exact hno x rfl⟩⟩
        . cases h
      . cases h
     obtain ⟨H1,v,hs,he,vs,hv,rfl,hvs⟩:=hshut;refine callsIn_of_wp_marks hf hb trivial ?_;have hA:ARel C lo g H.n (XR args 0 .leaf) [] { tmps:=cargs.toArray++Array.replicate (fn.ntmps - cargs.toArray.size) undef,defers:=[] }:=by
      refine ⟨⟨AW (cv:=cargs) (i:=0) (fun t ht => ?_) hargs (fun j v hj => ?_),hR.glob⟩,.nil⟩
      . have:(cargs.toArray++Array.replicate (fn.ntmps - cargs.toArray.size) undef).getD t undef=undef:=by
         have ht':cargs.length<=t:=by omega
         rw [Array.getD_eq_getD_getElem?,Array.getElem?_append_right (by simpa using ht')];cases hx:(Array.replicate (fn.ntmps - cargs.toArray.size) undef)[t - cargs.toArray.size]? with
         | none=>rfl
         | some v =>
           obtain ⟨_,hx⟩:=Array.getElem?_eq_some_iff.1 hx;simp at hx;simp [hx]
        rw [this];exact VRel.undef
      . have hlt:=(List.getElem?_eq_some_iff.1 hj).1;rw [zero_add,Array.getElem?_append_left (by simpa using hlt)];simpa using hj
     have hcode:=(ih _ _ hrun none g w _ rfl hlo hR hA (Mp (Ms _ _) c hok)).1;refine wpIn_mono hcode fun e' a' w' hp => ?_
     obtain ⟨hex,g',k1,k2,k3,k4⟩:=hp;have hleave:LeavesInM Fence.wide 0 C.P fn a'.tmps (Qe C lo g H w v H1) a'.defers .returning w':=by
      refine AY (lo:=lo) k3.m hs k1 k3.f.t fun w2 q1 q2 q3 q4 => ?_
      obtain ⟨cvs,r1,r2⟩:=AX q1 q3 hv;refine ⟨if h:cvs.toArray.size=1 then cvs.toArray[0] else .tuple cvs.toArray, ?_,g',q1,k2.trans q2, ?_⟩
      . rw [Mq];simp only [Sem.run_bind];rw [Array.mapM_eq_mapM_toList];simp only [Sem.run_bind,map_eq_pure_bind,Sem.run_pure];rw [r2];simp
      . rcases hvs with rfl | ⟨rfl,hne⟩
        . obtain ⟨cv,m',rfl,r3,r4⟩:=r1.cons_left;have:=r4.nil_left;subst this;simpa using r3
        . have hl:=r1.1;have:¬ (cvs.toArray.size=1):=by simp;omega
          rw [dif_neg this];exact VRel.tupOf r1
     cases e' with
     | normal=>exact hleave
     | ret=>exact hleave
     | exit id=>rcases he with rfl | rfl<;>exact hex.elim
     | goto l=>rcases he with rfl | rfl<;>exact hex.elim
     | panic ch=>rcases he with rfl | rfl<;>exact hex.elim
     | outgrown=>rcases he with rfl | rfl<;>exact hex.elim
   . cases h
theorem Mu (ps:Array Tmp) (cargs:List Value) (tmps:Array Value) :
 (ps.zip cargs.toArray).foldl (fun tmps (x:Tmp × Value)=>match x with | (t,a)=>tmps.setIfInBounds t a) tmps=(ps.toList.zip cargs).foldl (fun tmps (p:Tmp × Value)=>tmps.setIfInBounds p.1 p.2) tmps:=by
 rw [<- Array.foldl_toList,Array.toList_zip]
theorem US (hR:Rel C g H w) {r:ALoop} (h:H.get id=.loop r):id < H.n/\Yj C g H.n w (g.L id) (.loop r):=by
 have hid:id < H.n:=Lp hR (by rw [h];rfl);have:=hR.blk id hid;rw [h] at this;exact ⟨hid,this⟩
theorem Mv (S:Sane C) (ih:∀ t o,rec t=some o->XJ C t o)
 (h:XS C rec (.yield lo l args H)=some out):XJ C (.yield lo l args H) out:=by
 intro hlo g w cargs hR hargs hl;unfold XS at h;simp only [] at h;split at h
 . rename_i r0 hr0
   split at h
   . rename_i hcond
     simp only [and_eq_true,decide_eq_true_eq] at hcond;obtain ⟨hlen,hlol⟩:=hcond;obtain ⟨_,c,h1,h2,h3,h4,h5,h6,h7,h8,h9,h10,h11,h12,h13⟩:=US hR hr0;have hps:cargs.length=c.params.size:=by
      have:=hargs.1;have h5':c.params.size=r0.params.length:=by rw [<- h5];simp
      omega
     refine ⟨c,h1,hps, ?_⟩;split at h
     . rename_i s1 hx
       split at h
       . rename_i rc hrc
         split at h
         . rename_i hready
           split at h
           . rename_i e2 s2 hy
             split at h
             . rename_i rc2 hrc2
               have hset:=AU (ps:=r0.params) h4 hargs (fun p hp=>by
                have:=all_eq_true.1 h13 p hp;simpa using this)
               refine roundIn_of_wpIn (F:=Fence.wide) trivial ?_;rw [Mu,h5];have hA:ARel C lo g H.n (QV r0.params args r0.tmps) [] { tmps:=(r0.params.zip cargs).foldl (fun tmps (p:Tmp × Value)=>tmps.setIfInBounds p.1 p.2) c.tmps,defers:=[] }:=⟨⟨hset.1,hR.glob⟩,.nil⟩;rw [h6];have hcode:=(ih _ _ hx (some (g.L l).b) g w _ rfl hlo hR hA (by rw [hset.2];exact h11)).1;refine wpIn_mono hcode fun e' a1 w1 hp => ?_
               obtain ⟨hex,g1,k1,k2,k3,k4⟩:=hp;cases e'<;>simp only [Q3] at hex;simp only [Exit.then]
               obtain ⟨hid1,c1,i1,i2,i3,i4,i5,i6,i7,i8,i9,i10,i11,i12,i13⟩:=US k1 hrc;have hL1:(g1.L l)=(g.L l):=k2.le.L l hl;rw [hL1] at i1;refine ⟨_,run_beginRound i1 (by rw [i2];exact hready), ?_⟩;have hlt1:(g1.L l).b < w1.heap.size:=by rw [hL1];exact (Array.getElem?_eq_some_iff.1 i1).1
               have hput1:=k1.putO (lo:=lo) (o':=.loop { c1 with state:=.busy }) (b':=.loop { rc with state:=.busy }) hlol hid1 (by rw [hrc];rfl) (by rw [hL1];exact i1) (by simp)
                ⟨{ c1 with state:=.busy },World.putObj_heap_same hlt1,rfl,i3,i4,i5,i6,i7,i8,i9,i10,i11,i12,i13⟩
               rw [hL1] at hput1;rw [h7];have hbody:=(ih _ _ hy (some (g.L l).b) g1 _ a1 rfl (Nat.le_trans hlo k2.n) hput1.1 ⟨k3.f,k3.m⟩ (by rw [k4,hset.2];exact h12)).1;refine wpIn_mono hbody fun e3 a3 w3 hp3 => ?_
               obtain ⟨hex3,g3,m1,m2,m3,m4⟩:=hp3;obtain ⟨hid3,c3,j1,j2,j3,j4,j5,j6,j7,j8,j9,j10,j11,j12,j13⟩:=US m1 hrc2;have hL3:(g3.L l)=(g.L l):=(m2.le.L l hid1).trans hL1;rw [hL3] at j1;have hlt3:(g3.L l).b < w3.heap.size:=by rw [hL3];exact (Array.getElem?_eq_some_iff.1 j1).1
               have hE:Ext lo g H w g3 s2.H w3:=k2.trans (hput1.2.trans m2);have fin:∀ (jump:Option Code) (st:LoopState) (pend:Option AExit),st=(if jump.isNone then .ready else .done)->jump=pend.bind AExit.code->(pend.isSome -> ∀ e,pend=some e->e ≠ .nrm) ->
                out=.ofVal (.bool jump.isNone) (s2.H.set l (.loop { rc2 with state:=st,pending:=pend })) -> ∃ v w',(Instr.endRound (g.L l).b jump).run C.P w3=.ok v w'/\Qe C lo g H w out.val out.s.H (.returned v) w':=by
                intro jump st pend hst hj hpend ho;subst ho;refine ⟨_,_,run_endRound jump j1, ?_⟩;have hput3:=m1.putO (lo:=lo) (o':=.loop { c3 with state:=if jump.isNone then .ready else .done,pending:=jump }) (b':=.loop { rc2 with state:=st,pending:=pend }) hlol hid3 (by rw [hrc2];rfl) (by rw [hL3];exact j1) (by simp)
                 ⟨{ c3 with state:=if jump.isNone then .ready else .done,pending:=jump },World.putObj_heap_same hlt3,hst.symm,hj,j4,j5,j6,j7,j8,j9,hpend,j11,j12,j13⟩
                rw [hL3] at hput3;exact ⟨g3,hput3.1,hE.trans hput3.2,.bool _⟩
               cases e2 with
               | nrm =>
                 simp at h;cases e3<;>simp only [Q3] at hex3;exact fin none .ready none rfl rfl (by simp) h.symm
               | ext i =>
                 simp at h;cases e3<;>simp only [Q3] at hex3;subst hex3;exact fin (some (.exit i)) .done (some (.ext i)) rfl rfl (by simp) h.symm
               | gto i =>
                 simp at h;cases e3<;>simp only [Q3] at hex3;subst hex3;exact fin (some (.goto i)) .done (some (.gto i)) rfl rfl (by simp) h.symm
               | ret =>
                 simp at h;cases e3<;>simp only [Q3] at hex3;exact fin (some .ret) .done (some .ret) rfl rfl (by simp) h.symm
             . cases h
           . cases h
         . cases h
       . cases h
     . cases h
   . cases h
 . cases h
theorem Mw (S:Sane C) (ih:∀ t o,rec t=some o→XJ C t o) {gf:Operand} {params:Array Tmp} {assign body:Code} {s:St}
 (h:XS C rec (.code lo fid rnd (.rangeFunc gf params assign body) s)=some out):XJ C (.code lo fid rnd (.rangeFunc gf params assign body) s) out:=by
 intro ro g w a hro hlo hR hA hok;refine Qw (by simp) ?_;simp only [Zz,and_eq_true] at hok;obtain ⟨⟨hok1,hok2⟩,hok3⟩:=hok;unfold XS at h;simp only [] at h;cases rnd with
 | true=>cases h
 | false =>
   simp only [] at h;have hro':ro=none:=by cases ro<;>simp at hro ⊢
   subst hro';split at h
   · rename_i f caps hf
     split at h
     · rename_i o hcall
       have hv:=ZR hA.f hf;generalize hcv:a.eval gf=cf at hv;cases hv with
       | @fn _ _ _ _ fv cv hl hl' hfv hcvv =>
         have hfv0:fv=[]:=eq_nil_of_length_eq_zero hl.symm;subst hfv0;refine wpIn_rangeFunc fun fn _ => ?_
         obtain ⟨p1,p2⟩:=hR.push lo (.deferred (some [])) .defr 0 0 (fun _=>none) noK rfl (Qv:(w.alloc (.deferred (some []))).heap[w.heap.size]? = _);generalize hg1:g.fresh s.H.n w.heap.size 0 0 (fun _=>none)=g1 at p1 p2;have hL1n:g1.L s.H.n=⟨w.heap.size,0,0⟩:=by rw [← hg1];simp [Gh.fresh]
         have hw1:(w.alloc (.deferred (some []))).heap.size=w.heap.size+1:=World.size_alloc ..;have hle2:=UO p1 0 0 (fun _=>none);have hbl:Yj C (g1.fresh (s.H.n+1) (w.alloc (.deferred (some []))).heap.size 0 0 (fun _=>none)) (s.H.n+1+1)
          ((w.alloc (.deferred (some []))).alloc (.loop { state:=.ready,pending:=none,fn:=fn,tmps:=a.tmps,params:=params,assign:=assign,body:=body,defers:=w.heap.size }))
          ⟨(w.alloc (.deferred (some []))).heap.size,0,0⟩ (.loop ⟨fid,s.T,params.toList,assign,body,.ready,none,s.H.n⟩):=by
          refine ⟨_,Qv,rfl,rfl,(hA.f.t.mono (le_succ _) p2.le).mono (le_succ _) hle2,rfl,rfl,rfl, ?_,by simp only [];omega,by simp,hok2,hok3, ?_⟩
          · have:=hle2.L s.H.n (lt_succ_self _);rw [hL1n] at this;exact (congrArg Loc.b this).symm
          · simp only [all_eq_true,decide_eq_true_eq];intro p hp;have:=Array.all_eq_true'.1 hok1 p (by simpa using hp);simpa using this
         obtain ⟨p3,p4⟩:=p1.push lo _ _ 0 0 (fun _=>none) noK rfl hbl;generalize hg2:g1.fresh (s.H.push .defr).n (w.alloc (.deferred (some []))).heap.size 0 0 (fun _=>none)=g2 at p3 p4;have hL2n:g2.L s.H.n=⟨w.heap.size,0,0⟩:=by rw [p4.le.L s.H.n (lt_succ_self _),hL1n]
         have hL2l:g2.L (s.H.n+1)=⟨w.heap.size+1,0,0⟩:=by rw [← hg2];simp [Gh.fresh,hw1]
         have hE2:Ext lo g s.H w g2 _ _:=p2.trans p4;have hok:=ih _ _ hcall (by simp only [Heap.n_push];omega);have hyld:VRel g2 (s.H.n+1+1) (.yld (s.H.n+1)) (.func (.yield (w.heap.size+1)) #[] #[]):=by
          have:VRel g2 (s.H.n+1+1) (.yld (s.H.n+1)) (.func (.yield (g2.L (s.H.n+1)).b) #[] #[]):=.yld (lt_succ_self _);rw [hL2l] at this;exact this
         have hcaps:Zb g2 (s.H.n+1+1) (caps.map AV.strip) cv:=Zb.mono (Zb.strip ⟨hl',hcvv⟩) (by omega) hE2.le;have hcl:=hok.2 g2 _ (.func (.yield (w.heap.size+1)) #[] #[]::cv) p3 (.cons hyld hcaps);refine ⟨w.heap.size+1,[{ target:=.collected w.heap.size,args:=#[] }],_,{ target:=.fn (.func f) cv.toArray,args:=#[.func (.yield (w.heap.size+1)) #[] #[]] },((w.alloc (.deferred (some []))).alloc (.loop { state:=.ready,pending:=none,fn:=fn,tmps:=a.tmps,params:=params,assign:=assign,body:=body,defers:=w.heap.size })),f,_,_,run_enterLoop_outer fn a.tmps params assign body, ?_,fun _ _=>trivial, ?_,fun h=>absurd h (by simp [Yq,Fence.wide]),hcl.mono fun e w3 hp => ?_⟩
         · have hev:a.eval (.const (.func (.yield (w.heap.size+1)) #[] #[]))=.func (.yield (w.heap.size+1)) #[] #[]:=rfl;simp [resolve,hcv,Deferred.ofValue,hev]
         · have:=AP (w:=(w.alloc (.deferred (some []))).alloc (.loop { state:=.ready,pending:=none,fn:=fn,tmps:=a.tmps,params:=params,assign:=assign,body:=body,defers:=w.heap.size })) hok.1 (.func (.yield (w.heap.size+1)) #[] #[]::cv).toArray;simpa [invoke] using this
         · obtain ⟨cr,rfl,g3,m1,m2,m3⟩:=hp.returned;split at h
           · rename_i rc hrc
             obtain ⟨hid3,c3,j1,j2,j3,_⟩:=US m1 hrc;have hL3n:g3.L s.H.n=⟨w.heap.size,0,0⟩:=by rw [m2.le.L s.H.n (by simp only [Heap.n_push];omega),hL2n]
             have hL3l:g3.L (s.H.n+1)=⟨w.heap.size+1,0,0⟩:=by rw [m2.le.L (s.H.n+1) (by simp only [Heap.n_push];omega),hL2l]
             rw [hL3l] at j1;have hn3:s.H.n+2≤o.s.H.n:=m2.n;have hput:=m1.putO (lo:=lo) (id:=s.H.n+1) (o':=.loop { c3 with state:=.exhausted }) (b':=.dead) (by omega) hid3 (by rw [hrc];rfl) (by rw [hL3l];exact j1) (by simp) trivial
             rw [hL3l] at hput;have hEall:Ext lo g s.H w g3 (o.s.H.set (s.H.n+1) .dead) (w3.putObj (w.heap.size+1) (.loop { c3 with state:=.exhausted })):=hE2.trans (m2.trans hput.2)
             have hAm:=hA.mono (g':=g3) (n':=o.s.H.n) (by omega) (hE2.trans m2).le;have hA3:ARel C lo g3 o.s.H.n s.T (s.H.n::s.M) { a with defers:=[{ target:=.collected w.heap.size,args:=#[] }]++a.defers }:=by
              refine ⟨⟨hAm.f.t,hAm.f.glob⟩,.cons ⟨hlo,by omega, ?_⟩ hAm.m⟩;rw [hL3n]
             have post:∀ {e:AExit} {e':Exit},Q3 e e'→out=⟨e,⟨s.T,o.s.H.set (s.H.n+1) .dead,s.H.n::s.M⟩⟩→QZ C lo g s w a.tmps.size out e' { a with defers:=[{ target:=.collected w.heap.size,args:=#[] }]++a.defers } (w3.putObj (w.heap.size+1) (.loop { c3 with state:=.exhausted })):=by
              intro e e' he ho;subst ho;exact ⟨he,g3,hput.1,hEall,hA3,rfl⟩
             split at h
             · cases h
             · rename_i hbusy
               have key:∀ cp,cp=rc.pending.bind AExit.code→(match cp with
                | none=>QZ C lo g s w a.tmps.size out .normal { a with defers:=[{ target:=.collected w.heap.size,args:=#[] }]++a.defers } (w3.putObj (w.heap.size+1) (.loop { c3 with state:=.exhausted }))
                | some (c:Code)=>c.wpIn (Yq none) 0 C.P (QZ C lo g s w a.tmps.size out) { a with defers:=[{ target:=.collected w.heap.size,args:=#[] }]++a.defers } (w3.putObj (w.heap.size+1) (.loop { c3 with state:=.exhausted }))):=by
                intro cp hcp;subst hcp;split at h
                · rename_i hpend
                  simp at h;rw [hpend];exact post (e:=.nrm) (e':=.normal) trivial h.symm
                · rename_i e hpend
                  simp at h;rw [hpend];cases e with
                  | nrm=>exact post (e:=.nrm) (e':=.normal) trivial h.symm
                  | ext i=>exact wpIn_exit (post (e:=.ext i) (e':=.exit i) rfl h.symm)
                  | gto i=>exact wpIn_goto (post (e:=.gto i) (e':=.goto i) rfl h.symm)
                  | ret=>exact wpIn_ret (post (e:=.ret) (e':=.ret) trivial h.symm)
               exact ⟨_,_,run_endLoop j1 (by rw [j2];exact hbusy),key _ j3⟩
           · cases h
     · cases h
   · cases h
end Go.Sim

namespace Go.Sim
variable {C:Cfg} {rec:Rec} {fid:FuncId} {lo:Nat}
theorem UT {T T':TT AV}:∀ {l:List Operand},(∀ x ∈ l,Z4 C T x=Z4 C T' x)->Y4 C T l=Y4 C T' l
 | [],_=>rfl
 | x::l,h=>by simp only [Y4,h x (by simp),UT (l:=l) fun y hy=>h y (by simp [hy])]
theorem Fh {T T':TT AV}:∀ {l:List (Nat × Operand)},(∀ x ∈ l.map (·.2),Z4 C T x=Z4 C T' x)→XP C T l=XP C T' l
 | [],_=>rfl
 | (i,x)::l,h=>by simp only [XP,h x (by simp),Fh (l:=l) fun y hy=>h y (by simp at hy ⊢;exact .inr hy)]
theorem Fi {x:Option Operand} (h:∀ y ∈ x.toArray,Z4 C T y=Z4 C T' y):XI C T x=XI C T' x:=by
 cases x with
 | none=>rfl
 | some x=>simp only [XI,h x (by simp)]
theorem Mx {c:Call} (h:∀ x ∈ c.operands,Z4 C T x=Z4 C T' x):YV C rec fid lo c T H=YV C rec fid lo c T' H:=by
 have h1:Y4 C T c.args.toList=Y4 C T' c.args.toList:=UT fun x hx=>h x (by unfold Call.operands;cases c.callee<;>simp at hx ⊢ <;> simp [hx])
 unfold YV;rw [h1];cases hc:c.callee with
 | value x =>
   have h2:Z4 C T x=Z4 C T' x:=h x (by unfold Call.operands;simp [hc]);simp only [h2]
 | _=>rfl
theorem AZ {o:Oper} (h:∀ x ∈ o.op.operands,Z4 C T x=Z4 C T' x):aop C rec fid lo o T H=aop C rec fid lo o T' H:=by
 unfold aop
 cases hop:o.op<;>simp only [hop,Op.operands] at h<;>try rfl
 case move x=>simp only [h x (by simp)]
 case assign x=>simp only [h x (by simp)]
 case pick c x y=>simp only [h c (by simp),h x (by simp),h y (by simp)]
 case box t x=>simp only [h x (by simp)]
 case build t ps=>simp only [Fh (T:=T) (T':=T') (l:=ps.toList) fun x hx=>h x (by simpa using hx)]
 case buildSlice t len ps=>simp only [Fh (T:=T) (T':=T') (l:=ps.toList) fun x hx=>h x (by simpa using hx)]
 case load t x=>simp only [h x (by simp)]
 case store t x y=>simp only [h x (by simp),h y (by simp)]
 case nilCheck x=>simp only [h x (by simp)]
 case binOp _ _ x y _=>simp only [h x (by simp),h y (by simp)]
 case unOp _ _ x=>simp only [h x (by simp)]
 case convert _ _ x=>simp only [h x (by simp)]
 case makeMap t r=>cases r<;>rfl
 case makeFunc f first caps =>
  cases f<;>first | rfl | skip
  simp only [UT (T:=T) (T':=T') (l:=first.toList) fun x hx=>h x (by simp at hx ⊢;exact .inl hx),UT (T:=T) (T':=T') (l:=caps.toList) fun x hx=>h x (by simp at hx ⊢;exact .inr hx)]
 case makeSlice t l c=>simp only [h l (by simp),h c (by simp)]
 case slice t x l hi mx =>
  simp only [h x (by simp),Fi (T:=T) (T':=T') (x:=l) fun y hy=>h y (by simp at hy ⊢;simp [hy]),Fi (T:=T) (T':=T') (x:=hi) fun y hy=>h y (by simp at hy ⊢;simp [hy]),
   Fi (T:=T) (T':=T') (x:=mx) fun y hy=>h y (by simp at hy ⊢;simp [hy])]
 case fieldAddr t x f=>simp only [h x (by simp)]
 case field t x f=>simp only [h x (by simp)]
 case indexAddr t x i=>simp only [h x (by simp),h i (by simp)]
 case index t x i=>simp only [h x (by simp),h i (by simp)]
 case lookup t m k ok=>simp only [h m (by simp),h k (by simp)]
 case mapUpdate t m k x=>simp only [h m (by simp),h k (by simp),h x (by simp)]
 case insert t m k x=>simp only [h m (by simp),h k (by simp),h x (by simp)]
 case range t x=>simp only [h x (by simp)]
 case next it s=>simp only [h it (by simp)]
 case extract t i=>simp only [h t (by simp)]
 case call c=>exact Mx h
theorem Qf {r:Option AV} (h:same H r=some (v,H')):same H1 r=some (v,H1):=by
 obtain ⟨h1,_⟩:=X8 h;rw [h1];rfl
theorem My (hf:GP C [t]=true) (H H1:Heap) (x:AV):YJ C.P H t x=YJ C.P H1 t x:=by
 unfold GP at hf;unfold YJ;simp only [] at hf;split at hf
 . rename_i hu;simp only [hu];cases x<;>rfl
 . rename_i hu;simp only [hu];cases x<;>rfl
 . rename_i hu;simp only [hu]
 . cases hf
theorem Mz {o:Oper} (hc:Xj C fid o=.data) (h:aop C rec fid lo o T H=some (v,H')):aop C rec fid lo o T H1=some (v,H1):=by
 unfold Xj at hc
 unfold aop at h ⊢
 cases hop:o.op<;>simp only [hop] at h hc ⊢ <;> first | (cases hc;done) | skip
 case move x=>split at hc<;>simp_all;split at h<;>simp_all
 case assign x=>split at hc<;>simp_all;split at h<;>simp_all
 case pick c x y=>split at h<;>first | exact Qf h | cases h
 case build t ps=>split at h<;>first | exact Qf h | cases h
 case buildSlice t len ps =>
  split at hc
  · cases hc
  · rename_i hl
    simp only [if_neg hl] at h ⊢
    split at h<;>first | exact Qf h | cases h
 case nilCheck x=>split at h<;>simp_all
 case binOp _ _ x y _=>split at h<;>first | exact Qf h | cases h
 case unOp _ _ x=>split at h<;>first | exact Qf h | cases h
 case convert s _ x =>
  split at hc
  · cases hc
  · rename_i hn
    simp only [UB,if_neg hn] at h ⊢
    split at h<;>first | exact Qf h | cases h
 case makeFunc f first caps =>
  cases f<;>simp only [] at h ⊢ <;> first | (cases h;done) | skip
  split at h<;>simp_all
 case slice t x l hi mx=>split at h<;>first | exact Qf h | cases h
 case fieldAddr t x f=>split at h<;>first | exact Qf h | cases h
 case field t x f=>split at h<;>first | exact Qf h | cases h
 case indexAddr t x i=>split at h<;>first | exact Qf h | cases h
 case index t x i=>split at h<;>first | exact Qf h | cases h
 case extract t i =>
  split at h<;>first | (cases h;done) | skip
  split at h<;>simp_all
 case call c =>
  unfold YV at h ⊢
  split at h
  · cases h
  · rename_i args hargs
    cases hcal:c.callee with
    | value x =>
      rw [hcal] at hc
      cases x<;>simp only [] at hc<;>first | (cases hc;done) | skip
      split at hc
      · cases hc
      · split at hc
        · split at hc<;>cases hc
        · split at hc<;>cases hc
    | invoke a b=>rw [hcal] at hc;cases hc
    | builtin b =>
      rw [hcal] at hc h
      cases b<;>simp only [] at hc<;>first | (cases hc;done) | skip
      case len =>
       split at hc
       · rename_i hf
         simp only [] at h ⊢
         split at h
         · rename_i t x ht hx
           rw [hx] at hf
           try simp only [hx]
           rw [My hf H1 H]
           exact Qf h
         all_goals first | (cases h;done) | (simp_all;done) | skip
       · cases hc
      all_goals
       simp only [] at h ⊢
       split at h<;>simp_all<;>exact Qf h
theorem B0 {o:Oper} (h:Xj C fid o=.load):∃ t a,o.op=.load t a:=by
 unfold Xj at h
 cases hop:o.op<;>simp only [hop] at h<;>first | (cases h;done) | skip
 case load t a=>exact ⟨t,a,rfl⟩
 case move x=>split at h<;>cases h
 case assign x=>split at h<;>cases h
 case buildSlice t len ps=>split at h<;>cases h
 case convert s _ x=>split at h<;>cases h
 case call c =>
  cases hcal:c.callee with
  | value x =>
    rw [hcal] at h
    cases x<;>simp only [] at h<;>first | (cases h;done) | skip
    split at h
    · cases h
    · split at h
      · split at h<;>cases h
      · split at h<;>cases h
  | invoke a b=>rw [hcal] at h;cases h
  | builtin b =>
    rw [hcal] at h
    cases b<;>simp only [] at h<;>first | (cases h;done) | (split at h<;>cases h)
theorem MA {a:AV} (h:∀ id off,a=.ptr id off->H1.get id=H.get id):Yl P H1 t a=Yl P H t a:=by
 unfold Yl;have:∀ k,YB H1 a k=YB H a k:=fun k=>by
  unfold YB;cases a<;>try rfl
  rename_i id off
  simp only [h id off rfl]
 simp only [this]
theorem MB {o:Oper} (hc:Xj C fid o=.load) (h:aop C rec fid lo o T H=some (v,H')) (hs:∀ id,Zr C T n .load o=some (.rd id)→H1.get id=H.get id):aop C rec fid lo o T H1=some (v,H1):=by
 obtain ⟨t,a,hop⟩:=B0 hc;unfold aop at h ⊢;simp only [hop] at h ⊢;split at h
 · rename_i x hx
   rw [MA (H:=H) (H1:=H1)]
   · exact Qf h
   · intro id off he;exact hs id (by unfold Zr;simp only [hop,hx,he])
 · cases h
theorem B1 {o:Oper} {c:Call} (hf:c.callee=.value (.func f)) (h:YV C rec fid lo c T H=some (v,H')) :
 ∃ args,Y4 C T c.args.toList=some args/\Z9 C rec lo f ((([]:List AV)++args++[]).map (stripO C (.func f))) H=some (v,H'):=by
 unfold YV at h;split at h
 . cases h
 . rename_i args hargs
   rw [hf] at h;simp only [Z4] at h;exact ⟨args,hargs,h⟩
theorem MC (hp:(C.prim f).isSome=true\/((C.hprim f).isSome=false/\C.mode f=.pure)) (h:Z9 C rec lo f args H=some (v,H')):H'=H:=by
 unfold Z9 at h;split at h
 . simp at h;exact h.2.symm
 . split at h
   . exact (X8 h).2
   . rename_i hpr
     rcases hp with hp | ⟨hh,hm⟩
     . rw [hpr] at hp;cases hp
     . split at h
       . rename_i p hp;rw [hp] at hh;cases hh
       . split at h
         . split at h
           . split at h
             . simp at h;exact h.2.symm
             . cases h
           . cases h
         . rw [hm] at h;simp only [] at h;split at h
           . split at h
             . simp at h;exact h.2.symm
             . cases h
           . cases h
theorem MD {o:Oper} (hc:Xj C fid o=.read) (h:aop C rec fid lo o T H=some (v,H')):H'=H:=by
 have hc0:=hc
 unfold Xj at hc
 unfold aop at h
 cases hop:o.op<;>simp only [hop] at h hc<;>first | (cases hc;done) | skip
 case move x=>split at hc<;>cases hc
 case assign x=>split at hc<;>cases hc
 case buildSlice t len ps=>split at hc<;>cases hc
 case lookup t m k ok=>split at h<;>first | exact (X8 h).2 | cases h
 case convert s _ x=>split at h<;>first | exact (X8 h).2 | cases h
 case call c =>
  cases hcal:c.callee with
  | value x =>
    rw [hcal] at hc
    cases x<;>simp only [] at hc<;>first | (cases hc;done) | skip
    rename_i f
    obtain ⟨args,_,he⟩:=B1 (o:=o) hcal h
    refine MC ?_ he
    split at hc
    · rename_i hp;exact .inl hp
    · split at hc
      · split at hc<;>cases hc
      · rename_i hh
        split at hc<;>first | (cases hc;done) | skip
        rename_i hm
        exact .inr ⟨by simpa using hh,hm⟩
  | invoke a b=>rw [hcal] at hc;cases hc
  | builtin b =>
    rw [hcal] at hc
    cases b<;>simp only [] at hc<;>first | (cases hc;done) | skip
    unfold YV at h
    split at h
    · cases h
    · rw [hcal] at h
      simp only [] at h
      split at h<;>first | exact (X8 h).2 | (simp_all;done) | skip
      all_goals (first | exact (X8 h).2 | cases h)
theorem ME {lo':Nat} {o:Oper} (hc:Xj C fid o=.fresh):aop C rec fid lo o T H=aop C rec fid lo' o T H:=by
 unfold Xj at hc;unfold aop;cases hop:o.op<;>simp only [hop] at hc ⊢ <;> first | (cases hc;done) | skip
 case move x=>split at hc<;>cases hc
 case assign x=>split at hc<;>cases hc
 case makeMap t r=>cases r<;>rfl
 case call c =>
  cases hcal:c.callee with
  | value x =>
    rw [hcal] at hc;cases x<;>simp only [] at hc<;>first | (cases hc;done) | skip
    rename_i f
    split at hc
    · cases hc
    · rename_i hp
      split at hc
      · split at hc<;>cases hc
      · rename_i hh
        split at hc<;>first | (cases hc;done) | skip
        rename_i hm
        have e1:C.prim f=none:=by simpa using hp
        have e2:C.hprim f=none:=by simpa using hh
        unfold YV;simp only [hcal,Z4];cases Y4 C T c.args.toList with
        | none=>rfl
        | some args=>simp only [Z9,e1,e2,hm]
  | invoke a b=>rw [hcal] at hc;cases hc
  | builtin b =>
    rw [hcal] at hc;cases b<;>simp only [] at hc<;>first | (cases hc;done) | (split at hc<;>cases hc)
theorem VR {b:ABlk} (h:id < H.n):(H.push b).get id=H.get id:=by rw [Heap.get_push,if_neg (ne_of_lt h)]
theorem MF {o:Oper} (hat:AtOk C) (hc:Xj C fid o=.writeAt) (h:aop C rec fid lo o T H=some (v,H')) :
 ∀ id,id < H.n→Zr C T n .writeAt o ≠ some (.wr id)→H'.get id=H.get id:=by
 intro id hid hne
 unfold Xj at hc
 unfold aop at h
 unfold Zr at hne
 cases hop:o.op<;>simp only [hop] at hc h hne<;>first | (cases hc;done) | skip
 case move x=>split at hc<;>cases hc
 case assign x=>split at hc<;>cases hc
 case buildSlice t len ps=>split at hc<;>cases hc
 case convert s _ x=>split at hc<;>cases hc
 case store t a x =>
  split at h
  · rename_i va vx hva hvx
    obtain ⟨h1,_⟩:=VQ h
    unfold Q9 at h1
    split at h1
    · rename_i id' off k hsz
      rw [hva] at hne
      simp only [] at hne
      split at h1
      · split at h1
        · simp at h1;subst h1
          rw [Heap.get_set,if_neg]
          rintro rfl;exact hne rfl
        · cases h1
      · cases h1
    · cases h1
  · cases h
 case mapUpdate t m k x =>
  split at h
  · rename_i vm vk vx hvm hvk hvx
    obtain ⟨h1,_⟩:=VQ h
    unfold Q1 at h1
    split at h1
    · rename_i kt et id' hu
      rw [hvm] at hne
      simp only [] at hne
      have hne':id ≠ id':=by rintro rfl;exact hne rfl
      split at h1
      · split at h1
        · split at h1
          · split at h1
            · simp at h1;subst h1
              rw [Heap.get_set,if_neg hne']
            · cases h1
          · simp at h1;subst h1
            rw [Heap.get_set,if_neg hne']
          · cases h1
        · cases h1
      · cases h1
    · cases h1
  · cases h
 case call c =>
  cases hcal:c.callee with
  | value x =>
    rw [hcal] at hc
    cases x<;>simp only [] at hc<;>first | (cases hc;done) | skip
    rename_i f
    split at hc
    · cases hc
    · rename_i hp
      split at hc
      · rename_i hh
        split at hc
        · rename_i h1
          obtain ⟨args,hargs,he⟩:=B1 (o:=o) hcal h
          unfold Z9 at he
          split at he
          · simp at he;rw [he.2]
          · split at he
            · rename_i p hpp;rw [hpp] at hp;simp at hp
            · split at he
              · rename_i p hhp
                refine hat f p lo _ H v H' h1 hhp he id hid fun off r hc0=>hne ?_
                cases hl:c.args.toList with
                | nil=>rw [hl] at hargs;simp [Y4] at hargs;subst hargs;simp at hc0
                | cons a0 rest =>
                  rw [hl] at hargs
                  unfold Y4 at hargs
                  split at hargs
                  · rename_i v0 hv0
                    split at hargs
                    · rename_i l' _
                      simp at hargs
                      subst hargs
                      simp at hc0
                      have e0:v0=.ptr id off:=by
                       have h0:=hc0.1
                       have h1:v0.strip=.ptr id off:=by
                        unfold stripO at h0
                        simp only [] at h0
                        split at h0
                        · unfold AV.stripN at h0
                          split at h0
                          · cases h0
                          · cases h0
                          · exact h0
                        · exact h0
                       clear h0
                       cases v0<;>simp [AV.strip] at h1<;>first | (obtain ⟨rfl,rfl⟩:=h1;rfl) | skip
                      simp only [hv0,e0]
                    · cases hargs
                  · cases hargs
              · rename_i hhn;rw [hhn] at hh;simp at hh
        · cases hc
      · split at hc<;>cases hc
  | invoke a b=>rw [hcal] at hc;cases hc
  | builtin b =>
    rw [hcal] at hc
    cases b<;>simp only [] at hc<;>first | (cases hc;done) | (split at hc<;>cases hc;done) | skip
    unfold YV at h
    split at h
    · cases h
    · rename_i args hargs
      rw [hcal] at h
      simp only [] at h
      split at h<;>first | (simp_all;done) | skip
      rename_i ts tx s x hts
      cases hl:c.args.toList with
      | nil=>rw [hl] at hargs;simp [Y4] at hargs
      | cons a0 rest =>
        rw [hl] at hargs hne
        unfold Y4 at hargs
        split at hargs
        · rename_i v0 hv0
          split at hargs
          · rename_i l' _
            simp at hargs
            obtain ⟨rfl,rfl⟩:=hargs
            simp only [hv0] at hne
            split at h<;>first | (cases h;done) | skip
            split at h<;>first | (cases h;done) | skip
            split at h<;>first | (cases h;done) | skip
            split at h<;>first | (cases h;done) | skip
            split at h<;>first | (cases h;done) | skip
            rename_i rx _
            split at h
            · unfold Yv at h
              split at h
              · rename_i tok rows
                split at h
                · simp at h;rw [← h.2]
                · split at h
                  · simp at h;rw [← h.2];exact VR hid
                  · cases h
              · rename_i id' off k sz' cap
                have hne':id ≠ id':=by rintro rfl;exact hne rfl
                split at h
                · simp at h;rw [← h.2]
                · split at h
                  · split at h
                    · split at h
                      · split at h
                        · simp at h;rw [← h.2,VR (by simpa using hid),Heap.get_set,if_neg hne']
                        · split at h
                          · simp only [Option.some.injEq,Prod.mk.injEq] at h;rw [← h.2,Heap.get_set,if_neg hne']
                          · cases h
                      · cases h
                    · cases h
                  · cases h
              · cases h
            · unfold Xx at h
              split at h
              · rename_i tok rows
                split at h
                · simp at h;rw [← h.2]
                · split at h
                  · cases tok<;>simp only [] at h<;>first | (cases h;done) | skip
                    · simp at h;rw [← h.2];exact VR hid
                    · simp at h;rw [← h.2];exact VR hid
                    · rename_i k
                      have hne':id ≠ k:=by rintro rfl;exact hne rfl
                      split at h
                      · split at h
                        · simp at h;rw [← h.2,VR (by simpa using hid),Heap.get_set,if_neg hne']
                        · cases h
                      · cases h
                  · cases h
              · cases h
          · cases hargs
        · cases hargs
def Kc (plan:List OpI):Nat->Nat
 | 0=>0
 | p+1=>match plan[p]? with
   | some s=>if s.c.chain then Kc plan p+1 else Kc plan p
   | none=>Kc plan p
def mAt (plan:List OpI) (p:Nat):Nat:=match plan[p]? with
 | some s=>s.m
 | none=>0
structure PlanAt (C:Cfg) (fid:FuncId) (ops:Array Oper) (plan:List OpI) (p:Nat) (o:Oper) (s:OpI):Prop where
 cls:Xj C fid o=s.c
 k:s.k<=Kc plan p
 edge:∀ e ∈ o.after.toList,Region.binds .any e=true->e.on < p
 mask:∀ q,s.m.testBit q=true -> ∃ e ∈ o.after.toList,Region.binds .any e=true/\(q=e.on\/(mAt plan e.on).testBit q=true)
 pre:∀ q o' s',q < p->ops[q]? = some o'->plan[q]? = some s'->s'.c.chain=true->(s.m.testBit q=true ↔ Kc plan q < s.k)
 loose:∀ q o' s',q < p->ops[q]? = some o'->plan[q]? = some s'->s.m.testBit q=true\/(o'.apart ops o=true/\(Qu s'.c s.c=0\/(Qu s'.c s.c=1/\q ∈ s.conf)\/(s'.c.chain=true/\QW o=true)))
structure SeenOk (ops:Array Oper) (plan:List OpI) (i:Nat) (seen:List Seen):Prop where
 is:∀ q ∈ seen,q.i < i/\ops[q.i]? = some q.o/\plan[q.i]? = some q.s/\q.K=Kc plan q.i
 all:∀ j,j < i -> ∃ q ∈ seen,q.i=j
theorem B2 {ops:Array Oper} {plan:List OpI}:∀ {seen:List Seen} {j:Nat},(∀ q ∈ seen,plan[q.i]? = some q.s)->(∃ q ∈ seen,q.i=j)->VG seen j=mAt plan j
 | [],j,_,h=>by obtain ⟨q,hq,_⟩:=h;simp at hq
 | x::seen,j,hs,h=>by
   unfold VG;by_cases e:x.i=j
   . have hb:Nat.beq x.i j=true:=by rw [e];exact beq_refl j
     rw [hb];simp only [cond];unfold mAt;rw [<- e,hs x (by simp)]
   . have:Nat.beq x.i j=false:=by
      cases hb:Nat.beq x.i j with
      | true=>exact absurd (eq_of_beq_eq_true hb) e
      | false=>rfl
     rw [this];simp only [cond];refine B2 (ops:=ops) (fun q hq=>hs q (by simp [hq])) ?_;obtain ⟨q,hq,hj⟩:=h;rcases mem_cons.1 hq with rfl | hq
     . exact absurd hj e
     . exact ⟨q,hq,hj⟩
theorem Fj {seen:List Seen} {q:Nat}:∀ {l:List Edge},(Kq seen l).testBit q=true -> ∃ e ∈ l,Region.binds .any e=true/\(q=e.on\/(VG seen e.on).testBit q=true)
 | [],h=>by simp [Kq] at h
 | e::l,h=>by
   unfold Kq at h;split at h
   . rename_i hb
     simp only [testBit_or,or_eq_true] at h;rcases h with (h | h) | h
     . refine ⟨e,by simp,hb,.inl ?_⟩;rw [testBit_two_pow] at h;exact (of_decide_eq_true h).symm
     . exact ⟨e,by simp,hb,.inr h⟩
     . obtain ⟨e',h1,h2⟩:=Fj h;exact ⟨e',by simp [h1],h2⟩
   . obtain ⟨e',h1,h2⟩:=Fj h;exact ⟨e',by simp [h1],h2⟩
theorem B3 {all:Array Oper} {o:Oper} {s:OpI}:∀ {seen:List Seen},UE all o s seen=true -> ∀ q ∈ seen,s.m.testBit q.i=true\/(q.o.apart all o=true/\(Qu q.s.c s.c=0\/(Qu q.s.c s.c=1/\q.i ∈ s.conf)\/(q.s.c.chain=true/\QW o=true)))
 | [],_,q,hq=>by simp at hq
 | x::seen,h,q,hq=>by
   unfold UE at h;simp only [and_eq_true,or_eq_true] at h;rcases mem_cons.1 hq with rfl | hq
   . rcases h.1 with h1 | ⟨h1,h2⟩
     . exact .inl h1
     . refine .inr ⟨h1, ?_⟩;split at h2
       . rename_i e;exact .inl e
       . rename_i e;exact .inr (.inl ⟨e,by simpa using h2⟩)
       . exact .inr (.inr (by simpa using h2))
   . exact B3 h.2 q hq
theorem B4 {ops:Array Oper} {plan:List OpI}:∀ {l:List Oper} {ss:List OpI} {i K:Nat} {seen:List Seen},XT C fid ops l ss i K seen=true->SeenOk ops plan i seen->K=Kc plan i->ops.toList.drop i=l->plan.drop i=ss ->
 (plan.drop i).length=(ops.toList.drop i).length /\ ∀ p o,i<=p->ops[p]? = some o -> ∃ s,plan[p]? = some s/\PlanAt C fid ops plan p o s
 | [],[],i,K,seen,_,_,_,hl,hs=>by
   refine ⟨by simp only [hl,hs,length_nil],fun p o hp ho => ?_⟩;have hlt:p < ops.size:=(Array.getElem?_eq_some_iff.1 ho).1;have:(ops.toList.drop i).length=0:=by rw [hl];rfl
   simp at this;omega
 | [],_::_,_,_,_,h,_,_,_,_=>by simp [XT] at h
 | _::_,[],_,_,_,h,_,_,_,_=>by simp [XT] at h
 | o::l,s::ss,i,K,seen,h,hseen,hK,hl,hs=>by
   have ho:ops[i]? = some o:=by
    have:(ops.toList.drop i)[0]? = some o:=by rw [hl];rfl
    rw [getElem?_drop] at this;simpa using this
   have hsi:plan[i]? = some s:=by
    have:(plan.drop i)[0]? = some s:=by rw [hs];rfl
    rw [getElem?_drop] at this;simpa using this
   unfold XT at h;simp only [and_eq_true] at h;obtain ⟨h1,h2⟩:=h;have hd1:ops.toList.drop (i+1)=l:=by rw [<- drop_drop,hl];rfl
   have hd2:plan.drop (i+1)=ss:=by rw [<- drop_drop,hs];rfl
   have hseen':SeenOk ops plan (i+1) (⟨i,o,s,K⟩::seen):=by
    refine ⟨fun q hq => ?_,fun j hj => ?_⟩
    . rcases mem_cons.1 hq with rfl | hq
      . exact ⟨lt_succ_self _,ho,hsi,hK⟩
      . obtain ⟨k1,k2⟩:=hseen.is q hq;exact ⟨by omega,k2⟩
    . rcases lt_or_ge j i with hlt | hge
      . obtain ⟨q,hq,e⟩:=hseen.all j hlt;exact ⟨q,by simp [hq],e⟩
      . exact ⟨_,by simp;exact .inl rfl,by simp only [];omega⟩
   have hK':(if s.c.chain then K+1 else K)=Kc plan (i+1):=by
    simp only [Kc,hsi,hK]
   obtain ⟨hlen,hat⟩:=B4 h2 hseen' hK' hd1 hd2;refine ⟨by rw [hl,hs];rw [hd1,hd2] at hlen;simp [hlen],fun p o' hp ho' => ?_⟩;rcases eq_or_lt_of_le hp with rfl | hlt
   . rw [ho] at ho';simp at ho';subst ho';refine ⟨s,hsi, ?_⟩;unfold Kr at h1;simp only [and_eq_true,decide_eq_true_eq,all_eq_true,Array.all_eq_true'] at h1;obtain ⟨⟨⟨⟨⟨p1,p2⟩,p3⟩,p4⟩,p5⟩,p6⟩:=h1;have hedge:∀ e ∈ o.after.toList,Region.binds .any e=true->e.on < i:=fun e he hb=>by
      have:=p1 e (by simpa using he);simp [hb] at this;exact this
     have find:∀ q o' s',q < i->ops[q]? = some o'->plan[q]? = some s' -> ∃ x ∈ seen,x.i=q/\x.o=o'/\x.s=s'/\x.K=Kc plan q:=by
      intro q o' s' hq hqo hqs;obtain ⟨x,hx,rfl⟩:=hseen.all q hq;obtain ⟨_,k2,k3,k4⟩:=hseen.is x hx;rw [hqo] at k2;rw [hqs] at k3;simp at k2 k3;exact ⟨x,hx,rfl,k2.symm,k3.symm,k4⟩
     refine ⟨p3, ?_,hedge,fun q hq => ?_,fun q o' s' hq hqo hqs hch => ?_,fun q o' s' hq hqo hqs => ?_⟩
     . rw [<- hK];exact le_of_ble_eq_true p4
     . have hm:Kq seen o.after.toList=s.m:=eq_of_beq_eq_true p2;rw [<- hm] at hq;obtain ⟨e,he,hb,hqe⟩:=Fj hq;refine ⟨e,he,hb, ?_⟩;rw [B2 (ops:=ops) (fun q hq=>(hseen.is q hq).2.2.1) (hseen.all _ (hedge e he hb))] at hqe;exact hqe
     . obtain ⟨x,hx,e1,e2,e3,e4⟩:=find q o' s' hq hqo hqs;have:=p5 x hx;rw [e1,e3,e4,hch] at this;simp only [Bool.not_true,Bool.false_or,beq_iff_eq] at this;rw [this];simp [blt_eq]
     . obtain ⟨x,hx,e1,e2,e3,e4⟩:=find q o' s' hq hqo hqs;have:=B3 p6 x hx;rw [e1,e2,e3] at this;exact this
   . exact hat p o' hlt ho'
structure TS where
 T:TT AV
 H:Heap
 K:Nat
 hs:List Heap
 rd:List (Nat × Acc)
 v:AV
 acc:Option Acc
def Qg (C:Cfg) (rec:Rec) (fid:FuncId) (lo:Nat) (all:List Oper) (o:Oper) (s:OpI) (i:Nat) (x:TS):Option TS :=
 match Ya all x.T o with
 | true=>match s.c.chain with
   | true=>match Y6 (Zr C x.T x.H.n s.c o) s.conf x.rd with
     | true=>none
     | false=>match aop C rec fid lo o x.T x.H with
       | some (v,H')=>some ⟨putT x.T o.dst v,H',x.K+1,x.H::x.hs,YN i (Zr C x.T x.H.n s.c o) x.rd,v,Zr C x.T x.H.n s.c o⟩
       | none=>none
   | false=>match s.c with
     | .data=>match aop C rec fid lo o x.T x.H with
       | some (v,_)=>some ⟨putT x.T o.dst v,x.H,x.K,x.hs,x.rd,v,none⟩
       | none=>none
     | _=>match Y6 (Zr C x.T (Zt (x.K - s.k) x.H x.hs).n s.c o) s.conf x.rd || !YM C x.T (Zt (x.K - s.k) x.H x.hs).n s.c o with
       | true=>none
       | false=>match aop C rec fid lo o x.T (Zt (x.K - s.k) x.H x.hs) with
         | some (v,_)=>some ⟨putT x.T o.dst v,x.H,x.K,x.hs,YN i (Zr C x.T (Zt (x.K - s.k) x.H x.hs).n s.c o) x.rd,v,Zr C x.T (Zt (x.K - s.k) x.H x.hs).n s.c o⟩
         | none=>none
 | false=>match s.c.chain with
   | true=>some ⟨putT x.T o.dst Y9,x.H,x.K+1,x.H::x.hs,x.rd,Y9,none⟩
   | false=>some ⟨putT x.T o.dst Y9,x.H,x.K,x.hs,x.rd,Y9,none⟩
theorem MG {all:List Oper} {o:Oper} {r:List Oper} {ss:List OpI} (x:TS) :
 Zs C rec fid lo all (o::r) (s::ss) i x.rd x.T x.H x.K x.hs=(match Qg C rec fid lo all o s i x with
  | some y=>Zs C rec fid lo all r ss (i+1) y.rd y.T y.H y.K y.hs
  | none=>none):=by
 unfold Qg;rw [Zs];cases Ya all x.T o with
 | false=>cases s.c.chain<;>rfl
 | true =>
   simp only [];cases hch:s.c.chain with
   | true =>
     simp only [];cases Y6 (Zr C x.T x.H.n s.c o) s.conf x.rd with
     | true=>rfl
     | false =>
       simp only [];cases aop C rec fid lo o x.T x.H<;>rfl
   | false =>
     simp only [];cases s.c with
     | data =>
       simp only [];cases aop C rec fid lo o x.T x.H<;>rfl
     | load =>
       simp only [];cases Y6 (Zr C x.T (Zt (x.K - s.k) x.H x.hs).n .load o) s.conf x.rd || !YM C x.T (Zt (x.K - s.k) x.H x.hs).n .load o with
       | true=>rfl
       | false =>
         simp only [];cases aop C rec fid lo o x.T (Zt (x.K - s.k) x.H x.hs)<;>rfl
     | read =>
       simp only [];cases Y6 (Zr C x.T (Zt (x.K - s.k) x.H x.hs).n .read o) s.conf x.rd || !YM C x.T (Zt (x.K - s.k) x.H x.hs).n .read o with
       | true=>rfl
       | false =>
         simp only [];cases aop C rec fid lo o x.T (Zt (x.K - s.k) x.H x.hs)<;>rfl
     | fresh =>
       simp only [];cases Y6 (Zr C x.T (Zt (x.K - s.k) x.H x.hs).n .fresh o) s.conf x.rd || !YM C x.T (Zt (x.K - s.k) x.H x.hs).n .fresh o with
       | true=>rfl
       | false =>
         simp only [];cases aop C rec fid lo o x.T (Zt (x.K - s.k) x.H x.hs)<;>rfl
     | writeAt =>
       simp only [];cases Y6 (Zr C x.T (Zt (x.K - s.k) x.H x.hs).n .writeAt o) s.conf x.rd || !YM C x.T (Zt (x.K - s.k) x.H x.hs).n .writeAt o with
       | true=>rfl
       | false =>
         simp only [];cases aop C rec fid lo o x.T (Zt (x.K - s.k) x.H x.hs)<;>rfl
     | write =>
       simp only [];cases Y6 (Zr C x.T (Zt (x.K - s.k) x.H x.hs).n .write o) s.conf x.rd || !YM C x.T (Zt (x.K - s.k) x.H x.hs).n .write o with
       | true=>rfl
       | false =>
         simp only [];cases aop C rec fid lo o x.T (Zt (x.K - s.k) x.H x.hs)<;>rfl
theorem B5 {all:List Oper}:∀ {l:List Oper} {ss:List OpI} {i:Nat} {x:TS} {T':TT AV} {H':Heap},ss.length=l.length->Zs C rec fid lo all l ss i x.rd x.T x.H x.K x.hs=some (T',H') ->
 ∃ S:Nat->TS,S i=x/\(S (i+l.length)).T=T'/\(S (i+l.length)).H=H' /\ ∀ j o s,l[j]? = some o->ss[j]? = some s->Qg C rec fid lo all o s (i+j) (S (i+j))=some (S (i+j+1))
 | [],ss,i,x,T',H',hlen,h=>by
   simp [Zs] at h;exact ⟨fun _=>x,rfl,h.1,h.2,fun j o s hj=>by simp at hj⟩
 | o::l,[],i,x,T',H',hlen,h=>by simp at hlen
 | o::l,s::ss,i,x,T',H',hlen,h=>by
   rw [MG] at h;split at h
   . rename_i y hy
     obtain ⟨S,s1,s2,s3,s4⟩:=B5 (by simpa using hlen) h;refine ⟨fun p=>if p=i then x else S p,by simp, ?_, ?_,fun j o' s' hj hs' => ?_⟩
     . simp only [length_cons];rw [if_neg (by omega),show i+(l.length+1)=i+1+l.length by omega];exact s2
     . simp only [length_cons];rw [if_neg (by omega),show i+(l.length+1)=i+1+l.length by omega];exact s3
     . cases j with
       | zero =>
         simp at hj hs';subst hj hs';simp [s1,hy]
       | succ j =>
         simp at hj hs';have:=s4 j o' s' hj hs';simp only [];rw [if_neg (by omega),if_neg (by omega),show i+(j+1)=i+1+j by omega];exact this
   . cases h
structure RunF (C:Cfg) (rec:Rec) (fid:FuncId) (lo:Nat) (ops:Array Oper) (plan:List OpI) (T0:TT AV) (H0:Heap) (S:Nat->TS):Prop where
 pl:∀ p o,ops[p]? = some o -> ∃ s,plan[p]? = some s/\PlanAt C fid ops plan p o s
 step:∀ p o s,ops[p]? = some o->plan[p]? = some s->Qg C rec fid lo ops.toList o s p (S p)=some (S (p+1))
 T0:(S 0).T=T0
 H0:(S 0).H=H0
 K0:(S 0).K=0
 hs0:(S 0).hs=[]
 rd0:(S 0).rd=[]
 hat:AtOk C
def Zn (S:Nat->TS) (N c:Nat):Heap:=Zt ((S N).K - c) (S N).H (S N).hs
section
variable {ops:Array Oper} {plan:List OpI} {T0:TT AV} {H0:Heap} {S:Nat->TS}
theorem MH {all:List Oper} {o:Oper} {x y:TS} (h:Qg C rec fid lo all o s i x=some y):y.T=putT x.T o.dst y.v:=by
 unfold Qg at h;split at h
 . split at h
   . split at h
     . cases h
     . split at h<;>first | (cases h;done) | (simp at h;rw [<- h])
   . split at h
     . split at h<;>first | (cases h;done) | (simp at h;rw [<- h])
     . split at h
       . cases h
       . split at h<;>first | (cases h;done) | (simp at h;rw [<- h])
 . split at h<;>(simp at h;rw [<- h])
theorem Fk {all:List Oper} {o:Oper} {x y:TS} (h:Qg C rec fid lo all o s i x=some y) :
 (s.c.chain=true->y.K=x.K+1/\y.hs=x.H::x.hs)/\(s.c.chain=false->y.K=x.K/\y.hs=x.hs/\y.H=x.H):=by
 unfold Qg at h;split at h
 . split at h
   . rename_i hc
     refine ⟨fun _ => ?_,fun h=>(by rw [hc] at h;cases h)⟩;split at h
     . cases h
     . split at h<;>first | (cases h;done) | (simp at h;rw [<- h];exact ⟨rfl,rfl⟩)
   . rename_i hc
     refine ⟨fun h=>(by rw [hc] at h;cases h),fun _ => ?_⟩;split at h
     . split at h<;>first | (cases h;done) | (simp at h;rw [<- h];exact ⟨rfl,rfl,rfl⟩)
     . split at h
       . cases h
       . split at h<;>first | (cases h;done) | (simp at h;rw [<- h];exact ⟨rfl,rfl,rfl⟩)
 . split at h
   . rename_i hc
     refine ⟨fun _ => ?_,fun h=>(by rw [hc] at h;cases h)⟩;simp at h;rw [<- h];exact ⟨rfl,rfl⟩
   . rename_i hc
     refine ⟨fun h=>(by rw [hc] at h;cases h),fun _ => ?_⟩;simp at h;rw [<- h];exact ⟨rfl,rfl,rfl⟩
theorem RunF.K (R:RunF C rec fid lo ops plan T0 H0 S):∀ p,p<=ops.size->(S p).K=Kc plan p
 | 0,_=>R.K0
 | p+1,hp=>by
   obtain ⟨o,ho⟩:∃ o,ops[p]? = some o:=⟨ops[p],by simp⟩;obtain ⟨s,hs,_⟩:=R.pl p o ho;have hst:=Fk (R.step p o s ho hs);have ih:=R.K p (by omega);simp only [Kc,hs];cases hc:s.c.chain with
   | true=>rw [(hst.1 hc).1,ih];rfl
   | false=>rw [(hst.2 hc).1,ih];rfl
theorem MI {hs:List Heap}:Zt (n+1) H1 (H::hs)=Zt n H hs:=rfl
theorem B6 (p:Nat):Kc plan p<=Kc plan (p+1):=by
 rw [Kc];cases plan[p]? with
 | none=>exact Nat.le_refl _
 | some s=>simp only [];split<;>omega
theorem MJ (h:p<=q):Kc plan p<=Kc plan q:=by
 induction h with
 | refl=>exact Nat.le_refl _
 | step _ ih=>exact Nat.le_trans ih (B6 _)
theorem RunF.stage (R:RunF C rec fid lo ops plan T0 H0 S):∀ (d p:Nat),p+d=ops.size -> ∀ c,c<=Kc plan p->Zt (Kc plan p - c) (S p).H (S p).hs=Zn S ops.size c
 | 0,p,hp,c,hc=>by
   have:p=ops.size:=by omega
   subst this;unfold Zn;rw [R.K _ (Nat.le_refl _)]
 | d+1,p,hp,c,hc=>by
   obtain ⟨o,ho⟩:∃ o,ops[p]? = some o:=⟨ops[p],by simp⟩;obtain ⟨s,hs,_⟩:=R.pl p o ho;have hst:=Fk (R.step p o s ho hs);have ih:=R.stage d (p+1) (by omega) c (Nat.le_trans hc (B6 p));have hK:Kc plan (p+1)=if s.c.chain then Kc plan p+1 else Kc plan p:=by simp only [Kc,hs]
   cases hch:s.c.chain with
   | true =>
     rw [hK,hch,if_pos rfl,(hst.1 hch).2,show Kc plan p+1 - c=(Kc plan p - c)+1 by omega,MI] at ih;exact ih
   | false =>
     rw [hK,hch,if_neg (by simp),(hst.2 hch).2.1,(hst.2 hch).2.2] at ih;exact ih
theorem RunF.heap (R:RunF C rec fid lo ops plan T0 H0 S) (hp:p<=ops.size):(S p).H=Zn S ops.size (Kc plan p):=by
 have:=R.stage (ops.size - p) p (by omega) (Kc plan p) (Nat.le_refl _);rw [sub_self] at this;exact this
structure OpF (C:Cfg) (rec:Rec) (fid:FuncId) (lo:Nat) (ops:Array Oper) (plan:List OpI) (S:Nat->TS) (p:Nat) (o:Oper) (s:OpI):Prop where
 off:Ya ops.toList (S p).T o=false->(S (p+1)).v=Y9/\(S (p+1)).acc=none/\(s.c.chain=true->Zn S ops.size (Kc plan p+1)=Zn S ops.size (Kc plan p))
 chain:Ya ops.toList (S p).T o=true->s.c.chain=true ->
  aop C rec fid lo o (S p).T (Zn S ops.size (Kc plan p))=some ((S (p+1)).v,Zn S ops.size (Kc plan p+1)) /\ ∃ n,(S (p+1)).acc=Zr C (S p).T n s.c o
 data:Ya ops.toList (S p).T o=true->s.c=.data->(S (p+1)).acc=none /\ ∃ H H',aop C rec fid lo o (S p).T H=some ((S (p+1)).v,H')
 quiet:Ya ops.toList (S p).T o=true->(s.c=.load\/s.c=.read)->(∃ H',aop C rec fid lo o (S p).T (Zn S ops.size s.k)=some ((S (p+1)).v,H'))/\(S (p+1)).acc=Zr C (S p).T (Zn S ops.size s.k).n s.c o/\YM C (S p).T (Zn S ops.size s.k).n s.c o=true
theorem RunF.op (R:RunF C rec fid lo ops plan T0 H0 S) {o:Oper} (ho:ops[p]? = some o) (hs:plan[p]? = some s):OpF C rec fid lo ops plan S p o s:=by
 have hp:p < ops.size:=(Array.getElem?_eq_some_iff.1 ho).1;have hst:=R.step p o s ho hs;have hK:=Fk hst;have hH:=R.heap (p:=p) (by omega);have hH1:=R.heap (p:=p+1) (by omega);have hKc:Kc plan (p+1)=if s.c.chain then Kc plan p+1 else Kc plan p:=by simp only [Kc,hs]
 have hSK:=R.K p (by omega);obtain ⟨s',hs',hPA⟩:=R.pl p o ho;rw [hs] at hs';simp at hs';subst hs';have hstage:=R.stage (ops.size - p) p (by omega) s.k hPA.k;refine ⟨fun hw => ?_,fun hw hc => ?_,fun hw hc => ?_,fun hw hc => ?_⟩
 . unfold Qg at hst;rw [hw] at hst;simp only [] at hst;cases hch:s.c.chain with
   | true =>
     rw [hch] at hst hKc;simp at hst;have e1:=congrArg TS.v hst;have e2:=congrArg TS.acc hst;have e3:=congrArg TS.H hst;simp only [] at e1 e2 e3;refine ⟨e1.symm,e2.symm,fun _ => ?_⟩;rw [if_pos rfl] at hKc;rw [<- hKc,<- hH1,<- hH,e3]
   | false =>
     rw [hch] at hst;simp at hst;have e1:=congrArg TS.v hst;have e2:=congrArg TS.acc hst;exact ⟨e1.symm,e2.symm,fun h=>by cases h⟩
 . unfold Qg at hst;rw [hw,hc] at hst;simp only [] at hst;rw [hc,if_pos rfl] at hKc;split at hst
   . cases hst
   . split at hst
     . rename_i v H' hop
       simp at hst;have e1:=congrArg TS.v hst;have e2:=congrArg TS.acc hst;have e3:=congrArg TS.H hst;simp only [] at e1 e2 e3;rw [<- hKc,<- hH1,<- hH,<- e1,<- e2,<- e3];exact ⟨hop,_,rfl⟩
     . cases hst
 . have hch:s.c.chain=false:=by rw [hc];rfl
   unfold Qg at hst;rw [hw,hch] at hst;simp only [hc] at hst;split at hst
   . rename_i v H' hop
     simp at hst;have e1:=congrArg TS.v hst;have e2:=congrArg TS.acc hst;simp only [] at e1 e2;rw [<- e1,<- e2];exact ⟨rfl,_,_,hop⟩
   . cases hst
 . have hch:s.c.chain=false:=by rcases hc with hc | hc<;>rw [hc]<;>rfl
   unfold Qg at hst;rw [hw,hch] at hst;rw [hSK] at hst;rcases hc with hc | hc
   . simp only [hc,hstage] at hst;split at hst
     . cases hst
     . rename_i hbl
       simp only [or_eq_false_iff,not_eq_false'] at hbl;split at hst
       . rename_i v H' hop
         simp at hst;have e1:=congrArg TS.v hst;have e2:=congrArg TS.acc hst;simp only [] at e1 e2;rw [<- e1,<- e2,hc];exact ⟨⟨_,hop⟩,rfl,hbl.2⟩
       . cases hst
   . simp only [hc,hstage] at hst;split at hst
     . cases hst
     . rename_i hbl
       simp only [or_eq_false_iff,not_eq_false'] at hbl;split at hst
       . rename_i v H' hop
         simp at hst;have e1:=congrArg TS.v hst;have e2:=congrArg TS.acc hst;simp only [] at e1 e2;rw [<- e1,<- e2,hc];exact ⟨⟨_,hop⟩,rfl,hbl.2⟩
       . cases hst
theorem B7 {all:List Oper} {o:Oper} {x y:TS} (h:Qg C rec fid lo all o s i x=some y) :
 (∀ e,e ∈ x.rd->e ∈ y.rd)/\(∀ a,y.acc=some a->(i,a) ∈ y.rd)/\(∀ a,y.acc=some a -> ∀ q b,q ∈ s.conf->(q,b) ∈ x.rd->a.apart b=true):=by
 have rec1:∀ (acc:Option Acc) (rd:List (Nat × Acc)),(∀ e,e ∈ rd->e ∈ YN i acc rd)/\(∀ a,acc=some a->(i,a) ∈ YN i acc rd):=fun acc rd=>by
  cases acc with
  | none=>exact ⟨fun _ h=>h,fun a h=>by cases h⟩
  | some b=>exact ⟨fun e h=>by simp [YN,h],fun a h=>by cases h;simp [YN]⟩
 have cl:∀ (acc:Option Acc) (rd:List (Nat × Acc)),Y6 acc s.conf rd=false -> ∀ a,acc=some a -> ∀ q b,q ∈ s.conf->(q,b) ∈ rd->a.apart b=true:=by
  intro acc rd hc a ha q b hq hb;subst ha;unfold Y6 at hc;cases hcf:s.conf with
  | nil=>rw [hcf] at hq;simp at hq
  | cons c0 cr =>
    rw [hcf] at hc;simp only [any_eq_false] at hc;have:=hc (q,b) hb;simp only [and_eq_true,not_eq_true',not_and] at this;have h2:=this (by rw [<- hcf];simpa using hq);simpa using h2
 unfold Qg at h;split at h
 . split at h
   . split at h
     . cases h
     . rename_i hcl
       split at h
       . simp at h;subst h;exact ⟨(rec1 _ _).1,(rec1 _ _).2,cl _ _ hcl⟩
       . cases h
   . split at h
     . split at h
       . simp at h;subst h;exact ⟨fun _ h=>h,fun a h=>(by cases h),fun a h=>(by cases h)⟩
       . cases h
     . split at h
       . cases h
       . rename_i hcl
         simp only [or_eq_false_iff] at hcl;split at h
         . simp at h;subst h;exact ⟨(rec1 _ _).1,(rec1 _ _).2,cl _ _ hcl.1⟩
         . cases h
 . split at h
   . simp at h;subst h;exact ⟨fun _ h=>h,fun a h=>(by cases h),fun a h=>(by cases h)⟩
   . simp at h;subst h;exact ⟨fun _ h=>h,fun a h=>(by cases h),fun a h=>(by cases h)⟩
theorem RunF.rd (R:RunF C rec fid lo ops plan T0 H0 S):∀ p,p<=ops.size -> ∀ q,q < p -> ∀ a,(S (q+1)).acc=some a->(q,a) ∈ (S p).rd
 | 0,_,q,hq,_,_=>by omega
 | p+1,hp,q,hq,a,ha=>by
   obtain ⟨o,ho⟩:∃ o,ops[p]? = some o:=⟨ops[p],by simp⟩;obtain ⟨s,hs,_⟩:=R.pl p o ho;obtain ⟨h1,h2,_⟩:=B7 (R.step p o s ho hs);rcases lt_or_ge q p with hlt | hge
   . exact h1 _ (R.rd p (by omega) q hlt a ha)
   . have:q=p:=by omega
     subst this;exact h2 a ha
theorem RunF.apart (R:RunF C rec fid lo ops plan T0 H0 S) {o:Oper} (ho:ops[p]? = some o) (hs:plan[p]? = some s) (hq:q < p) (hc:q ∈ s.conf) {a b:Acc} (ha:(S (p+1)).acc=some a) (hb:(S (q+1)).acc=some b):a.apart b=true :=
 have hp:p < ops.size:=(Array.getElem?_eq_some_iff.1 ho).1
 (B7 (R.step p o s ho hs)).2.2 a ha q b hc (R.rd p (by omega) q hq b hb)
end
end Go.Sim

namespace Go.Sim
variable {C:Cfg} {g:Gh} {H:Heap} {w:World}
structure Early (C:Cfg) (g:Gh) (H:Heap) (w:World) (b:Nat) (vals:List Value) (e:TypeId):Prop where
 blk:∃ c fz,w.heap[b]? = some (.cells c e fz)/\c.toList=vals
 wr:∀ x,w.frozen? ⟨b,x,none⟩=false
 own:¬ Own g H b
 know:∀ o v,g.K b o=some v->False
 glob:∀ x cs,C.glob x=some cs->x ≠ b
theorem Early.lt (E:Early C g H w b vals e):b < w.heap.size:=by
 obtain ⟨c,fz,h,_⟩:=E.blk;exact (Array.getElem?_eq_some_iff.1 h).1
theorem Early.ext (E:Early C g H w b vals e) (hE:Ext lo g H w g' H' w'):Early C g' H' w' b vals e:=by
 have hf:=hE.frame b E.lt E.own;refine ⟨by rw [hf];exact E.blk,fun x=>(Ao (a:=⟨b,x,none⟩) hf).trans (E.wr x),fun ho => ?_,fun o v hk => ?_,E.glob⟩
 . rcases hE.own b ho with h | h
   . exact E.own h
   . have:=E.lt;omega
 . rcases hE.newK b o v hk with h | h | h
   . exact E.know o v h
   . exact E.own h
   . have:=E.lt;omega
def Gh.adopt (g:Gh) (n b size:Nat):Gh:=⟨fun id=>if id=n then ⟨b,0,size⟩ else g.L id,g.K⟩
theorem UU (g:Gh) (n b size:Nat):Gh.le n g (g.adopt n b size):=⟨fun id hid=>by simp only [Gh.adopt];rw [if_neg (ne_of_lt hid)],fun _ _ _ h=>h⟩
theorem Rel.adopt (hR:Rel C g H w) {cs:List AV} (E:Early C g H w b vals e) (hv:Zb g H.n cs vals):Rel C (g.adopt H.n b vals.length) (H.push (.cells cs e)) w:=by
 have hle:=UU g H.n b vals.length;have hL:∀ id,id < H.n→(g.adopt H.n b vals.length).L id=g.L id:=hle.L;have hLn:(g.adopt H.n b vals.length).L H.n=⟨b,0,vals.length⟩:=by simp [Gh.adopt]
 have hget:∀ id,id < H.n→(H.push (.cells cs e)).get id=H.get id:=fun id hid=>by rw [Heap.get_push,if_neg (ne_of_lt hid)]
 have hgetn:(H.push (.cells cs e)).get H.n=.cells cs e:=by rw [Heap.get_push,if_pos rfl]
 have hno:∀ id,id < H.n→(H.get id).live=true→(g.L id).b ≠ b:=fun id hid hl he=>E.own ⟨id,hid,hl,he⟩
 refine ⟨?_, ?_, ?_, ?_,hR.know, ?_, ?_, ?_⟩
 · intro id hid;simp only [Heap.n_push] at hid ⊢;rcases lt_or_ge id H.n with h | h
   · rw [hget id h,hL id h];cases hlv:(H.get id).live with
     | true=>exact (hR.blk id h).mono (by omega) hle rfl
     | false=>rw [Jj hlv];trivial
   · have:id=H.n:=by omega
     subst this;rw [hgetn,hLn];obtain ⟨c,fz,h1,h2⟩:=E.blk;have hsz:c.size=vals.length:=by rw [← h2,Array.length_toList]
     have hlen:cs.length=vals.length:=hv.1;refine ⟨⟨⟨c,e,fz,h1,fun i a ha => ?_,by show 0+cs.length≤c.size;omega⟩,fun x _=>E.wr x⟩,c,fz,h1,hsz,rfl,by omega⟩;have hi:i < cs.length:=(List.getElem?_eq_some_iff.1 ha).1;obtain ⟨v,hvi⟩:∃ v,vals[i]? = some v:=⟨vals[i],getElem?_eq_getElem (by omega)⟩;refine ⟨v, ?_,(hv.2 i a v ha hvi).mono (by omega) hle⟩;rw [zero_add,← Array.getElem?_toList,h2];exact hvi
 · intro id hid;simp only [Heap.n_push] at hid;rw [Heap.get_push,if_neg (by omega)];exact hR.out id (by omega)
 · intro id hid hlv;simp only [Heap.n_push] at hid;rcases lt_or_ge id H.n with h | h
   · rw [hget id h] at hlv;rw [hL id h];exact hR.lt id h hlv
   · have:id=H.n:=by omega
     subst this;rw [hLn];exact E.lt
 · intro i j hi hj hli hlj hne;simp only [Heap.n_push] at hi hj;rcases lt_or_ge i H.n with h | h<;>rcases lt_or_ge j H.n with h' | h'
   · rw [hget i h] at hli;rw [hget j h'] at hlj;rw [hL i h,hL j h'];exact hR.inj i j h h' hli hlj hne
   · have:j=H.n:=by omega
     subst this;rw [hget i h] at hli;rw [hL i h,hLn];exact hno i h hli
   · have:i=H.n:=by omega
     subst this;rw [hget j h'] at hlj;rw [hL j h',hLn];exact Ne.symm (hno j h' hlj)
   · omega
 · intro id hid hlv o' v hk;simp only [Heap.n_push] at hid;rcases lt_or_ge id H.n with h | h
   · rw [hget id h] at hlv;rw [hL id h] at hk ⊢;exact hR.apart id h hlv o' v hk
   · have:id=H.n:=by omega
     subst this;rw [hLn] at hk;exact (E.know o' v hk).elim
 · intro x cs' hx;obtain ⟨vals',h1,h2⟩:=hR.glob x cs' hx;exact ⟨vals',h1.mono (Nat.le_refl _) (hle.mono (zero_le _)),h2⟩
 · intro x cs' hx;obtain ⟨h1,h2⟩:=hR.gsz x cs' hx;refine ⟨h1, ?_⟩;rintro ⟨id,hid,hlv,he⟩;simp only [Heap.n_push] at hid;rcases lt_or_ge id H.n with h | h
   · rw [hget id h] at hlv;rw [hL id h] at he;exact h2 ⟨id,h,hlv,he⟩
   · have:id=H.n:=by omega
     subst this;rw [hLn] at he;exact E.glob x cs' hx he.symm
theorem Ext.adopt {g0:Gh} {H0:Heap} {w0:World} {blk:ABlk} (hE:Ext lo g0 H0 w0 g H w) (hb:w0.heap.size<=b):Ext lo g0 H0 w0 (g.adopt H.n b vals.length) (H.push blk) w:=by
 have hle:=UU g H.n b vals.length;refine ⟨hE.le.trans hle hE.n,by have:=hE.n;simp;omega,fun id hid hlo => ?_,fun b' ho => ?_,hE.newK,hE.frame,hE.size,hE.os,hE.output,hE.tape⟩
 . rw [Heap.get_push,if_neg (by have:=hE.n;omega)];exact hE.keep id hid hlo
 . obtain ⟨id,hid,hlv,he⟩:=ho;simp only [Heap.n_push] at hid;rcases lt_or_ge id H.n with h | h
   . rw [Heap.get_push,if_neg (ne_of_lt h)] at hlv;rw [hle.L id h] at he;exact hE.own b' ⟨id,h,hlv,he⟩
   . have:id=H.n:=by omega
     subst this;refine .inr ?_;have e:((g.adopt H.n b vals.length).L H.n).b=b:=by simp [Gh.adopt]
     rw [e] at he;rw [<- he];exact hb
theorem Rel.early (hR:Rel C g H w) (lo:Nat) (c:Array Value) (e:TypeId):Rel C g H (w.alloc (.cells c e))/\Ext lo g H w g H (w.alloc (.cells c e))/\Early C g H (w.alloc (.cells c e)) w.heap.size c.toList e:=by
 have hE:Ext lo g H w g H (w.alloc (.cells c e)):=⟨.refl _ _,Nat.le_refl _,fun _ _ _=>rfl,fun _ h=>.inl h,fun _ _ _ h=>.inl h,fun b hb _=>JH hb,by simp,rfl,rfl,rfl⟩;refine ⟨⟨fun id hid => ?_,hR.out,fun id hid hl => ?_,hR.inj,fun b o v hk => ?_,hR.apart,hR.glob,hR.gsz_ext hE⟩,hE,⟨⟨c,(0,0),Qv,rfl⟩,fun x=>F2 x, ?_,fun o v hk => ?_,fun x cs hx hxb => ?_⟩⟩
 . cases hlv:(H.get id).live with
   | true=>exact (hR.blk id hid).mono (Nat.le_refl _) (.refl _ _) (JH (hR.lt id hid hlv))
   | false=>rw [Jj hlv];trivial
 . have:=hR.lt id hid hl;simp;omega
 . exact (QY (JH (JT hR hk))).trans (hR.know b o v hk)
 . rintro ⟨id,hid,hlv,he⟩;have:=hR.lt id hid hlv;omega
 . have:=JT hR hk;omega
 . obtain ⟨⟨c',e',fz,h1,_⟩,_⟩:=hR.gsz x cs hx;have:=(Array.getElem?_eq_some_iff.1 h1).1;omega
theorem Early.adopt {len:Nat} {blk:ABlk} (E:Early C g H w b' vals e) (hb:b ≠ b'):Early C (g.adopt H.n b len) (H.push blk) w b' vals e:=by
 refine ⟨E.blk,E.wr, ?_,E.know,E.glob⟩;rintro ⟨id,hid,hlv,he⟩;simp only [Heap.n_push] at hid;rcases lt_or_ge id H.n with h | h
 . rw [Heap.get_push,if_neg (ne_of_lt h)] at hlv;rw [(UU g H.n b len).L id h] at he;exact E.own ⟨id,h,hlv,he⟩
 . have:id=H.n:=by omega
   subst this;have e:((g.adopt H.n b len).L H.n).b=b:=by simp [Gh.adopt]
   rw [e] at he;exact hb he
theorem MK {o:Oper} {a:Act} (hl:QW o=true) (h:aop C rec fid lo o T H=some (v,H')) (hT:FRel C g n T a) :
 ∃ (e:TypeId) (cs:List AV) (vals:List Value) (cv:Nat->Value),H'=H.push (.cells cs e)/\(∀ g' n',Zb g' n' cs vals)/\(∀ (g':Gh) b,VRel (g'.adopt H.n b vals.length) (H.n+1) v (cv b)) /\
   (∀ c,o.op ≠ .defer c) /\ ∀ w:World,(execOp a.eval o).run C.P w=.ok (.value (cv w.heap.size)) (w.alloc (.cells vals.toArray e)):=by
 unfold QW at hl;split at hl
 . rename_i t hop hg
   unfold aop at h;simp only [hop] at h;split at h
   . rename_i z hz
     simp at h;obtain ⟨rfl,rfl⟩:=h;obtain ⟨cz,_,hz2,i,hi1,hi2⟩:=Jg (w:=(default:World)) hz;refine ⟨t,z.cells,cz.cells.toList,fun b=>.pointer (some ⟨b,0,none⟩),rfl,fun g' n'=>(hz2 g' n').cells,fun g' b => ?_,by rw [hop];simp,fun w => ?_⟩
     . have:VRel (g'.adopt H.n b cz.cells.toList.length) (H.n+1) (.ptr H.n 0) (.pointer (some ⟨((g'.adopt H.n b cz.cells.toList.length).L H.n).b,((g'.adopt H.n b cz.cells.toList.length).L H.n).o+0,none⟩)):=.ptr (lt_succ_self _);simpa [Gh.adopt] using this
     . obtain ⟨cz',k1,_⟩:=Jg (w:=w) hz;have hcz:(zeroValue t).run C.P w=.ok cz w:=by simp [zeroValue,typeInfo,hi1,hi2]
       unfold execOp;rw [hop];simp [Instr.alloc,hcz,F3]
   . cases h
 . rename_i t l c hop hg
   have hlc:l=c:=by simpa using hl
   subst hlc;unfold aop at h;simp only [hop] at h;split at h
   . rename_i vl vc hvl hvc
     obtain ⟨k,m,sz,e,cs,vals,h0,h3,h4,h5⟩:=AA h (ZR hT hvl) (ZR hT hvc);rw [hvl] at hvc;rcases h0 with ⟨rfl,rfl,rfl⟩ | ⟨_,hne,_⟩
     . refine ⟨e,cs,vals,fun b=>.slice (some ⟨b,0,none⟩) k k,rfl,h3,fun g' b => ?_,by rw [hop];simp,fun w => ?_⟩
       . have:VRel (g'.adopt H.n b vals.length) (H.n+1) (.rs H.n 0 k sz (some k)) (.slice (some ⟨((g'.adopt H.n b vals.length).L H.n).b,((g'.adopt H.n b vals.length).L H.n).o+0,none⟩) k k):=.rs (lt_succ_self _) (Nat.le_refl _) rfl;simpa [Gh.adopt] using this
       . unfold execOp;rw [hop];simp [h5]
     . exact absurd (by simpa using hvc) hne
   . cases h
 . cases hl
end Go.Sim

namespace Go.Sim
variable {C:Cfg} {rec:Rec} {fid:FuncId} {lo:Nat}
section
variable {ops:Array Oper} {plan:List OpI} {T0:TT AV} {H0:Heap} {S:Nat->TS}
def Dn (listed:Array Bool) (q:Nat):Prop:=listed[q]? = some true
def Xz (ops:Array Oper) (q:Nat):Option Tmp:=(ops[q]?).bind (·.dst)
def VS (ops:Array Oper) (S:Nat->TS) (T0:TT AV) (D:Nat->Prop) (t:Tmp) (v:AV):Prop :=
 (∃ q,D q/\Xz ops q=some t/\(∀ q',D q'->Xz ops q'=some t->q'<=q)/\v=(S (q+1)).v)\/((∀ q,D q->Xz ops q ≠ some t)/\v=Z1 T0 t)
theorem VS.congr {D D':Nat->Prop} {t:Tmp} (hD:∀ q,Xz ops q=some t->(D q ↔ D' q)) (h:VS ops S T0 D t v):VS ops S T0 D' t v:=by
 rcases h with ⟨q,h1,h2,h3,h4⟩ | ⟨h1,h2⟩
 . exact .inl ⟨q,(hD q h2).1 h1,h2,fun q' h5 h6=>h3 q' ((hD q' h6).2 h5) h6,h4⟩
 . exact .inr ⟨fun q h3 h4=>h1 q ((hD q h4).2 h3) h4,h2⟩
theorem VT (T:TT AV) (dst:Option Tmp) (v:AV) (t:Tmp):Z1 (putT T dst v) t=if dst=some t then v else Z1 T t:=by
 cases dst with
 | none=>simp [putT]
 | some d =>
   simp only [putT,VH,Option.some.injEq];by_cases e:t=d
   . subst e;simp
   . rw [if_neg e,if_neg (Ne.symm e)]
theorem RunF.cur (R:RunF C rec fid lo ops plan T0 H0 S):∀ p,p<=ops.size -> ∀ t,VS ops S T0 (· < p) t (Z1 (S p).T t)
 | 0,_,t=>.inr ⟨fun q h=>by simp at h,by rw [R.T0]⟩
 | p+1,hp,t=>by
   obtain ⟨o,ho⟩:∃ o,ops[p]? = some o:=⟨ops[p],by simp⟩;obtain ⟨s,hs,_⟩:=R.pl p o ho;rw [MH (R.step p o s ho hs),VT];have hd:Xz ops p=o.dst:=by simp [Xz,ho]
   split
   . rename_i e
     exact .inl ⟨p,lt_succ_self p,by rw [hd,e],fun q' h1 _=>by omega,rfl⟩
   . rename_i e
     refine (R.cur p (by omega) t).congr fun q hq=>⟨fun h=>by omega,fun h => ?_⟩
     rcases lt_or_ge q p with h' | h'
     . exact h'
     . have:q=p:=by omega
       subst this;rw [hd] at hq;exact absurd hq e
theorem VU (hs:plan[c]? = some s) (hc:s.c.chain=true) (h:c < i):Kc plan c < Kc plan i:=by
 have h1:Kc plan (c+1)=Kc plan c+1:=by simp only [Kc,hs,hc,if_true]
 have h2:Kc plan (c+1)<=Kc plan i:=MJ (by omega);omega
theorem B8 {s':OpI} (hs:plan[c]? = some s) (hc:s.c.chain=true) (hs':plan[i]? = some s') (hc':s'.c.chain=true) (h:Kc plan c=Kc plan i):c=i:=by
 rcases lt_trichotomy c i with h1 | h1 | h1
 . have:=VU (plan:=plan) hs hc h1;omega
 . exact h1
 . have:=VU (plan:=plan) hs' hc' h1;omega
theorem Kx:∀ {i k:Nat},k < Kc plan i -> ∃ c s,c < i/\plan[c]? = some s/\s.c.chain=true/\Kc plan c=k
 | 0,k,h=>by simp [Kc] at h
 | i+1,k,h=>by
   rw [Kc] at h;cases hs:plan[i]? with
   | none =>
     rw [hs] at h;obtain ⟨c,s,h1,h2⟩:=Kx h;exact ⟨c,s,by omega,h2⟩
   | some s =>
     rw [hs] at h;simp only [] at h;split at h
     . rename_i hc
       by_cases e:k=Kc plan i
       . exact ⟨i,s,by omega,hs,hc,e.symm⟩
       . obtain ⟨c,s',h1,h2⟩:=Kx (show k < Kc plan i by omega);exact ⟨c,s',by omega,h2⟩
     . obtain ⟨c,s',h1,h2⟩:=Kx h;exact ⟨c,s',by omega,h2⟩
theorem Acc.apart_comm (a b:Acc):a.apart b=b.apart a:=by
 cases a<;>cases b<;>rfl
def Ad (plan:List OpI) (listed:Array Bool) (j q:Nat):Prop:=Dn listed q /\ ∀ s,plan[q]? = some s->s.c.chain=true->Kc plan q < j
def Yx (plan:List OpI) (listed:Array Bool) (j q:Nat):Prop:=Dn listed q /\ ∃ s,plan[q]? = some s/\s.c.chain=true/\j<=Kc plan q
theorem B9 {listed:Array Bool} {j:Nat} (h:Dn listed q):Ad plan listed j q\/Yx plan listed j q:=by
 by_cases hs:∃ s,plan[q]? = some s/\s.c.chain=true/\j<=Kc plan q
 . exact .inr ⟨h,hs⟩
 . refine .inl ⟨h,fun s h1 h2 => ?_⟩;rcases lt_or_ge (Kc plan q) j with h3 | h3
   . exact h3
   . exact absurd ⟨s,h1,h2,h3⟩ hs
theorem Ad.not_soon {listed:Array Bool} {j:Nat} (h:Ad plan listed j q):¬ Yx plan listed j q:=fun ⟨_,s,h1,h2,h3⟩=>by
 have:=h.2 s h1 h2;omega
structure Item (C:Cfg) (sz:Nat) (S:Nat->TS) (plan:List OpI) (g:Gh) (H:Heap) (w0 w:World) (i b:Nat) (cv:Value):Prop where
 new:w0.heap.size<=b
 is:∃ (vals:List Value) (e:TypeId) (cs:List AV),Early C g H w b vals e/\(∀ g' n,Zb g' n cs vals)/\Zn S sz (Kc plan i+1)=(Zn S sz (Kc plan i)).push (.cells cs e) /\
  ∀ g':Gh,VRel (g'.adopt (Zn S sz (Kc plan i)).n b vals.length) ((Zn S sz (Kc plan i)).n+1) (S (i+1)).v cv
theorem Item.ext {g:Gh} {w0 w:World} (I:Item C sz S plan g H w0 w i b cv) (hE:Ext lo g H w g' H' w'):Item C sz S plan g' H' w0 w' i b cv :=
 let ⟨vals,e,cs,h1,h2⟩:=I.is
 ⟨I.new,vals,e,cs,h1.ext hE,h2⟩
theorem Item.lt {g:Gh} {w0 w:World} (I:Item C sz S plan g H w0 w i b cv):b < w.heap.size :=
 let ⟨_,_,_,h1,_⟩:=I.is
 h1.lt
theorem Item.adopt {g:Gh} {w0 w:World} {len:Nat} {blk:ABlk} (I:Item C sz S plan g H w0 w i b cv) (hb:b' ≠ b):Item C sz S plan (g.adopt H.n b' len) (H.push blk) w0 w i b cv :=
 let ⟨vals,e,cs,h1,h2⟩:=I.is
 ⟨I.new,vals,e,cs,h1.adopt hb,h2⟩
structure Inv0 (C:Cfg) (lo:Nat) (ops:Array Oper) (plan:List OpI) (T0:TT AV) (S:Nat->TS) (M:List Nat) (size:Nat) (g0:Gh) (H0:Heap) (w0:World) (listed:Array Bool) (j:Nat) (g:Gh) (w:World) (Tc:TT AV) (a:Act):Prop where
 lsz:listed.size=ops.size
 closed:∀ p s q,Dn listed p->plan[p]? = some s->s.m.testBit q=true->Ad plan listed j q
 stage:∀ c s,plan[c]? = some s->s.c.chain=true->Kc plan c < j->Dn listed c
 surj:∀ c,c < j -> ∃ x s,plan[x]? = some s/\s.c.chain=true/\Dn listed x/\Kc plan x=c
 rel:Rel C g (Zn S ops.size j) w
 ext:Ext lo g0 H0 w0 g (Zn S ops.size j) w
 marks:V5 lo g (Zn S ops.size j).n M a.defers
 tsz:a.tmps.size=size
 frame:∀ t,(∀ q,Yx plan listed j q->Xz ops q ≠ some t)->VRel g (Zn S ops.size j).n (Z1 Tc t) (a.tmps.getD t undef)
 cur:∀ t v,VS ops S T0 (Ad plan listed j) t v->Z1 Tc t=v
 mono:∀ c,c < j->(Zn S ops.size c).n<=(Zn S ops.size (c+1)).n
 past:∀ c,c<=j->lo<=(Zn S ops.size c).n/\(Zn S ops.size c).n<=(Zn S ops.size j).n /\ ∃ gc wc,Rel C gc (Zn S ops.size c) wc/\Gh.le (Zn S ops.size c).n gc g
 keep:∀ x s,Dn listed x->plan[x]? = some s->s.c=.fresh->Kc plan x < j -> ∀ id,id < (Zn S ops.size (Kc plan x)).n->(Zn S ops.size (Kc plan x+1)).get id=(Zn S ops.size (Kc plan x)).get id
 soon:∃ B:Nat->Nat,(∀ p q,Yx plan listed j p->Yx plan listed j q->B p=B q->p=q) /\ ∀ q,Yx plan listed j q -> ∃ cv,Item C ops.size S plan g (Zn S ops.size j) w0 w q (B q) cv /\ ∀ d,Xz ops q=some d->a.tmps.getD d undef=cv
structure Inv (C:Cfg) (lo:Nat) (ops:Array Oper) (plan:List OpI) (T0:TT AV) (S:Nat->TS) (M:List Nat) (size:Nat) (g0:Gh) (H0:Heap) (w0:World) (listed:Array Bool) (j:Nat) (g:Gh) (w:World) (Tc:TT AV) (a:Act):Prop extends Inv0 C lo ops plan T0 S M size g0 H0 w0 listed j g w Tc a where
 next:∀ q s,plan[q]? = some s->s.c.chain=true->Kc plan q=j -> ¬ Dn listed q
theorem XA {listed:Array Bool} (hi:i < listed.size):Dn (listed.setIfInBounds i true) q ↔ (q=i\/Dn listed q):=by
 unfold Dn;by_cases e:q=i
 . subst e;simp [hi]
 . rw [Array.getElem?_setIfInBounds_ne (Ne.symm e)];simp [e]
theorem ML {o:Oper} (h:QW o=true) (hc:s.c=.load\/s.c=.read):¬ Xj C fid o=s.c:=by
 intro e;have:Xj C fid o=.fresh:=by
  unfold QW at h;split at h
  . rename_i t hop _;unfold Xj;simp only [hop]
  . rename_i t l c hop _;unfold Xj;simp only [hop]
  . cases h
 rw [this] at e;rcases hc with hc | hc<;>rw [hc] at e<;>cases e
section step
variable {M:List Nat} {size:Nat} {g0:Gh} {w0:World} {listed:Array Bool} {j:Nat} {g:Gh} {w:World} {Tc:TT AV} {a:Act}
theorem RunF.mask_lt (R:RunF C rec fid lo ops plan T0 H0 S):∀ (p:Nat) (o:Oper) (s:OpI),ops[p]? = some o->plan[p]? = some s -> ∀ q,s.m.testBit q=true->q < p:=by
 intro p
 induction p using Nat.strongRecOn with
 | _ p ih =>
   intro o s ho hs q hq;obtain ⟨s',hs',hP⟩:=R.pl p o ho;rw [hs] at hs';simp at hs';subst hs';obtain ⟨e,he,hb,h⟩:=hP.mask q hq;have hlt:=hP.edge e he hb;rcases h with rfl | h
   . exact hlt
   . have hp:p < ops.size:=(Array.getElem?_eq_some_iff.1 ho).1;obtain ⟨oe,hoe⟩:∃ oe,ops[e.on]? = some oe:=⟨ops[e.on],by simp⟩;obtain ⟨se,hse,_⟩:=R.pl e.on oe hoe;unfold mAt at h;rw [hse] at h;exact lt_trans (ih e.on hlt oe se hoe hse q h) hlt
theorem Inv0.dn_lt (I:Inv0 C lo ops plan T0 S M size g0 H0 w0 listed j g w Tc a) (h:Dn listed q):q < ops.size:=by
 have:=(Array.getElem?_eq_some_iff.1 h).1;rw [I.lsz] at this;exact this
theorem Inv.mask (I:Inv C lo ops plan T0 S M size g0 H0 w0 listed j g w Tc a) (R:RunF C rec fid lo ops plan T0 H0 S) {o:Oper} (ho:ops[i]? = some o) (hs:plan[i]? = some s) (hm:∀ q,s.m.testBit q=true->Dn listed q):∀ q,s.m.testBit q=true->Ad plan listed j q:=by
 intro q hq;refine ⟨hm q hq,fun sq hsq hc => ?_⟩;rcases lt_or_ge (Kc plan q) j with h | h
 . exact h
 . exfalso;have hlt:=R.mask_lt i o s ho hs q hq;obtain ⟨s',hs',hP⟩:=R.pl i o ho;rw [hs] at hs';simp at hs';subst hs';have hi:i < ops.size:=(Array.getElem?_eq_some_iff.1 ho).1;obtain ⟨oq,hoq⟩:∃ oq,ops[q]? = some oq:=⟨ops[q],by simp⟩;rcases eq_or_lt_of_le h with e | h2
   . exact I.next q sq hsq hc e.symm (hm q hq)
   . have hk:=(hP.pre q oq sq hlt hoq hsq hc).1 hq;obtain ⟨c,sc,h3,h4,h5,h6⟩:=Kx h2;obtain ⟨oc,hoc⟩:∃ oc,ops[c]? = some oc:=⟨ops[c],by simp⟩;have hb:=(hP.pre c oc sc (by omega) hoc h4 h5).2 (by omega);exact I.next c sc h4 h5 h6 (hm c hb)
theorem Inv0.later (I:Inv0 C lo ops plan T0 S M size g0 H0 w0 listed j g w Tc a) (R:RunF C rec fid lo ops plan T0 H0 S) {o oq:Oper} {sq:OpI} (hni:¬ Dn listed i) (ho:ops[i]? = some o) (hs:plan[i]? = some s) (hq:Dn listed q) (hiq:i < q)
 (hoq:ops[q]? = some oq) (hsq:plan[q]? = some sq):o.apart ops oq=true/\(Qu s.c sq.c=0\/(Qu s.c sq.c=1/\i ∈ sq.conf)\/(s.c.chain=true/\QW oq=true)):=by
 obtain ⟨s',hs',hP⟩:=R.pl q oq hoq;rw [hsq] at hs';simp at hs';subst hs';rcases hP.loose i o s hiq ho hs with h | h
 . exact absurd (I.closed q _ i hq hsq h).1 hni
 . exact h
theorem VV {t:Tmp} (h:Xz ops q=some t):∃ oq,ops[q]? = some oq/\oq.dst=some t:=by
 unfold Xz at h;cases hoq:ops[q]? with
 | none=>rw [hoq] at h;simp at h
 | some oq=>exact ⟨oq,rfl,by rw [hoq] at h;simpa using h⟩
theorem Inv.looks (I:Inv C lo ops plan T0 S M size g0 H0 w0 listed j g w Tc a) (R:RunF C rec fid lo ops plan T0 H0 S) {o:Oper} (hni:¬ Dn listed i) (ho:ops[i]? = some o) (hs:plan[i]? = some s) (hm:∀ q,s.m.testBit q=true->Dn listed q)
 {t:Tmp} (ht:t ∈ o.looksAt ops):Z1 (S i).T t=Z1 Tc t /\ ∀ q,Yx plan listed j q->Xz ops q ≠ some t:=by
 have hi:i < ops.size:=(Array.getElem?_eq_some_iff.1 ho).1;have hA:=I.mask R ho hs hm;obtain ⟨s',hs',hP⟩:=R.pl i o ho;rw [hs] at hs';simp at hs';subst hs';have hafter:∀ q oq,Dn listed q->ops[q]? = some oq->oq.dst=some t->q < i:=fun q oq hdn hoq hqd=>by
  rcases lt_or_ge q i with h | h
  . exact h
  . rcases eq_or_lt_of_le h with e | h
    . subst e;exact absurd hdn hni
    . obtain ⟨sq,hsq,_⟩:=R.pl q oq hoq;have:=(I.later R hni ho hs hdn h hoq hsq).1;exact absurd ht ((Oper.apart_spec this).2.2 t hqd)
 have hbefore:∀ q oq,q < i->ops[q]? = some oq->oq.dst=some t->Ad plan listed j q:=fun q oq hlt hoq hqd=>by
  obtain ⟨sq,hsq,_⟩:=R.pl q oq hoq;rcases hP.loose q oq sq hlt hoq hsq with h | ⟨h,_⟩
  . exact hA q h
  . exact absurd ht ((Oper.apart_spec h).1 t hqd)
 constructor
 . refine (I.cur t _ ((R.cur i (by omega) t).congr fun q hq => ?_)).symm;obtain ⟨oq,hoq,hqd⟩:=VV hq;exact ⟨fun hlt=>hbefore q oq hlt hoq hqd,fun hd=>hafter q oq hd.1 hoq hqd⟩
 . intro q hS hq;obtain ⟨oq,hoq,hqd⟩:=VV hq;exact (hbefore q oq (hafter q oq hS.1 hoq hqd) hoq hqd).not_soon hS
theorem Inv.number (I:Inv C lo ops plan T0 S M size g0 H0 w0 listed j g w Tc a) (R:RunF C rec fid lo ops plan T0 H0 S) {o:Oper} (hni:¬ Dn listed i) (ho:ops[i]? = some o) (hs:plan[i]? = some s) (hm:∀ q,s.m.testBit q=true->Dn listed q)
 (hc:s.c.chain=true):Kc plan i=j\/(j < Kc plan i/\QW o=true):=by
 have h1:¬ Kc plan i < j:=fun h=>hni (I.stage i s hs hc h)
 rcases lt_or_ge j (Kc plan i) with h2 | h2
 . obtain ⟨c,sc,h3,h4,h5,h6⟩:=Kx h2;obtain ⟨s',hs',hP⟩:=R.pl i o ho;rw [hs] at hs';simp at hs';subst hs';have hi:i < ops.size:=(Array.getElem?_eq_some_iff.1 ho).1;obtain ⟨oc,hoc⟩:∃ oc,ops[c]? = some oc:=⟨ops[c],by simp⟩;rcases hP.loose c oc sc h3 hoc h4 with h | ⟨_,h | ⟨h,_⟩ | ⟨_,h⟩⟩
   . exact absurd (hm c h) (I.next c sc h4 h5 h6)
   . exfalso;revert h hc h5;cases sc.c<;>cases s.c<;>simp [Qu,Cls.chain]
   . exfalso;revert h hc h5;cases sc.c<;>cases s.c<;>simp [Qu,Cls.chain]
   . exact .inr ⟨h2,h⟩
 . exact .inl (by omega)
theorem Inv0.dst_ne (I:Inv0 C lo ops plan T0 S M size g0 H0 w0 listed j g w Tc a) (R:RunF C rec fid lo ops plan T0 H0 S) {o:Oper} (hni:¬ Dn listed i) (ho:ops[i]? = some o) (hs:plan[i]? = some s) (hA:∀ q,s.m.testBit q=true->Ad plan listed j q)
 {q:Nat} (hq:Yx plan listed j q) {d:Tmp} (hd:Xz ops q=some d):o.dst ≠ some d:=by
 intro hod;obtain ⟨oq,hoq,hqd⟩:=VV hd;obtain ⟨sq,hsq,_⟩:=R.pl q oq hoq;rcases lt_trichotomy q i with h | h | h
 . obtain ⟨s',hs',hP⟩:=R.pl i o ho;rw [hs] at hs';simp at hs';subst hs';rcases hP.loose q oq sq h hoq hsq with h1 | ⟨h1,_⟩
   . exact (hA q h1).not_soon hq
   . exact (Oper.apart_spec h1).2.1 d hqd hod
 . subst h;exact hni hq.1
 . have:=(I.later R hni ho hs hq.1 h hoq hsq).1;exact (Oper.apart_spec this).2.1 d hod hqd
theorem Inv.same (I:Inv C lo ops plan T0 S M size g0 H0 w0 listed j g w Tc a) (R:RunF C rec fid lo ops plan T0 H0 S) {o:Oper} (hni:¬ Dn listed i) (ho:ops[i]? = some o) (hs:plan[i]? = some s) (hm:∀ q,s.m.testBit q=true->Dn listed q)
 (hc:s.c=.load\/s.c=.read) {ai:Acc} (hai:(S (i+1)).acc=some ai) {id:Nat} (hid:∀ x,ai.apart (.wr x)=true->x ≠ id):∀ d c,s.k<=c->c+d=j->id < (Zn S ops.size c).n->(Zn S ops.size j).get id=(Zn S ops.size c).get id
 | 0,c,_,hd,_=>by rw [show c=j by omega]
 | d+1,c,hk,hd,hlt=>by
   have hcj:c < j:=by omega
   have hnext:=I.same R hni ho hs hm hc hai hid d (c+1) (by omega) (by omega) (lt_of_lt_of_le hlt (I.mono c hcj));rw [hnext];obtain ⟨x,sx,hsx,hch,hdx,hKx⟩:=I.surj c hcj;have hi:i < ops.size:=(Array.getElem?_eq_some_iff.1 ho).1;have hxs:x < ops.size:=by
    have:=(Array.getElem?_eq_some_iff.1 hdx).1;rw [I.lsz] at this;exact this
   obtain ⟨ox,hox⟩:∃ ox,ops[x]? = some ox:=⟨ops[x],by simp⟩;obtain ⟨s',hs',hP⟩:=R.pl i o ho;rw [hs] at hs';simp at hs';subst hs';have hF:=R.op hox hsx;obtain ⟨sx',hsx',hPx⟩:=R.pl x ox hox;rw [hsx] at hsx';simp at hsx';subst hsx';have hne:x ≠ i:=fun e=>hni (e ▸ hdx)
   have loose:∃ n,(n=0\/n=1)/\(n=1 -> ∀ b,(S (x+1)).acc=some b->ai.apart b=true)/\(Qu sx.c s.c=n\/Qu s.c sx.c=n):=by
    rcases lt_or_gt_of_ne hne with h | h
    . rcases hP.loose x ox sx h hox hsx with h1 | ⟨_,h1 | ⟨h1,h2⟩ | ⟨_,h1⟩⟩
      . have:=(hP.pre x ox sx h hox hsx hch).1 h1;omega
      . exact ⟨0,.inl rfl,fun h=>by omega,.inl h1⟩
      . exact ⟨1,.inr rfl,fun _ b hb=>R.apart ho hs h h2 hai hb,.inl h1⟩
      . exact absurd (hP.cls) (ML h1 hc)
    . obtain ⟨_,h1 | ⟨h1,h2⟩ | ⟨h1,_⟩⟩:=I.later R hni ho hs hdx h hox hsx
      . exact ⟨0,.inl rfl,fun h=>by omega,.inr h1⟩
      . exact ⟨1,.inr rfl,fun _ b hb=>by rw [Acc.apart_comm];exact R.apart hox hsx h h2 hb hai,.inr h1⟩
      . rcases hc with hc | hc<;>rw [hc] at h1<;>cases h1
   obtain ⟨n,hn,hap,hmt⟩:=loose;subst hKx;cases hcx:sx.c with
   | data=>rw [hcx] at hch;cases hch
   | load=>rw [hcx] at hch;cases hch
   | read=>rw [hcx] at hch;cases hch
   | fresh=>exact I.keep x sx hdx hsx hcx hcj id hlt
   | write =>
     exfalso;rw [hcx] at hmt;rcases hc with hc | hc<;>rw [hc] at hmt<;>simp [Qu] at hmt<;>omega
   | writeAt =>
     cases hw:Ya ops.toList (S x).T ox with
     | false=>rw [(hF.off hw).2.2 hch]
     | true =>
       obtain ⟨hop,m,hacc⟩:=hF.chain hw hch;have hn1:n=1:=by
        rw [hcx] at hmt;rcases hc with hc | hc<;>rw [hc] at hmt<;>simp [Qu] at hmt<;>omega
       refine MF (n:=m) R.hat (hPx.cls.trans hcx) hop id hlt fun e => ?_
       rw [hcx] at hacc;have:=hap hn1 (.wr id) (by rw [hacc,e]);exact hid id this rfl
end step
end
section
variable {ops:Array Oper} {plan:List OpI} {T0:TT AV} {H0:Heap} {S:Nat->TS}
variable {M:List Nat} {size:Nat} {g0:Gh} {w0:World} {listed:Array Bool} {j:Nat} {g:Gh} {w:World} {Tc:TT AV} {a:Act}
def d_lt (d:Tmp) (n:Nat):Prop:=d < n
theorem Ba {a:Act} {dst:Option Tmp} {d:Tmp} (h:dst=some d) (hd:d_lt d a.tmps.size):(a.put dst cv).tmps.getD d undef=cv:=by
 subst h;unfold d_lt at hd;simp [Act.put,hd]
theorem UV {a:Act} {dst:Option Tmp} {d:Tmp} (h:dst ≠ some d):(a.put dst cv).tmps.getD d undef=a.tmps.getD d undef:=by
 cases dst with
 | none=>rfl
 | some d' =>
   have:d' ≠ d:=fun e=>h (by rw [e])
   simp only [Act.put,Array.getD_eq_getD_getElem?];rw [Array.getElem?_setIfInBounds_ne this]
theorem Yx.cases (hil:i < listed.size) (h:Yx plan (listed.setIfInBounds i true) j' q) (hj:j<=j'):q=i\/Yx plan listed j q:=by
 obtain ⟨h1,s,h2,h3,h4⟩:=h;rcases (XA hil).1 h1 with h5 | h5
 . exact .inl h5
 . exact .inr ⟨h5,s,h2,h3,by omega⟩
theorem Ad.put (hil:i < listed.size) (h:Ad plan listed j q) (hj:j<=j'):Ad plan (listed.setIfInBounds i true) j' q :=
 ⟨(XA hil).2 (.inr h.1),fun s h1 h2=>lt_of_lt_of_le (h.2 s h1 h2) hj⟩
theorem Inv.put (I:Inv C lo ops plan T0 S M size g0 H0 w0 listed j g w Tc a) (R:RunF C rec fid lo ops plan T0 H0 S) {o:Oper} (hni:¬ Dn listed i) (ho:ops[i]? = some o) (hs:plan[i]? = some s) (hm:∀ q,s.m.testBit q=true→Dn listed q)
 (hdst:∀ d,o.dst=some d→d < size) {g':Gh} {w':World} {j':Nat} (hj:(s.c.chain=true→Kc plan i=j∧j'=j+1)∧(s.c.chain=false→j'=j)) (hR:Rel C g' (Zn S ops.size j') w') (hE:Ext lo g (Zn S ops.size j) w g' (Zn S ops.size j') w')
 {cv:Value} (hv:VRel g' (Zn S ops.size j').n (S (i+1)).v cv) (hkeep:s.c=.fresh → ∀ id,id < (Zn S ops.size j).n→(Zn S ops.size j').get id=(Zn S ops.size j).get id) :
 Inv0 C lo ops plan T0 S M size g0 H0 w0 (listed.setIfInBounds i true) j' g' w' (putT Tc o.dst (S (i+1)).v) (a.put o.dst cv):=by
 have hi:i < ops.size:=(Array.getElem?_eq_some_iff.1 ho).1;have hil:i < listed.size:=by rw [I.lsz];exact hi
 have hA:=I.mask R ho hs hm;have hjj:j≤j':=by
  cases hch:s.c.chain with
  | true=>have:=(hj.1 hch).2;omega
  | false=>have:=hj.2 hch;omega
 have hone:∀ q sq,plan[q]? = some sq→sq.c.chain=true→Kc plan q < j'→q=i∨Kc plan q < j:=fun q sq hsq hcq hlt=>by
  cases hch:s.c.chain with
  | true =>
    obtain ⟨h1,h2⟩:=hj.1 hch;rcases lt_or_ge (Kc plan q) j with h | h
    · exact .inr h
    · exact .inl (B8 hsq hcq hs hch (by omega))
  | false=>have:=hj.2 hch;exact .inr (by omega)
 have hAi:Ad plan (listed.setIfInBounds i true) j' i:=⟨(XA hil).2 (.inl rfl),fun s' h1 h2=>by
  rw [hs] at h1;simp at h1;subst h1;obtain ⟨h3,h4⟩:=hj.1 h2;omega⟩
 have hSoon:∀ q,Yx plan (listed.setIfInBounds i true) j' q→Yx plan listed j q:=fun q hq=>by
  rcases hq.cases hil hjj with h | h
  · subst h;exact absurd hq hAi.not_soon
  · exact h
 have hSoon':∀ q,Yx plan listed j q→Yx plan (listed.setIfInBounds i true) j' q:=fun q hq=>by
  obtain ⟨h1,sq,h2,h3,h4⟩:=hq;refine ⟨(XA hil).2 (.inr h1),sq,h2,h3, ?_⟩;rcases lt_or_ge (Kc plan q) j' with h | h
  · rcases hone q sq h2 h3 h with h5 | h5
    · subst h5;exact absurd h1 hni
    · omega
  · exact h
 have hAd:∀ q,Ad plan (listed.setIfInBounds i true) j' q→q=i∨Ad plan listed j q:=fun q hq=>by
  rcases (XA hil).1 hq.1 with h | h
  · exact .inl h
  · rcases B9 (plan:=plan) (j:=j) h with h1 | h1
    · exact .inr h1
    · exact absurd (hSoon' q h1) hq.not_soon
 have hd:Xz ops i=o.dst:=by simp [Xz,ho]
 refine ⟨by simp [I.lsz], ?_, ?_, ?_,hR,I.ext.trans hE, ?_,by rw [V7];exact I.tsz, ?_, ?_, ?_, ?_, ?_, ?_⟩
 · intro p sp q hp hsp hq;rcases (XA hil).1 hp with rfl | hp
   · rw [hs] at hsp;simp at hsp;subst hsp;exact (hA q hq).put hil hjj
   · exact (I.closed p sp q hp hsp hq).put hil hjj
 · intro c sc hsc hcc hlt;rw [XA hil];rcases hone c sc hsc hcc hlt with h | h
   · exact .inl h
   · exact .inr (I.stage c sc hsc hcc h)
 · intro c hc;have old:c < j → ∃ x s,plan[x]? = some s∧s.c.chain=true∧Dn (listed.setIfInBounds i true) x∧Kc plan x=c:=fun h=>by
    obtain ⟨x,sx,h1,h2,h3,h4⟩:=I.surj c h;exact ⟨x,sx,h1,h2,(XA hil).2 (.inr h3),h4⟩
   cases hch:s.c.chain with
   | true =>
     obtain ⟨h1,h2⟩:=hj.1 hch;rcases lt_or_ge c j with h | h
     · exact old h
     · exact ⟨i,s,hs,hch,(XA hil).2 (.inl rfl),by omega⟩
   | false =>
     rw [hj.2 hch] at hc;exact old hc
 · have:=I.marks.mono hE.n hE.le;cases o.dst<;>exact this
 · intro t ht;rw [VT];split
   · rename_i e
     have:d_lt t a.tmps.size:=by rw [I.tsz];exact hdst t e
     rw [Ba e this];exact hv
   · rename_i e
     rw [UV e];exact (I.frame t fun q hq=>ht q (hSoon' q hq)).mono hE.n hE.le
 · intro t v hcur;rw [VT];split
   · rename_i e
     rcases hcur with ⟨q,h1,h2,h3,h4⟩ | ⟨h1,_⟩
     · rw [h4];have hq:q=i:=by
        have h5:=h3 i hAi (by rw [hd,e]);rcases hAd q h1 with h6 | h6
        · exact h6
        · exfalso;have hqi:i < q:=by
           rcases eq_or_lt_of_le h5 with h7 | h7
           · exact absurd (h7 ▸ h6.1) hni
           · exact h7
          obtain ⟨oq,hoq,hqd⟩:=VV h2;obtain ⟨sq,hsq,_⟩:=R.pl q oq hoq;have:=(I.later R hni ho hs h6.1 hqi hoq hsq).1;exact (Oper.apart_spec this).2.1 t e hqd
       rw [hq]
     · exact absurd (by rw [hd,e]) (h1 i hAi)
   · rename_i e
     refine I.cur t v (hcur.congr fun q hq=>⟨fun h => ?_,fun h=>h.put hil hjj⟩);rcases hAd q h with h | h
     · subst h;rw [hd] at hq;exact absurd hq e
     · exact h
 · intro c hc;cases hch:s.c.chain with
   | true =>
     obtain ⟨h1,h2⟩:=hj.1 hch;rw [h2] at hc hE;rcases lt_or_ge c j with h | h
     · exact I.mono c h
     · have:c=j:=by omega
       subst this;exact hE.n
   | false =>
     rw [hj.2 hch] at hc;exact I.mono c hc
 · intro c hc;have old:c≤j→lo≤(Zn S ops.size c).n∧(Zn S ops.size c).n≤(Zn S ops.size j').n ∧ ∃ gc wc,Rel C gc (Zn S ops.size c) wc∧Gh.le (Zn S ops.size c).n gc g':=fun h=>by
    obtain ⟨h1,h2,gc,wc,h3,h4⟩:=I.past c h;exact ⟨h1,Nat.le_trans h2 hE.n,gc,wc,h3,h4.trans hE.le h2⟩
   rcases lt_or_ge j c with h | h
   · have:c=j':=by
      cases hch:s.c.chain with
      | true=>have:=(hj.1 hch).2;omega
      | false=>have:=hj.2 hch;omega
     subst this;exact ⟨Nat.le_trans (I.past j (Nat.le_refl _)).1 hE.n,Nat.le_refl _,g',w',hR,.refl _ _⟩
   · exact old h
 · intro x sx hx hsx hcx hKx id hid;rcases (XA hil).1 hx with rfl | hx
   · rw [hs] at hsx;simp at hsx;subst hsx;have hch:s.c.chain=true:=by rw [hcx];rfl
     obtain ⟨h1,h2⟩:=hj.1 hch;rw [h1] at hid ⊢;rw [← h2];exact hkeep hcx id hid
   · have hch:sx.c.chain=true:=by rw [hcx];rfl
     rcases hone x sx hsx hch hKx with h | h
     · exact absurd (h ▸ hx) hni
     · exact I.keep x sx hx hsx hcx h id hid
 · obtain ⟨B,hB1,hB2⟩:=I.soon;refine ⟨B,fun p q hp hq=>hB1 p q (hSoon p hp) (hSoon q hq),fun q hq => ?_⟩;obtain ⟨cq,h1,h2⟩:=hB2 q (hSoon q hq);exact ⟨cq,h1.ext hE,fun d hd'=>by rw [UV (I.dst_ne R hni ho hs hA (hSoon q hq) hd')];exact h2 d hd'⟩
theorem Inv.putEarly (I:Inv C lo ops plan T0 S M size g0 H0 w0 listed j g w Tc a) (R:RunF C rec fid lo ops plan T0 H0 S) {o:Oper} (hni:¬ Dn listed i) (ho:ops[i]? = some o) (hs:plan[i]? = some s) (hm:∀ q,s.m.testBit q=true->Dn listed q)
 (hdst:∀ d,o.dst=some d->d < size) (hch:s.c.chain=true) (hk:j < Kc plan i) {vals:List Value} {e:TypeId} {cs:List AV} {cv:Value}
 (h1:Zn S ops.size (Kc plan i+1)=(Zn S ops.size (Kc plan i)).push (.cells cs e)) (h2:∀ g' n,Zb g' n cs vals) (h3:∀ g':Gh,VRel (g'.adopt (Zn S ops.size (Kc plan i)).n w.heap.size vals.length) ((Zn S ops.size (Kc plan i)).n+1) (S (i+1)).v cv) :
 Inv C lo ops plan T0 S M size g0 H0 w0 (listed.setIfInBounds i true) j g (w.alloc (.cells vals.toArray e)) Tc (a.put o.dst cv):=by
 have hi:i < ops.size:=(Array.getElem?_eq_some_iff.1 ho).1;have hil:i < listed.size:=by rw [I.lsz];exact hi
 have hA:=I.mask R ho hs hm;obtain ⟨hR,hE,hEa⟩:=I.rel.early lo vals.toArray e;have hd:Xz ops i=o.dst:=by simp [Xz,ho]
 have hSi:Yx plan (listed.setIfInBounds i true) j i:=⟨(XA hil).2 (.inl rfl),s,hs,hch,by omega⟩;have hSoon:∀ q,Yx plan (listed.setIfInBounds i true) j q->q=i\/Yx plan listed j q:=fun q hq=>hq.cases hil (Nat.le_refl _)
 have hSoon':∀ q,Yx plan listed j q->Yx plan (listed.setIfInBounds i true) j q:=fun q hq=>⟨(XA hil).2 (.inr hq.1),hq.2⟩
 have hAd:∀ q,Ad plan (listed.setIfInBounds i true) j q ↔ Ad plan listed j q:=fun q=>⟨fun hq=>by
  rcases (XA hil).1 hq.1 with h | h
  . subst h;exact absurd hSi hq.not_soon
  . exact ⟨h,hq.2⟩,fun hq=>hq.put hil (Nat.le_refl _)⟩
 refine ⟨⟨by simp [I.lsz], ?_, ?_, ?_,hR,I.ext.trans hE, ?_,by rw [V7];exact I.tsz, ?_, ?_,I.mono,I.past, ?_, ?_⟩, ?_⟩
 . intro p sp q hp hsp hq;rw [hAd];rcases (XA hil).1 hp with rfl | hp
   . rw [hs] at hsp;simp at hsp;subst hsp;exact hA q hq
   . exact I.closed p sp q hp hsp hq
 . intro c sc hsc hcc hlt;exact (XA hil).2 (.inr (I.stage c sc hsc hcc hlt))
 . intro c hc;obtain ⟨x,sx,k1,k2,k3,k4⟩:=I.surj c hc;exact ⟨x,sx,k1,k2,(XA hil).2 (.inr k3),k4⟩
 . have:=I.marks;cases o.dst<;>exact this
 . intro t ht;have hne:o.dst ≠ some t:=by rw [<- hd];exact ht i hSi
   rw [UV hne];exact I.frame t fun q hq=>ht q (hSoon' q hq)
 . intro t v hcur;exact I.cur t v (hcur.congr fun q _=>hAd q)
 . intro x sx hx hsx hcx hKx id hid;rcases (XA hil).1 hx with rfl | hx
   . omega
   . exact I.keep x sx hx hsx hcx hKx id hid
 . obtain ⟨B,hB1,hB2⟩:=I.soon;have hlt:∀ q,Yx plan listed j q->B q < w.heap.size:=fun q hq=>by
    obtain ⟨cq,k1,_⟩:=hB2 q hq;exact k1.lt
   have hni':∀ q,Yx plan listed j q->q ≠ i:=fun q hq e=>hni (e ▸ hq.1)
   refine ⟨fun q=>if q=i then w.heap.size else B q,fun p q hp hq => ?_,fun q hq => ?_⟩
   . simp only [];rcases hSoon p hp with k1 | k1<;>rcases hSoon q hq with k2 | k2
     . intro _;rw [k1,k2]
     . have:=hlt q k2;rw [if_pos k1,if_neg (hni' q k2)];intro h;omega
     . have:=hlt p k1;rw [if_neg (hni' p k1),if_pos k2];intro h;omega
     . rw [if_neg (hni' p k1),if_neg (hni' q k2)];exact hB1 p q k1 k2
   . simp only [];rcases hSoon q hq with k1 | k1
     . subst k1;rw [if_pos rfl];refine ⟨cv,⟨by have:=I.ext.size;exact this,vals,e,cs,by simpa using hEa,h2,h1,h3⟩,fun d hd' => ?_⟩;rw [hd] at hd';exact Ba hd' (by unfold d_lt;rw [I.tsz];exact hdst d hd')
     . rw [if_neg (hni' q k1)];obtain ⟨cq,k2,k3⟩:=hB2 q k1;exact ⟨cq,k2.ext hE,fun d hd'=>by rw [UV (I.dst_ne R hni ho hs hA k1 hd')];exact k3 d hd'⟩
 . intro q sq hsq hcq hkq hdn;rcases (XA hil).1 hdn with rfl | h
   . omega
   . exact I.next q sq hsq hcq hkq h
theorem Inv0.adopt (I:Inv0 C lo ops plan T0 S M size g0 H0 w0 listed j g w Tc a) (R:RunF C rec fid lo ops plan T0 H0 S) (hs:plan[i]? = some s) (hch:s.c.chain=true) (hk:Kc plan i=j) (hdn:Dn listed i) :
 ∃ g' Tc',Inv0 C lo ops plan T0 S M size g0 H0 w0 listed (j+1) g' w Tc' a:=by
 have hi:i < ops.size:=I.dn_lt hdn;obtain ⟨o,ho⟩:∃ o,ops[i]? = some o:=⟨ops[i],by simp⟩;have hSi:Yx plan listed j i:=⟨hdn,s,hs,hch,by omega⟩;obtain ⟨B,hB1,hB2⟩:=I.soon;obtain ⟨cv,hI,hcv⟩:=hB2 i hSi;obtain ⟨vals,e,cs,hE,h2,h1,h3⟩:=hI.is;rw [hk] at h1 h3;have hd:Xz ops i=o.dst:=by simp [Xz,ho]
 have hle:=UU g (Zn S ops.size j).n (B i) vals.length;have hn:(Zn S ops.size (j+1)).n=(Zn S ops.size j).n+1:=by rw [h1];simp
 have hone:∀ q sq,plan[q]? = some sq→sq.c.chain=true→Kc plan q < j+1→q=i∨Kc plan q < j:=fun q sq hsq hcq hlt=>by
  rcases lt_or_ge (Kc plan q) j with h | h
  · exact .inr h
  · exact .inl (B8 hsq hcq hs hch (by omega))
 have hSoon:∀ q,Yx plan listed (j+1) q→Yx plan listed j q∧q ≠ i:=fun q ⟨k1,sq,k2,k3,k4⟩=>⟨⟨k1,sq,k2,k3,by omega⟩,fun e=>by subst e;omega⟩
 have hSoon':∀ q,Yx plan listed j q→q ≠ i→Yx plan listed (j+1) q:=fun q ⟨k1,sq,k2,k3,k4⟩ hne=>by
  refine ⟨k1,sq,k2,k3, ?_⟩;rcases lt_or_ge (Kc plan q) (j+1) with h | h
  · rcases hone q sq k2 k3 h with h5 | h5
    · exact absurd h5 hne
    · omega
  · exact h
 have hAi:Ad plan listed (j+1) i:=⟨hdn,fun _ _ _=>by omega⟩;have hAd':∀ q,Ad plan listed j q→Ad plan listed (j+1) q:=fun q hq=>⟨hq.1,fun sq k1 k2=>by have:=hq.2 sq k1 k2;omega⟩
 have hAd:∀ q,Ad plan listed (j+1) q→q ≠ i→Ad plan listed j q:=fun q hq hne=>by
  rcases B9 (plan:=plan) (j:=j) hq.1 with k1 | k1
  · exact k1
  · exact absurd (hSoon' q k1 hne) hq.not_soon
 refine ⟨g.adopt (Zn S ops.size j).n (B i) vals.length,putT Tc o.dst (S (i+1)).v,I.lsz, ?_, ?_, ?_, ?_, ?_, ?_,I.tsz, ?_, ?_, ?_, ?_, ?_, ?_⟩
 · intro p sp q hp hsp hq;exact hAd' q (I.closed p sp q hp hsp hq)
 · intro c sc hsc hcc hlt;rcases hone c sc hsc hcc hlt with h | h
   · subst h;exact hdn
   · exact I.stage c sc hsc hcc h
 · intro c hc;rcases lt_or_ge c j with h | h
   · exact I.surj c h
   · exact ⟨i,s,hs,hch,hdn,by omega⟩
 · rw [h1];exact I.rel.adopt hE (h2 _ _)
 · rw [h1];exact I.ext.adopt hI.new
 · exact I.marks.mono (by omega) hle
 · intro t ht;rw [VT];split
   · rename_i e1
     rw [hcv t (by rw [hd,e1]),hn];exact h3 g
   · rename_i e1
     refine (I.frame t fun q hq => ?_).mono (by omega) hle;by_cases hqi:q=i
     · subst hqi;rw [hd];exact e1
     · exact ht q (hSoon' q hq hqi)
 · intro t v hcur;rw [VT];split
   · rename_i e1
     rcases hcur with ⟨q,k1,k2,k3,k4⟩ | ⟨k1,_⟩
     · rw [k4];have hq:q=i:=by
        have h5:=k3 i hAi (by rw [hd,e1]);rcases eq_or_lt_of_le h5 with h7 | h7
        · exact h7.symm
        · exfalso;obtain ⟨oq,hoq,hqd⟩:=VV k2;obtain ⟨sq,hsq,hP⟩:=R.pl q oq hoq;rcases hP.loose i o s h7 ho hs with h8 | ⟨h8,_⟩
          · exact (I.closed q sq i k1.1 hsq h8).not_soon hSi
          · exact (Oper.apart_spec h8).2.1 t e1 hqd
       rw [hq]
     · exact absurd (by rw [hd,e1]) (k1 i hAi)
   · rename_i e1
     refine I.cur t v (hcur.congr fun q hq=>⟨fun h=>hAd q h fun e2 => ?_,hAd' q⟩);subst e2;rw [hd] at hq;exact e1 hq
 · intro c hc;rcases lt_or_ge c j with h | h
   · exact I.mono c h
   · have:c=j:=by omega
     subst this;omega
 · intro c hc;rcases lt_or_ge j c with h | h
   · have:c=j+1:=by omega
     subst this;have:=(I.past j (Nat.le_refl _)).1;exact ⟨by omega,Nat.le_refl _,_,w,by rw [h1];exact I.rel.adopt hE (h2 _ _),.refl _ _⟩
   · obtain ⟨k1,k2,gc,wc,k3,k4⟩:=I.past c h;exact ⟨k1,by omega,gc,wc,k3,k4.trans hle k2⟩
 · intro x sx hx hsx hcx hKx id hid;have hcx':sx.c.chain=true:=by rw [hcx];rfl
   rcases hone x sx hsx hcx' hKx with h | h
   · subst h;rw [hk] at hid ⊢;rw [h1,Heap.get_push,if_neg (ne_of_lt hid)]
   · exact I.keep x sx hx hsx hcx h id hid
 · refine ⟨B,fun p q hp hq=>hB1 p q (hSoon p hp).1 (hSoon q hq).1,fun q hq => ?_⟩;obtain ⟨k1,k2⟩:=hSoon q hq;obtain ⟨cq,k3,k4⟩:=hB2 q k1;refine ⟨cq, ?_,k4⟩;rw [h1];exact k3.adopt fun e1=>k2 (hB1 q i k1 hSi e1.symm)
theorem Inv0.catchUp (R:RunF C rec fid lo ops plan T0 H0 S):∀ (n j:Nat) (g:Gh) (Tc:TT AV),Kc plan ops.size<=j+n->Inv0 C lo ops plan T0 S M size g0 H0 w0 listed j g w Tc a -> ∃ j' g' Tc',Inv C lo ops plan T0 S M size g0 H0 w0 listed j' g' w Tc' a:=by
 intro n
 induction n with
 | zero =>
   intro j g Tc hn I;refine ⟨j,g,Tc,I,fun q s hs hc hk hdn => ?_⟩;have:=VU (plan:=plan) hs hc (I.dn_lt hdn);omega
 | succ n ih =>
   intro j g Tc hn I;by_cases h:∃ q s,plan[q]? = some s/\s.c.chain=true/\Kc plan q=j/\Dn listed q
   . obtain ⟨q,s,h1,h2,h3,h4⟩:=h;obtain ⟨g',Tc',I'⟩:=I.adopt R h1 h2 h3 h4;exact ih (j+1) g' Tc' (by omega) I'
   . exact ⟨j,g,Tc,I,fun q s h1 h2 h3 h4=>h ⟨q,s,h1,h2,h3,h4⟩⟩
theorem VW {n:Nat}:∀ {l:List AV},YW n l=true -> ∀ (i:Nat) (v:AV),l[i]? = some v->v.under n=true
 | [],_,i,v,h=>by simp at h
 | x::l,hb,i,v,h=>by
   simp only [YW,and_eq_true] at hb;cases i with
   | zero=>simp at h;subst h;exact hb.1
   | succ i=>exact VW hb.2 i v (by simpa using h)
theorem VRel.under {g:Gh} (h:VRel g n v cv):∀ {k:Nat},v.under k=true->VRel g k v cv:=by
 induction h with
 | bool b=>intro _ _;exact .bool b
 | int k i=>intro _ _;exact .int k i
 | flt k b=>intro _ _;exact .flt k b
 | str h=>intro _ _;exact .str h
 | nilp=>intro _ _;exact .nilp
 | ptr _=>intro _ hb;exact .ptr (by simpa [AV.under,blt_eq] using hb)
 | pptr vals hl hk hv _=>intro _ _;exact .pptr vals hl hk hv
 | @ps n tok rows b o cap sz vals hsz hl hk hv hcap htok _ =>
   intro k hb;refine .ps vals hsz hl hk hv hcap ?_;cases tok with
   | tok t=>exact ⟨by simpa [AV.under,blt_eq] using hb,htok.2⟩
   | _=>exact htok
 | psnil h=>intro _ _;exact .psnil h
 | psz h=>intro _ _;exact .psz h
 | rs _ h1 h2=>intro _ hb;exact .rs (by simpa [AV.under,blt_eq] using hb) h1 h2
 | nilm=>intro _ _;exact .nilm
 | map _=>intro _ hb;exact .map (by simpa [AV.under,blt_eq] using hb)
 | fn hl hl' hf hc ihf ihc =>
   intro k hb;simp only [AV.under,and_eq_true] at hb;exact .fn hl hl' (fun i c v h1 h2=>ihf i c v h1 h2 (VW hb.1 i c h1)) (fun i c v h1 h2=>ihc i c v h1 h2 (VW hb.2 i c h1))
 | yld _=>intro _ hb;exact .yld (by simpa [AV.under,blt_eq] using hb)
 | nilf=>intro _ _;exact .nilf
 | nili=>intro _ _;exact .nili
 | agg hl hv ih=>intro k hb;exact .agg hl fun i c v h1 h2=>ih i c v h1 h2 (VW (by simpa [AV.under] using hb) i c h1)
 | tup hl hv ih=>intro k hb;exact .tup hl fun i c v h1 h2=>ih i c v h1 h2 (VW (by simpa [AV.under] using hb) i c h1)
def Jk (T:TT AV):List Tmp->TT AV
 | []=>.leaf
 | t::l=>JD (Jk T l) t (Z1 T t)
theorem VX (T:TT AV) (t:Tmp):∀ l,Z1 (Jk T l) t=if t ∈ l then Z1 T t else Y9
 | []=>by simp [Jk,Z1,TT.get]
 | x::l=>by
   simp only [Jk,VH,VX T t l,mem_cons];by_cases e:t=x
   . subst e;simp
   . simp [e]
def Xk (a:Act) (l:List Tmp):Act:={ a with tmps:=Array.ofFn (n:=a.tmps.size) fun t=>if t.val ∈ l then a.tmps.getD t undef else undef }
theorem Fl (a:Act) (l:List Tmp) (t:Tmp):(Xk a l).tmps.getD t undef=if t ∈ l then a.tmps.getD t undef else undef:=by
 simp only [Xk,Array.getD_eq_getD_getElem?,Array.getElem?_ofFn];by_cases h:t < a.tmps.size
 . simp [h]
 . rw [dif_neg h];have:a.tmps[t]? = none:=Array.getElem?_eq_none (le_of_not_lt h);simp [this]
theorem MM {a a':Act} (hs:a.tmps.size=a'.tmps.size) {dst:Option Tmp} (hd:∀ d,dst=some d->d < a.tmps.size) {v:Value} (h:a'.put dst cv=a'.put dst v):a.put dst v=a.put dst cv:=by
 cases dst with
 | none=>rfl
 | some d =>
   have h1:(a'.tmps.setIfInBounds d cv)[d]? = (a'.tmps.setIfInBounds d v)[d]?:=congrArg (fun x:Act=>x.tmps[d]?) h;have:d < a'.tmps.size:=by rw [<- hs];exact hd d rfl
   simp [this] at h1;rw [h1]
theorem MN {F : Fence} {o : Oper} {a a' : Act} {w : World} {next next' : Act → World → Prop} {Q : Exit → Act → World → Prop} (hsel : ∀ cs b, o.op ≠ .select cs b) (hdef : ∀ c, o.op ≠ .defer c) (he : ∀ x ∈ o.op.operands, a.eval x = a'.eval x)
    (hn0 : ∀ x w', next' x w' → x.defers = a'.defers) (hn : ∀ v w', next' (a'.put o.dst v) w' → next (a.put o.dst v) w') (h : o.wpIn F 0 P a' w next' (fun _ _ _ => False)) : o.wpIn F 0 P a w next Q := by
  have e1 : execOp a.eval o = execOp a'.eval o := execOp_congr o hsel he
  have e2 : o.about P w a.eval = o.about P w a'.eval := about_congr o w he
  refine ⟨fun f hf => h.1 f (by rw [← e2]; exact hf), ?_⟩
  have h2 := h.2
  rw [Oper.semAt_eq _ _ _ hdef] at h2 ⊢
  rw [e1]
  generalize (execOp a'.eval o).run P w = r at h2
  have lets : LetsOut (fun (_ : Exit) (_ : Act) (_ : World) => False) → False := fun ⟨_, _, h⟩ => h
  cases r with
  | ok x w' =>
    cases x <;> simp only [Oper.uponIn] at h2 ⊢
    case value v => exact hn _ _ h2
    case skip => exact hn _ _ h2
    case defer d =>
      have := hn0 _ _ h2
      exfalso
      have e : (({ a' with defers := d :: a'.defers } : Act).put o.dst undef).defers = d :: a'.defers := by cases o.dst <;> rfl
      rw [e] at this
      have := congrArg List.length this
      simp at this
    case enter f args => exact ⟨h2.1, h2.2.mono fun e w'' he => by cases e <;> first | exact hn _ _ he | exact he.elim | exact (lets he).elim⟩
    case row r args => exact ⟨h2.1, h2.2.mono fun v w'' he => hn _ _ he⟩
    case round l f tmps as bd => exact ⟨h2.1, h2.2.mono fun e w'' he => by cases e <;> first | exact hn _ _ he | exact he.elim | exact (lets he).elim⟩
  | halt x w' => cases x <;> simp only [Oper.uponIn] at h2 ⊢
theorem MO (a:Act) (l:List Tmp) (t:Tmp) (h:t ∈ l):(Xk a l).tmps[t]? = a.tmps[t]?:=by
 simp only [Xk,Array.getElem?_ofFn];by_cases hs:t < a.tmps.size
 . simp [hs,h]
 . rw [dif_neg hs,Array.getElem?_eq_none (le_of_not_lt hs)]
theorem Fm {l:List Tmp} {x:Operand} (h:∀ t,x=.tmp t->t ∈ l):Z4 C (Jk T l) x=Z4 C T x:=by
 cases x with
 | tmp t=>simp only [Z4];rw [VX,if_pos (h t rfl)]
 | _=>rfl
theorem Fn {a:Act} {l:List Tmp} {x:Operand} (h:∀ t,x=.tmp t->t ∈ l):a.eval x=(Xk a l).eval x:=by
 cases x with
 | tmp t =>
   show a.tmps.getD t undef=(Xk a l).tmps.getD t undef;rw [Fl,if_pos (h t rfl)]
 | _=>rfl
theorem Inv.only (I:Inv C lo ops plan T0 S M size g0 H0 w0 listed j g w Tc a) (R:RunF C rec fid lo ops plan T0 H0 S) {o:Oper} (hni:¬ Dn listed i) (ho:ops[i]? = some o) (hs:plan[i]? = some s) (hm:∀ q,s.m.testBit q=true->Dn listed q) :
 Xy g (Zn S ops.size j).n (Jk (S i).T (o.looksAt ops)) (Xk a (o.looksAt ops)).tmps:=fun t=>by
 rw [VX,Fl];split
 . rename_i ht
   obtain ⟨h1,h2⟩:=I.looks R hni ho hs hm ht;rw [h1];exact I.frame t h2
 . exact VRel.undef
theorem UW {o:Oper} {ops:Array Oper} {x:Operand} (hx:x ∈ o.op.operands):∀ t,x=.tmp t->t ∈ o.looksAt ops:=fun t e=>by
 subst e;exact mem_append_left _ (mem_filterMap.2 ⟨.tmp t,by simpa using hx,rfl⟩)
theorem Inv.wanted (I:Inv C lo ops plan T0 S M size g0 H0 w0 listed j g w Tc a) (R:RunF C rec fid lo ops plan T0 H0 S) {o:Oper} (hni:¬ Dn listed i) (ho:ops[i]? = some o) (hs:plan[i]? = some s) (hm:∀ q,s.m.testBit q=true->Dn listed q) :
 Region.wanted o (yielded ops a.tmps)=Ya ops.toList (S i).T o:=by
 have h1:=AS (ops:=ops) (a:=Xk a (o.looksAt ops)) (I.only R hni ho hs hm) o;have hmem:∀ gj want,o.guard=some (gj,want) -> ∀ d,(ops[gj]?).bind (·.dst)=some d->d ∈ o.looksAt ops:=fun gj want hg d hd=>by
  refine mem_append_right _ ?_;rw [hg];simp only [];rw [hd];simp
 have h2:Ya ops.toList (Jk (S i).T (o.looksAt ops)) o=Ya ops.toList (S i).T o:=by
  unfold Ya;cases hg:o.guard with
  | none=>rfl
  | some p =>
    obtain ⟨gj,want⟩:=p;simp only [];cases hd:Qc ops.toList gj with
    | none=>rfl
    | some d =>
      simp only [];rw [VX,if_pos];rw [Fg,Array.getElem?_toList] at hd;exact hmem gj want hg d hd
 have h3:Region.wanted o (yielded ops (Xk a (o.looksAt ops)).tmps)=Region.wanted o (yielded ops a.tmps):=by
  unfold Region.wanted;cases hg:o.guard with
  | none=>rfl
  | some p =>
    obtain ⟨gj,want⟩:=p;simp only [];have:yielded ops (Xk a (o.looksAt ops)).tmps gj=yielded ops a.tmps gj:=by
     unfold yielded;cases hd:(ops[gj]?).bind (·.dst) with
     | none=>rfl
     | some d =>
       simp only [bind_some];rw [MO a _ d (hmem gj want hg d hd)]
    rw [this]
 rw [<- h3,<- h1,h2]
theorem Inv.run (Sa:Sane C) (ih:∀ t o,rec t=some o→XJ C t o) (I:Inv C lo ops plan T0 S M size g0 H0 w0 listed j g w Tc a) (R:RunF C rec fid lo ops plan T0 H0 S) {o:Oper} (hni:¬ Dn listed i) (ho:ops[i]? = some o) (hs:plan[i]? = some s) (hm:∀ q,s.m.testBit q=true→Dn listed q)
 (hdst:∀ d,o.dst=some d→d < size) {ro:Option Nat} {K:Act→World→Prop} {Q:Exit→Act→World→Prop}
 (hK:∀ j' g' w' Tc' a',Inv C lo ops plan T0 S M size g0 H0 w0 (listed.setIfInBounds i true) j' g' w' Tc' a'→K a' w'):wpOpIn (Yq ro) 0 C.P ops Q i K a w:=by
 have hF:=R.op ho hs
 have hKu:∀ j' g' w' Tc' a',Inv0 C lo ops plan T0 S M size g0 H0 w0 (listed.setIfInBounds i true) j' g' w' Tc' a'→K a' w':=fun j' g' w' Tc' a' I'=>by
  obtain ⟨j2,g2,Tc2,I2⟩:=I'.catchUp R (Kc plan ops.size) j' g' Tc' (by omega)
  exact hK j2 g2 w' Tc2 a' I2
 have honly:=I.only R hni ho hs hm
 have hlo:lo≤(Zn S ops.size j).n:=(I.past j (Nat.le_refl _)).1
 obtain ⟨s',hs',hP⟩:=R.pl i o ho
 rw [hs] at hs';simp at hs';subst hs'
 have hsize:a.tmps.size=(Xk a (o.looksAt ops)).tmps.size:=by simp [Xk]
 have hcong:∀ lo' H,aop C rec fid lo' o (Jk (S i).T (o.looksAt ops)) H=aop C rec fid lo' o (S i).T H:=fun lo' H=>AZ fun x hx=>Fm (UW hx)
 have one:∀ {lo1:Nat} {H1 H2:Heap} {v:AV},lo1≤H1.n→Rel C g H1 w→(∀ x ∈ o.op.operands,∀ v,Z4 C (S i).T x=some v→VRel g H1.n v (a.eval x))→aop C rec fid lo1 o (S i).T H1=some (v,H2) →
  (∀ cv w',ZI C lo1 g H1 w v H2 cv w'→K (a.put o.dst cv) w')→o.wpIn (Yq ro) 0 C.P a w K Q:=by
  intro lo1 H1 H2 v hlo1 hR1 hopn hop next
  let l:=o.op.operands.toList.filterMap fun | .tmp t=>some t | _=>none
  have hmem:∀ t,t ∈ l ↔ .tmp t ∈ o.op.operands:=fun t=>by
   simp only [l,mem_filterMap]
   constructor
   · rintro ⟨x,hx,he⟩
     cases x<;>simp at he
     subst he;simpa using hx
   · intro h;exact ⟨_,by simpa using h,rfl⟩
  have hml:∀ x ∈ o.op.operands,∀ t,x=.tmp t→t ∈ l:=fun x hx t e=>(hmem t).2 (e ▸ hx)
  have hTk:Xy g H1.n (Jk (S i).T l) (Xk a l).tmps:=fun t=>by
   rw [VX,Fl]
   split
   · rename_i ht
     exact hopn (.tmp t) ((hmem t).1 ht) _ rfl
   · exact VRel.undef
  have hopk:aop C rec fid lo1 o (Jk (S i).T l) H1=some (v,H2):=by
   rw [← hop]
   exact AZ fun x hx=>Fm (hml x hx)
  have hsz:a.tmps.size=(Xk a l).tmps.size:=by simp [Xk]
  have hno:(∀ cs b,o.op ≠ .select cs b) ∧ ∀ c,o.op ≠ .defer c:=by
   constructor
   · intro cs b e;unfold aop at hop;rw [e] at hop;cases hop
   · intro c e;unfold aop at hop;rw [e] at hop;cases hop
  refine MN (a':=Xk a l) (next':=fun x w'=>x.defers=(Xk a l).defers ∧ ∀ v,x=(Xk a l).put o.dst v→K (a.put o.dst v) w') hno.1 hno.2 (fun x hx=>Fn (hml x hx)) (fun x w' h=>h.1) (fun v w' h=>h.2 v rfl)
   (AR Sa ih hlo1 hopk hR1 ⟨hTk,hR1.glob⟩ fun cv w' hd=>⟨by cases o.dst<;>rfl,fun v hv => ?_⟩)
  rw [MM hsz (fun d hd=>by rw [I.tsz];exact hdst d hd) hv]
  exact next cv w' hd
 have hopn:∀ x ∈ o.op.operands,∀ v,Z4 C (S i).T x=some v→VRel g (Zn S ops.size j).n v (a.eval x):=fun x hx v hv=>by
  have:=ZR (C:=C) (a:=Xk a (o.looksAt ops)) ⟨honly,I.rel.glob⟩ (x:=x) (v:=v) (by rw [Fm (UW hx)];exact hv)
  rw [← Fn (UW hx)] at this
  exact this
 unfold wpOpIn
 rw [ho]
 simp only []
 rw [I.wanted R hni ho hs hm]
 cases hw:Ya ops.toList (S i).T o with
 | false =>
   simp only [false_eq_true,if_false]
   refine ⟨fun _ _=>trivial, ?_⟩
   obtain ⟨h1,_,h3⟩:=hF.off hw
   have key:∀ j',(s.c.chain=true→Kc plan i=j∧j'=j+1)→(s.c.chain=false→j'=j)→Zn S ops.size j'=Zn S ops.size j→K (a.put o.dst undef) w:=fun j' e1 e2 e3=>by
    refine hKu j' g w _ _ (I.put R hni ho hs hm hdst (j':=j') ⟨e1,e2⟩ (by rw [e3];exact I.rel) (by rw [e3];exact .refl _ _ _ _) (cv:=undef) (by rw [h1];exact VRel.undef) (fun _ id _=>by rw [e3]))
   cases hch:s.c.chain with
   | true =>
     rcases I.number R hni ho hs hm hch with hKj | ⟨_,hl⟩
     · have e:=h3 hch
       rw [hKj] at e
       exact key (j+1) (fun _=>⟨hKj,rfl⟩) (fun h=>by rw [hch] at h;cases h) e
     · exfalso
       have:o.guard=none:=by
        unfold QW at hl
        split at hl
        · assumption
        · assumption
        · cases hl
       unfold Ya at hw
       rw [this] at hw
       cases hw
   | false=>exact key j (fun h=>by rw [hch] at h;cases h) (fun _=>rfl) rfl
 | true =>
   simp only [if_true]
   have quiet:s.c.chain=false → ∀ g' w' cv,Rel C g' (Zn S ops.size j) w'→Ext lo g (Zn S ops.size j) w g' (Zn S ops.size j) w'→VRel g' (Zn S ops.size j).n (S (i+1)).v cv→K (a.put o.dst cv) w':=fun hch g' w' cv r1 r2 r3 =>
    hKu j g' w' _ _ (I.put R hni ho hs hm hdst (j':=j) ⟨fun h=>(by rw [hch] at h;cases h),fun _=>rfl⟩ r1 r2 r3 (fun h=>by rw [h] at hch;cases hch))
   have chain:s.c.chain=true→(Kc plan i=j→o.wpIn (Yq ro) 0 C.P a w K Q)→o.wpIn (Yq ro) 0 C.P a w K Q:=fun hch h=>by
    rcases I.number R hni ho hs hm hch with hKj | ⟨hlt,hl⟩
    · exact h hKj
    · obtain ⟨hop,_⟩:=hF.chain hw hch
      rw [← hcong] at hop
      obtain ⟨e,cs,vals,cv,h1,h2,h3,h4,h5⟩:=MK (C:=C) (g:=g) (a:=Xk a (o.looksAt ops)) hl hop ⟨honly,I.rel.glob⟩
      have hsel:∀ cs b,o.op ≠ .select cs b:=fun cs b e=>by
       unfold QW at hl
       rw [e] at hl
       cases hl
      refine Kw h4 (w':=w.alloc (.cells vals.toArray e)) (cv:=cv w.heap.size) ?_ ?_
      · rw [execOp_congr o hsel (fun x hx=>Fn (UW hx))]
        exact h5 w
      · exact hK j g _ _ _ (I.putEarly R hni ho hs hm hdst hch hlt h1 h2 fun g'=>h3 g' _)
   have hkj:(s.c=.load∨s.c=.read)→s.k≤j:=fun _=>by
    rcases lt_or_ge j s.k with h | h
    · exfalso
      obtain ⟨c,sc,h1,h2,h3,h4⟩:=Kx (lt_of_lt_of_le h hP.k)
      have hi:i < ops.size:=(Array.getElem?_eq_some_iff.1 ho).1
      obtain ⟨oc,hoc⟩:∃ oc,ops[c]? = some oc:=⟨ops[c],by simp⟩
      have hb:=(hP.pre c oc sc h1 hoc h2 h3).2 (by omega)
      have:=(I.mask R ho hs hm c hb).2 sc h2 h3
      omega
    · exact h
   cases hc:s.c with
   | data =>
     obtain ⟨_,H1,H2,hop⟩:=hF.data hw hc
     have hop':=Mz (H1:=Zn S ops.size j) (hP.cls.trans hc) hop
     exact one hlo I.rel hopn hop' fun cv w' ⟨g',r1,r2,r3⟩=>quiet (by rw [hc];rfl) g' w' cv r1 r2 r3
   | load =>
     obtain ⟨⟨H',hop⟩,hacc,_⟩:=hF.quiet hw (.inl hc)
     have hkj:=hkj (.inl hc)
     have hop':=MB (H1:=Zn S ops.size j) (n:=(Zn S ops.size s.k).n) (hP.cls.trans hc) hop fun id hid=>by
      rw [hc,hid] at hacc
      obtain ⟨_,_,gk,wk,hRk,_⟩:=I.past s.k hkj
      have hlive:id < (Zn S ops.size s.k).n:=by
       rcases lt_or_ge id (Zn S ops.size s.k).n with h | h
       · exact h
       · exfalso
         have hdead:=hRk.out id h
         obtain ⟨t,x,hopc⟩:=B0 (hP.cls.trans hc)
         unfold aop at hop
         simp only [hopc] at hop
         unfold Zr at hid
         simp only [hopc] at hid
         cases hx:Z4 C (S i).T x with
         | none=>rw [hx] at hid;cases hid
         | some vx =>
           rw [hx] at hid hop
           cases vx<;>simp only [] at hid<;>first | (cases hid;done) | skip
           simp at hid
           subst hid
           simp only [] at hop
           obtain ⟨h1,_⟩:=X8 hop
           unfold Yl at h1
           split at h1
           · unfold YB at h1
             simp only [hdead,Xw] at h1
             cases h1
           · cases h1
      exact I.same R hni ho hs hm (.inl hc) hacc (fun x hx=>by simp [Acc.apart] at hx;exact fun e=>hx e.symm) (j - s.k) s.k (Nat.le_refl _) (by omega) hlive
     exact one hlo I.rel hopn hop' fun cv w' ⟨g',r1,r2,r3⟩=>quiet (by rw [hc];rfl) g' w' cv r1 r2 r3
   | read =>
     obtain ⟨⟨H',hop⟩,hacc,hbelow⟩:=hF.quiet hw (.inr hc)
     have hkj:=hkj (.inr hc)
     have e:=MD (hP.cls.trans hc) hop
     subst e
     rw [hc] at hacc
     have hget:∀ id,id < (Zn S ops.size s.k).n→(Zn S ops.size j).get id=(Zn S ops.size s.k).get id:=fun id hid =>
      I.same R hni ho hs hm (.inr hc) (ai:=.all (Zn S ops.size s.k).n) hacc (fun x hx=>by simp [Acc.apart] at hx;omega) (j - s.k) s.k (Nat.le_refl _) (by omega) hid
     obtain ⟨hlk,hnk,gk,wk,hRk,hlek⟩:=I.past s.k hkj
     have hRb:=hRk.back I.rel hlek hnk hget
     refine one hlk hRb (fun x hx v hv => ?_) hop fun cv w' ⟨g',r1,r2,r3⟩ => ?_
     · have hr:=hopn x hx v hv
       rw [hc] at hbelow
       unfold YM at hbelow
       simp only [all_eq_true] at hbelow
       have:=hbelow x (by simpa using hx)
       rw [hv] at this
       exact hr.under this
     · obtain ⟨q1,q2,q3⟩:=I.rel.join hnk hget r1 r2 lo
       exact quiet (by rw [hc];rfl) _ w' cv q1 q2 (q3 _ _ r3)
   | fresh =>
     have hch:s.c.chain=true:=by rw [hc];rfl
     refine chain hch fun hKj => ?_
     obtain ⟨hop,_⟩:=hF.chain hw hch
     rw [hKj,ME (lo':=(Zn S ops.size j).n) (hP.cls.trans hc)] at hop
     refine one (Nat.le_refl _) I.rel hopn hop fun cv w' ⟨g',r1,r2,r3⟩ => ?_
     exact hKu (j+1) g' w' _ _ (I.put R hni ho hs hm hdst (j':=j+1) ⟨fun _=>⟨hKj,rfl⟩,fun h=>by rw [hch] at h;cases h⟩ r1 (r2.lower hlo) r3 (fun _ id hid=>r2.keep id hid hid))
   | writeAt =>
     have hch:s.c.chain=true:=by rw [hc];rfl
     refine chain hch fun hKj => ?_
     obtain ⟨hop,_⟩:=hF.chain hw hch
     rw [hKj] at hop
     refine one hlo I.rel hopn hop fun cv w' ⟨g',r1,r2,r3⟩ => ?_
     exact hKu (j+1) g' w' _ _ (I.put R hni ho hs hm hdst (j':=j+1) ⟨fun _=>⟨hKj,rfl⟩,fun h=>by rw [hch] at h;cases h⟩ r1 r2 r3 (fun h=>by rw [hc] at h;cases h))
   | write =>
     have hch:s.c.chain=true:=by rw [hc];rfl
     refine chain hch fun hKj => ?_
     obtain ⟨hop,_⟩:=hF.chain hw hch
     rw [hKj] at hop
     refine one hlo I.rel hopn hop fun cv w' ⟨g',r1,r2,r3⟩ => ?_
     exact hKu (j+1) g' w' _ _ (I.put R hni ho hs hm hdst (j':=j+1) ⟨fun _=>⟨hKj,rfl⟩,fun h=>by rw [hch] at h;cases h⟩ r1 r2 r3 (fun h=>by rw [hc] at h;cases h))
end
end Go.Sim

namespace Go.Sim
variable {C:Cfg} {rec:Rec}
theorem UX {listed:Array Bool} (hq:q < listed.size):¬ Dn listed q ↔ listed[q]? = some false:=by
 unfold Dn;have:listed[q]? = some listed[q]:=Array.getElem?_eq_getElem hq;rw [this];cases listed[q]<;>simp
theorem Fo {md:Region.Mode} {ops:Array Oper} {listed:Array Bool} (hsz:listed.size=ops.size):i ∈ Region.ready md ops listed ↔
 ∃ o,ops[i]? = some o /\ ¬ Dn listed i /\ ∀ e ∈ o.after.toList,Region.binds md e=true->Dn listed e.on:=by
 unfold Region.ready;simp only [mem_filter,mem_range,and_eq_true];constructor
 . rintro ⟨h1,h2,h3⟩;obtain ⟨o,ho⟩:∃ o,ops[i]? = some o:=⟨ops[i],by simp⟩;refine ⟨o,ho, ?_,fun e he hb => ?_⟩
   . rw [UX (by omega)];have:listed[i]? = some listed[i]:=Array.getElem?_eq_getElem (by omega);rw [Array.getD_eq_getD_getElem?,this] at h2;rw [this];simpa using h2
   . rw [ho] at h3;simp only [map_some,getD_some,Array.all_eq_true'] at h3;have:=h3 e (by simpa using he);rw [hb] at this;simp only [Bool.not_true,Bool.false_or] at this;unfold Dn;rw [Array.getD_eq_getD_getElem?] at this;cases hx:listed[e.on]? with
     | none=>rw [hx] at this;simp at this
     | some b=>rw [hx] at this;simp at this;rw [this]
 . rintro ⟨o,ho,h1,h2⟩;have hi:i < ops.size:=(Array.getElem?_eq_some_iff.1 ho).1;refine ⟨hi, ?_, ?_⟩
   . rw [UX (by omega)] at h1;rw [Array.getD_eq_getD_getElem?,h1];rfl
   . rw [ho];simp only [map_some,getD_some,Array.all_eq_true'];intro e he;cases hb:Region.binds md e with
     | false=>rfl
     | true =>
       have:=h2 e (by simpa using he) hb;unfold Dn at this;rw [Array.getD_eq_getD_getElem?,this];rfl
theorem MP (Sa:Sane C) (ih:∀ t o,rec t=some o->XJ C t o):AT C rec:=by
 intro ro fid lo ops plan T H T' H' M g0 w0 a0 Q hplan hdst hlo hrun hR0 hA0 hQ;have hat:=B4 (C:=C) (fid:=fid) (ops:=ops) (plan:=plan) (i:=0) (seen:=[]) hplan ⟨fun q hq=>by simp at hq,fun j hj=>by omega⟩ rfl rfl rfl;have hplen:plan.length=ops.size:=by have:=hat.1;simpa using this
 obtain ⟨S,s1,s2,s3,s4⟩:=B5 (i:=0) (x:=⟨T,H,0,[],[],Y9,none⟩) (by rw [hplen];simp) hrun;have R:RunF C rec fid lo ops plan T H S:=by
  refine ⟨fun p o ho=>hat.2 p o (zero_le _) ho,fun p o s ho hs => ?_,by rw [s1],by rw [s1],by rw [s1],by rw [s1],by rw [s1],Sa.at1⟩;have:=s4 p o s (by rw [Array.getElem?_toList];exact ho) hs;simpa using this
 have hst0:Zn S ops.size 0=H:=by
  have:=R.heap (p:=0) (zero_le _);rw [R.H0] at this;exact this.symm
 have hN:(0+ops.toList.length)=ops.size:=by simp
 rw [hN] at s2 s3;have main:∀ (fuel:Nat) (listed:Array Bool) (j:Nat) (g:Gh) (w:World) (Tc:TT AV) (a:Act),Inv C lo ops plan T S M a0.tmps.size g0 H w0 listed j g w Tc a->listed.toList.count false<=fuel->wpAnyIn (Yq ro) 0 C.P .any ops Q fuel listed a w:=by
  have done:∀ (listed:Array Bool) (j:Nat) (g:Gh) (w:World) (Tc:TT AV) (a:Act),Inv C lo ops plan T S M a0.tmps.size g0 H w0 listed j g w Tc a->Region.ready .any ops listed=[]->Q .normal a w:=by
   intro listed j g w Tc a I hr;have hall:∀ p,p < ops.size->Dn listed p:=by
    intro p
    induction p using Nat.strongRecOn with
    | _ p ihp =>
      intro hp;by_cases h:Dn listed p
      . exact h
      . exfalso;obtain ⟨o,ho⟩:∃ o,ops[p]? = some o:=⟨ops[p],by simp⟩;obtain ⟨s,hs,hP⟩:=R.pl p o ho;have:p ∈ Region.ready .any ops listed:=(Fo I.lsz).2 ⟨o,ho,h,fun e he hb=>ihp e.on (hP.edge e he hb) (by have:=hP.edge e he hb;omega)⟩;rw [hr] at this;simp at this
   have hj:j=Kc plan ops.size:=by
    rcases lt_trichotomy j (Kc plan ops.size) with h | h | h
    . obtain ⟨c,s,h1,h2,h3,h4⟩:=Kx h;exact absurd (hall c h1) (I.next c s h2 h3 h4)
    . exact h
    . obtain ⟨x,s,h1,h2,h3,h4⟩:=I.surj _ h;have hx:x < ops.size:=by
       have:=(Array.getElem?_eq_some_iff.1 h3).1;rw [I.lsz] at this;exact this
      have:=VU (plan:=plan) h1 h2 hx;omega
   have hH':Zn S ops.size j=H':=by
    have:=R.heap (p:=ops.size) (Nat.le_refl _);rw [s3] at this;rw [hj,this]
   have hT':Xy g H'.n T' a.tmps:=fun t=>by
    have hlt:∀ q s,q < ops.size->plan[q]? = some s->s.c.chain=true->Kc plan q < j:=fun q s hq h1 h2=>by
     rw [hj];exact VU h1 h2 hq
    have h1:=I.cur t _ ((R.cur ops.size (Nat.le_refl _) t).congr fun q hq=>⟨fun h=>⟨hall q h,fun s k1 k2=>hlt q s h k1 k2⟩,fun h=>I.dn_lt h.1⟩);have h2:=I.frame t fun q ⟨k1,s,k2,k3,k4⟩=>by
     have:=hlt q s (I.dn_lt k1) k2 k3;omega
    rw [h1,s2,hH'] at h2;exact h2
   have hrel:=I.rel;have hext:=I.ext;have hmk:=I.marks;rw [hH'] at hrel hext hmk;exact hQ g a w hrel hext ⟨⟨hT',hrel.glob⟩,hmk⟩ I.tsz
  intro fuel
  induction fuel with
  | zero =>
    intro listed j g w Tc a I hc;have hr:Region.ready .any ops listed=[]:=by
     rw [eq_nil_iff_forall_not_mem];intro i hi;obtain ⟨o,ho,hn,_⟩:=(Fo I.lsz).1 hi;have hil:i < listed.size:=by rw [I.lsz];exact (Array.getElem?_eq_some_iff.1 ho).1
     rw [UX hil] at hn;have:false ∈ listed.toList:=by
      rw [mem_iff_getElem?];exact ⟨i,by rw [Array.getElem?_toList];exact hn⟩
     have:=count_pos_iff.2 this;omega
    exact ⟨hr,done listed j g w Tc a I hr⟩
  | succ fuel ihf =>
    intro listed j g w Tc a I hc;refine ⟨fun hr=>done listed j g w Tc a I hr,fun i hi => ?_⟩;obtain ⟨o,ho,hn,hed⟩:=(Fo I.lsz).1 hi;obtain ⟨s,hs,hP⟩:=R.pl i o ho;have hio:i < ops.size:=(Array.getElem?_eq_some_iff.1 ho).1;have hil:i < listed.size:=by rw [I.lsz];exact hio
    have hm:∀ q,s.m.testBit q=true->Dn listed q:=fun q hq=>by
     obtain ⟨e,he,hb,h⟩:=hP.mask q hq;have hde:=hed e he hb;rcases h with rfl | h
     . exact hde
     . unfold mAt at h;cases hse:plan[e.on]? with
       | none=>rw [hse] at h;simp at h
       | some se =>
         rw [hse] at h;exact (I.closed e.on se q hde hse h).1
    refine I.run Sa ih R hn ho hs hm (fun d hd=>hdst o (by rw [mem_iff_getElem?];exact ⟨i,by rw [Array.getElem?_toList];exact ho⟩) d hd) fun j' g' w' Tc' a' I' => ?_
    refine ihf _ j' g' w' Tc' a' I' ?_;have hfalse:listed.toList[i]'(by simpa using hil)=false:=by
     rw [UX hil] at hn;have:=Array.getElem?_eq_getElem hil;rw [hn] at this;simpa using this.symm
    have hpos:0 < listed.toList.count false:=count_pos_iff.2 (by rw [<- hfalse];exact getElem_mem _);rw [Array.toList_setIfInBounds,count_set (by simpa using hil),hfalse];simp;have:listed.toList.count false=listed.count false:=by simp
    omega
 refine main ops.size _ 0 g0 w0 T a0 ?_ (by simp);have none0:∀ q,¬ Dn (Array.replicate ops.size false) q:=fun q hp=>by
  unfold Dn at hp;rw [Array.getElem?_replicate] at hp;split at hp<;>simp at hp
 refine ⟨⟨by simp,fun p s q hp _ _=>(none0 p hp).elim,fun c s _ _ h=>by omega,fun c hc=>by omega,by rw [hst0];exact hR0,by rw [hst0];exact .refl _ _ _ _,by rw [hst0];exact hA0.m,rfl,fun t _=>by rw [hst0];exact hA0.f.t t,fun t v hcur => ?_,fun c hc=>by omega,fun c hc => ?_,fun x s hx _ _=>(none0 x hx).elim,fun q=>q,fun p q hp _=>(none0 p hp.1).elim,fun q hq=>(none0 q hq.1).elim⟩,fun q s _ _ _=>none0 q⟩
 . rcases hcur with ⟨q,h1,_⟩ | ⟨_,h2⟩
   . exact (none0 q h1.1).elim
   . exact h2.symm
 . have:c=0:=by omega
   subst this;rw [hst0];exact ⟨hlo,Nat.le_refl _,g0,w0,hR0,.refl _ _⟩
theorem MQ (Sa:Sane C) (ih:∀ t o,rec t=some o->XJ C t o) (t:Task) (o:Out) (h:XS C rec t=some o):XJ C t o:=by
 cases t with
 | call lo f args H=>exact Mt Sa ih h
 | yield lo l args H=>exact Mv Sa ih h
 | code lo fid rnd c s =>
   by_cases hc:∃ f p x y,c=.rangeFunc f p x y
   . obtain ⟨f,p,x,y,rfl⟩:=hc;exact Mw Sa ih h
   . exact Mr Sa ih (MP Sa ih) (fun f p x y e=>hc ⟨f,p,x,y,e⟩) h
theorem run_ok (Sa:Sane C):∀ (k:Nat) (t:Task) (o:Out),run C k t=some o->XJ C t o
 | 0,t,o,h=>by simp [run] at h
 | k+1,t,o,h=>MQ Sa (run_ok Sa k) t o h
end Go.Sim

namespace Go.Sim
def Fin (F:Rec->Option β):Prop :=
 ∀ rec o,F rec=some o -> ∃ L:List (Task × Out),(∀ p ∈ L,rec p.1=some p.2) /\ ∀ rec',(∀ p ∈ L,rec' p.1=some p.2)->F rec'=some o
theorem Fin.const (x:Option β):Fin (fun _=>x):=fun _ _ h=>⟨[],by simp,fun _ _=>h⟩
theorem Fin.ask (t:Task):Fin (fun rec=>rec t):=fun rec o h=>⟨[(t,o)],by simpa using h,fun rec' h'=>h' (t,o) (by simp)⟩
theorem Fin.bind {F:Rec->Option β} {G:β->Rec->Option γ} (hF:Fin F) (hG:∀ a,Fin (G a)):Fin (fun rec=>(F rec).bind fun a=>G a rec):=by
 intro rec o h;simp only [bind_eq_some_iff] at h;obtain ⟨a,h1,h2⟩:=h;obtain ⟨L1,k1,f1⟩:=hF rec a h1;obtain ⟨L2,k2,f2⟩:=hG a rec o h2;refine ⟨L1++L2,fun p hp => ?_,fun rec' h' => ?_⟩
 . rcases mem_append.1 hp with h | h
   . exact k1 p h
   . exact k2 p h
 . simp only [bind_eq_some_iff];exact ⟨a,f1 rec' fun p hp=>h' p (mem_append_left _ hp),f2 rec' fun p hp=>h' p (mem_append_right _ hp)⟩
theorem Fin.of {F:Rec->Option β} {G:β->Rec->Option γ} {K:Rec->Option γ} (hF:Fin F) (hG:∀ a,Fin (G a)) (e:∀ rec,K rec=(F rec).bind fun a=>G a rec):Fin K:=by
 have:K=fun rec=>(F rec).bind fun a=>G a rec:=funext e
 rw [this];exact Fin.bind hF hG
variable (C:Cfg)
theorem MR (lo:Nat) (f:FuncId) (args:List AV) (H:Heap):Fin (fun rec=>Z9 C rec lo f args H):=by
 unfold Z9;cases C.memo f args with
 | some v=>exact .const _
 | none=>cases C.prim f with
   | some p=>exact .const _
   | none=>cases C.hprim f with
     | some p=>exact .const _
     | none =>
       cases htw:(C.twice f && GO args) with
       | true =>
         simp only [if_true];refine .of (.ask (.call H.n f [.ps .nil []] H)) (fun a=>.of (.ask (.call H.n f [.ps .nn []] H)) (fun b=>.const (match a.val,b.val with
         | .ps .nil [],.ps .exact []=>some (.ps .exact [],H)
         | _,_=>none)) (K:=fun rec=>match rec (.call H.n f [.ps .nn []] H) with
         | some b=>match a.val,b.val with
           | .ps .nil [],.ps .exact []=>some (.ps .exact [],H)
           | _,_=>none
         | none=>none) fun rec=>by cases rec (.call H.n f [.ps .nn []] H)<;>rfl) fun rec => ?_
         cases rec (.call H.n f [.ps .nil []] H)<;>cases rec (.call H.n f [.ps .nn []] H)<;>rfl
       | false =>
         simp only [if_false,false_eq_true];cases C.mode f with
         | pure=>exact .of (.ask (.call H.n f args H)) (fun o=>.const (if o.val.strip.pure then some (o.val.strip,H) else none)) fun rec=>by cases rec (.call H.n f args H)<;>rfl
         | fresh=>cases C.born f with
           | some b=>exact .const _
           | none=>exact .of (.ask (.call H.n f args H)) (fun o=>.const (some (o.val,o.s.H))) fun rec=>by cases rec (.call H.n f args H)<;>rfl
         | free=>exact .of (.ask (.call lo f args H)) (fun o=>.const (some (o.val,o.s.H))) fun rec=>by cases rec (.call lo f args H)<;>rfl
theorem MS (fid:FuncId) (lo:Nat) (c:Call) (T:TT AV) (H:Heap):Fin (fun rec=>YV C rec fid lo c T H):=by
 unfold YV;cases Y4 C T c.args.toList with
 | none=>exact .const _
 | some args =>
   cases hc:c.callee with
   | value o =>
     simp only [];cases ho:Z4 C T o with
     | none=>simp only [];exact .const _
     | some v=>cases v with
       | fn f first caps=>simp only [];exact MR C lo f _ H
       | yld l=>simp only [];exact .of (.ask (.yield lo l (args.map AV.strip) H)) (fun o=>.const (some (o.val,o.s.H))) fun rec=>by cases rec (.yield lo l (args.map AV.strip) H)<;>rfl
       | _=>simp only [];exact .const _
   | invoke _ _=>exact .const _
   | builtin b=>exact .const _
theorem UY (fid:FuncId) (lo:Nat) (o:Oper) (T:TT AV) (H:Heap):Fin (fun rec=>aop C rec fid lo o T H):=by
 by_cases hc:∃ c,o.op=.call c
 . obtain ⟨c,hc⟩:=hc;unfold aop;simp only [hc];exact MS C fid lo c T H
 . have:(fun rec=>aop C rec fid lo o T H)=fun _=>aop C (fun _=>none) fid lo o T H:=by
    funext rec
    unfold aop;split<;>first | rfl | (exfalso;exact hc ⟨_,‹_›⟩)
   rw [this];exact .const _
theorem Fp (fid:FuncId) (lo:Nat) (all:List Oper):∀ (l:List Oper) (T:TT AV) (H:Heap),Fin (fun rec=>Ym C rec fid lo all l T H)
 | [],T,H=>.const _
 | o::r,T,H=>by
   unfold Ym;cases Ya all T o with
   | false=>exact Fp fid lo all r _ _
   | true=>exact .of (UY C fid lo o T H) (fun v=>Fp fid lo all r (putT T o.dst v.1) v.2) fun rec=>by cases aop C rec fid lo o T H<;>rfl
theorem V8 (fid:FuncId) (lo:Nat) (all:List Oper):∀ (l:List Oper) (pl:List OpI) (i:Nat) (rd:List (Nat × Acc)) (T:TT AV) (H:Heap) (K:Nat) (hs:List Heap),Fin (fun rec=>Zs C rec fid lo all l pl i rd T H K hs)
 | [],pl,i,rd,T,H,K,hs=>by unfold Zs;exact .const _
 | o::r,[],i,rd,T,H,K,hs=>by unfold Zs;exact .const _
 | o::r,s::ss,i,rd,T,H,K,hs=>by
   unfold Zs;cases Ya all T o with
   | false =>
     cases s.c.chain with
     | true=>exact V8 fid lo all r ss _ _ _ _ _ _
     | false=>exact V8 fid lo all r ss _ _ _ _ _ _
   | true =>
     cases hch:s.c.chain with
     | true =>
       cases Y6 (Zr C T H.n s.c o) s.conf rd with
       | true=>exact .const _
       | false=>exact .of (UY C fid lo o T H) (fun v=>V8 fid lo all r ss (i+1) (YN i (Zr C T H.n s.c o) rd) (putT T o.dst v.1) v.2 (K+1) (H::hs)) fun rec=>by cases aop C rec fid lo o T H<;>rfl
     | false =>
       cases hc:s.c with
       | data=>exact .of (UY C fid lo o T H) (fun v=>V8 fid lo all r ss (i+1) rd (putT T o.dst v.1) H K hs) fun rec=>by cases aop C rec fid lo o T H<;>rfl
       | load | read | fresh | writeAt | write =>
         simp only;cases (Y6 (Zr C T (Zt (K - s.k) H hs).n _ o) s.conf rd || !YM C T (Zt (K - s.k) H hs).n _ o) with
         | true=>exact .const _
         | false=>exact .of (UY C fid lo o T (Zt (K - s.k) H hs)) (fun v=>V8 fid lo all r ss (i+1) (YN i (Zr C T (Zt (K - s.k) H hs).n _ o) rd) (putT T o.dst v.1) H K hs) fun rec=>by cases aop C rec fid lo o T (Zt (K - s.k) H hs)<;>rfl
theorem Fq (t:Task):Fin (fun rec=>XS C rec t):=by
 unfold XS;cases t with
 | call lo f args H =>
   simp only;cases C.good f with
   | false=>exact .const _
   | true=>cases C.P.funcs[f]? with
     | none=>exact .const _
     | some fn=>cases hb:fn.body with
       | none=>simp only [hb];exact .const _
       | some c =>
         simp only [hb];exact .of (.ask (.code lo f false c ⟨XR args 0 .leaf,H,[]⟩)) (fun o=>.const (match o.e with
          | .nrm | .ret=>match Qd o.s.M o.s.H with
            | some H=>match XQ C H o.s.T fn.results.toList with
              | some [v]=>some (.ofVal v H)
              | some vs=>some (.ofVal (.tup vs) H)
              | none=>none
            | none=>none
          | _=>none)) fun rec=>by cases rec (.code lo f false c ⟨XR args 0 .leaf,H,[]⟩)<;>rfl
 | yield lo l args H =>
   simp only;cases H.get l with
   | loop r0 =>
     simp only;split
     . refine .of (.ask (.code lo r0.fid true r0.assign ⟨QV r0.params args r0.tmps,H,[]⟩)) (G:=fun o rec=>match o.e with
        | .nrm=>match o.s.H.get l with
          | .loop rc=>match rc.state with
            | .ready=>match rec (.code lo r0.fid true r0.body ⟨o.s.T,o.s.H.set l (.loop { rc with state:=.busy }),o.s.M⟩) with
              | some ⟨e,s⟩=>match s.H.get l with
                | .loop rc=>match e with
                  | .nrm=>some (.ofVal (.bool true) (s.H.set l (.loop { rc with state:=.ready,pending:=none })))
                  | e=>some (.ofVal (.bool false) (s.H.set l (.loop { rc with state:=.done,pending:=some e })))
                | _=>none
              | none=>none
            | _=>none
          | _=>none
        | _=>none) (fun o => ?_) fun rec => ?_
       . cases o.e with
         | nrm=>simp only;cases o.s.H.get l with
           | loop rc=>simp only;cases rc.state with
             | ready =>
               simp only;exact .of (.ask (.code lo r0.fid true r0.body ⟨o.s.T,o.s.H.set l (.loop { rc with state:=.busy }),o.s.M⟩)) (fun o=>.const (match o.s.H.get l with
                | .loop rc=>match o.e with
                  | .nrm=>some (.ofVal (.bool true) (o.s.H.set l (.loop { rc with state:=.ready,pending:=none })))
                  | e=>some (.ofVal (.bool false) (o.s.H.set l (.loop { rc with state:=.done,pending:=some e })))
                | _=>none)) fun rec=>by cases rec (.code lo r0.fid true r0.body ⟨o.s.T,o.s.H.set l (.loop { rc with state:=.busy }),o.s.M⟩)<;>rfl
             | _=>exact .const _
           | _=>exact .const _
         | _=>exact .const _
       . cases rec (.code lo r0.fid true r0.assign ⟨QV r0.params args r0.tmps,H,[]⟩) with
         | none=>rfl
         | some o=>obtain ⟨e,s⟩:=o;cases e<;>rfl
     . exact .const _
   | _=>exact .const _
 | code lo fid rnd c s =>
   simp only;cases c with
   | seq a b =>
     dsimp only;exact .of (.ask (.code lo fid rnd a s)) (G:=fun o rec=>match o with
      | ⟨.nrm,s⟩=>rec (.code lo fid rnd b s)
      | r=>some r) (fun o=>by obtain ⟨e,s⟩:=o;cases e<;>first | exact .ask _ | exact .const _) fun rec=>by
      cases rec (.code lo fid rnd a s) with
      | none=>rfl
      | some o=>obtain ⟨e,s⟩:=o;cases e<;>rfl
   | cond c a b =>
     simp only;split
     . exact .ask _
     . exact .ask _
     . exact .const _
   | block id b =>
     dsimp only;exact .of (.ask (.code lo fid rnd b s)) (fun o=>.const (match o with
      | ⟨.ext id',s⟩=>some (if id'=id then ⟨.nrm,s⟩ else ⟨.ext id',s⟩)
      | r=>some r)) fun rec=>by
      cases rec (.code lo fid rnd b s) with
      | none=>rfl
      | some o=>obtain ⟨e,s⟩:=o;cases e<;>rfl
   | loop b =>
     dsimp only;exact .of (.ask (.code lo fid rnd b s)) (G:=fun o rec=>match o with
      | ⟨.nrm,s⟩=>rec (.code lo fid rnd (.loop b) s)
      | r=>some r) (fun o=>by obtain ⟨e,s⟩:=o;cases e<;>first | exact .ask _ | exact .const _) fun rec=>by
      cases rec (.code lo fid rnd b s) with
      | none=>rfl
      | some o=>obtain ⟨e,s⟩:=o;cases e<;>rfl
   | scope b =>
     dsimp only;exact .of (.ask (.code lo fid rnd b s)) (fun o=>.const (match o with
      | ⟨.gto _,_⟩=>none
      | r=>some r)) fun rec=>by
      cases rec (.code lo fid rnd b s) with
      | none=>rfl
      | some o=>obtain ⟨e,s⟩:=o;cases e<;>rfl
   | region id ops draw =>
     cases draw with
     | false=>dsimp only;exact .of (Fp C fid lo ops.toList ops.toList s.T s.H) (fun o=>.const (some ⟨.nrm,⟨o.1,o.2,s.M⟩⟩)) fun rec=>by cases Ym C rec fid lo ops.toList ops.toList s.T s.H<;>rfl
     | true=>dsimp only;exact .of (V8 C fid lo ops.toList ops.toList (C.plans fid id) 0 [] s.T s.H 0 []) (fun o=>.const (some ⟨.nrm,⟨o.1,o.2,s.M⟩⟩)) fun rec=>by cases Zs C rec fid lo ops.toList ops.toList (C.plans fid id) 0 [] s.T s.H 0 []<;>rfl
   | rangeFunc g params assign body =>
     cases rnd with
     | true=>exact .const _
     | false =>
       simp only;cases Z4 C s.T g with
       | none=>exact .const _
       | some v=>cases v with
         | fn f first caps=>cases first with
           | cons a b=>exact .const _
           | nil =>
             dsimp only;exact .of (.ask (.call lo f (.yld (s.H.n+1)::caps.map AV.strip) ((s.H.push .defr).push (.loop ⟨fid,s.T,params.toList,assign,body,.ready,none,s.H.n⟩)))) (fun o=>.const (match o.s.H.get (s.H.n+1) with
              | .loop rc=>match rc.state with
                | .busy=>none
                | _=>match rc.pending with
                  | none=>some ⟨.nrm,⟨s.T,o.s.H.set (s.H.n+1) .dead,s.H.n::s.M⟩⟩
                  | some e=>some ⟨e,⟨s.T,o.s.H.set (s.H.n+1) .dead,s.H.n::s.M⟩⟩
              | _=>none)) fun rec=>by
              cases rec (.call lo f (.yld (s.H.n+1)::caps.map AV.strip) ((s.H.push .defr).push (.loop ⟨fid,s.T,params.toList,assign,body,.ready,none,s.H.n⟩)))<;>rfl
         | _=>exact .const _
   | _=>exact .const _
theorem Bb:∀ (k:Nat) (t:Task) (o:Out),run C k t=some o->run C (k+1) t=some o
 | 0,t,o,h=>by simp [run] at h
 | k+1,t,o,h=>by
   obtain ⟨L,h1,h2⟩:=Fq C t (run C k) o h;exact h2 (run C (k+1)) fun p hp=>Bb k p.1 p.2 (h1 p hp)
theorem UZ {k':Nat} {t:Task} (hk:k<=k') (h:run C k t=some o):run C k' t=some o:=by
 induction hk with
 | refl=>exact h
 | step _ ih=>exact Bb C _ t o ih
open Classical in
noncomputable def R (t:Task):Option Out:=if h:∃ o k,run C k t=some o then some h.choose else none
theorem JU {t:Task}:R C t=some o ↔ ∃ k,run C k t=some o:=by
 unfold R;constructor
 . intro h;split at h
   . rename_i hx
     cases h;exact hx.choose_spec
   . cases h
 . rintro ⟨k,hk⟩;have hx:∃ o k,run C k t=some o:=⟨o,k,hk⟩;rw [dif_pos hx];obtain ⟨k',hk'⟩:=hx.choose_spec;have h1:=UZ C (le_max_left k k') hk;have h2:=UZ C (le_max_right k k') hk';rw [h1] at h2;exact h2.symm
theorem Bc:∀ (L:List (Task × Out)),(∀ p ∈ L,R C p.1=some p.2) -> ∃ k,∀ p ∈ L,run C k p.1=some p.2
 | [],_=>⟨0,by simp⟩
 | p::L,h=>by
   obtain ⟨k1,h1⟩:=Bc L fun q hq=>h q (mem_cons_of_mem _ hq)
   obtain ⟨k2,h2⟩:=(JU C).1 (h p (mem_cons_self ..));refine ⟨max k1 k2,fun q hq => ?_⟩;rcases mem_cons.1 hq with rfl | hq
   . exact UZ C (le_max_right ..) h2
   . exact UZ C (le_max_left ..) (h1 q hq)
theorem Qh (t:Task):R C t=XS C (R C) t:=by
 apply Option.ext;intro o;constructor
 . intro h;obtain ⟨k,hk⟩:=(JU C).1 h;cases k with
   | zero=>simp [run] at hk
   | succ k =>
     obtain ⟨L,h1,h2⟩:=Fq C t (run C k) o hk;exact h2 (R C) fun p hp=>(JU C).2 ⟨k,h1 p hp⟩
 . intro h;obtain ⟨L,h1,h2⟩:=Fq C t (R C) o h;obtain ⟨k,hk⟩:=Bc C L h1;exact (JU C).2 ⟨k+1,h2 (run C k) hk⟩
end Go.Sim

namespace Go.Sim
variable {C:Cfg} {g:Gh} {n:Nat} {H:Heap} {w:World}
theorem MT (Sa:Sane C) (h:run C k (.call 0 f args .empty)=some o) (hp:YH args=true) (hv:o.val.strip.pure=true) (lo:Nat) (H:Heap) :
 Za C lo f args H o.val.strip H:=by
 have hs:=run_ok Sa k _ _ h (Nat.le_refl 0);refine ⟨hs.1,fun g w cargs hR ha => ?_⟩;have hR0:Rel C g .empty w:=⟨fun id hid=>by simp [Heap.empty] at hid,fun id _=>rfl,fun id hid=>by simp [Heap.empty] at hid,fun i j hi=>by simp [Heap.empty] at hi,hR.know,fun id hid=>by simp [Heap.empty] at hid,hR.glob,
  fun x cs hx=>⟨(hR.gsz x cs hx).1,fun ⟨id,hid,_⟩=>by simp [Heap.empty] at hid⟩⟩
 have hpa:∀ a ∈ args,a.pure=true:=by
  clear h hs ha
  induction args with
  | nil=>intro a ha;simp at ha
  | cons x r ih =>
    simp only [YH,and_eq_true] at hp;intro a ha;rcases mem_cons.1 ha with rfl | ha
    . exact hp.1
    . exact ih hp.2 a ha
 have ha0:Zb g 0 args cargs:=⟨ha.1,fun i a v h1 h2=>(ha.2 i a v h1 h2).pure (hpa a (mem_of_getElem? h1))⟩;refine (hs.2 g w cargs hR0 ha0).mono fun e w' hpost => ?_
 obtain ⟨cv,rfl,g',r1,r2,r3⟩:=hpost.returned;have r2':Ext (Heap.empty).n g .empty w g' o.s.H w':=r2;obtain ⟨b1,b2⟩:=hR0.back_call r1 r2' 0;obtain ⟨j1,j2,j3⟩:=hR.join (Hk:=.empty) (zero_le _) (fun id hid=>by simp [Heap.empty] at hid) b1 b2 lo;exact ⟨_,j1,j2,j3 _ _ (r3.strip.pure hv)⟩
def Cfg.withMB (C:Cfg) (m:FuncId->List AV->Option AV) (b:FuncId->Option (List AV->Heap->Option (AV × Heap))):Cfg:={ C with memo:=m,born:=b }
variable (mm:FuncId->List AV->Option AV) (bb:FuncId->Option (List AV->Heap->Option (AV × Heap)))
theorem MU:XT (C.withMB mm bb)=XT C:=by
 funext fid all ops pl i K seen
 induction ops generalizing pl i K seen with
 | nil=>cases pl<;>rfl
 | cons o r ih=>cases pl with
   | nil=>rfl
   | cons s ss=>simp only [XT,ih];rfl
theorem Bd (fid:FuncId) (n:Nat) (c:Code):Zz (C.withMB mm bb) fid n c=Zz C fid n c:=by
 induction c with
 | region id ops draw=>simp only [Zz,MU];rfl
 | seq a b iha ihb=>simp only [Zz,iha,ihb]
 | cond _ a b iha ihb=>simp only [Zz,iha,ihb]
 | block _ b ih=>simp only [Zz,ih]
 | loop b ih=>simp only [Zz,ih]
 | scope b ih=>simp only [Zz,ih]
 | rangeFunc _ ps a b iha ihb=>simp only [Zz,iha,ihb]
 | _=>rfl
theorem G2:Rel (C.withMB mm bb) g H w ↔ Rel C g H w:=by
 have hb:∀ (n:Nat) (l:Loc) (b:ABlk),Yj (C.withMB mm bb) g n w l b ↔ Yj C g n w l b:=by
  intro n l b;cases b with
  | loop r=>simp only [Yj,Bd]
  | _=>exact Iff.rfl
 exact ⟨fun h=>⟨fun id hid=>(hb _ _ _).1 (h.blk id hid),h.out,h.lt,h.inj,h.know,h.apart,h.glob,h.gsz⟩,fun h=>⟨fun id hid=>(hb _ _ _).2 (h.blk id hid),h.out,h.lt,h.inj,h.know,h.apart,h.glob,h.gsz⟩⟩
theorem VY:Za (C.withMB mm bb) lo f args H v H' ↔ Za C lo f args H v H':=by
 have hp:∀ (g:Gh) (w:World) (e:Ending) (w':World),Qe (C.withMB mm bb) lo g H w v H' e w' ↔ Qe C lo g H w v H' e w':=by
  intro g w e w';cases e with
  | returned cv=>exact ⟨fun ⟨g',h1,h2⟩=>⟨g',(G2 mm bb).1 h1,h2⟩,fun ⟨g',h1,h2⟩=>⟨g',(G2 mm bb).2 h1,h2⟩⟩
  | _=>exact Iff.rfl
 exact ⟨fun h=>⟨h.1,fun g w cargs hR ha=>(h.2 g w cargs ((G2 mm bb).2 hR) ha).mono fun e w' x=>(hp g w e w').1 x⟩,
  fun h=>⟨h.1,fun g w cargs hR ha=>(h.2 g w cargs ((G2 mm bb).1 hR) ha).mono fun e w' x=>(hp g w e w').2 x⟩⟩
theorem Sane.withMB (Sa:Sane C) (hm:∀ f args v,mm f args=some v -> ∀ lo H,Za C lo f args H v H) (hb:∀ f p args H v H',bb f=some p->p args H=some (v,H')->Za C H.n f args H v H'):Sane (C.withMB mm bb) where
 depth:=Sa.depth
 orders:=Sa.orders
 good:=fun f hf=>by
  obtain ⟨fn,c,h1,h2,h3,h4⟩:=Sa.good f hf;exact ⟨fn,c,h1,h2,h3,by rw [Bd];exact h4⟩
 memo:=fun f args v h lo H=>(VY mm bb).2 (hm f args v h lo H)
 prim:=fun f p args v hp h lo H=>(VY mm bb).2 (Sa.prim f p args v hp h lo H)
 hprim:=fun f p lo args H v H' hp h hl=>(VY mm bb).2 (Sa.hprim f p lo args H v H' hp h hl)
 at1:=Sa.at1
 born:=fun f p args H v H' hp h=>(VY mm bb).2 (hb f p args H v H' hp h)
end Go.Sim
namespace Go.Sim
variable {C:Cfg} {g:Gh} {n:Nat} {H:Heap} {w:World}
mutual
def AV.beq:AV->AV->Bool
 | .bool a,.bool b=>a == b
 | .int k a,.int l b=>Nat.beq (X5 k) (X5 l) && eqI a b
 | .str a,.str b=>Z6 a b
 | .nilp,.nilp=>true
 | .ps .unk a,.ps .unk b=>V9 a b
 | .ps .nil a,.ps .nil b=>V9 a b
 | .ps .exact a,.ps .exact b=>V9 a b
 | .nilm,.nilm=>true
 | .agg a,.agg b=>JV a b
 | .tup a,.tup b=>JV a b
 | _,_=>false
def JV:List AV->List AV->Bool
 | [],[]=>true
 | a::x,b::y=>AV.beq a b && JV x y
 | _,_=>false
def V9:List (List AV)->List (List AV)->Bool
 | [],[]=>true
 | a::x,b::y=>JV a b && V9 x y
 | _,_=>false
end
theorem MV {a b:Int} (h:eqI a b=true):a=b:=by
 cases a<;>cases b<;>simp [eqI] at h<;>simp [h]
theorem Be:∀ {a b:List Nat},Z6 a b=true->a=b
 | [],[],_=>rfl
 | [],_::_,h=>by simp [Z6] at h
 | _::_,[],h=>by simp [Z6] at h
 | a::x,b::y,h=>by
   unfold Z6 at h;cases hab:Nat.beq a b with
   | false=>rw [hab] at h;simp at h
   | true =>
     rw [hab] at h;have:=eq_of_beq_eq_true hab;rw [this,Be h]
theorem MW {k l:IntKind} (h:Nat.beq (X5 k) (X5 l)=true):k=l:=by
 cases k<;>cases l<;>first | rfl | (simp [X5] at h)
mutual
theorem AV.beq_eq:∀ {a b:AV},AV.beq a b=true->a=b:=by
 intro a b h;unfold AV.beq at h;split at h
 . simp at h;rw [h]
 . simp only [and_eq_true] at h;rw [MW h.1,MV h.2]
 . rw [Be h]
 . rfl
 . rw [G3 h]
 . rw [G3 h]
 . rw [G3 h]
 . rfl
 . rw [VZ h]
 . rw [VZ h]
 . cases h
theorem VZ:∀ {a b:List AV},JV a b=true->a=b:=by
 intro a b h;unfold JV at h;split at h
 . rfl
 . simp only [and_eq_true] at h;rw [AV.beq_eq h.1,VZ h.2]
 . cases h
theorem G3:∀ {a b:List (List AV)},V9 a b=true->a=b:=by
 intro a b h;unfold V9 at h;split at h
 . rfl
 . simp only [and_eq_true] at h;rw [VZ h.1,G3 h.2]
 . cases h
end
structure Known where
 f:FuncId
 args:List AV
 v:AV
def U0:List Known->FuncId->List AV->Option AV
 | [],_,_=>none
 | k::r,f,args=>cond (Nat.beq k.f f && JV k.args args) (some k.v) (U0 r f args)
theorem MX {l:List Known} (h:∀ k ∈ l,∀ lo H,Za C lo k.f k.args H k.v H):∀ f args v,U0 l f args=some v -> ∀ lo H,Za C lo f args H v H:=by
 induction l with
 | nil=>intro f args v h;simp [U0] at h
 | cons k r ih =>
   intro f args v hm;unfold U0 at hm;cases hc:(Nat.beq k.f f && JV k.args args) with
   | false=>rw [hc] at hm;exact ih (fun k hk=>h k (mem_cons_of_mem _ hk)) f args v hm
   | true =>
     rw [hc] at hm;simp at hm;subst hm;simp only [and_eq_true] at hc;have h1:=eq_of_beq_eq_true hc.1;have h2:=VZ hc.2;subst h1;subst h2;exact h k (mem_cons_self ..)
end Go.Sim

namespace Go.Sim
variable {C:Cfg} {lo:Nat} {fid:FuncId} {rnd:Bool} {s:St} {T:TT AV} {H:Heap} {M:List Nat}
theorem MY:R C (.code lo fid rnd .skip s)=some ⟨.nrm,s⟩:=by rw [Qh];rfl
theorem MZ (l:Nat):R C (.code lo fid rnd (.label l) s)=some ⟨.nrm,s⟩:=by rw [Qh];rfl
theorem R_ret:R C (.code lo fid rnd .ret s)=some ⟨.ret,s⟩:=by rw [Qh];rfl
theorem N1 (i:Nat):R C (.code lo fid rnd (.exit i) s)=some ⟨.ext i,s⟩:=by rw [Qh];rfl
def Bf (x:Option Out) (f:St->Option Out):Option Out:=match x with
 | some ⟨.nrm,s⟩=>f s
 | r=>r
theorem R_seq (a b:Code):R C (.code lo fid rnd (.seq a b) s)=Bf (R C (.code lo fid rnd a s)) fun s=>R C (.code lo fid rnd b s):=by rw [Qh];rfl
theorem N2 (b:Code):R C (.code lo fid rnd (.loop b) s)=Bf (R C (.code lo fid rnd b s)) fun s=>R C (.code lo fid rnd (.loop b) s):=by rw [Qh];rfl
def Fr (v:Option AV) (a b:Option Out):Option Out:=match v with
 | some (.bool true)=>a
 | some (.bool false)=>b
 | _=>none
theorem N3 (c:Operand) (a b:Code):R C (.code lo fid rnd (.cond c a b) s)=Fr (Z4 C s.T c) (R C (.code lo fid rnd a s)) (R C (.code lo fid rnd b s)):=by rw [Qh];rfl
def Fs (i:Nat) (x:Option Out):Option Out:=match x with
 | some ⟨.ext j,s⟩=>some (if j=i then ⟨.nrm,s⟩ else ⟨.ext j,s⟩)
 | r=>r
theorem N4 (i j:Nat) (s:St):Fs i (some ⟨.ext j,s⟩)=if j=i then some ⟨.nrm,s⟩ else some ⟨.ext j,s⟩:=by
 unfold Fs;by_cases h:j=i<;>simp [h]
theorem N5 (i:Nat) (b:Code):R C (.code lo fid rnd (.block i b) s)=Fs i (R C (.code lo fid rnd b s)):=by rw [Qh];rfl
def N6 (x:Option Out):Option Out:=match x with
 | some ⟨.gto _,_⟩=>none
 | r=>r
theorem N7 (b:Code):R C (.code lo fid rnd (.scope b) s)=N6 (R C (.code lo fid rnd b s)):=by rw [Qh];rfl
def outO (x:Option (TT AV × Heap)) (M:List Nat):Option Out:=match x with
 | some (T,H)=>some ⟨.nrm,⟨T,H,M⟩⟩
 | none=>none
theorem N8 (id:Nat) (ops:Array Oper):R C (.code lo fid rnd (.region id ops false) s)=outO (Ym C (R C) fid lo ops.toList ops.toList s.T s.H) s.M:=by rw [Qh];rfl
theorem N9 (id:Nat) (ops:Array Oper):R C (.code lo fid rnd (.region id ops true) s)=outO (Zs C (R C) fid lo ops.toList ops.toList (C.plans fid id) 0 [] s.T s.H 0 []) s.M:=by rw [Qh];rfl
def retO (C:Cfg) (rs:List ResultVar) (x:Option Out):Option Out:=match x with
 | some ⟨e,s⟩=>match e with
   | .nrm | .ret=>match Qd s.M s.H with
     | some H=>match XQ C H s.T rs with
       | some [v]=>some (.ofVal v H)
       | some vs=>some (.ofVal (.tup vs) H)
       | none=>none
     | none=>none
   | _=>none
 | none=>none
theorem Na {fn:Func} {c:Code} (args:List AV) (hg:C.good f=true) (hf:C.P.funcs[f]? = some fn) (hb:fn.body=some c) :
 R C (.call lo f args H)=retO C fn.results.toList (R C (.code lo f false c ⟨XR args 0 .leaf,H,[]⟩)):=by
 rw [Qh];simp only [XS,hg,hf,hb];rfl
end Go.Sim

namespace Go.Sim
variable {C:Cfg} {lo:Nat} {fid:FuncId} {rnd:Bool}
structure Tag {α:Sort _} (k:α):Type where
def OO (x:Option Out) (Q:AExit->TT AV->Heap->List Nat->Prop) (_t:Tag Q:=⟨⟩):Prop:=match x with
 | some ⟨e,⟨T,H,M⟩⟩=>Q e T H M
 | none=>False
def WO (x:Option (TT AV × Heap)) (K:TT AV->Heap->Prop) (_t:Tag K:=⟨⟩):Prop:=match x with
 | some (T,H)=>K T H
 | none=>False
def VO (x:Option (AV × Heap)) (K:AV->Heap->Prop) (_t:Tag K:=⟨⟩):Prop:=match x with
 | some (v,H)=>K v H
 | none=>False
def AO (x:Option α) (K:α->Prop) (_t:Tag K:=⟨⟩):Prop:=match x with
 | some v=>K v
 | none=>False
theorem G4 (e:AExit) (T:TT AV) (H:Heap) (M:List Nat) (Q:AExit->TT AV->Heap->List Nat->Prop):OO (some ⟨e,⟨T,H,M⟩⟩) Q=Q e T H M:=rfl
theorem Nb (T:TT AV) (H:Heap) (K:TT AV->Heap->Prop):WO (some (T,H)) K=K T H:=rfl
theorem Nc (v:AV) (H:Heap) (K:AV->Heap->Prop):VO (some (v,H)) K=K v H:=rfl
theorem Nd (v:α) (K:α->Prop):AO (some v) K=K v:=rfl
def W (C:Cfg) (lo:Nat) (fid:FuncId) (rnd:Bool) (c:Code) (T:TT AV) (H:Heap) (M:List Nat) (Q:AExit->TT AV->Heap->List Nat->Prop) (_t:Tag Q:=⟨⟩):Prop :=
 OO (R C (.code lo fid rnd c ⟨T,H,M⟩)) Q
theorem G5 {c:Code} {T:TT AV} {H:Heap} {M:List Nat} {Q:AExit->TT AV->Heap->List Nat->Prop}:W C lo fid rnd c T H M Q ↔ ∃ e T' H' M',R C (.code lo fid rnd c ⟨T,H,M⟩)=some ⟨e,⟨T',H',M'⟩⟩/\Q e T' H' M':=by
 unfold W;cases h:R C (.code lo fid rnd c ⟨T,H,M⟩) with
 | none=>simp [OO]
 | some o =>
   obtain ⟨e,⟨T',H',M'⟩⟩:=o;simp only [G4];constructor
   . intro q;exact ⟨e,T',H',M',rfl,q⟩
   . rintro ⟨e1,T1,H1,M1,h1,q⟩;simp only [Option.some.injEq,Out.mk.injEq,St.mk.injEq] at h1;obtain ⟨rfl,rfl,rfl,rfl⟩:=h1;exact q
theorem G6 {c:Code} {T:TT AV} {H:Heap} {M:List Nat} {Q Q':AExit→TT AV→Heap→List Nat→Prop} (h:W C lo fid rnd c T H M Q) (hq:∀ e T H M,Q e T H M→Q' e T H M):W C lo fid rnd c T H M Q':=by
 rw [G5] at h ⊢;obtain ⟨e,T',H',M',h1,h2⟩:=h;exact ⟨e,T',H',M',h1,hq _ _ _ _ h2⟩
section
variable (T:TT AV) (H:Heap) (M:List Nat) (Q:AExit->TT AV->Heap->List Nat->Prop)
theorem Nf:W C lo fid rnd .skip T H M Q=Q .nrm T H M:=by unfold W;rw [MY];rfl
theorem Ng (l:Nat):W C lo fid rnd (.label l) T H M Q=Q .nrm T H M:=by unfold W;rw [MZ];rfl
theorem W_ret:W C lo fid rnd .ret T H M Q=Q .ret T H M:=by unfold W;rw [R_ret];rfl
theorem Nh (i:Nat):W C lo fid rnd (.exit i) T H M Q=Q (.ext i) T H M:=by unfold W;rw [N1];rfl
def next (e:AExit) (a b:Prop) (_t:Tag (a/\b):=⟨⟩):Prop:=match e with
 | .nrm=>a
 | _=>b
theorem Ni (a b:Prop):next .nrm a b=a:=rfl
theorem Nj (a b:Prop):next .ret a b=b:=rfl
theorem Nk (i:Nat) (a b:Prop):next (.ext i) a b=b:=rfl
theorem W_seq (a b:Code):W C lo fid rnd (.seq a b) T H M Q=W C lo fid rnd a T H M fun e T H M=>next e (W C lo fid rnd b T H M Q) (Q e T H M):=by
 unfold W;rw [R_seq];cases h:R C (.code lo fid rnd a ⟨T,H,M⟩) with
 | none=>rfl
 | some o=>obtain ⟨e,⟨T',H',M'⟩⟩:=o;cases e<;>rfl
theorem Bg (b:Code):W C lo fid rnd (.loop b) T H M Q=W C lo fid rnd b T H M fun e T H M=>next e (W C lo fid rnd (.loop b) T H M Q) (Q e T H M):=by
 unfold W;rw [N2];cases h:R C (.code lo fid rnd b ⟨T,H,M⟩) with
 | none=>rfl
 | some o=>obtain ⟨e,⟨T',H',M'⟩⟩:=o;cases e<;>rfl
def Va (v:Option AV) (a b:Prop) (_t:Tag (a/\b):=⟨⟩):Prop:=match v with
 | some (.bool x)=>(x=true->a)/\(x=false->b)
 | _=>False
theorem Nl (a b:Prop):Va (some (.bool true)) a b=a:=by simp [Va]
theorem Nn (a b:Prop):Va (some (.bool false)) a b=b:=by simp [Va]
theorem No (c:Operand) (a b:Code):W C lo fid rnd (.cond c a b) T H M Q=Va (Z4 C T c) (W C lo fid rnd a T H M Q) (W C lo fid rnd b T H M Q):=by
 unfold W;rw [N3];show OO (Fr (Z4 C T c) _ _) Q=_;cases h:Z4 C T c with
 | none=>rfl
 | some v =>
   cases v with
   | bool x=>cases x<;>simp [Fr,Va]
   | _=>rfl
def shut (i:Nat) (Q:AExit->TT AV->Heap->List Nat->Prop) (e:AExit) (T:TT AV) (H:Heap) (M:List Nat) (_t:Tag Q:=⟨⟩):Prop:=match e with
 | .ext j=>if j=i then Q .nrm T H M else Q (.ext j) T H M
 | e=>Q e T H M
theorem Np (i:Nat):shut i Q .nrm T H M=Q .nrm T H M:=rfl
theorem Nq (i:Nat):shut i Q .ret T H M=Q .ret T H M:=rfl
theorem Nr (i j:Nat):shut i Q (.ext j) T H M=if j=i then Q .nrm T H M else Q (.ext j) T H M:=rfl
theorem Ns (i:Nat) (b:Code):W C lo fid rnd (.block i b) T H M Q=W C lo fid rnd b T H M (fun e T H M=>shut i Q e T H M):=by
 unfold W;rw [N5];cases h:R C (.code lo fid rnd b ⟨T,H,M⟩) with
 | none=>rfl
 | some o =>
   obtain ⟨e,⟨T',H',M'⟩⟩:=o;cases e<;>try rfl
   rename_i j
   rw [N4];show _=if j=i then _ else _
   by_cases hj:j=i<;>simp [hj,OO]
theorem Nt (id:Nat) (ops:Array Oper):W C lo fid rnd (.region id ops false) T H M Q=WO (Ym C (R C) fid lo ops.toList ops.toList T H) fun T H=>Q .nrm T H M:=by
 unfold W;rw [N8];show OO (outO (Ym C (R C) fid lo ops.toList ops.toList T H) M) Q=_;cases Ym C (R C) fid lo ops.toList ops.toList T H<;>rfl
theorem Nu (id:Nat) (ops:Array Oper):W C lo fid rnd (.region id ops true) T H M Q=WO (Zs C (R C) fid lo ops.toList ops.toList (C.plans fid id) 0 [] T H 0 []) fun T H=>Q .nrm T H M:=by
 unfold W;rw [N9];show OO (outO (Zs C (R C) fid lo ops.toList ops.toList (C.plans fid id) 0 [] T H 0 []) M) Q=_;cases Zs C (R C) fid lo ops.toList ops.toList (C.plans fid id) 0 [] T H 0 []<;>rfl
end
section
variable {rec:Rec} {all:List Oper} (T:TT AV) (H:Heap) (K:TT AV->Heap->Prop)
theorem Nv:WO (Ym C rec fid lo all [] T H) K=K T H:=rfl
theorem Nw (dst:Option Tmp) (op:Op) (t:TypeId) (pos:String) (after:Array Edge) (r:List Oper) :
 WO (Ym C rec fid lo all (⟨dst,op,t,pos,after,none⟩::r) T H) K=VO (aop C rec fid lo ⟨dst,op,t,pos,after,none⟩ T H) fun v H=>WO (Ym C rec fid lo all r (putT T dst v) H) K:=by
 have hu:Ym C rec fid lo all (⟨dst,op,t,pos,after,none⟩::r) T H=match aop C rec fid lo ⟨dst,op,t,pos,after,none⟩ T H with
  | some (v,H)=>Ym C rec fid lo all r (putT T dst v) H
  | none=>none:=rfl
 rw [hu];cases aop C rec fid lo ⟨dst,op,t,pos,after,none⟩ T H<;>rfl
def Qi (want:Bool) (v:AV) (a b:Prop) (_t:Tag (a/\b):=⟨⟩):Prop:=match v with
 | .bool x=>(x=want->a)/\(x ≠ want->b)
 | _=>b
theorem Nx (a b:Prop):Qi true (.bool true) a b=a:=by simp [Qi]
theorem Ny (a b:Prop):Qi true (.bool false) a b=b:=by simp [Qi]
theorem Nz (a b:Prop):Qi false (.bool false) a b=a:=by simp [Qi]
theorem NA (a b:Prop):Qi false (.bool true) a b=b:=by simp [Qi]
theorem NB (want:Bool) (a b:Prop):Qi want Y9 a b=b:=rfl
theorem ND (dst:Option Tmp) (op:Op) (t:TypeId) (pos:String) (after:Array Edge) (j:Nat) (want:Bool) (d:Tmp) (hd:Qc all j=some d) (r:List Oper) :
 WO (Ym C rec fid lo all (⟨dst,op,t,pos,after,some (j,want)⟩::r) T H) K =
  Qi want (Z1 T d) (VO (aop C rec fid lo ⟨dst,op,t,pos,after,some (j,want)⟩ T H) fun v H=>WO (Ym C rec fid lo all r (putT T dst v) H) K) (WO (Ym C rec fid lo all r (putT T dst Y9) H) K):=by
 have ha:Ya all T ⟨dst,op,t,pos,after,some (j,want)⟩=(match Z1 T d with | .bool b=>b == want | _=>false):=by
  unfold Ya;simp only [hd];cases Z1 T d<;>rfl
 have hu:Ym C rec fid lo all (⟨dst,op,t,pos,after,some (j,want)⟩::r) T H=match Ya all T ⟨dst,op,t,pos,after,some (j,want)⟩ with
  | true=>match aop C rec fid lo ⟨dst,op,t,pos,after,some (j,want)⟩ T H with
    | some (v,H)=>Ym C rec fid lo all r (putT T dst v) H
    | none=>none
  | false=>Ym C rec fid lo all r (putT T dst Y9) H:=rfl
 rw [hu,ha];cases hv:Z1 T d with
 | bool x =>
   unfold Qi;by_cases hx:x=want
   . subst hx;simp only [beq_self_eq_true,ne_eq,not_true_eq_false,false_implies,and_true,true_implies];cases aop C rec fid lo ⟨dst,op,t,pos,after,some (j,x)⟩ T H<;>rfl
   . have:(x == want)=false:=by simpa using hx
     simp only [this,hx,false_implies,ne_eq,not_false_eq_true,true_implies,true_and]
 | _=>rfl
def dstG (x:Option Tmp) (T:TT AV) (want:Bool) (a b:Prop) (_t:Tag (a/\b):=⟨⟩):Prop:=match x with
 | some d=>Qi want (Z1 T d) a b
 | none=>b
theorem Bh (d:Tmp) (T:TT AV) (want:Bool) (a b:Prop):dstG (some d) T want a b=Qi want (Z1 T d) a b:=rfl
theorem NE (dst:Option Tmp) (op:Op) (t:TypeId) (pos:String) (after:Array Edge) (j:Nat) (want:Bool) (r:List Oper) :
 WO (Ym C rec fid lo all (⟨dst,op,t,pos,after,some (j,want)⟩::r) T H) K =
  dstG (Qc all j) T want (VO (aop C rec fid lo ⟨dst,op,t,pos,after,some (j,want)⟩ T H) fun v H=>WO (Ym C rec fid lo all r (putT T dst v) H) K) (WO (Ym C rec fid lo all r (putT T dst Y9) H) K):=by
 cases hd:Qc all j with
 | some d=>exact ND T H K dst op t pos after j want d hd r
 | none =>
   have ha:Ya all T ⟨dst,op,t,pos,after,some (j,want)⟩=false:=by
    unfold Ya;simp only [hd]
   have hu:Ym C rec fid lo all (⟨dst,op,t,pos,after,some (j,want)⟩::r) T H=match Ya all T ⟨dst,op,t,pos,after,some (j,want)⟩ with
    | true=>match aop C rec fid lo ⟨dst,op,t,pos,after,some (j,want)⟩ T H with
      | some (v,H)=>Ym C rec fid lo all r (putT T dst v) H
      | none=>none
    | false=>Ym C rec fid lo all r (putT T dst Y9) H:=rfl
   rw [hu,ha];rfl
end
theorem NF (T:TT AV) (d:Tmp) (v:AV):putT T (some d) v=JD T d v:=rfl
theorem NG (T:TT AV) (v:AV):putT T none v=T:=rfl
end Go.Sim

namespace Go.Sim
section
variable {C:Cfg} {lo:Nat} {fid:FuncId} {rec:Rec} {T:TT AV} {H:Heap} {K:AV->Heap->Prop} {d:Option Tmp} {t:TypeId} {p:String} {af:Array Edge} {gd:Option (Nat × Bool)}
theorem NH (hz:C.frz fid t=false) (x:Operand):VO (aop C rec fid lo ⟨d,.move x,t,p,af,gd⟩ T H) K=AO (Z4 C T x) fun v=>K v H:=by
 simp only [aop];cases Z4 C T x<;>simp [hz,VO,AO]
theorem NI (hz:C.frz fid t=false) (x:Operand):VO (aop C rec fid lo ⟨d,.assign x,t,p,af,gd⟩ T H) K=AO (Z4 C T x) fun v=>K v H:=by
 simp only [aop];cases Z4 C T x<;>simp [hz,VO,AO]
def JW (c:AV) (a b:Prop) (_t:Tag (a/\b):=⟨⟩):Prop:=match c with
 | .bool x=>(x=true->a)/\(x=false->b)
 | _=>False
theorem NJ (a b:Prop):JW (.bool true) a b=a:=by simp [JW]
theorem NK (a b:Prop):JW (.bool false) a b=b:=by simp [JW]
theorem NL (c a b:Operand):VO (aop C rec fid lo ⟨d,.pick c a b,t,p,af,gd⟩ T H) K=AO (Z4 C T c) fun c=>JW c (AO (Z4 C T a) fun v=>K v H) (AO (Z4 C T b) fun v=>K v H):=by
 simp only [aop];cases Z4 C T c with
 | none=>rfl
 | some v=>cases v with
   | bool x=>cases x
             . cases Z4 C T b<;>simp [VO,AO,JW,same]
             . cases Z4 C T a<;>simp [VO,AO,JW,same]
   | _=>simp [VO,AO,JW]
theorem NM (t':TypeId):VO (aop C rec fid lo ⟨d,.alloc t',t,p,af,gd⟩ T H) K=AO (ZF C.P t') fun z=>K (.ptr H.n 0) (H.push (.cells z.cells t')):=by
 simp only [aop];cases ZF C.P t'<;>rfl
theorem NN (t':TypeId) (x:Operand):VO (aop C rec fid lo ⟨d,.box t' x,t,p,af,gd⟩ T H) K=AO (Z4 C T x) fun v=>v.cells.all AV.one=true/\K (.ptr H.n 0) (H.push (.cells v.cells t')):=by
 simp only [aop];cases Z4 C T x with
 | none=>rfl
 | some v=>cases h:v.cells.all AV.one<;>simp [VO,AO,h]
theorem Bi (t':TypeId) (x:Operand):VO (aop C rec fid lo ⟨d,.load t' x,t,p,af,gd⟩ T H) K=AO (Z4 C T x) fun a=>AO (Yl C.P H t' a) fun v=>K v H:=by
 simp only [aop];cases Z4 C T x with
 | none=>rfl
 | some a=>show VO (same H (Yl C.P H t' a)) K=_;cases h:Yl C.P H t' a<;>simp [AO,h,VO,same]
theorem Bj (t':TypeId) (a x:Operand):VO (aop C rec fid lo ⟨d,.store t' a x,t,p,af,gd⟩ T H) K=AO (Z4 C T a) fun a=>AO (Z4 C T x) fun x=>AO (Q9 C.P lo H t' a x) fun H=>K Y9 H:=by
 simp only [aop];cases Z4 C T a with
 | none=>rfl
 | some a=>cases Z4 C T x with
   | none=>rfl
   | some x=>show VO (JO (Q9 C.P lo H t' a x)) K=_;cases h:Q9 C.P lo H t' a x<;>simp [AO,h,VO,JO]
theorem NO (op:BinOp) (t':TypeId) (x y:Operand) (u:TypeId):VO (aop C rec fid lo ⟨d,.binOp op t' x y u,t,p,af,gd⟩ T H) K=AO (Z4 C T x) fun x=>AO (Z4 C T y) fun y=>AO (Kl C.P op t' x y) fun v=>K v H:=by
 simp only [aop];cases Z4 C T x with
 | none=>rfl
 | some x=>cases Z4 C T y with
   | none=>rfl
   | some y=>show VO (same H (Kl C.P op t' x y)) K=_;cases h:Kl C.P op t' x y<;>simp [AO,h,VO,same]
theorem op_un (op:UnOp) (t':TypeId) (x:Operand):VO (aop C rec fid lo ⟨d,.unOp op t' x,t,p,af,gd⟩ T H) K=AO (Z4 C T x) fun x=>AO (aun op x) fun v=>K v H:=by
 simp only [aop];cases Z4 C T x with
 | none=>rfl
 | some x=>show VO (same H (aun op x)) K=_;cases h:aun op x<;>simp [AO,h,VO,same]
theorem NP (k:IntKind):Kp (some (.int k))=false:=rfl
theorem NQ:Kp (some .string)=false:=rfl
theorem NR:Kp (some .bool)=false:=rfl
theorem NS (k:FloatKind):Kp (some (.float k))=false:=rfl
theorem NT (e:TypeId):Kp (some (.slice e))=true:=rfl
theorem NU (t':TypeId) (ps:Array (Nat × Operand)):VO (aop C rec fid lo ⟨d,.build t' ps,t,p,af,gd⟩ T H) K=AO (XP C T ps.toList) fun l=>AO (YC C.P t' l) fun v=>K v H:=by
 simp only [aop];cases XP C T ps.toList with
 | none=>rfl
 | some l=>show VO (same H (YC C.P t' l)) K=_;cases h:YC C.P t' l<;>simp [AO,h,VO,same]
theorem NV (t':TypeId) (hz:C.lit fid t'=false) (n:Nat) (ps:Array (Nat × Operand)):VO (aop C rec fid lo ⟨d,.buildSlice t' n ps,t,p,af,gd⟩ T H) K=AO (XP C T ps.toList) fun l=>AO (Ko C.P t' n l) fun v=>K v H:=by
 simp only [aop];cases XP C T ps.toList with
 | none=>rfl
 | some l=>simp only [hz];show VO (same H (Ko C.P t' n l)) K=_;cases h:Ko C.P t' n l<;>simp [AO,h,VO,same]
theorem NW (f:FuncId) (a b:Array Operand):VO (aop C rec fid lo ⟨d,.makeFunc (.func f) a b,t,p,af,gd⟩ T H) K=AO (Y4 C T a.toList) fun a=>AO (Y4 C T b.toList) fun b=>K (.fn f a b) H:=by
 simp only [aop];cases Y4 C T a.toList with
 | none=>rfl
 | some a=>cases Y4 C T b.toList<;>rfl
theorem NX (t':TypeId):VO (aop C rec fid lo ⟨d,.makeMap t' none,t,p,af,gd⟩ T H) K=K (.map H.n) (H.push (.map [])):=by
 simp only [aop];rfl
theorem NY (t':TypeId) (x:Operand) (f:Nat):VO (aop C rec fid lo ⟨d,.fieldAddr t' x f,t,p,af,gd⟩ T H) K=AO (Z4 C T x) fun x=>AO (Jc C.P t' x f) fun v=>K v H:=by
 simp only [aop];cases Z4 C T x with
 | none=>rfl
 | some x=>show VO (same H (Jc C.P t' x f)) K=_;cases h:Jc C.P t' x f<;>simp [AO,h,VO,same]
theorem Bk (t':TypeId) (x:Operand) (f:Nat):VO (aop C rec fid lo ⟨d,.field t' x f,t,p,af,gd⟩ T H) K=AO (Z4 C T x) fun x=>AO (JE C.P t' x f) fun v=>K v H:=by
 simp only [aop];cases Z4 C T x with
 | none=>rfl
 | some x=>show VO (same H (JE C.P t' x f)) K=_;cases h:JE C.P t' x f<;>simp [AO,h,VO,same]
theorem Bl (t':TypeId) (x i:Operand):VO (aop C rec fid lo ⟨d,.indexAddr t' x i,t,p,af,gd⟩ T H) K=AO (Z4 C T x) fun x=>AO (Z4 C T i) fun i=>AO (Qb C.P t' x i) fun v=>K v H:=by
 simp only [aop];cases Z4 C T x with
 | none=>rfl
 | some x=>cases Z4 C T i with
   | none=>rfl
   | some i=>show VO (same H (Qb C.P t' x i)) K=_;cases h:Qb C.P t' x i<;>simp [AO,h,VO,same]
theorem NZ (t':TypeId) (x i:Operand):VO (aop C rec fid lo ⟨d,.index t' x i,t,p,af,gd⟩ T H) K=AO (Z4 C T x) fun x=>AO (Z4 C T i) fun i=>AO (Km C.P t' x i) fun v=>K v H:=by
 simp only [aop];cases Z4 C T x with
 | none=>rfl
 | some x=>cases Z4 C T i with
   | none=>rfl
   | some i=>show VO (same H (Km C.P t' x i)) K=_;cases h:Km C.P t' x i<;>simp [AO,h,VO,same]
theorem O0 (t':TypeId) (m k:Operand) (ok:Bool):VO (aop C rec fid lo ⟨d,.lookup t' m k ok,t,p,af,gd⟩ T H) K=AO (Z4 C T m) fun m=>AO (Z4 C T k) fun k=>AO (JG C.P H t' m k ok) fun v=>K v H:=by
 simp only [aop];cases Z4 C T m with
 | none=>rfl
 | some m=>cases Z4 C T k with
   | none=>rfl
   | some k=>show VO (same H (JG C.P H t' m k ok)) K=_;cases h:JG C.P H t' m k ok<;>simp [AO,h,VO,same]
theorem Bm (t':TypeId) (m k x:Operand):VO (aop C rec fid lo ⟨d,.mapUpdate t' m k x,t,p,af,gd⟩ T H) K=AO (Z4 C T m) fun m=>AO (Z4 C T k) fun k=>AO (Z4 C T x) fun x=>AO (Q1 C.P lo H t' m k x) fun H=>K Y9 H:=by
 simp only [aop];cases Z4 C T m with
 | none=>rfl
 | some m=>cases Z4 C T k with
   | none=>rfl
   | some k=>cases Z4 C T x with
     | none=>rfl
     | some x=>show VO (JO (Q1 C.P lo H t' m k x)) K=_;cases h:Q1 C.P lo H t' m k x<;>simp [AO,h,VO,JO]
theorem O4 (t':TypeId) (x:Operand):VO (aop C rec fid lo ⟨d,.range t' x,t,p,af,gd⟩ T H) K=AO (Z4 C T x) fun x=>VO (VE C.P H t' x) K:=by
 simp only [aop];cases Z4 C T x<;>rfl
theorem O5 (x:Operand) (b:Bool):VO (aop C rec fid lo ⟨d,.next x b,t,p,af,gd⟩ T H) K=AO (Z4 C T x) fun x=>VO (VF lo H x b) K:=by
 simp only [aop];cases Z4 C T x<;>rfl
def tupO (v:AV) (i:Nat):Option AV:=match v with
 | .tup vs=>vs[i]?
 | _=>none
theorem O6 (vs:List AV) (i:Nat):tupO (.tup vs) i=vs[i]?:=rfl
theorem O7 (x:Operand) (i:Nat):VO (aop C rec fid lo ⟨d,.extract x i,t,p,af,gd⟩ T H) K=AO (Z4 C T x) fun v=>AO (tupO v i) fun v=>K v H:=by
 simp only [aop];cases Z4 C T x with
 | none=>rfl
 | some v=>cases v with
   | tup vs=>show _=AO vs[i]? _;simp only [];cases vs[i]? <;> rfl
   | _=>rfl
theorem Ft (x:Operand) (t':TypeId):VO (aop C rec fid lo ⟨d,.call ⟨.builtin .len,#[x],#[t']⟩,t,p,af,gd⟩ T H) K=AO (Z4 C T x) fun v=>AO (YJ C.P H t' v) fun v=>K v H:=by
 simp only [aop,YV,Y4];cases Z4 C T x with
 | none=>rfl
 | some v=>show VO (same H (YJ C.P H t' v)) K=_;cases h:YJ C.P H t' v<;>simp [AO,h,VO,same]
theorem Bn (f:FuncId) (hk:C.nilArg f=false) (xs:Array Operand) (ts:Array TypeId):VO (aop C rec fid lo ⟨d,.call ⟨.value (.func f),xs,ts⟩,t,p,af,gd⟩ T H) K=AO (Y4 C T xs.toList) fun l=>VO (Z9 C rec lo f (l.map AV.strip) H) K:=by
 simp only [aop,YV];cases Y4 C T xs.toList with
 | none=>rfl
 | some l=>simp only [Z4,nil_append,append_nil,Ll hk];rfl
theorem O8 (f:FuncId) (hk:C.nilArg f=true) (xs:Array Operand) (ts:Array TypeId):VO (aop C rec fid lo ⟨d,.call ⟨.value (.func f),xs,ts⟩,t,p,af,gd⟩ T H) K=AO (Y4 C T xs.toList) fun l=>VO (Z9 C rec lo f (l.map AV.stripN) H) K:=by
 simp only [aop,YV];have e:stripO C (.func f)=AV.stripN:=by unfold stripO;simp only [hk,if_true]
 cases Y4 C T xs.toList with
 | none=>rfl
 | some l=>simp only [Z4,nil_append,append_nil,e];rfl
theorem ZA {q:List AV->Option AV} (hm:C.memo f args=none) (hp:C.prim f=some q) (hv:C.view f=false:=by rfl):VO (Z9 C rec lo f args H) K=AO (q args) fun v=>K v H:=by
 unfold Z9;simp only [hm,hp,hv];cases q args<;>rfl
theorem Fu {q:List AV->Option AV} (hm:C.memo f args=none) (hp:C.prim f=some q) (hv:C.view f=true):VO (Z9 C rec lo f args H) K=AO (Qt H q args) fun v=>K v H:=by
 unfold Z9;simp only [hm,hp,hv,if_true];cases Qt H q args<;>rfl
theorem O9 (n:Tmp):Z4 C T (.tmp n)=some (Z1 T n):=rfl
theorem Oa (f:FuncId):Z4 C T (.func f)=some (.fn f [] []):=rfl
theorem Ob (k:IntKind) (n:Int):Z4 C T (.const (.int k n))=some (.int k n):=rfl
theorem Oc (b:Bool):Z4 C T (.const (.bool b))=some (.bool b):=rfl
theorem Od:Z4 C T (.const (.slice none 0 0))=some (.ps .nil []):=rfl
theorem Oe:Y4 C T []=some []:=rfl
theorem Of (o:Operand) (r:List Operand):Y4 C T (o::r)=match Z4 C T o with
 | some v=>match Y4 C T r with
   | some l=>some (v::l)
   | none=>none
 | none=>none:=rfl
theorem Og:XP C T []=some []:=rfl
theorem Oh (i:Nat) (o:Operand) (r:List (Nat × Operand)):XP C T ((i,o)::r)=match Z4 C T o with
 | some v=>match XP C T r with
   | some l=>some ((i,v)::l)
   | none=>none
 | none=>none:=rfl
end
theorem Oi (a b:Int):ltI a b=decide (a < b):=Ac a b
theorem U1 (a b:Int):eqI a b=decide (a=b):=by rw [VJ];rfl
theorem JX {x:Int} (h1:-9223372036854775808<=x) (h2:x<=9223372036854775807):ZC .i64 x=x:=by
 have:inK .i64 x=true:=by
  cases x with
  | ofNat n=>simp only [inK,QT,ble_eq];simp at h2;omega
  | negSucc n =>
    have:Int.negSucc n = -((n:Int)+1):=by omega
    simp only [inK,KV,QT,Bool.true_and,ble_eq];omega
 unfold ZC;rw [this];rfl
theorem U2 (lim:Nat) (k:IntKind) (n:Nat):YI lim (.int k (n:Int))=if n < lim then some n else none:=rfl
variable {C:Cfg} {g:Gh} {n:Nat} {H:Heap} {w:World}
def Cfg.withPrims (C:Cfg) (P:PF):Cfg:={ C with prim:=fun f=>match C.prim f with | some p=>some p | none=>P f }
structure PrimsOk (C:Cfg) (P:PF):Prop where
 mode:∀ f p,P f=some p->C.mode f=.pure/\C.hprim f=none
 ok:∀ f p args v,P f=some p->p args=some v -> ∀ lo H,Za C lo f args H v H
variable {P:PF}
theorem Oj (hP:PrimsOk C P):Xj (C.withPrims P)=Xj C:=by
 have key:∀ f,(if ((C.withPrims P).prim f).isSome then Cls.read else if ((C.withPrims P).hprim f).isSome then (if (C.withPrims P).at1 f then .writeAt else .write) else match (C.withPrims P).mode f with
  | .pure=>.read
  | .fresh=>.fresh
  | .free=>.write)=(if (C.prim f).isSome then Cls.read else if (C.hprim f).isSome then (if C.at1 f then .writeAt else .write) else match C.mode f with
  | .pure=>.read
  | .fresh=>.fresh
  | .free=>.write):=by
  intro f;show (if ((match C.prim f with | some p=>some p | none=>P f).isSome)=true then Cls.read else if (C.hprim f).isSome=true then (if C.at1 f then .writeAt else .write) else match C.mode f with | .pure=>.read | .fresh=>.fresh | .free=>.write)=_
  cases hp:C.prim f with
  | some p=>rfl
  | none =>
    cases hq:P f with
    | none=>rfl
    | some p =>
      obtain ⟨h1,h2⟩:=hP.mode f p hq;simp [h1,h2]
 funext fid o
 unfold Xj;cases o.op with
 | call c =>
   cases hc:c.callee with
   | value x =>
     cases x with
     | func f=>simp only [hc];exact key f
     | _=>simp only [hc]
   | invoke _ _=>simp only [hc]
   | builtin b=>cases b<;>simp only [hc]<;>rfl
 | _=>rfl
theorem Ok (hP:PrimsOk C P):XT (C.withPrims P)=XT C:=by
 funext fid all ops pl i K seen
 have hh:Kr (C.withPrims P)=Kr C:=by
  funext fid all o s i K seen
  unfold Kr;rw [Oj hP]
 induction ops generalizing pl i K seen with
 | nil=>cases pl<;>rfl
 | cons o r ih=>cases pl with
   | nil=>rfl
   | cons s ss=>simp only [XT,ih,hh]
theorem Bo (hP:PrimsOk C P) (fid:FuncId) (n:Nat) (c:Code):Zz (C.withPrims P) fid n c=Zz C fid n c:=by
 induction c with
 | region id ops draw=>simp only [Zz,Ok hP];rfl
 | seq a b iha ihb=>simp only [Zz,iha,ihb]
 | cond _ a b iha ihb=>simp only [Zz,iha,ihb]
 | block _ b ih=>simp only [Zz,ih]
 | loop b ih=>simp only [Zz,ih]
 | scope b ih=>simp only [Zz,ih]
 | rangeFunc _ ps a b iha ihb=>simp only [Zz,iha,ihb]
 | _=>rfl
theorem G7 (hP:PrimsOk C P):Rel (C.withPrims P) g H w ↔ Rel C g H w:=by
 have hb:∀ (n:Nat) (l:Loc) (b:ABlk),Yj (C.withPrims P) g n w l b ↔ Yj C g n w l b:=by
  intro n l b;cases b with
  | loop r=>simp only [Yj,Bo hP]
  | _=>exact Iff.rfl
 exact ⟨fun h=>⟨fun id hid=>(hb _ _ _).1 (h.blk id hid),h.out,h.lt,h.inj,h.know,h.apart,h.glob,h.gsz⟩,fun h=>⟨fun id hid=>(hb _ _ _).2 (h.blk id hid),h.out,h.lt,h.inj,h.know,h.apart,h.glob,h.gsz⟩⟩
theorem Qj (hP:PrimsOk C P):Za (C.withPrims P) lo f args H v H' ↔ Za C lo f args H v H':=by
 have hp:∀ (g:Gh) (w:World) (e:Ending) (w':World),Qe (C.withPrims P) lo g H w v H' e w' ↔ Qe C lo g H w v H' e w':=by
  intro g w e w';cases e with
  | returned cv=>exact ⟨fun ⟨g',h1,h2⟩=>⟨g',(G7 hP).1 h1,h2⟩,fun ⟨g',h1,h2⟩=>⟨g',(G7 hP).2 h1,h2⟩⟩
  | _=>exact Iff.rfl
 exact ⟨fun h=>⟨h.1,fun g w cargs hR ha=>(h.2 g w cargs ((G7 hP).2 hR) ha).mono fun e w' x=>(hp g w e w').1 x⟩,
  fun h=>⟨h.1,fun g w cargs hR ha=>(h.2 g w cargs ((G7 hP).1 hR) ha).mono fun e w' x=>(hp g w e w').2 x⟩⟩
theorem Sane.withPrims (Sa:Sane C) (hP:PrimsOk C P):Sane (C.withPrims P) where
 depth:=Sa.depth
 orders:=Sa.orders
 good:=fun f hf=>by
  obtain ⟨fn,c,h1,h2,h3,h4⟩:=Sa.good f hf;exact ⟨fn,c,h1,h2,h3,by rw [Bo hP];exact h4⟩
 memo:=fun f args v h lo H=>(Qj hP).2 (Sa.memo f args v h lo H)
 prim:=fun f p args v hp h lo H=>by
  refine (Qj hP).2 ?_;have hp':(match C.prim f with | some p=>some p | none=>P f)=some p:=hp
  cases hq:C.prim f with
  | some p' =>
    rw [hq] at hp';have e:p'=p:=by simpa using hp'
    subst e;exact Sa.prim f _ args v hq h lo H
  | none =>
    rw [hq] at hp';exact hP.ok f p args v hp' h lo H
 hprim:=fun f p lo args H v H' hp h hl=>(Qj hP).2 (Sa.hprim f p lo args H v H' hp h hl)
 at1:=Sa.at1
 born:=fun f b args H v H' hb h=>(Qj hP).2 (Sa.born f b args H v H' hb h)
theorem G8 (Sa:Sane C) (h:R C (.call 0 f args .empty)=some (.ofVal v H')) (hp:YH args=true) (hv:v.strip.pure=true) (lo:Nat) (H:Heap) :
 Za C lo f args H v.strip H:=by
 obtain ⟨k,hk⟩:=(JU C).1 h;exact MT Sa hk hp hv lo H
def Ky (C:Cfg) (rs:List ResultVar) (Q:AV->Heap->Prop) (e:AExit) (T:TT AV) (H:Heap) (M:List Nat):Prop :=
 (e=.nrm\/e=.ret)/\AO (Qd M H) fun H'=>AO (XQ C H' T rs) fun vs=>Q (match vs with | [v]=>v | vs=>.tup vs) H'
theorem Zd {fn:Func} {c:Code} {Q:AV->Heap->Prop} {rs:List ResultVar} (hg:C.good f=true) (hf:C.P.funcs[f]? = some fn) (hb:fn.body=some c) (hr:fn.results=rs.toArray)
 (h:W C lo f false c (XR args 0 .leaf) H [] (Ky C rs Q)):∃ v H',R C (.call lo f args H)=some (.ofVal v H')/\Q v H':=by
 rw [G5] at h;obtain ⟨e,T,H1,M,h1,he,h2⟩:=h;rw [Na args hg hf hb,h1];have hr':fn.results.toList=rs:=by rw [hr]
 rw [hr'];cases hs:Qd M H1 with
 | none=>rw [hs] at h2;exact h2.elim
 | some H' =>
   rw [hs] at h2;cases ha:XQ C H' T rs with
   | none=>simp only [AO,ha] at h2
   | some vs =>
     simp only [AO,ha] at h2;refine ⟨_,H', ?_,h2⟩;unfold retO;rcases he with rfl | rfl<;>simp only [hs,ha]<;>split<;>simp_all
theorem contract (Sa:Sane C) (hP:PrimsOk C P) {fn:Func} {c:Code} {rs:List ResultVar} (hg:C.good f=true) (hf:C.P.funcs[f]? = some fn) (hb:fn.body=some c) (hr:fn.results=rs.toArray) (hp:YH args=true) (hv:v.pure=true)
 (h:W (C.withPrims P) 0 f false c (XR args 0 .leaf) .empty [] (Ky (C.withPrims P) rs fun v' _=>v'.strip=v)) (lo:Nat) (H:Heap):Za C lo f args H v H:=by
 obtain ⟨v',H',h1,h2⟩:=Zd (C:=C.withPrims P) hg hf hb hr h;have:=G8 (Sa.withPrims hP) h1 hp (by rw [h2];exact hv) lo H;rw [h2] at this;exact (Qj hP).1 this
theorem Ol (T:TT AV):XQ C H T []=some []:=rfl
theorem Om (T:TT AV) (t:Tmp) (rs:List ResultVar):XQ C H T (.tmp t::rs)=match XQ C H T rs with
 | some l=>some (Z1 T t::l)
 | none=>none:=rfl
theorem On (T:TT AV) (a:Tmp) (t:TypeId) (rs:List ResultVar):XQ C H T (.cell a t::rs)=match Yl C.P H t (Z1 T a) with
 | some v=>match XQ C H T rs with
   | some l=>some (v::l)
   | none=>none
 | none=>none:=rfl
theorem Bp:Heap.empty.n=0:=rfl
theorem Oo (i:Nat) (T:TT AV):XR [] i T=T:=rfl
theorem Oq (v:AV) (r:List AV) (i:Nat) (T:TT AV):XR (v::r) i T=XR r (i+1) (JD T i v):=rfl
theorem Or:Qd [] H=some H:=rfl
theorem ZK:PrimsOk C (fun _=>none) where
 mode:=fun _ _ h=>by cases h
 ok:=fun _ _ _ _ h=>by cases h
def Zo (f0:FuncId) (p0:List AV->Option AV) (P:PF):PF:=fun f=>if f=f0 then some p0 else P f
theorem Yn (hP:PrimsOk C P) {f0:FuncId} {p0:List AV->Option AV} (hm:C.mode f0=.pure) (hh:C.hprim f0=none) (h:∀ args v,p0 args=some v -> ∀ lo H,Za C lo f0 args H v H):PrimsOk C (Zo f0 p0 P) where
 mode:=fun f p hf=>by
  unfold Zo at hf;split at hf
  . rename_i e;subst e;exact ⟨hm,hh⟩
  . exact hP.mode f p hf
 ok:=fun f p args v hf hv=>by
  unfold Zo at hf;split at hf
  . rename_i e;subst e;simp at hf;subst hf;exact h args v hv
  . exact hP.ok f p args v hf hv
end Go.Sim

namespace Go.Sim
variable {C:Cfg} {lo:Nat} {fid:FuncId} {rnd:Bool}
theorem ZP {b:Code} {M:List Nat} {Q:AExit->TT AV->Heap->List Nat->Prop} (I:Nat->TT AV->Heap->List Nat->Prop) (n:Nat) (h0:I 0 T H M)
 (step:∀ k T H M,k < n->I k T H M->W C lo fid rnd b T H M fun e T H M=>next e (I (k+1) T H M) (Q e T H M))
 (last:∀ T H M,I n T H M->W C lo fid rnd b T H M fun e T H M=>next e False (Q e T H M)):W C lo fid rnd (.loop b) T H M Q:=by
 have main:∀ (m k:Nat) (T:TT AV) (H:Heap) (M:List Nat),k+m=n->I k T H M->W C lo fid rnd (.loop b) T H M Q:=by
  intro m
  induction m with
  | zero =>
    intro k T H M hk hI;have:k=n:=by omega
    subst this;rw [Bg];refine G6 (last T H M hI) fun e T H M h => ?_
    cases e with
    | nrm=>exact h.elim
    | _=>exact h
  | succ m ih =>
    intro k T H M hk hI;rw [Bg];refine G6 (step k T H M (by omega) hI) fun e T H M h => ?_
    cases e with
    | nrm=>exact ih (k+1) T H M (by omega) h
    | _=>exact h
 exact main n 0 T H M (by omega) h0
theorem Ot (lim:Nat) (k:IntKind):YI lim (.int k 0)=if 0 < lim then some 0 else none:=rfl
theorem Ou (lim:Nat) (k:IntKind):YI lim (.int k 1)=if 1 < lim then some 1 else none:=rfl
theorem Ov (b:Bool):aun .not (.bool b)=some (.bool (!b)):=by cases b<;>rfl
theorem cast0:((0:Nat):Int)=0:=rfl
theorem Vb (h:n<=9223372036854775807):ZC .i64 (n:Int)=(n:Int):=JX (by omega) (by omega)
theorem ZQ (hk:k < n) (hn:n<=Z2):ZC .i64 (Int.add (k:Int) 1)=((k+1:Nat):Int):=Vb (n:=k+1) (by unfold Z2 at hn;omega)
end Go.Sim

namespace Go.Sim
section
variable {C:Cfg} {lo:Nat} {fid:FuncId} {rec:Rec} {all:List Oper} {r:List Oper} {ss:List OpI} {T:TT AV} {H:Heap} {K:TT AV->Heap->Prop} {i n k m:Nat} {conf:List Nat} {rd:List (Nat × Acc)} {hs:List Heap} {dst:Option Tmp} {op:Op} {t:TypeId} {pos:String} {after:Array Edge}
def okO (b:Bool) (a:Prop) (_t:Tag a:=⟨⟩):Prop:=match b with
 | false=>a
 | true=>False
theorem Vc (a:Prop):okO false a=a:=rfl
theorem Ow (ss:List OpI):WO (Zs C rec fid lo all [] ss i rd T H n hs) K=K T H:=by
 cases ss<;>rfl
theorem Bq (gd:Option (Nat × Bool)) (hg:gd=none):WO (Zs C rec fid lo all (⟨dst,op,t,pos,after,gd⟩::r) (⟨.data,k,m,conf⟩::ss) i rd T H n hs) K =
 VO (aop C rec fid lo ⟨dst,op,t,pos,after,gd⟩ T H) fun v _=>WO (Zs C rec fid lo all r ss (i+1) rd (putT T dst v) H n hs) K:=by
 subst hg;have hu:Zs C rec fid lo all (⟨dst,op,t,pos,after,none⟩::r) (⟨.data,k,m,conf⟩::ss) i rd T H n hs=match aop C rec fid lo ⟨dst,op,t,pos,after,none⟩ T H with
  | some (v,_)=>Zs C rec fid lo all r ss (i+1) rd (putT T dst v) H n hs
  | none=>none:=rfl
 rw [hu];cases aop C rec fid lo ⟨dst,op,t,pos,after,none⟩ T H<;>rfl
theorem Br (gd:Option (Nat × Bool)) (hg:gd=none):WO (Zs C rec fid lo all (⟨dst,op,t,pos,after,gd⟩::r) (⟨.load,k,m,conf⟩::ss) i rd T H n hs) K =
 okO (Y6 (Zr C T (Zt (n - k) H hs).n .load ⟨dst,op,t,pos,after,gd⟩) conf rd || !YM C T (Zt (n - k) H hs).n .load ⟨dst,op,t,pos,after,gd⟩)
  (VO (aop C rec fid lo ⟨dst,op,t,pos,after,gd⟩ T (Zt (n - k) H hs)) fun v _=>WO (Zs C rec fid lo all r ss (i+1) (YN i (Zr C T (Zt (n - k) H hs).n .load ⟨dst,op,t,pos,after,gd⟩) rd) (putT T dst v) H n hs) K):=by
 subst hg;have hu:Zs C rec fid lo all (⟨dst,op,t,pos,after,none⟩::r) (⟨.load,k,m,conf⟩::ss) i rd T H n hs =
  match Y6 (Zr C T (Zt (n - k) H hs).n .load ⟨dst,op,t,pos,after,none⟩) conf rd || !YM C T (Zt (n - k) H hs).n .load ⟨dst,op,t,pos,after,none⟩ with
   | true=>none
   | false=>match aop C rec fid lo ⟨dst,op,t,pos,after,none⟩ T (Zt (n - k) H hs) with
     | some (v,_)=>Zs C rec fid lo all r ss (i+1) (YN i (Zr C T (Zt (n - k) H hs).n .load ⟨dst,op,t,pos,after,none⟩) rd) (putT T dst v) H n hs
     | none=>none:=rfl
 rw [hu];cases (Y6 (Zr C T (Zt (n - k) H hs).n .load ⟨dst,op,t,pos,after,none⟩) conf rd || !YM C T (Zt (n - k) H hs).n .load ⟨dst,op,t,pos,after,none⟩) with
 | true=>rfl
 | false =>
   simp only [Vc];cases aop C rec fid lo ⟨dst,op,t,pos,after,none⟩ T (Zt (n - k) H hs)<;>rfl
theorem Bs (gd:Option (Nat × Bool)) (hg:gd=none):WO (Zs C rec fid lo all (⟨dst,op,t,pos,after,gd⟩::r) (⟨.read,k,m,conf⟩::ss) i rd T H n hs) K =
 okO (Y6 (Zr C T (Zt (n - k) H hs).n .read ⟨dst,op,t,pos,after,gd⟩) conf rd || !YM C T (Zt (n - k) H hs).n .read ⟨dst,op,t,pos,after,gd⟩)
  (VO (aop C rec fid lo ⟨dst,op,t,pos,after,gd⟩ T (Zt (n - k) H hs)) fun v _=>WO (Zs C rec fid lo all r ss (i+1) (YN i (Zr C T (Zt (n - k) H hs).n .read ⟨dst,op,t,pos,after,gd⟩) rd) (putT T dst v) H n hs) K):=by
 subst hg;have hu:Zs C rec fid lo all (⟨dst,op,t,pos,after,none⟩::r) (⟨.read,k,m,conf⟩::ss) i rd T H n hs =
  match Y6 (Zr C T (Zt (n - k) H hs).n .read ⟨dst,op,t,pos,after,none⟩) conf rd || !YM C T (Zt (n - k) H hs).n .read ⟨dst,op,t,pos,after,none⟩ with
   | true=>none
   | false=>match aop C rec fid lo ⟨dst,op,t,pos,after,none⟩ T (Zt (n - k) H hs) with
     | some (v,_)=>Zs C rec fid lo all r ss (i+1) (YN i (Zr C T (Zt (n - k) H hs).n .read ⟨dst,op,t,pos,after,none⟩) rd) (putT T dst v) H n hs
     | none=>none:=rfl
 rw [hu];cases (Y6 (Zr C T (Zt (n - k) H hs).n .read ⟨dst,op,t,pos,after,none⟩) conf rd || !YM C T (Zt (n - k) H hs).n .read ⟨dst,op,t,pos,after,none⟩) with
 | true=>rfl
 | false =>
   simp only [Vc];cases aop C rec fid lo ⟨dst,op,t,pos,after,none⟩ T (Zt (n - k) H hs)<;>rfl
theorem Bt (gd:Option (Nat × Bool)) (hg:gd=none):WO (Zs C rec fid lo all (⟨dst,op,t,pos,after,gd⟩::r) (⟨.fresh,k,m,conf⟩::ss) i rd T H n hs) K =
 okO (Y6 (Zr C T H.n .fresh ⟨dst,op,t,pos,after,gd⟩) conf rd)
  (VO (aop C rec fid lo ⟨dst,op,t,pos,after,gd⟩ T H) fun v H'=>WO (Zs C rec fid lo all r ss (i+1) (YN i (Zr C T H.n .fresh ⟨dst,op,t,pos,after,gd⟩) rd) (putT T dst v) H' (n+1) (H::hs)) K):=by
 subst hg;have hu:Zs C rec fid lo all (⟨dst,op,t,pos,after,none⟩::r) (⟨.fresh,k,m,conf⟩::ss) i rd T H n hs =
  match Y6 (Zr C T H.n .fresh ⟨dst,op,t,pos,after,none⟩) conf rd with
   | true=>none
   | false=>match aop C rec fid lo ⟨dst,op,t,pos,after,none⟩ T H with
     | some (v,H')=>Zs C rec fid lo all r ss (i+1) (YN i (Zr C T H.n .fresh ⟨dst,op,t,pos,after,none⟩) rd) (putT T dst v) H' (n+1) (H::hs)
     | none=>none:=rfl
 rw [hu];cases Y6 (Zr C T H.n .fresh ⟨dst,op,t,pos,after,none⟩) conf rd with
 | true=>rfl
 | false =>
   simp only [Vc];cases aop C rec fid lo ⟨dst,op,t,pos,after,none⟩ T H<;>rfl
theorem Bu (gd:Option (Nat × Bool)) (hg:gd=none):WO (Zs C rec fid lo all (⟨dst,op,t,pos,after,gd⟩::r) (⟨.writeAt,k,m,conf⟩::ss) i rd T H n hs) K =
 okO (Y6 (Zr C T H.n .writeAt ⟨dst,op,t,pos,after,gd⟩) conf rd)
  (VO (aop C rec fid lo ⟨dst,op,t,pos,after,gd⟩ T H) fun v H'=>WO (Zs C rec fid lo all r ss (i+1) (YN i (Zr C T H.n .writeAt ⟨dst,op,t,pos,after,gd⟩) rd) (putT T dst v) H' (n+1) (H::hs)) K):=by
 subst hg;have hu:Zs C rec fid lo all (⟨dst,op,t,pos,after,none⟩::r) (⟨.writeAt,k,m,conf⟩::ss) i rd T H n hs =
  match Y6 (Zr C T H.n .writeAt ⟨dst,op,t,pos,after,none⟩) conf rd with
   | true=>none
   | false=>match aop C rec fid lo ⟨dst,op,t,pos,after,none⟩ T H with
     | some (v,H')=>Zs C rec fid lo all r ss (i+1) (YN i (Zr C T H.n .writeAt ⟨dst,op,t,pos,after,none⟩) rd) (putT T dst v) H' (n+1) (H::hs)
     | none=>none:=rfl
 rw [hu];cases Y6 (Zr C T H.n .writeAt ⟨dst,op,t,pos,after,none⟩) conf rd with
 | true=>rfl
 | false =>
   simp only [Vc];cases aop C rec fid lo ⟨dst,op,t,pos,after,none⟩ T H<;>rfl
theorem Bv (gd:Option (Nat × Bool)) (hg:gd=none):WO (Zs C rec fid lo all (⟨dst,op,t,pos,after,gd⟩::r) (⟨.write,k,m,conf⟩::ss) i rd T H n hs) K =
 okO (Y6 (Zr C T H.n .write ⟨dst,op,t,pos,after,gd⟩) conf rd)
  (VO (aop C rec fid lo ⟨dst,op,t,pos,after,gd⟩ T H) fun v H'=>WO (Zs C rec fid lo all r ss (i+1) (YN i (Zr C T H.n .write ⟨dst,op,t,pos,after,gd⟩) rd) (putT T dst v) H' (n+1) (H::hs)) K):=by
 subst hg;have hu:Zs C rec fid lo all (⟨dst,op,t,pos,after,none⟩::r) (⟨.write,k,m,conf⟩::ss) i rd T H n hs =
  match Y6 (Zr C T H.n .write ⟨dst,op,t,pos,after,none⟩) conf rd with
   | true=>none
   | false=>match aop C rec fid lo ⟨dst,op,t,pos,after,none⟩ T H with
     | some (v,H')=>Zs C rec fid lo all r ss (i+1) (YN i (Zr C T H.n .write ⟨dst,op,t,pos,after,none⟩) rd) (putT T dst v) H' (n+1) (H::hs)
     | none=>none:=rfl
 rw [hu];cases Y6 (Zr C T H.n .write ⟨dst,op,t,pos,after,none⟩) conf rd with
 | true=>rfl
 | false =>
   simp only [Vc];cases aop C rec fid lo ⟨dst,op,t,pos,after,none⟩ T H<;>rfl
theorem Ox (c:Cls) (j:Nat) (want:Bool):WO (Zs C rec fid lo all (⟨dst,op,t,pos,after,some (j,want)⟩::r) (⟨c,k,m,conf⟩::ss) i rd T H n hs) K =
 dstG (Qc all j) T want (WO (Zs C rec fid lo [⟨dst,op,t,pos,after,none⟩] [⟨dst,op,t,pos,after,none⟩] [⟨c,k,m,conf⟩] i rd T H n hs) fun T' H' =>
  WO (Zs C rec fid lo all r ss (i+1) (if c=.data then rd else YN i (Zr C T (if c.chain then H.n else (Zt (n - k) H hs).n) c ⟨dst,op,t,pos,after,none⟩) rd) T' H' (if c.chain then n+1 else n) (if c.chain then H::hs else hs)) K)
  (WO (Zs C rec fid lo all r ss (i+1) rd (putT T dst Y9) H (if c.chain then n+1 else n) (if c.chain then H::hs else hs)) K):=by
 have hop:∀ T H,aop C rec fid lo ⟨dst,op,t,pos,after,some (j,want)⟩ T H=aop C rec fid lo ⟨dst,op,t,pos,after,none⟩ T H:=fun T H=>rfl
 have hac:∀ T n,Zr C T n c ⟨dst,op,t,pos,after,some (j,want)⟩=Zr C T n c ⟨dst,op,t,pos,after,none⟩:=fun T n=>rfl
 have hob:∀ T n,YM C T n c ⟨dst,op,t,pos,after,some (j,want)⟩=YM C T n c ⟨dst,op,t,pos,after,none⟩:=fun T n=>rfl
 have hw:Ya [⟨dst,op,t,pos,after,none⟩] T ⟨dst,op,t,pos,after,none⟩=true:=rfl;have ha:Ya all T ⟨dst,op,t,pos,after,some (j,want)⟩=(match Qc all j with | some d=>(match Z1 T d with | .bool b=>b == want | _=>false) | none=>false):=rfl
 have skip:Ya all T ⟨dst,op,t,pos,after,some (j,want)⟩=false->WO (Zs C rec fid lo all (⟨dst,op,t,pos,after,some (j,want)⟩::r) (⟨c,k,m,conf⟩::ss) i rd T H n hs) K =
  WO (Zs C rec fid lo all r ss (i+1) rd (putT T dst Y9) H (if c.chain then n+1 else n) (if c.chain then H::hs else hs)) K:=by
  intro h;rw [Zs];simp only [h];cases c<;>rfl
 have go:Ya all T ⟨dst,op,t,pos,after,some (j,want)⟩=true->WO (Zs C rec fid lo all (⟨dst,op,t,pos,after,some (j,want)⟩::r) (⟨c,k,m,conf⟩::ss) i rd T H n hs) K =
  WO (Zs C rec fid lo [⟨dst,op,t,pos,after,none⟩] [⟨dst,op,t,pos,after,none⟩] [⟨c,k,m,conf⟩] i rd T H n hs) fun T' H' =>
   WO (Zs C rec fid lo all r ss (i+1) (if c=.data then rd else YN i (Zr C T (if c.chain then H.n else (Zt (n - k) H hs).n) c ⟨dst,op,t,pos,after,none⟩) rd) T' H' (if c.chain then n+1 else n) (if c.chain then H::hs else hs)) K:=by
  intro h;cases c with
  | data =>
    rw [Bq none rfl];rw [Zs];simp only [h,hop,Cls.chain];cases aop C rec fid lo ⟨dst,op,t,pos,after,none⟩ T H<;>simp [VO,WO,Zs]
  | load =>
    rw [Br none rfl];rw [Zs];simp only [h,hop,hac,hob,Cls.chain];cases (Y6 (Zr C T (Zt (n - k) H hs).n .load ⟨dst,op,t,pos,after,none⟩) conf rd || !YM C T (Zt (n - k) H hs).n .load ⟨dst,op,t,pos,after,none⟩) with
    | true=>simp [WO,okO]
    | false=>cases aop C rec fid lo ⟨dst,op,t,pos,after,none⟩ T (Zt (n - k) H hs)<;>simp [VO,WO,Zs,okO]
  | read =>
    rw [Bs none rfl];rw [Zs];simp only [h,hop,hac,hob,Cls.chain];cases (Y6 (Zr C T (Zt (n - k) H hs).n .read ⟨dst,op,t,pos,after,none⟩) conf rd || !YM C T (Zt (n - k) H hs).n .read ⟨dst,op,t,pos,after,none⟩) with
    | true=>simp [WO,okO]
    | false=>cases aop C rec fid lo ⟨dst,op,t,pos,after,none⟩ T (Zt (n - k) H hs)<;>simp [VO,WO,Zs,okO]
  | fresh =>
    rw [Bt none rfl];rw [Zs];simp only [h,hop,hac,Cls.chain];cases Y6 (Zr C T H.n .fresh ⟨dst,op,t,pos,after,none⟩) conf rd with
    | true=>simp [WO,okO]
    | false=>cases aop C rec fid lo ⟨dst,op,t,pos,after,none⟩ T H<;>simp [VO,WO,Zs,okO]
  | writeAt =>
    rw [Bu none rfl];rw [Zs];simp only [h,hop,hac,Cls.chain];cases Y6 (Zr C T H.n .writeAt ⟨dst,op,t,pos,after,none⟩) conf rd with
    | true=>simp [WO,okO]
    | false=>cases aop C rec fid lo ⟨dst,op,t,pos,after,none⟩ T H<;>simp [VO,WO,Zs,okO]
  | write =>
    rw [Bv none rfl];rw [Zs];simp only [h,hop,hac,Cls.chain];cases Y6 (Zr C T H.n .write ⟨dst,op,t,pos,after,none⟩) conf rd with
    | true=>simp [WO,okO]
    | false=>cases aop C rec fid lo ⟨dst,op,t,pos,after,none⟩ T H<;>simp [VO,WO,Zs,okO]
 cases hd:Qc all j with
 | none =>
   have:Ya all T ⟨dst,op,t,pos,after,some (j,want)⟩=false:=by rw [ha,hd]
   exact skip this
 | some d =>
   rw [Bh];cases hv:Z1 T d with
   | bool x =>
     unfold Qi;by_cases hx:x=want
     . subst hx;have:Ya all T ⟨dst,op,t,pos,after,some (j,x)⟩=true:=by rw [ha,hd];simp [hv]
       rw [go this];simp
     . have:Ya all T ⟨dst,op,t,pos,after,some (j,want)⟩=false:=by rw [ha,hd];simp [hv,hx]
       rw [skip this];simp [hx]
   | _ =>
     have:Ya all T ⟨dst,op,t,pos,after,some (j,want)⟩=false:=by rw [ha,hd];simp only [hv]
     rw [skip this];rfl
end
def G9 (C:Cfg) (T:TT AV) (n:Nat) (x:Operand):Bool:=match Z4 C T x with
 | some v=>v.under n
 | none=>true
def Jl (C:Cfg) (T:TT AV) (n:Nat):List Operand->Bool
 | []=>true
 | x::r=>G9 C T n x && Jl C T n r
theorem Bw (C:Cfg) (T:TT AV) (n:Nat):∀ l:List Operand,l.all (G9 C T n)=Jl C T n l
 | []=>rfl
 | x::r=>by simp only [all_cons,Jl,Bw C T n r]
theorem Bx (C:Cfg) (T:TT AV) (n:Nat) (o:Oper):YM C T n .read o=Jl C T n o.op.operands.toList:=by
 rw [<- Bw];rfl
theorem Oy (C:Cfg) (T:TT AV) (n:Nat) (o:Oper):YM C T n .load o=true:=rfl
theorem Oz (C:Cfg) (T:TT AV) (n:Nat) (d:Option Tmp) (f:FuncId) (xs:Array Operand) (ts:Array TypeId) (t:TypeId) (p:String) (af:Array Edge) (gd:Option (Nat × Bool)) :
 YM C T n .read ⟨d,.call ⟨.value (.func f),xs,ts⟩,t,p,af,gd⟩=Jl C T n xs.toList:=by
 rw [Bx];show Jl C T n (Call.operands ⟨.value (.func f),xs,ts⟩).toList=_;unfold Call.operands;simp only [Array.toList_append];rfl
theorem OA (C:Cfg) (T:TT AV) (n:Nat) (d:Option Tmp) (t':TypeId) (m k:Operand) (ok:Bool) (t:TypeId) (p:String) (af:Array Edge) (gd:Option (Nat × Bool)) :
 YM C T n .read ⟨d,.lookup t' m k ok,t,p,af,gd⟩=Jl C T n [m,k]:=Bx ..
theorem OB (C:Cfg) (T:TT AV) (n:Nat):Jl C T n []=true:=rfl
theorem OC (C:Cfg) (T:TT AV) (n:Nat) (x:Operand) (r:List Operand):Jl C T n (x::r)=(G9 C T n x && Jl C T n r):=rfl
theorem OD (n:Nat) (k:IntKind) (i:Int):(AV.int k i).under n=true:=rfl
theorem OE (n:Nat) (b:Bool):(AV.bool b).under n=true:=rfl
theorem OF (n:Nat) (s:List Nat):(AV.str s).under n=true:=rfl
theorem OG (n:Nat) (rows:List (List AV)):(AV.ps .unk rows).under n=true:=rfl
theorem OH (n:Nat) (rows:List (List AV)):(AV.ps .nil rows).under n=true:=rfl
theorem OI (n:Nat) (rows:List (List AV)):(AV.ps .exact rows).under n=true:=rfl
theorem OJ (n:Nat) (cs:List AV):(AV.agg cs).under n=YW n cs:=by simp [AV.under]
theorem OK (n:Nat):YW n []=true:=rfl
theorem OL (n:Nat) (v:AV) (r:List AV):YW n (v::r)=(v.under n && YW n r):=by simp [YW]
theorem OM (n id:Nat):(AV.map id).under n=Nat.blt id n:=by simp [AV.under]
theorem ON (n id off:Nat):(AV.ptr id off).under n=Nat.blt id n:=by simp [AV.under]
theorem OP (n:Nat) (f:FuncId) (a b:List AV):(AV.fn f a b).under n=(YW n a && YW n b):=by simp [AV.under]
theorem OQ (k:IntKind) (i:Int):(AV.int k i).pure=true:=rfl
theorem OR (b:Bool):(AV.bool b).pure=true:=rfl
theorem OS (s:List Nat):(AV.str s).pure=true:=rfl
theorem OT (rows:List (List AV)):(AV.ps .unk rows).pure=true:=rfl
theorem OU (rows:List (List AV)):(AV.ps .nil rows).pure=true:=rfl
theorem OV (a b:Nat):Nat.blt a b=decide (a < b):=by
 rw [Bool.eq_iff_iff,blt_eq,decide_eq_true_iff]
theorem OW (a:Option Acc) (rd:List (Nat × Acc)):Y6 a [] rd=false:=by cases a<;>rfl
theorem OX (H:Heap) (hs:List Heap):Zt 0 H hs=H:=by cases hs<;>rfl
theorem OY (n:Nat) (H H':Heap) (hs:List Heap):Zt (n+1) H (H'::hs)=Zt n H' hs:=rfl
variable {C:Cfg} {lo:Nat} {fid:FuncId} {rnd:Bool}
theorem OZ (T:TT AV):Z4 C T (.const .nilFunc)=some .nilf:=rfl
theorem Ga (d:Nat) (r:List Nat) (H:Heap):Qd (d::r) H=match H.get d with
 | .defr=>Qd r (H.set d .dead)
 | _=>none:=rfl
theorem Fv (v:AV) (H:Heap):(Out.ofVal v H).val=v:=rfl
theorem Fw (v:AV) (H:Heap):(Out.ofVal v H).s.H=H:=rfl
def Zu (C:Cfg) (fid:FuncId) (lo:Nat) (H:Heap) (ts tx:TypeId) (s x:AV):Option (AV × Heap) :=
 match Yk C.P ts,C.P.underlying tx with
 | some e,some dx=>if UD dx then none else
   match Zf C.P e,YR C.P e,ZF C.P e with
   | some sz,some bytes,some z=>if z.cells.length=sz && decide (bytes<=4096) then
    match XZ H sz x with
    | some rx=>if C.refApp fid ts then Yv lo H sz e s rx else Xx lo H sz e s rx
    | none=>none
     else none
   | _,_,_=>none
 | _,_=>none
theorem P0 {K:AV->Heap->Prop} {d:Option Tmp} {p:String} {af:Array Edge} {gd:Option (Nat × Bool)} (a b:Operand) (ts tx:TypeId) :
 VO (aop C rec fid lo ⟨d,.call ⟨.builtin .append,#[a,b],#[ts,tx]⟩,t,p,af,gd⟩ T H) K=AO (Z4 C T a) fun s=>AO (Z4 C T b) fun x=>VO (Zu C fid lo H ts tx s x) K:=by
 simp only [aop,YV,Y4];cases Z4 C T a with
 | none=>rfl
 | some s=>cases Z4 C T b with
   | none=>rfl
   | some x=>rfl
theorem By (e:TypeId):UD (.slice e)=false:=rfl
theorem Bz {lo:Nat} (h0:rx ≠ []) (h1:rx.length<=Z2) (h2:rx.all Q0=true) (h3:0 < sz) :
 Xx lo H sz e (.ps .nil []) rx=some (.ps (.tok H.n) (rx.map (List.map AV.strip0)),H.push (.row [] sz e)):=by
 cases rx with
 | nil=>exact absurd rfl h0
 | cons a r =>
   unfold Xx;simp only [length_nil,zero_add,h1,h2,h3,decide_true,Bool.and_true,all_nil,if_true,nil_append]
theorem BA {lo:Nat} {rows:List (List AV)} (h0:rx ≠ []) (h1:rows.length+rx.length<=Z2) (h2:rx.all Q0=true) (h3:0 < sz) (h4:rows.all (fun r=>r.length=sz)=true) (h5:H.get k=.row [] sz e) (h6:lo<=k) (h7:rows ≠ []) :
 Xx lo H sz e (.ps (.tok k) rows) rx=some (.ps (.tok H.n) (rows++rx.map (List.map AV.strip0)),(H.set k .dead).push (.row [] sz e)):=by
 cases rx with
 | nil=>exact absurd rfl h0
 | cons a r =>
   have h8:rows.isEmpty=false:=by cases rows with
    | nil=>exact absurd rfl h7
    | cons _ _=>rfl
   unfold Xx;simp only [h1,h2,h3,h4,h5,h6,h8,decide_true,Bool.and_true,if_true,Bool.not_false]
def Kz (w:Bool) (v:Option AV):Option Acc:=match v with
 | some (.ptr id _)=>some (if w then .wr id else .rd id)
 | _=>none
theorem P1 (id off:Nat):Kz false (some (.ptr id off))=some (.rd id):=rfl
theorem P2 (id off:Nat):Kz true (some (.ptr id off))=some (.wr id):=rfl
theorem P3 (w:Bool) (cs:List AV):Kz w (some (.pptr cs))=none:=rfl
theorem P4 (T:TT AV) (n:Nat) (d:Option Tmp) (t':TypeId) (a:Operand) (t:TypeId) (p:String) (af:Array Edge) (gd:Option (Nat × Bool)):Zr C T n .load ⟨d,.load t' a,t,p,af,gd⟩=Kz false (Z4 C T a):=by
 unfold Zr Kz;simp only [];cases Z4 C T a with
 | none=>rfl
 | some v=>cases v<;>rfl
theorem P5 (T:TT AV) (n:Nat) (o:Oper):Zr C T n .read o=some (.all n):=rfl
theorem P6 (T:TT AV) (n:Nat) (d:Option Tmp) (t':TypeId) (a x:Operand) (t:TypeId) (p:String) (af:Array Edge) (gd:Option (Nat × Bool)):Zr C T n .writeAt ⟨d,.store t' a x,t,p,af,gd⟩=Kz true (Z4 C T a):=by
 unfold Zr Kz;simp only [];cases Z4 C T a with
 | none=>rfl
 | some v=>cases v<;>rfl
theorem P7 (T:TT AV) (n:Nat) (o:Oper):Zr C T n .fresh o=none:=by
 unfold Zr;cases o.op<;>rfl
theorem P8 (i:Nat) (a:Acc) (rd:List (Nat × Acc)):YN i (some a) rd=(i,a)::rd:=rfl
theorem P9 (i:Nat) (rd:List (Nat × Acc)):YN i none rd=rd:=rfl
theorem Pb (conf:List Nat) (rd:List (Nat × Acc)):Y6 none conf rd=false:=rfl
theorem Pc (a:Acc) (c:Nat) (cs:List Nat) (rd:List (Nat × Acc)):Y6 (some a) (c::cs) rd=rd.any fun p=>(c::cs).contains p.1 && !a.apart p.2:=rfl
theorem Pd (i j:Nat):Acc.apart (.wr j) (.rd i) = !decide (i=j):=by
 show (i != j)=_;by_cases h:i=j<;>simp [h]
theorem Pe (i j:Nat):Acc.apart (.all i) (.wr j)=decide (i<=j):=rfl
theorem Pf (i j:Nat):Acc.apart (.wr j) (.all i)=decide (i<=j):=rfl
theorem Pg {r0:ALoop} (hl:H.get l=.loop r0) (hs:r0.state=.ready) (hp:r0.params.length=args.length) (hlo:lo<=l) {Y:Bool->Heap->Prop}
 (h:W C lo r0.fid true r0.assign (QV r0.params args r0.tmps) H [] fun e T1 H1 M1=>e=.nrm/\H1.get l=.loop r0 /\
   W C lo r0.fid true r0.body T1 (H1.set l (.loop { r0 with state:=.busy })) M1 fun e T2 H2 M2=>H2.get l=.loop { r0 with state:=.busy } /\
     next e (Y true (H2.set l (.loop { r0 with state:=.ready,pending:=none }))) (Y false (H2.set l (.loop { r0 with state:=.done,pending:=some e })))) :
 ∃ v H',R C (.yield lo l args H)=some (.ofVal (.bool v) H')/\Y v H':=by
 rw [G5] at h;obtain ⟨e,T1,H1,M1,h1,rfl,h2,h3⟩:=h;rw [G5] at h3;obtain ⟨e,T2,H2,M2,h4,h5,h6⟩:=h3;rw [Qh];have hc:(decide (r0.params.length=args.length) && decide (lo<=l))=true:=by simp [hp,hlo]
 simp only [XS,hl,hc,if_true,h1,h2,hs,h4,h5];cases e with
 | nrm=>exact ⟨true,_,rfl,h6⟩
 | ext i=>exact ⟨false,_,rfl,h6⟩
 | gto i=>exact ⟨false,_,rfl,h6⟩
 | ret=>exact ⟨false,_,rfl,h6⟩
theorem Ph {g:Operand} {params:Array Tmp} {assign body:Code} {M:List Nat} {Q:AExit->TT AV->Heap->List Nat->Prop} {caps:List AV}
 (hg:Z4 C T g=some (.fn f [] caps))
 (h:∃ v H',R C (.call lo f (.yld (H.n+1)::caps.map AV.strip) ((H.push .defr).push (.loop ⟨fid,T,params.toList,assign,body,.ready,none,H.n⟩)))=some (.ofVal v H') /\
   ∃ rc,H'.get (H.n+1)=.loop rc/\rc.state ≠ .busy/\(match rc.pending with
     | none=>Q .nrm T (H'.set (H.n+1) .dead) (H.n::M)
     | some e=>Q e T (H'.set (H.n+1) .dead) (H.n::M))) :
 W C lo fid false (.rangeFunc g params assign body) T H M Q:=by
 obtain ⟨v,H',h1,rc,h2,h3,h4⟩:=h;unfold W;rw [Qh];simp only [XS,hg,h1,Out.ofVal,h2];cases hp:rc.pending with
 | none=>rw [hp] at h4;cases hs:rc.state<;>first | exact absurd hs h3 | (simp only [G4];exact h4)
 | some e=>rw [hp] at h4;cases hs:rc.state<;>first | exact absurd hs h3 | (simp only [G4];exact h4)
theorem Fx {K:AV->Heap->Prop} (hm:C.memo f args=none) (hp:C.prim f=none) (hh:C.hprim f=none) (ht:C.twice f=false) (hmo:C.mode f=.fresh) (hb:C.born f=none:=by rfl) :
 VO (Z9 C rec lo f args H) K=AO (rec (.call H.n f args H)) fun o=>K o.val o.s.H:=by
 unfold Z9;simp only [hm,hp,hh,ht,hmo,hb,Bool.false_and,false_eq_true,if_false];cases rec (.call H.n f args H)<;>rfl
theorem BB {K:AV->Heap->Prop} (hm:C.memo f args=none) (hp:C.prim f=none) (hh:C.hprim f=none) (ht:C.twice f=false) (hmo:C.mode f=.pure) :
 VO (Z9 C rec lo f args H) K=AO (rec (.call H.n f args H)) fun o=>o.val.strip.pure=true/\K o.val.strip H:=by
 unfold Z9;simp only [hm,hp,hh,ht,hmo,Bool.false_and,false_eq_true,if_false];cases h:rec (.call H.n f args H) with
 | none=>rfl
 | some o=>cases hv:o.val.strip.pure<;>simp [VO,AO,hv]
end Go.Sim

namespace Go.Sim
section
variable {C:Cfg} {lo:Nat} {fid:FuncId} {rec:Rec} {T:TT AV} {H:Heap} {K:AV->Heap->Prop} {d:Option Tmp} {t:TypeId} {p:String} {af:Array Edge} {gd:Option (Nat × Bool)}
theorem Pi:XI C T none=some none:=rfl
theorem Pj (o:Operand):XI C T (some o)=match Z4 C T o with
 | some v=>some (some v)
 | none=>none:=rfl
theorem Pk (t':TypeId) (x:Operand) (a b c:Option Operand):VO (aop C rec fid lo ⟨d,.slice t' x a b c,t,p,af,gd⟩ T H) K =
 AO (Z4 C T x) fun x=>AO (XI C T a) fun a=>AO (XI C T b) fun b=>AO (XI C T c) fun c=>AO (XH C.P t' x a b c) fun v=>K v H:=by
 simp only [aop];cases Z4 C T x with
 | none=>rfl
 | some x=>cases XI C T a with
   | none=>rfl
   | some a=>cases XI C T b with
     | none=>rfl
     | some b=>cases XI C T c with
       | none=>rfl
       | some c=>show VO (same H (XH C.P t' x a b c)) K=_;cases h:XH C.P t' x a b c<;>simp [AO,h,VO,same]
def KA (a b:Int):Int:=if a < b then b else a
def minI (a b:Int):Int:=if b < a then b else a
def amax (a b:AV):Option AV:=JF (fun x y=>if y > x then y else x) a [b]
def amin (a b:AV):Option AV:=JF (fun x y=>if y < x then y else x) a [b]
theorem Pm (k l:IntKind) (a b:Int):amax (.int k a) (.int l b)=some (.int k (KA a b)):=rfl
theorem Pn (k l:IntKind) (a b:Int):amin (.int k a) (.int l b)=some (.int k (minI a b)):=rfl
theorem Po (x y:Operand) (ts:Array TypeId):VO (aop C rec fid lo ⟨d,.call ⟨.builtin .max,#[x,y],ts⟩,t,p,af,gd⟩ T H) K=AO (Z4 C T x) fun a=>AO (Z4 C T y) fun b=>AO (amax a b) fun v=>K v H:=by
 simp only [aop,YV,Y4];cases Z4 C T x with
 | none=>rfl
 | some x=>cases Z4 C T y with
   | none=>rfl
   | some y=>show VO (same H (amax x y)) K=_;cases h:amax x y<;>simp [AO,h,VO,same]
theorem Pp (x y:Operand) (ts:Array TypeId):VO (aop C rec fid lo ⟨d,.call ⟨.builtin .min,#[x,y],ts⟩,t,p,af,gd⟩ T H) K=AO (Z4 C T x) fun a=>AO (Z4 C T y) fun b=>AO (amin a b) fun v=>K v H:=by
 simp only [aop,YV,Y4];cases Z4 C T x with
 | none=>rfl
 | some x=>cases Z4 C T y with
   | none=>rfl
   | some y=>show VO (same H (amin x y)) K=_;cases h:amin x y<;>simp [AO,h,VO,same]
def amax3 (a b c:AV):Option AV:=JF (fun x y=>if y > x then y else x) a [b,c]
theorem Pq (k l m:IntKind) (a b c:Int):amax3 (.int k a) (.int l b) (.int m c)=some (.int k (KA (KA a b) c)):=rfl
def fnO (C:Cfg) (rec:Rec) (lo:Nat) (v:AV) (l:List AV) (H:Heap) (K:AV->Heap->Prop) (_t:Tag K:=⟨⟩):Prop:=match v with
 | .fn f first caps=>VO (Z9 C rec lo f ((first++l++caps).map AV.strip) H) K
 | .yld i=>AO (rec (.yield lo i (l.map AV.strip) H)) fun o=>K o.val o.s.H
 | _=>False
theorem Pr (i:Nat) (l:List AV):fnO C rec lo (.yld i) l H K=AO (rec (.yield lo i (l.map AV.strip) H)) fun o=>K o.val o.s.H:=rfl
theorem Ps (f:FuncId) (first caps l:List AV):fnO C rec lo (.fn f first caps) l H K=VO (Z9 C rec lo f ((first++l++caps).map AV.strip) H) K:=rfl
theorem Pt (x:Tmp) (xs:Array Operand) (ts:Array TypeId):VO (aop C rec fid lo ⟨d,.call ⟨.value (.tmp x),xs,ts⟩,t,p,af,gd⟩ T H) K=AO (Y4 C T xs.toList) fun l=>fnO C rec lo (Z1 T x) l H K:=by
 simp only [aop,YV];cases Y4 C T xs.toList with
 | none=>rfl
 | some l =>
   simp only [Z4];cases Z1 T x with
   | yld i=>show VO (match rec (.yield lo i (l.map AV.strip) H) with | some o=>some (o.val,o.s.H) | none=>none) K=AO (rec (.yield lo i (l.map AV.strip) H)) fun o=>K o.val o.s.H
            cases rec (.yield lo i (l.map AV.strip) H)<;>rfl
   | _=>rfl
theorem Fy (hm:C.memo f args=none) (hp:C.prim f=none) (hh:C.hprim f=none) (ht:C.twice f=false) (hmo:C.mode f=.free) :
 VO (Z9 C rec lo f args H) K=AO (rec (.call lo f args H)) fun o=>K o.val o.s.H:=by
 unfold Z9;simp only [hm,hp,hh,ht,hmo,Bool.false_and,false_eq_true,if_false];cases rec (.call lo f args H)<;>rfl
end
def accM (v:Option AV):Option Acc:=match v with
 | some (.map id)=>some (.wr id)
 | _=>none
theorem Pu (id:Nat):accM (some (.map id))=some (.wr id):=rfl
def Jm (v:Option AV):Option Acc:=match v with
 | some (.ps (.tok k) _)=>some (.wr k)
 | some (.rs id _ _ _ _)=>some (.wr id)
 | some (.ptr id _)=>some (.wr id)
 | _=>none
theorem Pv (k:Nat) (rows:List (List AV)):Jm (some (.ps (.tok k) rows))=some (.wr k):=rfl
theorem Pw (rows:List (List AV)):Jm (some (.ps .nil rows))=none:=rfl
theorem Px (rows:List (List AV)):Jm (some (.ps .exact rows))=none:=rfl
theorem Py (a b c d:Nat) (e:Option Nat):Jm (some (.rs a b c d e))=some (.wr a):=rfl
theorem Pz {C:Cfg} (T:TT AV) (n:Nat) (d:Option Tmp) (a b:Operand) (ts:Array TypeId) (t:TypeId) (p:String) (af:Array Edge) (gd:Option (Nat × Bool)):Zr C T n .writeAt ⟨d,.call ⟨.builtin .append,#[a,b],ts⟩,t,p,af,gd⟩=Jm (Z4 C T a):=by
 unfold Zr;cases h:Z4 C T a with
 | none=>simp [h,Jm]
 | some v=>cases v with
   | ps t rows=>cases t<;>simp [h,Jm]
   | _=>simp [h,Jm]
theorem PB (a:Nat):(a=a+1)=False:=by simp only [eq_iff_iff,iff_false];omega
theorem PC (a:Nat):(a=a+1+1)=False:=by simp only [eq_iff_iff,iff_false];omega
theorem PD (a:Nat):(a=a+1+1+1)=False:=by simp only [eq_iff_iff,iff_false];omega
theorem PE (a:Nat):(a=a+1+1+1+1)=False:=by simp only [eq_iff_iff,iff_false];omega
theorem PG (a:Nat):(a+1=a)=False:=by simp only [eq_iff_iff,iff_false];omega
theorem PH (a:Nat):(a+1+1=a)=False:=by simp only [eq_iff_iff,iff_false];omega
theorem PI (a:Nat):(a+1+1+1=a)=False:=by simp only [eq_iff_iff,iff_false];omega
theorem Qx (H:Heap) (i:Nat) (b:ABlk):(H.set i b).n=H.n:=Eq.trans rfl rfl
theorem JY (H:Heap) (b:ABlk):(H.push b).n=H.n+1:=Eq.trans rfl rfl
theorem Fz (a b:Nat):(a=a+b)=(b=0):=by simp
theorem BC (a b:Nat):(a+b=a)=(b=0):=by simp
theorem BD (hk:0 < k) (h:k<=n) (hn:n<=Z2):ZC .i64 (Int.sub (k:Int) 1)=((k - 1:Nat):Int):=by
 have e:Int.sub (k:Int) 1=((k - 1:Nat):Int):=by show (k:Int) - 1=_;omega
 rw [e];exact Vb (by unfold Z2 at hn;omega)
end Go.Sim
