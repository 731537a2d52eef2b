/-
Lemmas of one proof, the texts SimCtl to SimRegion joined.
-/
import Derived.Test.YtlooccmcmeofhaaGreatDoorT07
import Derived.RangeFuncRecord
import Derived.Scope
set_option linter.unusedSimpArgs false
set_option linter.unusedVariables false
set_option maxRecDepth 100000
set_option maxHeartbeats 32000000
noncomputable section
open Go
open Bool (and_eq_true)
open List (drop_drop getElem?_drop length_cons range'_succ)
open Nat (lt_of_lt_of_le zero_le)
open Option (bind_some getD_none getD_some)
variable {H':Go.Sim.Heap} {M:List Nat} {P:Go.Program} {T:Go.Sim.TT Go.Sim.AV} {args:List Go.Sim.AV} {cv:Go.Value} {f fid:Go.FuncId} {g':Go.Sim.Gh} {lo n':Nat} {r:Option Go.Sim.AV} {rec:Go.Sim.Rec} {ro:Option Nat} {v:Go.Sim.AV} {w':Go.World}

namespace Go.Sim
variable {F:Fence} {n:Nat} {P:Program} {Q:Exit->Act->World->Prop} {a:Act} {w:World}
theorem V4 {b:Frame} {k:List Item} {cs:List Frame} {c:Code}:step P (lone (b.atR a (.code (.scope c)::k)) cs w)=.next (lone (b.atR a (.code c :: .inScope c::k)) cs w) :=
 step_lone_go (by simp [stepG,stepG.exec,Frame.atR])
theorem Mg {b:Frame} {k:List Item} {cs:List Frame} {c:Code}:step P (lone (b.atR a (.inScope c::k)) cs w)=.next (lone (b.atR a k) cs w) :=
 step_lone_go (by simp [stepG,stepG.exec,Frame.atR])
theorem Mh {c:Code} (h:c.wpIn F n P (Exit.noGoto Q) a w):(Code.scope c).wpIn F n P Q a w:=by
 intro b k cs hro hb hr;have h0:(lone (b.atR a (.code (.scope c)::k)) cs w).fenced P F:=fenced_calm hb hr rfl;obtain ⟨e,a₁,w₁,hq,harr⟩:=h b (.inScope c::k) cs hro hb hr;cases e with
 | normal=>exact ⟨.normal,a₁,w₁,hq,.head h0 V4 (StepsIn.trans harr (.one (fenced_calm hb hr rfl) Mg))⟩
 | exit id =>
   have hx:exitTo id (.inScope c::k)=exitTo id k:=by simp [exitTo]
   exact ⟨.exit id,a₁,w₁,hq,fun k' hk=>.head h0 V4 (harr.1 k' (by rw [hx];exact hk)),
    fun hr' hk=>let ⟨k₁,h1,h2⟩:=harr.2 hr' (by rw [hx];exact hk);⟨k₁,h1,.head h0 V4 h2⟩⟩
 | goto l=>exact hq.elim
 | ret=>exact ⟨_,a₁,w₁,hq,.of_steps (.one h0 V4) harr⟩
 | panic ch=>exact ⟨_,a₁,w₁,hq,.of_steps (.one h0 V4) harr⟩
 | outgrown=>exact ⟨_,a₁,w₁,hq,.of_steps (.one h0 V4) harr⟩
def QK (F:Fence) (n:Nat) (P:Program) (c:Code) (Q:Exit->Act->World->Prop) (a:Act) (w:World):Prop :=
 ∀ (b:Frame) (k:List Item) (cs:List Frame),b.roundOf=F.round->F.fn b.fn->F.room (cs.length+1+n) ->
   ∃ e a' w',Q e a' w'/\ArrivesIn (Machine.fenced P F) P (lone (b.atR a (.code c :: .inLoop c::k)) cs w) b k cs e a' w'
theorem QK.wpIn {c:Code} (h:QK F n P c Q a w):(Code.loop c).wpIn F n P Q a w:=fun b k cs hro hb hr =>
 let ⟨e,a',w',q,r⟩:=h b k cs hro hb hr
 ⟨e,a',w',q,.of_steps (.one (fenced_calm hb hr rfl) stepR_loop) r⟩
theorem QK.round {c:Code} (h:c.wpIn F n P (Exit.then (QK F n P c Q) Q) a w):QK F n P c Q a w:=by
 intro b k cs hro hb hr;obtain ⟨e,a₁,w₁,hq,harr⟩:=h b (.inLoop c::k) cs hro hb hr;cases e with
 | normal =>
   obtain ⟨e₂,a₂,w₂,hq₂,harr₂⟩:=hq b k cs hro hb hr;exact ⟨e₂,a₂,w₂,hq₂,.of_steps (StepsIn.trans harr (.one (fenced_calm hb hr rfl) stepR_inLoop)) harr₂⟩
 | exit id=>exact ⟨_,a₁,w₁,hq,.pass (x:=.inLoop c) rfl (fun _ _=>.inl (by simp)) harr⟩
 | goto l=>exact ⟨_,a₁,w₁,hq,.pass (x:=.inLoop c) rfl (fun _ _=>.inl (by simp)) harr⟩
 | ret=>exact ⟨_,a₁,w₁,hq,.pass (x:=.inLoop c) rfl (fun _ _=>.inl (by simp)) harr⟩
 | panic ch=>exact ⟨_,a₁,w₁,hq,.pass (x:=.inLoop c) rfl (fun _ _=>.inl (by simp)) harr⟩
 | outgrown=>exact ⟨_,a₁,w₁,hq,.pass (x:=.inLoop c) rfl (fun _ _=>.inl (by simp)) harr⟩
theorem QK.mono {c:Code} {Q':Exit->Act->World->Prop} (h:QK F n P c Q a w) (hq:∀ e a w,Q e a w->Q' e a w):QK F n P c Q' a w :=
 fun b k cs hro hb hr=>let ⟨e,a',w',q,r⟩:=h b k cs hro hb hr;⟨e,a',w',hq _ _ _ q,r⟩
end Go.Sim

namespace Go.Sim
variable {C:Cfg} {g:Gh} {n:Nat} {H:Heap} {w:World}
def Yq (ro:Option Nat):Fence:={ Fence.wide with round:=ro }
def Qe (C:Cfg) (lo:Nat) (g:Gh) (H:Heap) (w:World) (v:AV) (H':Heap):Ending->World->Prop
 | .returned cv,w'=>ZI C lo g H w v H' cv w'
 | _,_=>False
def VP (P:Program) (f:FuncId):Prop:=∃ fn,P.funcs[f]? = some fn/\fn.body.isSome=true/\(fn.name == "runtime.NumGoroutine")=false
theorem AP (h:VP P f) (args:Array Value):(callFunc f args).run P w=.ok (.enter f args) w:=by
 obtain ⟨fn,h1,h2,h3⟩:=h;have:fn.body.isNone=false:=by cases hb:fn.body<;>simp [hb] at h2 ⊢
 have h3':¬ (fn.name = "runtime.NumGoroutine"):=by simpa using h3
 have h4:¬ (fn.body=none):=by intro e;rw [e] at h2;cases h2
 unfold callFunc;simp [h1,h3',h4]
def Za (C:Cfg) (lo:Nat) (f:FuncId) (args:List AV) (H:Heap) (v:AV) (H':Heap):Prop :=
 VP C.P f /\ ∀ g w (cargs:List Value),Rel C g H w->Zb g H.n args cargs->CallsIn Fence.wide 0 C.P f cargs.toArray w (Qe C lo g H w v H')
def V5 (lo:Nat) (g:Gh) (n:Nat) (M:List Nat) (ds:List Deferred):Prop :=
 Zh (fun (id:Nat) (d:Deferred)=>lo<=id/\id < n/\d.target=.collected (g.L id).b) M ds
theorem V5.mono {g:Gh} {n:Nat} {ds:List Deferred} (h:V5 lo g n M ds) (hn:n<=n') (hg:Gh.le n g g'):V5 lo g' n' M ds :=
 Zh.mono h fun _ _ r=>⟨r.1,lt_of_lt_of_le r.2.1 hn,by rw [hg.L _ r.2.1];exact r.2.2⟩
structure ARel (C:Cfg) (lo:Nat) (g:Gh) (n:Nat) (T:TT AV) (M:List Nat) (a:Act):Prop where
 f:FRel C g n T a
 m:V5 lo g n M a.defers
def Q3:AExit->Exit->Prop
 | .nrm,.normal=>True
 | .ext i,.exit j=>i=j
 | .gto i,.goto j=>i=j
 | .ret,.ret=>True
 | _,_=>False
def QZ (C:Cfg) (lo:Nat) (g:Gh) (s:St) (w:World) (size:Nat) (o:Out) (e:Exit) (a':Act) (w':World):Prop :=
 Q3 o.e e /\ ∃ g',Rel C g' o.s.H w'/\Ext lo g s.H w g' o.s.H w'/\ARel C lo g' o.s.H.n o.s.T o.s.M a'/\a'.tmps.size=size
def XJ (C:Cfg):Task->Out->Prop
 | .call lo f args H,o=>lo<=H.n->Za C lo f args H o.val o.s.H
 | .code lo fid rnd c s,o=>∀ (ro:Option Nat) (g:Gh) (w:World) (a:Act),ro.isSome=rnd->lo<=s.H.n->Rel C g s.H w->ARel C lo g s.H.n s.T s.M a->Zz C fid a.tmps.size c=true ->
  c.wpIn (Yq ro) 0 C.P (QZ C lo g s w a.tmps.size o) a w /\ ∀ b,c=.loop b->QK (Yq ro) 0 C.P b (QZ C lo g s w a.tmps.size o) a w
 | .yield lo l args H,o=>lo<=H.n -> ∀ (g:Gh) (w:World) (cargs:List Value),Rel C g H w->Zb g H.n args cargs->l < H.n -> ∃ r:Loop,w.heap[(g.L l).b]? = some (.loop r)/\cargs.length=r.params.size /\
  RoundIn Fence.wide 0 C.P (g.L l).b r.fn ((r.params.zip cargs.toArray).foldl (fun tmps (t,a)=>tmps.setIfInBounds t a) r.tmps) r.assign r.body w (Qe C lo g H w o.val o.s.H)
structure Sane (C:Cfg):Prop where
 depth:100<=C.P.depth
 orders:C.P.follows .mixedOrders=true
 good:∀ f,C.good f=true -> ∃ fn c,C.P.funcs[f]? = some fn/\fn.body=some c/\(fn.name == "runtime.NumGoroutine")=false/\Zz C f fn.ntmps c=true
 memo:∀ f args v,C.memo f args=some v -> ∀ lo H,Za C lo f args H v H
 prim:∀ f p args v,C.prim f=some p->p args=some v -> ∀ lo H,Za C lo f args H v H
 hprim:∀ f p lo args H v H',C.hprim f=some p->p lo args H=some (v,H')->lo<=H.n->Za C lo f args H v H'
 at1:AtOk C:=by intro f p lo args H v H' h;cases h
 born:∀ f b args H v H',C.born f=some b->b args H=some (v,H')->Za C H.n f args H v H':=by intro f b args H v H' h;cases h
theorem Kw {o:Oper} (hno:∀ c,o.op ≠ .defer c) {a:Act} {next:Act->World->Prop} {Q:Exit->Act->World->Prop}
 (hrun:(execOp a.eval o).run P w=.ok (.value cv) w') (h:next (a.put o.dst cv) w'):o.wpIn (Yq ro) 0 P a w next Q:=by
 refine ⟨fun _ _=>trivial, ?_⟩;rw [Oper.semAt_eq _ _ _ hno,hrun];exact h
theorem Mi {o:Oper} (hno:∀ c,o.op ≠ .defer c) {a:Act} {next:Act->World->Prop} {Q:Exit->Act->World->Prop}
 (hrun:(execOp a.eval o).run P w=.ok .skip w') (h:next (a.put o.dst undef) w'):o.wpIn (Yq ro) 0 P a w next Q:=by
 refine ⟨fun _ _=>trivial, ?_⟩;rw [Oper.semAt_eq _ _ _ hno,hrun];exact h
theorem Mj {o:Oper} (hno:∀ c,o.op ≠ .defer c) {a:Act} {args:Array Value} {next:Act->World->Prop} {Q:Exit->Act->World->Prop}
 (hrun:(execOp a.eval o).run P w=.ok (.enter f args) w') {R:Ending->World->Prop} (hc:CallsIn Fence.wide 0 P f args w' R) (h:∀ e w'',R e w'' -> ∃ cv,e=.returned cv/\next (a.put o.dst cv) w''):o.wpIn (Yq ro) 0 P a w next Q:=by
 refine ⟨fun _ _=>trivial, ?_⟩;rw [Oper.semAt_eq _ _ _ hno,hrun,Oper.uponIn_enter];refine ⟨fun h=>absurd h (by simp [Yq,Fence.wide]), ?_⟩;have hc':CallsIn (Yq ro) (0 - 1) P f args w' R:=hc;refine hc'.mono fun e w'' hr => ?_
 obtain ⟨cv,rfl,hn⟩:=h e w'' hr;exact hn
theorem Mk {o : Oper} (hno : ∀ c, o.op ≠ .defer c) {a : Act} {l : Nat} {tmps : Array Value} {as bd : Code} {next : Act → World → Prop} {Q : Exit → Act → World → Prop}
    (hrun : (execOp a.eval o).run P w = .ok (.round l f tmps as bd) w') {R : Ending → World → Prop} (hc : RoundIn Fence.wide 0 P l f tmps as bd w' R) (h : ∀ e w'', R e w'' → ∃ cv, e = .returned cv ∧ next (a.put o.dst cv) w'') : o.wpIn (Yq ro) 0 P a w next Q := by
  refine ⟨fun _ _ => trivial, ?_⟩
  rw [Oper.semAt_eq _ _ _ hno, hrun, Oper.uponIn_round]
  refine ⟨fun h => absurd h (by simp [Yq, Fence.wide]), ?_⟩
  have hc' : RoundIn (Yq ro) (0 - 1) P l f tmps as bd w' R := hc
  refine hc'.mono fun e w'' hr => ?_
  obtain ⟨cv, rfl, hn⟩ := h e w'' hr
  exact hn
def AQ (C:Cfg) (lo:Nat) (g:Gh) (H:Heap) (w:World) (v:AV) (H':Heap) (a:Act) (dst:Option Tmp) (next:Act->World->Prop):Prop :=
 ∀ cv w',ZI C lo g H w v H' cv w'->next (a.put dst cv) w'
theorem Qe.returned {e:Ending} (h:Qe C lo g H w v H' e w'):∃ cv,e=.returned cv/\ZI C lo g H w v H' cv w':=by
 cases e with
 | returned cv=>exact ⟨cv,rfl,h⟩
 | _=>exact h.elim
theorem Za.weaken {lo':Nat} (h:Za C lo' f args H v H') (hl:lo<=lo'):Za C lo f args H v H' :=
 ⟨h.1,fun g w cargs hR ha=>(h.2 g w cargs hR ha).mono fun e w' hp=>by
   obtain ⟨cv,rfl,g',r1,r2,r3⟩:=hp.returned;exact ⟨g',r1,r2.lower hl,r3⟩⟩
theorem Ml {C C2:Cfg} (hP:C2.P=C.P) (hG:C2.glob=C.glob) {args':List AV} (h:Za C 0 f args' .empty v .empty) (hv:v.scal=true) {d:Nat} (lo:Nat) {H:Heap} (hd:YL (Ye d H) args=some args'):Za C2 lo f args H v H:=by
 refine ⟨hP ▸ h.1,fun g w cargs hR ha => ?_⟩;have hR0:=hR.bare hG.symm (K:=fun b o=>w.cell? ⟨b,o,none⟩) hR.know (fun _ _ _ h=>h);have ha0:Zb ⟨g.L,fun b o=>w.cell? ⟨b,o,none⟩⟩ 0 args' cargs:=Mf hR (g2:=⟨g.L,fun b o=>w.cell? ⟨b,o,none⟩⟩) hR.know (fun _ _ _ _ _ h=>h) d hd ha;rw [hP];refine (h.2 _ w cargs hR0 ha0).mono fun e w' hpost => ?_
 obtain ⟨cv,rfl,g',r1,r2,r3⟩:=hpost.returned;obtain ⟨b1,b2⟩:=hR.below (w':=w') ⟨r2.os,r2.tape,r2.output,r2.size,fun b hb=>r2.frame b hb UQ⟩ lo;refine ⟨g,b1,b2, ?_⟩;cases r3<;>first | exact .bool _ | exact .int _ _ | (rename_i hs;exact .str hs) | (simp [AV.scal] at hv)
theorem Mm (S:Sane C) (ih:∀ t o,rec t=some o->XJ C t o) (hlo:lo<=H.n)
 (h:Z9 C rec lo f args H=some (v,H')):Za C lo f args H v H':=by
 unfold Z9 at h;split at h
 . rename_i v0 hm
   simp at h;obtain ⟨rfl,rfl⟩:=h;exact S.memo f args _ hm lo H
 . split at h
   . rename_i p hp
     unfold same at h;split at h
     . rename_i v0 hv
       simp only [Option.some.injEq,Prod.mk.injEq] at h;obtain ⟨rfl,rfl⟩:=h;split at hv
       . unfold Qt at hv;split at hv
         . rename_i a ha
           split at hv
           . rename_i u hu
             split at hv
             . rename_i h2
               simp only [Option.some.injEq] at hv;subst hv;exact Ml (C:=C) (C2:=C) rfl rfl (S.prim f p a _ hp hu 0 .empty) h2 lo ha
             . cases hv
           . cases hv
         . cases hv
       . exact S.prim f p args _ hp hv lo H
     . cases h
   . split at h
     . rename_i p hp
       exact S.hprim f p lo args H v H' hp h hlo
     . split at h
       . rename_i htw
         simp only [and_eq_true] at htw;split at h
         . rename_i oa ob ha hb
           have sa:=ih _ _ ha (Nat.le_refl _);have sb:=ih _ _ hb (Nat.le_refl _);split at h
           . rename_i ea eb
             simp at h;obtain ⟨rfl,rfl⟩:=h;refine ⟨sa.1,fun g w cargs hR hargs => ?_⟩;have hone:∃ tok,args=[.ps tok []]/\(tok=.unk\/tok=.exact \/ ∃ k,tok=.tok k):=by
              have:=htw.2;unfold GO at this;split at this<;>first | exact ⟨_,rfl,.inl rfl⟩ | exact ⟨_,rfl,.inr (.inl rfl)⟩ | exact ⟨_,rfl,.inr (.inr ⟨_,rfl⟩)⟩ | cases this
             obtain ⟨tok,rfl,_⟩:=hone;obtain ⟨cv,m',rfl,h1,h2⟩:=hargs.cons_left;have:=h2.nil_left;subst this;have finish:∀ (o:Out) (tk:Tok),o.val=.ps tk []->(tk=.nil\/tk=.exact)->Za C H.n f [.ps (if tk matches .nil then .nil else .nn) []] H o.val o.s.H->VRel g H.n (.ps (if tk matches .nil then .nil else .nn) []) cv ->
              CallsIn Fence.wide 0 C.P f [cv].toArray w (Qe C lo g H w (.ps .exact []) H):=by
              intro o tk hv htk hok hrel;refine (hok.2 g w [cv] hR (.cons hrel .nil)).mono fun e w' hp => ?_
              obtain ⟨cr,rfl,g',r1,r2,r3⟩:=hp.returned;obtain ⟨b1,b2⟩:=hR.back_call r1 r2 lo;refine ⟨g',b1,b2, ?_⟩;rw [hv] at r3;cases r3 with
              | ps vals hsz hl hk hv' hcap htok' =>
                rcases htk with rfl | rfl
                . exact htok'.elim
                . exact .ps vals hsz hl hk hv' hcap htok'
              | psnil hm=>exact .psnil trivial
              | psz hm=>exact .psz trivial
             cases h1 with
             | ps vals hsz hl hk hv hcap htok=>exact finish ob .exact eb (.inr rfl) sb (.ps vals hsz hl hk hv hcap trivial)
             | psnil hm=>exact finish oa .nil ea (.inl rfl) sa (.psnil trivial)
             | psz hm=>exact finish ob .exact eb (.inr rfl) sb (.psz trivial)
           . cases h
         . cases h
       . split at h
         . -- nothing is left behind
           split at h
           . rename_i o ho
             have s:=ih _ _ ho (Nat.le_refl _);split at h
             . rename_i hpure
               simp at h;obtain ⟨rfl,rfl⟩:=h;refine ⟨s.1,fun g w cargs hR hargs=>(s.2 g w cargs hR hargs).mono fun e w' hp => ?_⟩;obtain ⟨cr,rfl,g',r1,r2,r3⟩:=hp.returned;obtain ⟨b1,b2⟩:=hR.back_call r1 r2 lo;exact ⟨g',b1,b2,(r3.strip.pure hpure).any fun _ _ _ h=>h⟩
             . cases h
           . cases h
         . split at h
           . rename_i b hb
             exact (S.born f b args H v H' hb h).weaken hlo
           . split at h
             . rename_i o ho
               simp at h;obtain ⟨rfl,rfl⟩:=h;exact (ih _ _ ho (Nat.le_refl _):Za C H.n f args H _ _).weaken hlo
             . cases h
         . split at h
           . rename_i o ho
             simp at h;obtain ⟨rfl,rfl⟩:=h;exact ih _ _ ho hlo
           . cases h
theorem Fb {a:Act} (h:FRel C g n T a) {l:Array Operand} {m:List AV} (he:Y4 C T l.toList=some m):∃ vs:List Value,l.map a.eval=vs.toArray/\Zb g n m vs :=
 ⟨l.toList.map a.eval,by apply Array.toList_inj.1;simp,A7 h he⟩
theorem Fc {ρ:Operand->Value} {o:Oper} {c:Call} (ho:o.op=.call c) {d:Deferred} {r:Result Next} (h1:(resolve ρ c o.type).run P w=.ok d w) (h2:(invoke d.target d.args).run P w=r) :
 (execOp ρ o).run P w=r:=by
 unfold execOp;rw [ho];simp only [Sem.run_bind,h1,Result.andThen_ok,h2]
theorem V6 {o:Oper} {c:Call} (ho:o.op=.call c) {b:Builtin} (hb:c.callee=.builtin b) {a:Act} {next:Act->World->Prop} {Q:Exit->Act->World->Prop}
 (hrun:(builtin b c.argTypes o.type (c.args.map fun | .const _=>true | _=>false) (c.args.map a.eval)).run P w=.ok (.value cv) w') (h:next (a.put o.dst cv) w'):o.wpIn (Yq ro) 0 P a w next Q:=by
 refine Kw (fun c'=>by rw [ho];exact fun h=>by cases h) ?_ h;exact Fc ho (d:={ target:=.builtin b c.argTypes o.type (c.args.map fun | .const _=>true | _=>false),args:=c.args.map a.eval }) (by unfold resolve;rw [hb];rfl) (by unfold invoke;exact hrun)
theorem Mn (S:Sane C) (ih:∀ t o,rec t=some o->XJ C t o) {o:Oper} {c:Call} (ho:o.op=.call c) {a:Act} {next:Act->World->Prop} {Q:Exit->Act->World->Prop}
 (hlo:lo<=H.n) (h:YV C rec fid lo c T H=some (v,H')) (hR:Rel C g H w) (hT:FRel C g H.n T a) (hnext:AQ C lo g H w v H' a o.dst next):o.wpIn (Yq ro) 0 C.P a w next Q:=by
 have hno:∀ c',o.op ≠ .defer c':=fun c'=>by rw [ho];exact fun h=>by cases h
 unfold YV at h;split at h
 . cases h
 . rename_i args hargs
   obtain ⟨cargs,hmap,hrel⟩:=Fb hT hargs;split at h
   . -- by a value
     rename_i x hx
     split at h
     . -- a function
       rename_i f first caps hf
       have hv:=ZR hT hf;generalize hcv:a.eval x=cx at hv;cases hv with
       | @fn _ _ _ _ fv cv hl hl' hfv hcvv =>
         have hok:=Mm S ih hlo h;have hall:Zb g H.n ((first++args++caps).map (stripO C x)) (fv++cargs++cv):=Zb.stripO ((Zh.append (Zh.append ⟨hl,hfv⟩ hrel) ⟨hl',hcvv⟩));refine Mj hno ?_ (hok.2 g w _ hR hall) fun e w'' hp => ?_
         . refine Fc ho (d:={ target:=.fn (.func f) cv.toArray,args:=fv.toArray++cargs.toArray }) ?_ ?_
           . simp [resolve,hx,hcv,Deferred.ofValue,hmap]
           . have:=AP (w:=w) hok.1 (fv++cargs++cv).toArray;simpa [invoke] using this
         . obtain ⟨cv,rfl,hd⟩:=hp.returned;exact ⟨cv,rfl,hnext cv w'' hd⟩
     . -- a round
       rename_i l hf
       have hv:=ZR hT hf;generalize hcv:a.eval x=cx at hv;cases hv with
       | yld hl =>
         split at h
         . rename_i oo hoo
           simp at h;obtain ⟨rfl,rfl⟩:=h;obtain ⟨r,hr1,hr2,hr3⟩:=ih _ _ hoo hlo g w cargs hR (Zb.strip hrel) hl;refine Mk hno ?_ hr3 fun e w'' hp => ?_
           . refine Fc ho (d:={ target:=.fn (.yield (g.L l).b) #[],args:=cargs.toArray }) ?_ ?_
             . simp [resolve,hx,hcv,Deferred.ofValue,hmap]
             . have:=run_yield (P:=C.P) (args:=cargs.toArray) hr1 (by simpa using hr2);simpa [invoke] using this
           . obtain ⟨cv,rfl,hd⟩:=hp.returned;exact ⟨cv,rfl,hnext cv w'' hd⟩
         . cases h
     . cases h
   . cases h
   . -- a builtin
     rename_i b hb
     have pure1:∀ {r:Option AV},same H r=some (v,H')->r=some v/\H'=H:=fun {r} hs=>by
      unfold same at hs;split at hs
      . simp at hs;exact ⟨by simp [hs.1],hs.2.symm⟩
      . cases hs
     split at h
     . -- len
       rename_i t x hts
       obtain ⟨h1,rfl⟩:=pure1 h;obtain ⟨cx,m',rfl,hx1,hx2⟩:=hrel.cons_left;have:=hx2.nil_left;subst this;obtain ⟨cr,k1,k2⟩:=LF (P:=C.P) hR h1 hx1 o.type;refine V6 ho hb ?_ (hnext cr w (ZI.same hR k2));have hat:c.argTypes = #[t]:=by apply Array.toList_inj.1;rw [hts]
       rw [hmap,hat];simp [builtin,k1]
     . rename_i x r
       obtain ⟨h1,rfl⟩:=pure1 h;obtain ⟨cx,m',rfl,hx1,hx2⟩:=hrel.cons_left;obtain ⟨cr,k1,k2⟩:=GY (P:=C.P) (w:=w) (m2:=Builtin.max2) (fun k a l b=>rfl) h1 hx1 hx2;refine V6 ho hb ?_ (hnext cr w (ZI.same hR k2));rw [hmap];simp [builtin,Builtin.max_,k1]
     . rename_i x r
       obtain ⟨h1,rfl⟩:=pure1 h;obtain ⟨cx,m',rfl,hx1,hx2⟩:=hrel.cons_left;obtain ⟨cr,k1,k2⟩:=GY (P:=C.P) (w:=w) (m2:=Builtin.min2) (fun k a l b=>rfl) h1 hx1 hx2;refine V6 ho hb ?_ (hnext cr w (ZI.same hR k2));rw [hmap];simp [builtin,Builtin.min_,k1]
     . -- append
       rename_i ts tx s x hts
       obtain ⟨cs,m',rfl,hs1,hs2⟩:=hrel.cons_left;obtain ⟨cx,m'',rfl,hx1,hx2⟩:=hs2.cons_left;have:=hx2.nil_left;subst this;have hat:c.argTypes = #[ts,tx]:=by apply Array.toList_inj.1;rw [hts]
       split at h
       . rename_i e dx he hdx
         split at h
         . cases h
         . rename_i hni
           split at h
           . rename_i sz bytes z hsz hby hz
             split at h
             . rename_i hc
               simp only [and_eq_true,decide_eq_true_eq] at hc;split at h
               . rename_i rx hrx
                 obtain ⟨new,zc,A,hnew,hlen⟩:=LV (P:=C.P) hR he hdx (by cases dx<;>simp_all [UD]) hsz hby hz hc.1 hc.2 hx1 hrx;have fin:(∃ cv w',(Builtin.append_ #[ts,tx] o.type #[cs,cx]).run C.P w=.ok cv w'/\ZI C lo g H w v H' cv w')->o.wpIn (Yq ro) 0 C.P a w next Q:=by
                  rintro ⟨cv,w',k1,k2⟩;refine V6 ho hb ?_ (hnext cv w' k2);rw [hmap,hat];simp [builtin,k1]
                 split at h
                 . exact fin (LY hR h A hs1 hnew hlen o.type)
                 . exact fin (LW hR h A hs1 hnew hlen o.type)
               . cases h
             . cases h
           . cases h
       . cases h
     . -- copy
       rename_i t tr d s hts
       obtain ⟨cd,m',rfl,hs1,hs2⟩:=hrel.cons_left;obtain ⟨cs,m'',rfl,hx1,hx2⟩:=hs2.cons_left;have:=hx2.nil_left;subst this;have hat:c.argTypes=(t::tr).toArray:=by apply Array.toList_inj.1;rw [hts]
       obtain ⟨cv,w',k1,k2⟩:=M4 (P:=C.P) hR h hs1 hx1 tr o.type;refine V6 ho hb ?_ (hnext cv w' k2);rw [hmap,hat];simp [builtin,k1]
     . -- clear
       rename_i t x hts
       obtain ⟨cx,m',rfl,hx1,hx2⟩:=hrel.cons_left;have:=hx2.nil_left;subst this;have hat:c.argTypes = #[t]:=by apply Array.toList_inj.1;rw [hts]
       obtain ⟨cv,w',k1,k2⟩:=M5 (P:=C.P) hR h hx1 o.type;refine V6 ho hb ?_ (hnext cv w' k2);rw [hmap,hat];simp [builtin,k1]
     . cases h
theorem Fd {a:Act} (h:FRel C g n T a) {x:Option Operand} (he:XI C T x=some r):Ku g n r (x.map a.eval):=by
 cases x with
 | none=>simp [XI] at he;subst he;trivial
 | some x =>
   simp only [XI] at he;split at he
   . rename_i v hv
     simp at he;subst he;exact ZR h hv
   . cases he
theorem X8 {H:Heap} (h:same H r=some (v,H')):r=some v/\H'=H:=by
 unfold same at h;split at h
 . simp at h;exact ⟨by simp [h.1],h.2.symm⟩
 . cases h
theorem VQ {r:Option Heap} (h:JO r=some (v,H')):r=some H'/\v=Y9:=by
 unfold JO at h;split at h
 . simp at h;exact ⟨by simp [h.2],h.1.symm⟩
 . cases h
theorem AR (S:Sane C) (ih:∀ t o,rec t=some o->XJ C t o) {o:Oper} {a:Act} {next:Act->World->Prop} {Q:Exit->Act->World->Prop}
 (hlo:lo<=H.n) (h:aop C rec fid lo o T H=some (v,H')) (hR:Rel C g H w) (hT:FRel C g H.n T a) (hnext:AQ C lo g H w v H' a o.dst next):o.wpIn (Yq ro) 0 C.P a w next Q:=by
 have val:∀ (s:Sem Value),(∀ c,o.op ≠ .defer c)->execOp a.eval o=(do pure (.value (<- s)):Sem Next)->(∃ cv w',s.run C.P w=.ok cv w'/\ZI C lo g H w v H' cv w')->o.wpIn (Yq ro) 0 C.P a w next Q:=by
  rintro s hno he ⟨cv,w',k1,k2⟩;exact Kw hno (by rw [he];simp [k1]) (hnext cv w' k2)
 have pval:∀ (s:Sem Value),(∀ c,o.op ≠ .defer c)->execOp a.eval o=(do pure (.value (<- s)):Sem Next)->H'=H->(∃ cv,s.run C.P w=.ok cv w/\VRel g H.n v cv)->o.wpIn (Yq ro) 0 C.P a w next Q:=by
  rintro s hno he rfl ⟨cv,k1,k2⟩;exact val s hno he ⟨cv,w,k1,ZI.same hR k2⟩
 have unit:∀ (s:Sem Unit),(∀ c,o.op ≠ .defer c)->execOp a.eval o=(do s;pure .skip:Sem Next)->v=Y9->(∃ w',s.run C.P w=.ok () w'/\ZI C lo g H w Y9 H' Go.undef w')->o.wpIn (Yq ro) 0 C.P a w next Q:=by
  rintro s hno he rfl ⟨w',k1,k2⟩;exact Mi hno (by rw [he];simp [k1]) (hnext _ w' k2)
 have moved:∀ x,(∀ c,o.op ≠ .defer c)->execOp a.eval o=pure (.value (a.eval x))->(match Z4 C T x with
  | some v=>if C.frz fid o.type then QI lo H v else some (v,H)
  | none=>none)=some (v,H')->o.wpIn (Yq ro) 0 C.P a w next Q:=by
  intro x hno he h;split at h
  . rename_i v0 hv
    have hrel:=ZR hT hv;refine Kw hno (by rw [he];rfl) (hnext (a.eval x) w ?_);split at h
    . exact Fa hR h hrel
    . simp at h;obtain ⟨rfl,rfl⟩:=h;exact ZI.same hR hrel
  . cases h
 unfold aop at h;split at h
 . rename_i x hop;exact moved x (by rw [hop];simp) (by unfold execOp;rw [hop]) h
 . rename_i x hop;exact moved x (by rw [hop];simp) (by unfold execOp;rw [hop]) h
 . -- pick
   rename_i c x y hop
   have hno:∀ c,o.op ≠ .defer c:=by rw [hop];simp
   split at h
   . rename_i hc
     obtain ⟨h1,rfl⟩:=X8 h;have hcc:=ZR hT hc;generalize hcv:a.eval c=cc at hcc;cases hcc;refine Kw hno (w':=w) (cv:=a.eval x) ?_ (hnext _ _ (ZI.same hR (ZR hT h1)));unfold execOp;rw [hop];simp [hcv,asBool]
   . rename_i hc
     obtain ⟨h1,rfl⟩:=X8 h;have hcc:=ZR hT hc;generalize hcv:a.eval c=cc at hcc;cases hcc;refine Kw hno (w':=w) (cv:=a.eval y) ?_ (hnext _ _ (ZI.same hR (ZR hT h1)));unfold execOp;rw [hop];simp [hcv,asBool]
   . cases h
 . -- alloc
   rename_i t hop
   split at h
   . rename_i z hz
     simp at h;obtain ⟨rfl,rfl⟩:=h;exact val (Instr.alloc t true (.tuple #[])) (by rw [hop];simp) (by unfold execOp;rw [hop]) (LK hR lo hz)
   . cases h
 . -- box
   rename_i t x hop
   split at h
   . rename_i v0 hv
     split at h
     . simp at h;obtain ⟨rfl,rfl⟩:=h;exact val (Instr.box t (a.eval x)) (by rw [hop];simp) (by unfold execOp;rw [hop]) (LL hR lo (ZR hT hv))
     . cases h
   . cases h
 . -- build
   rename_i t ps hop
   split at h
   . rename_i l hl
     obtain ⟨h1,e1⟩:=X8 h;refine pval (Instr.build t (ps.map fun (i,x)=>(i,a.eval x))) (by rw [hop];simp) (by unfold execOp;rw [hop]) e1 ?_;have hrel:=UG hT hl;obtain ⟨cr,k1,k2⟩:=LI (w:=w) h1 hrel;refine ⟨cr, ?_,k2⟩;have e:(ps.map fun (i,x)=>(i,a.eval x))=(ps.toList.map fun p=>(p.1,a.eval p.2)).toArray:=by apply Array.toList_inj.1;simp
     rw [e];exact k1
   . cases h
 . -- buildSlice
   rename_i t len ps hop
   split at h
   . rename_i l hl
     split at h
     . refine val (Instr.buildSlice t len (ps.map fun (i,x)=>(i,a.eval x))) (by rw [hop];simp) (by unfold execOp;rw [hop]) ?_;obtain ⟨cr,w',k1,k2⟩:=LZ hR lo h (UG hT hl);refine ⟨cr,w', ?_,k2⟩;have e:(ps.map fun (i,x)=>(i,a.eval x))=(ps.toList.map fun p=>(p.1,a.eval p.2)).toArray:=by apply Array.toList_inj.1;simp
       rw [e];exact k1
     obtain ⟨h1,e1⟩:=X8 h;subst e1;refine val (Instr.buildSlice t len (ps.map fun (i,x)=>(i,a.eval x))) (by rw [hop];simp) (by unfold execOp;rw [hop]) ?_;have hrel:=UG hT hl;obtain ⟨cr,w',k1,K,k2,k3,k4,k5⟩:=LS hR lo h1 hrel;refine ⟨cr,w', ?_,_,k3,k4,k5.mono (zero_le _) (.refl _ _)⟩;have e:(ps.map fun (i,x)=>(i,a.eval x))=(ps.toList.map fun p=>(p.1,a.eval p.2)).toArray:=by apply Array.toList_inj.1;simp
     rw [e];exact k1
   . cases h
 . -- load
   rename_i t x hop
   split at h
   . rename_i v0 hv
     obtain ⟨h1,e1⟩:=X8 h;refine pval (Instr.loadAt t (a.eval x)) (by rw [hop];simp) (by unfold execOp;rw [hop]) e1 ?_;obtain ⟨ad,cv,k1,k2,k3,k4⟩:=Ab (P:=C.P) hR h1 (ZR hT hv);exact ⟨cv,by rw [k1];simp [Instr.loadAt,Instr.sureAddr,k3],k4⟩
   . cases h
 . -- store
   rename_i t x y hop
   split at h
   . rename_i v0 v1 hv0 hv1
     obtain ⟨h1,e1⟩:=VQ h;exact unit (Instr.storeAt t (a.eval x) (a.eval y)) (by rw [hop];simp) (by unfold execOp;rw [hop]) e1 (LQ hR h1 (ZR hT hv0) (ZR hT hv1))
   . cases h
 . -- nilCheck
   rename_i x hop
   have hno:∀ c,o.op ≠ .defer c:=by rw [hop];simp
   have fin:∀ v0,Z4 C T x=some v0->v=v0->H'=H->(∀ cv,VRel g H.n v0 cv->(execOp a.eval o).run C.P w=.ok (.value (a.eval x)) w\/a.eval x ≠ cv)->o.wpIn (Yq ro) 0 C.P a w next Q:=by
    rintro v0 hv rfl rfl hx;have hrel:=ZR hT hv;rcases hx _ hrel with h1 | h1
    . exact Kw hno h1 (hnext _ _ (ZI.same hR hrel))
    . exact absurd rfl h1
   split at h
   . rename_i hv
     simp at h;refine fin _ hv h.1.symm h.2.symm fun cv hc => ?_
     by_cases e:a.eval x=cv
     . left;unfold execOp;rw [hop];cases hc;simp only [e];simp
     . exact .inr e
   . rename_i hv
     simp at h;refine fin _ hv h.1.symm h.2.symm fun cv hc => ?_
     by_cases e:a.eval x=cv
     . left;unfold execOp;rw [hop];cases hc;simp only [e];simp
     . exact .inr e
   . rename_i hv
     simp at h;refine fin _ hv h.1.symm h.2.symm fun cv hc => ?_
     by_cases e:a.eval x=cv
     . left;unfold execOp;rw [hop];cases hc;simp only [e];simp
     . exact .inr e
   . rename_i hv
     simp at h;refine fin _ hv h.1.symm h.2.symm fun cv hc => ?_
     by_cases e:a.eval x=cv
     . left;unfold execOp;rw [hop];cases hc;simp only [e];simp
     . exact .inr e
   . cases h
 . -- binOp
   rename_i op t x y _ hop
   split at h
   . rename_i v0 v1 hv0 hv1
     obtain ⟨h1,e1⟩:=X8 h;exact pval (do eqGuard op t x y (a.eval x) (a.eval y);Go.binOp op t (a.eval x) (a.eval y)) (by rw [hop];simp) (by unfold execOp;rw [hop]) e1 (Lv S.depth h1 (ZR hT hv0) (ZR hT hv1) x y)
   . cases h
 . -- unOp
   rename_i op t x hop
   split at h
   . rename_i v0 hv0
     obtain ⟨h1,e1⟩:=X8 h;exact pval (Op.unary op (a.eval x)) (by rw [hop];simp) (by unfold execOp;rw [hop]) e1 (Lw h1 (ZR hT hv0))
   . cases h
 . -- convert
   rename_i s d x hop
   split at h
   . rename_i v0 hv0
     obtain ⟨h1,e1⟩:=X8 h;exact pval (Go.convert s d (a.eval x)) (by rw [hop];simp) (by unfold execOp;rw [hop]) e1 (Me hR h1 (ZR hT hv0))
   . cases h
 . -- makeFunc
   rename_i f first caps hop
   split at h
   . rename_i l1 l2 h1 h2
     simp at h;obtain ⟨rfl,rfl⟩:=h;obtain ⟨c1,e1,r1⟩:=Fb hT h1;obtain ⟨c2,e2,r2⟩:=Fb hT h2;refine pval (Instr.makeFunc (.func f) (first.map a.eval) (caps.map a.eval)) (by rw [hop];simp) (by unfold execOp;rw [hop]) rfl ⟨.func (.func f) c1.toArray c2.toArray, ?_,.fn r1.1 r2.1 r1.2 r2.2⟩;rw [e1,e2];simp [Instr.makeFunc]
   . cases h
 . -- makeMap
   rename_i t hop
   simp at h;obtain ⟨rfl,rfl⟩:=h;exact val (Instr.makeMap t none) (by rw [hop];simp) (by unfold execOp;rw [hop];rfl) (LM hR lo)
 . -- makeSlice
   rename_i t l c hop
   split at h
   . rename_i v0 v1 hv0 hv1
     exact val (Instr.makeSlice t (a.eval l) (a.eval c)) (by rw [hop];simp) (by unfold execOp;rw [hop]) (M0 hR lo h (ZR hT hv0) (ZR hT hv1))
   . cases h
 . -- slice
   rename_i t x l hi mx hop
   split at h
   . rename_i v0 v1 v2 v3 hv0 hv1 hv2 hv3
     obtain ⟨h1,e1⟩:=X8 h;exact pval (Instr.sliceAt t (a.eval x) (l.map a.eval) (hi.map a.eval) (mx.map a.eval)) (by rw [hop];simp) (by unfold execOp;rw [hop]) e1 (LE h1 (ZR hT hv0) (Fd hT hv1) (Fd hT hv2) (Fd hT hv3))
   . cases h
 . -- fieldAddr
   rename_i t x f hop
   split at h
   . rename_i v0 hv0
     obtain ⟨h1,e1⟩:=X8 h;exact pval (Instr.fieldAt t (a.eval x) f) (by rw [hop];simp) (by unfold execOp;rw [hop]) e1 (Lz h1 (ZR hT hv0))
   . cases h
 . -- field
   rename_i t x f hop
   split at h
   . rename_i v0 hv0
     obtain ⟨h1,e1⟩:=X8 h;exact pval (Instr.field t (a.eval x) f) (by rw [hop];simp) (by unfold execOp;rw [hop]) e1 (Ly h1 (ZR hT hv0))
   . cases h
 . -- indexAddr
   rename_i t x i hop
   split at h
   . rename_i v0 v1 hv0 hv1
     obtain ⟨h1,e1⟩:=X8 h;exact pval (Instr.indexAt t (a.eval x) (a.eval i)) (by rw [hop];simp) (by unfold execOp;rw [hop]) e1 (LB h1 (ZR hT hv0) (ZR hT hv1))
   . cases h
 . -- index
   rename_i t x i hop
   split at h
   . rename_i v0 v1 hv0 hv1
     obtain ⟨h1,e1⟩:=X8 h;exact pval (Instr.index t (a.eval x) (a.eval i)) (by rw [hop];simp) (by unfold execOp;rw [hop]) e1 (LC h1 (ZR hT hv0) (ZR hT hv1))
   . cases h
 . -- lookup
   rename_i t m k ok hop
   split at h
   . rename_i v0 v1 hv0 hv1
     obtain ⟨h1,e1⟩:=X8 h;exact pval (Instr.lookup t (a.eval m) (a.eval k) ok) (by rw [hop];simp) (by unfold execOp;rw [hop]) e1 (LJ hR h1 (ZR hT hv0) (ZR hT hv1))
   . cases h
 . -- mapUpdate
   rename_i t m k x hop
   split at h
   . rename_i v0 v1 v2 hv0 hv1 hv2
     obtain ⟨h1,e1⟩:=VQ h;exact unit (Instr.mapUpdate t (a.eval m) (a.eval k) (a.eval x)) (by rw [hop];simp) (by unfold execOp;rw [hop]) e1 (AJ hR h1 (ZR hT hv0) (ZR hT hv1) (ZR hT hv2))
   . cases h
 . -- insert
   rename_i t m k x hop
   split at h
   . rename_i v0 v1 v2 hv0 hv1 hv2
     obtain ⟨h1,e1⟩:=VQ h;exact unit (Instr.mapUpdate t (a.eval m) (a.eval k) (a.eval x)) (by rw [hop];simp) (by unfold execOp;rw [hop]) e1 (AJ hR h1 (ZR hT hv0) (ZR hT hv1) (ZR hT hv2))
   . cases h
 . -- range
   rename_i t x hop
   split at h
   . rename_i v0 hv0
     exact val (Instr.range t (a.eval x)) (by rw [hop];simp) (by unfold execOp;rw [hop]) (LN hR lo h (ZR hT hv0))
   . cases h
 . -- next
   rename_i it isS hop
   split at h
   . rename_i v0 hv0
     exact val (Instr.next (a.eval it) isS o.type) (by rw [hop];simp) (by unfold execOp;rw [hop]) (Mc hR h (ZR hT hv0) o.type)
   . cases h
 . -- extract
   rename_i t i hop
   split at h
   . rename_i vs hv
     split at h
     . rename_i v0 hi
       simp at h;obtain ⟨rfl,rfl⟩:=h;obtain ⟨cvs,e1,r1⟩:=(ZR hT hv).inv_tup;obtain ⟨cv,k1,k2⟩:=Zh.get r1 hi;refine pval (Instr.extract (a.eval t) i) (by rw [hop];simp) (by unfold execOp;rw [hop]) rfl ⟨cv, ?_,k2⟩;rw [e1];simp [Instr.extract,k1]
     . cases h
   . cases h
 . -- call
   rename_i c hop
   exact Mn S ih hop hlo h hR hT hnext
 . cases h
def Fe:AV->Option Bool
 | .bool b=>some b
 | _=>none
def Ff:Value->Option Bool
 | .bool b=>some b
 | _=>none
theorem VRel.isBool {a:AV} {v:Value} (h:VRel g n a v):Fe a=Ff v:=by
 cases h<;>rfl
theorem Fg:∀ (l:List Oper) (j:Nat),Qc l j=(l[j]?).bind (·.dst)
 | [],j=>by simp [Qc]
 | o::l,0=>by simp [Qc]
 | o::l,j+1=>by simp [Qc,Fg l j]
theorem AS {ops:Array Oper} {a:Act} (hT:Xy g n T a.tmps) (o:Oper):Ya ops.toList T o=Region.wanted o (yielded ops a.tmps):=by
 unfold Ya Region.wanted;cases hg:o.guard with
 | none=>rfl
 | some p =>
   obtain ⟨j,want⟩:=p;simp only [];rw [Fg,Array.getElem?_toList];unfold yielded;cases hd:(ops[j]?).bind (·.dst) with
   | none=>simp
   | some d =>
     simp only [bind_some];have h1:=(hT d).isBool;have h2:a.tmps.getD d undef=(a.tmps[d]?).getD undef:=by simp
     rw [h2] at h1;cases ht:a.tmps[d]? with
     | none =>
       rw [ht] at h1;simp only [getD_none] at h1;cases hx:Z1 T d<;>simp [hx,Go.undef,Fe,Ff] at h1 ⊢
     | some v =>
       rw [ht] at h1;simp only [getD_some] at h1;cases hx:Z1 T d<;>cases v<;>simp_all [Fe,Ff]<;>rfl
theorem ARel.put {a:Act} (h:ARel C lo g n T M a) {dst:Option Tmp} (hd:∀ d,dst=some d->d < a.tmps.size) (hv:VRel g n v cv):ARel C lo g n (putT T dst v) M (a.put dst cv):=by
 cases dst with
 | none=>exact h
 | some d=>exact ⟨⟨h.f.t.set (hd d rfl) hv,h.f.glob⟩,h.m⟩
theorem V7 (a:Act) (dst:Option Tmp) (v:Value):(a.put dst v).tmps.size=a.tmps.size:=by
 cases dst<;>simp [Act.put]
theorem ARel.mono {a:Act} (h:ARel C lo g n T M a) (hn:n<=n') (hg:Gh.le n g g'):ARel C lo g' n' T M a :=
 ⟨⟨h.f.t.mono hn hg,fun x cs hx=>let ⟨vals,h1,h2⟩:=h.f.glob x cs hx;⟨vals,h1.mono (Nat.le_refl _) (hg.mono (zero_le _)),fun i v hi=>hg.K _ _ _ (h2 i v hi)⟩⟩,h.m.mono hn hg⟩
theorem Mo (S:Sane C) (ih:∀ t o,rec t=some o->XJ C t o) {ops:Array Oper} {Q:Exit->Act->World->Prop} {T':TT AV} :
 ∀ (l:List Oper) (k:Nat) (T:TT AV) (H:Heap) (g:Gh) (w:World) (a:Act),ops.toList.drop k=l->k+l.length=ops.size->lo<=H.n->Ym C rec fid lo ops.toList l T H=some (T',H')->Rel C g H w->ARel C lo g H.n T M a ->
   (∀ o ∈ l,∀ d,o.dst=some d->d < a.tmps.size) ->
   (∀ g' a' w',Rel C g' H' w'->Ext lo g H w g' H' w'->ARel C lo g' H'.n T' M a'->a'.tmps.size=a.tmps.size->Q .normal a' w') ->
   wpOpsIn (Yq ro) 0 C.P ops Q (List.range' k l.length) a w:=by
 intro l
 induction l with
 | nil =>
   intro k T H g w a hd hk hlo h hR hA hsz hQ;simp [Ym] at h;obtain ⟨rfl,rfl⟩:=h;simpa [wpOpsIn] using hQ g a w hR (.refl _ _ _ _) hA rfl
 | cons o l ihl =>
   intro k T H g w a hd hk hlo h hR hA hsz hQ;have hk':k < ops.size:=by simp at hk;omega
   have hgo:ops[k]? = some o:=by
    have:(ops.toList.drop k)[0]? = some o:=by rw [hd];rfl
    rw [getElem?_drop] at this;simpa using this
   have hdrop:ops.toList.drop (k+1)=l:=by
    rw [<- drop_drop,hd];rfl
   have hlen:k+1+l.length=ops.size:=by simp at hk;omega
   simp only [length_cons,range'_succ,wpOpsIn,hgo];rw [<- AS hA.f.t];unfold Ym at h;split at h
   . rename_i hw
     rw [hw,if_pos rfl];split at h
     . rename_i v H1 hop
       refine AR S ih hlo hop hR hA.f fun cv w1 hdone => ?_
       obtain ⟨g1,r1,r2,r3⟩:=hdone;have hA1:=(hA.mono r2.n r2.le).put (dst:=o.dst) (fun d hd=>hsz o (by simp) d hd) r3;refine ihl (k+1) _ H1 g1 w1 _ hdrop hlen (Nat.le_trans hlo r2.n) h r1 hA1 (fun o' ho' d hd'=>by rw [V7];exact hsz o' (by simp [ho']) d hd') fun g' a' w' q1 q2 q3 q4 => ?_
       exact hQ g' a' w' q1 (r2.trans q2) q3 (by rw [q4,V7])
     . cases h
   . rename_i hw
     rw [hw,if_neg (by simp)];refine ⟨fun _ _=>trivial, ?_⟩;have hA1:=hA.put (dst:=o.dst) (fun d hd=>hsz o (by simp) d hd) VRel.undef;refine ihl (k+1) _ H g w _ hdrop hlen hlo h hR hA1 (fun o' ho' d hd'=>by rw [V7];exact hsz o' (by simp [ho']) d hd') fun g' a' w' q1 q2 q3 q4 => ?_
     exact hQ g' a' w' q1 q2 q3 (by rw [q4,V7])
end Go.Sim
