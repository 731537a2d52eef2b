/-
The parts NetTk3, NetWalk, NetTk4, NetWP, NetWL, NetWR, NetWU, NetWS, NetWT, NetWV, NetWM, NetWN, NetP88, NetB18 of one proof, joined: each begins with a remark that says what it shows.
-/
import Derived.Test.YtepaopekeidlmaaGreatDoorT15
set_option linter.unusedSimpArgs false
set_option linter.unusedVariables false
open Nat (reduceEqDiff reduceAdd reduceMul reduceSub reduceLeDiff reduceLT)

/-
Texts: one of two words, taken by the program: the run; the three takers as functions over a block.
-/
namespace Go.Sim
open Go Go.Proofs
set_option maxRecDepth 100000
set_option maxHeartbeats 16000000
theorem r219 {t:Tok} {x:Tk} (a b:Wd) (ht:TkT t x) {lo id:Nat} {H:Heap} (hlo:lo≤id) (hid:id < H.n) (hg:H.get id=.cells (TkC t x) 291) :
 ∃ H1,R (NC.withPrims PPtk) (.call lo 219 [.ptr id 0,.agg [.str a,.str b]] H)=some (.ofVal (.bool (x.one a b).1) H1)∧H.n≤H1.n∧H1.get id=.cells (TkC (wordT x) (x.one a b).2) 291:=by
 have key:∃ v H1,R (NC.withPrims PPtk) (.call lo 219 [.ptr id 0,.agg [.str a,.str b]] H)=some (.ofVal v H1)∧v=.bool (x.one a b).1∧H.n≤H1.n∧H1.get id=.cells (TkC (wordT x) (x.one a b).2) 291:=by
  refine R_of_body (C:=NC.withPrims PPtk) (f:=219) (lo:=lo) (args:=[.ptr id 0,.agg [.str a,.str b]]) (H:=H) (fn:=Tryz.f219) (Q:=fun v H1=>v=.bool (x.one a b).1∧H.n≤H1.n∧H1.get id=.cells (TkC (wordT x) (x.one a b).2) 291) (by kernel_rfl) Tryz.func219 rfl rfl ?_
  have hlo':=eq_true hlo
  have h167:PPtk 167=none:=rfl
  obtain ⟨H1,r1,r2,r3,r4⟩:=r167 (P:=PPtk) (H:=H.push (.cells [.str a,.str b] 281)) ht hlo (by simp;omega) (by rw [Heap.get_push,if_neg (by omega)];exact hg)
  have hbx:H1.get H.n=.cells [.str a,.str b] 281:=by
   rw [r4 H.n (by omega),Heap.get_push,if_pos rfl]
  simp only [Heap.n_push] at r2
  have hid1:(id < H1.n)=True:=by rw [r2];simp only [eq_iff_iff,iff_true];omega
  have hne:(H.n=id)=False:=by simp only [eq_iff_iff,iff_false];omega
  have e:x.one a b=(beqL x.word.1 b,⟨x.word.2.ws,x.word.2.wrong || (!beqL x.word.1 a && !beqL x.word.1 b)⟩):=rfl
  rw [e]
  simp only [TkC] at r3 ⊢
  generalize x.word.2.wrong=o at r3 ⊢
  generalize (x.word.2.ws.map strRow)=rows at r3 ⊢
  generalize x.word.1=w at r1 ⊢
  cases o<;>cases hA:beqL w a<;>cases hB:beqL w b
  all_goals
   simp only [go_sem,reduceIte,reduceEqDiff,reduceAdd,reduceMul,reduceSub,reduceLeDiff,reduceLT,Nat.reduceBEq,reduceCtorEq,en167 h167,r1,r3,hbx,hlo',hid1,hne,hA,hB]
   first | done | (rw [r2];omega) | omega
 obtain ⟨v,H1,h1,rfl,h2,h3⟩:=key
 exact ⟨H1,h1,h2,h3⟩
end Go.Sim

/-
A table of one's own for a walk, with functions known by a contract that turn one block.
-/
namespace Go.Sim
open Go Go.Proofs
theorem acc_at1 {C:Cfg} (T:TT AV) (n:Nat) (d:Option Tmp) (x a:Operand) (ts:Array TypeId) (t:TypeId) (p:String) (af:Array Edge) (gd:Option (Nat × Bool)):accOf C T n .writeAt ⟨d,.call ⟨.value x,#[a],ts⟩,t,p,af,gd⟩=accS (evalO C T a):=by
 unfold accOf
 cases h:evalO C T a with
 | none=>simp [h,accS]
 | some v=>cases v with
   | ps t rows=>cases t<;>simp [h,accS]
   | _=>simp [h,accS]
noncomputable def walkW (good:FuncId→Bool) (ra lit:FuncId→TypeId→Bool) (mode:FuncId→Mode) (plans:FuncId→Nat→List OpI) (P V:FuncId→Option (List AV→Option AV)) (X:FuncId→Option (Nat→List AV→Heap→Option (AV × Heap))):Cfg :=
 { NC with good:=good,refApp:=ra,lit:=lit,plans:=plans,mode:=mode,memo:=fun _ _=>none,prim:=fun f=>(P f).map onPure,hprim:=fun f=>match X f with
  | some p=>some p
  | none=>(V f).map onView,twice:=fun _=>false,at1:=fun f=>(X f).isSome }
theorem walkW_sane {good:FuncId→Bool} {ra lit:FuncId→TypeId→Bool} {mode:FuncId→Mode} {plans:FuncId→Nat→List OpI} {P V:FuncId→Option (List AV→Option AV)} {X:FuncId→Option (Nat→List AV→Heap→Option (AV × Heap))}
 (hP:∀ f p args v,P f=some p→p args=some v → ∀ lo H,CallOk NC lo f args H v H) (hV:∀ f p args v,V f=some p→p args=some v → ∀ lo H,CallOk NC lo f args H v H)
 (hX:∀ (C2:Cfg),C2.P=NC.P→C2.glob=NC.glob → ∀ f p lo args H v H',X f=some p→p lo args H=some (v,H')→CallOk C2 lo f args H v H')
 (hA:∀ f p lo args H v H',X f=some p→p lo args H=some (v,H') → ∀ id,id < H.n→(∀ off r,args ≠ .ptr id off::r)→H'.get id=H.get id)
 (hg:∀ f,good f=true → ∃ fn c,NC.P.funcs[f]? = some fn∧fn.body=some c∧(fn.name == "runtime.NumGoroutine")=false∧codeOk (walkW good ra lit mode plans P V X) f fn.ntmps c=true):Sane (walkW good ra lit mode plans P V X) where
 depth:=saneNC.depth
 orders:=saneNC.orders
 good:=hg
 memo:=fun f args v h=>by cases h
 prim:=fun f p args v hp h lo H=>by
  have hp:(P f).map onPure=some p:=hp
  cases hq:P f with
  | none=>rw [hq] at hp;cases hp
  | some q =>
    rw [hq] at hp
    have hp:onPure q=p:=by simpa using hp
    subst hp
    unfold onPure at h
    split at h
    · rename_i h1
      split at h
      · rename_i u hu
        split at h
        · rename_i h2
          simp at h;subst h
          exact other_ok (C:=NC) (C2:=walkW good ra lit mode plans P V X) rfl rfl (hP f q args u hq hu 0 .empty) h1 h2 lo H
        · cases h
      · cases h
    · cases h
 hprim:=fun f p lo args H v H' hp h hl=>by
  have hp:(match X f with
   | some p=>some p
   | none=>(V f).map onView)=some p:=hp
  cases hx:X f with
  | some q =>
    rw [hx] at hp
    have hp:q=p:=by simpa using hp
    subst hp
    exact hX (walkW good ra lit mode plans P V X) rfl rfl f q lo args H v H' hx h
  | none =>
    rw [hx] at hp
    simp only at hp
    cases hq:V f with
    | none=>rw [hq] at hp;cases hp
    | some q =>
      rw [hq] at hp
      have hp:onView q=p:=by simpa using hp
      subst hp
      unfold onView at h
      split at h
      · rename_i a ha
        split at h
        · rename_i u hu
          split at h
          · rename_i h2
            simp at h
            obtain ⟨rfl,rfl⟩:=h
            exact ahead_ok (C:=NC) (C2:=walkW good ra lit mode plans P V X) rfl rfl (hV f q a u hq hu 0 .empty) h2 lo ha
          · cases h
        · cases h
      · cases h
 at1:=fun f p lo args H v H' h1 hp h=>by
  have h1:(X f).isSome=true:=h1
  have hp:(match X f with
   | some p=>some p
   | none=>(V f).map onView)=some p:=hp
  cases hx:X f with
  | none=>rw [hx] at h1;cases h1
  | some q =>
    rw [hx] at hp
    have hp:q=p:=by simpa using hp
    subst hp
    exact hA f q lo args H v H' hx h
end Go.Sim

/-
Texts: the three takers as functions over a block, for a table of walks.
-/
namespace Go.Sim
open Go Go.Proofs
set_option maxRecDepth 100000
def F167 (rest:List AV) (x:Tk):Option (AV × Tok × Tk):=match rest with
 | []=>some (.str x.word.1,wordT x,x.word.2)
 | _=>none
def F218 (rest:List AV) (x:Tk):Option (AV × Tok × Tk):=match rest with
 | []=>if x.ws.all (fun w=>decide (w.length≤maxRows)) then some (.int .i64 x.num.1,wordT x,x.num.2) else none
 | _=>none
def F219 (rest:List AV) (x:Tk):Option (AV × Tok × Tk):=match rest with
 | [.agg [.str a,.str b]]=>some (.bool (x.one a b).1,wordT x,(x.one a b).2)
 | _=>none
noncomputable abbrev TC:Cfg:=NC.withPrims PPtk
theorem tc_sane:Sane TC:=saneNC.withPrims primstk
theorem get_one (b:ABlk):(Heap.empty.push b).get 0=b:=by rw [Heap.get_push,if_pos (by rw [empty_n])]
theorem n_one (b:ABlk):0 < (Heap.empty.push b).n:=by rw [Heap.n_push,empty_n];decide
theorem ok167 (C2:Cfg) (hP:C2.P=NC.P) (hG:C2.glob=NC.glob) (lo:Nat) (args:List AV) (H:Heap) (v:AV) (H':Heap) (h:hTk F167 lo args H=some (v,H')):CallOk C2 lo 167 args H v H':=by
 refine hTk_ok (C:=TC) tc_sane rfl rfl (f:=167) (F:=F167) ?_ C2 hP hG lo args H v H' h
 clear h
 intro rest x v t' x' h
 unfold F167 at h
 split at h
 · simp at h
   obtain ⟨rfl,rfl,rfl⟩:=h
   refine ⟨rfl,fun a ha=>(by cases ha),wordT_ok x,fun t ht => ?_⟩
   obtain ⟨H1,h1,h2,h3,_⟩:=r167 (P:=PPtk) (lo:=0) (id:=0) ht (Nat.le_refl _) (n_one _) (get_one (.cells (TkC t x) 291))
   exact ⟨H1,h1,by rw [h2];exact n_one _,h3⟩
 · cases h
theorem ok218 (C2:Cfg) (hP:C2.P=NC.P) (hG:C2.glob=NC.glob) (lo:Nat) (args:List AV) (H:Heap) (v:AV) (H':Heap) (h:hTk F218 lo args H=some (v,H')):CallOk C2 lo 218 args H v H':=by
 refine hTk_ok (C:=TC) tc_sane rfl rfl (f:=218) (F:=F218) ?_ C2 hP hG lo args H v H' h
 clear h
 intro rest x v t' x' h
 unfold F218 at h
 split at h
 · split at h
   · rename_i hw
     simp at h
     obtain ⟨rfl,rfl,rfl⟩:=h
     refine ⟨rfl,fun a ha=>(by cases ha),wordT_ok x,fun t ht => ?_⟩
     obtain ⟨H1,h1,h2,h3,_⟩:=r218 (lo:=0) (id:=0) ht (fun w hm=>by simpa using (List.all_eq_true.1 hw) w hm) (Nat.le_refl _) (n_one _) (get_one (.cells (TkC t x) 291))
     exact ⟨H1,h1,by rw [h2];exact n_one _,h3⟩
   · cases h
 · cases h
theorem ok219 (C2:Cfg) (hP:C2.P=NC.P) (hG:C2.glob=NC.glob) (lo:Nat) (args:List AV) (H:Heap) (v:AV) (H':Heap) (h:hTk F219 lo args H=some (v,H')):CallOk C2 lo 219 args H v H':=by
 refine hTk_ok (C:=TC) tc_sane rfl rfl (f:=219) (F:=F219) ?_ C2 hP hG lo args H v H' h
 clear h
 intro rest x v t' x' h
 unfold F219 at h
 split at h
 · rename_i a b
   simp at h
   obtain ⟨rfl,rfl,rfl⟩:=h
   refine ⟨rfl,fun c hc=>(by
    have:c=.agg [.str a,.str b]:=by simpa using hc
    rw [this];rfl),wordT_ok x,fun t ht => ?_⟩
   obtain ⟨H1,h1,h2,h3⟩:=r219 (lo:=0) (id:=0) a b ht (Nat.le_refl _) (n_one _) (get_one (.cells (TkC t x) 291))
   exact ⟨H1,h1,Nat.lt_of_lt_of_le (n_one _) h2,h3⟩
 · cases h
end Go.Sim

/-
Texts: the table for the walk of Parse by the program.
-/
namespace Go.Sim
open Go Go.Proofs
set_option maxRecDepth 100000
set_option maxHeartbeats 16000000
/-! ### The forms of a line -/
def formsL:List (List AV):=[[.str sLine,.int .i64 0,.fn 216 [] []],[.str sPiece,.int .i64 0,.fn 217 [] []],[.str sSwitch,.int .i64 1,.fn 220 [] []],[.str sStructure,.int .i64 2,.fn 221 [] []]]
theorem c169:∀ lo H,CallOk NC lo 169 [] H (.ps .unk formsL) H:=by
 refine contract saneNC primsOk_none (fn:=Tryz.f169) (by kernel_rfl) Tryz.func169 rfl rfl (by rfl) (by rfl) ?_
 have hpf:∀ f:FuncId,(AV.fn f [] []).pure=true:=fun _=>rfl
 simp only [go_sem,reduceIte,reduceEqDiff,reduceAdd,reduceMul,reduceSub,reduceLeDiff,reduceLT,Nat.reduceBEq,reduceCtorEq,formsL,hpf]
 first | done | rfl
noncomputable def p169:List AV→Option AV:=fun l=>match l with
 | []=>some (.ps .unk formsL)
 | _=>none
theorem pok169:∀ args v,p169 args=some v → ∀ lo H,CallOk NC lo 169 args H v H:=by
 intro args v h
 cases args with
 | nil =>
   have e:v=.ps .unk formsL:=by simpa [p169] using h.symm
   subst e;exact c169
 | cons a r=>simp [p169] at h
/-! ### The table -/
noncomputable def PPw:FuncId→Option (List AV→Option AV):=fun f=>cond (Nat.beq f 165) (some p165) (cond (Nat.beq f 166) (some p166) (cond (Nat.beq f 169) (some p169) (cond (Nat.beq f 213) (some p213) none)))
theorem primsw:∀ f p args v,PPw f=some p→p args=some v → ∀ lo H,CallOk NC lo f args H v H:=by
 intro f p args v h
 unfold PPw at h
 cases h0:Nat.beq f 165 with
 | true =>
   rw [h0] at h;cases h
   rw [Nat.eq_of_beq_eq_true h0];exact pok165 args v
 | false =>
   rw [h0] at h
   cases h1:Nat.beq f 166 with
   | true =>
     rw [h1] at h;cases h
     rw [Nat.eq_of_beq_eq_true h1];exact pok166 args v
   | false =>
     rw [h1] at h
     cases h2:Nat.beq f 169 with
     | true =>
       rw [h2] at h;cases h
       rw [Nat.eq_of_beq_eq_true h2];exact pok169 args v
     | false =>
       rw [h2] at h
       cases h3:Nat.beq f 213 with
       | true =>
         rw [h3] at h;cases h
         rw [Nat.eq_of_beq_eq_true h3];exact pok213 args v
       | false =>
         rw [h3] at h
         cases h
noncomputable def VVw:FuncId→Option (List AV→Option AV):=fun f=>cond (Nat.beq f 29) (some p29) none
theorem viewsw:∀ f p args v,VVw f=some p→p args=some v → ∀ lo H,CallOk NC lo f args H v H:=by
 intro f p args v h
 unfold VVw at h
 cases h1:Nat.beq f 29 with
 | true =>
   rw [h1] at h;cases h
   rw [Nat.eq_of_beq_eq_true h1];exact pok29 args v
 | false=>rw [h1] at h;cases h
noncomputable def XXw:FuncId→Option (Nat→List AV→Heap→Option (AV × Heap)):=fun f=>cond (Nat.beq f 167) (some (hTk F167)) (cond (Nat.beq f 218) (some (hTk F218)) (cond (Nat.beq f 219) (some (hTk F219)) none))
theorem xxw {f:FuncId} {p:Nat→List AV→Heap→Option (AV × Heap)} (h:XXw f=some p):(f=167∧p=hTk F167)∨(f=218∧p=hTk F218)∨(f=219∧p=hTk F219):=by
 unfold XXw at h
 cases h1:Nat.beq f 167 with
 | true =>
   rw [h1] at h;cases h
   exact .inl ⟨Nat.eq_of_beq_eq_true h1,rfl⟩
 | false =>
   rw [h1] at h
   cases h2:Nat.beq f 218 with
   | true =>
     rw [h2] at h;cases h
     exact .inr (.inl ⟨Nat.eq_of_beq_eq_true h2,rfl⟩)
   | false =>
     rw [h2] at h
     cases h3:Nat.beq f 219 with
     | true =>
       rw [h3] at h;cases h
       exact .inr (.inr ⟨Nat.eq_of_beq_eq_true h3,rfl⟩)
     | false=>rw [h3] at h;cases h
theorem xw_ok:∀ (C2:Cfg),C2.P=NC.P→C2.glob=NC.glob → ∀ f p lo args H v H',XXw f=some p→p lo args H=some (v,H')→CallOk C2 lo f args H v H':=by
 intro C2 hP hG f p lo args H v H' hx h
 rcases xxw hx with ⟨rfl,rfl⟩ | ⟨rfl,rfl⟩ | ⟨rfl,rfl⟩
 · exact ok167 C2 hP hG lo args H v H' h
 · exact ok218 C2 hP hG lo args H v H' h
 · exact ok219 C2 hP hG lo args H v H' h
theorem xw_at:∀ f p lo args H v H',XXw f=some p→p lo args H=some (v,H') → ∀ id,id < H.n→(∀ off r,args ≠ .ptr id off::r)→H'.get id=H.get id:=by
 intro f p lo args H v H' hx h
 rcases xxw hx with ⟨rfl,rfl⟩ | ⟨rfl,rfl⟩ | ⟨rfl,rfl⟩
 · exact hTk_at h
 · exact hTk_at h
 · exact hTk_at h
def goodW (f:FuncId):Bool:=Nat.beq f 88 || Nat.beq f 164 || Nat.beq f 212 || Nat.beq f 168 || Nat.beq f 170 || Nat.beq f 216 || Nat.beq f 217 || Nat.beq f 220 || Nat.beq f 221
noncomputable def planW (f:FuncId) (id:Nat):List OpI:=cond (Nat.beq f 216 && Nat.beq id 0) ([⟨.data,0,0,[]⟩,⟨.data,0,0,[]⟩,⟨.data,0,2,[]⟩,⟨.data,0,6,[]⟩,⟨.load,0,14,[]⟩,⟨.data,0,0,[]⟩,⟨.writeAt,0,32,[4]⟩,⟨.data,1,96,[]⟩,⟨.fresh,1,224,[]⟩,⟨.writeAt,2,510,[]⟩,⟨.data,3,1023,[]⟩,⟨.data,3,2047,[]⟩,⟨.writeAt,3,4095,[]⟩]) (NC.plans f id)
noncomputable def modeW (f:FuncId):Mode:=cond (Nat.beq f 164) .fresh (NC.mode f)
noncomputable def WP:Cfg:=walkW goodW NC.refApp (fun f t=>Nat.beq f 216 && Nat.beq t 36) modeW planW PPw VVw XXw
theorem wp_sane:Sane WP:=walkW_sane primsw viewsw xw_ok xw_at (by
 intro f hf
 have hf:(Nat.beq f 88 || Nat.beq f 164 || Nat.beq f 212 || Nat.beq f 168 || Nat.beq f 170 || Nat.beq f 216 || Nat.beq f 217 || Nat.beq f 220 || Nat.beq f 221)=true:=hf
 simp only [Bool.or_eq_true] at hf
 rcases hf with (((((((hf | hf) | hf) | hf) | hf) | hf) | hf) | hf) | hf
 · have:=Nat.eq_of_beq_eq_true hf;subst this
   exact ⟨_,_,Tryz.func88,rfl,by kernel_rfl,by kernel_rfl⟩
 · have:=Nat.eq_of_beq_eq_true hf;subst this
   exact ⟨_,_,Tryz.func164,rfl,by kernel_rfl,by kernel_rfl⟩
 · have:=Nat.eq_of_beq_eq_true hf;subst this
   exact ⟨_,_,Tryz.func212,rfl,by kernel_rfl,by kernel_rfl⟩
 · have:=Nat.eq_of_beq_eq_true hf;subst this
   exact ⟨_,_,Tryz.func168,rfl,by kernel_rfl,by kernel_rfl⟩
 · have:=Nat.eq_of_beq_eq_true hf;subst this
   exact ⟨_,_,Tryz.func170,rfl,by kernel_rfl,by kernel_rfl⟩
 · have:=Nat.eq_of_beq_eq_true hf;subst this
   exact ⟨_,_,Tryz.func216,rfl,by kernel_rfl,by kernel_rfl⟩
 · have:=Nat.eq_of_beq_eq_true hf;subst this
   exact ⟨_,_,Tryz.func217,rfl,by kernel_rfl,by kernel_rfl⟩
 · have:=Nat.eq_of_beq_eq_true hf;subst this
   exact ⟨_,_,Tryz.func220,rfl,by kernel_rfl,by kernel_rfl⟩
 · have:=Nat.eq_of_beq_eq_true hf;subst this
   exact ⟨_,_,Tryz.func221,rfl,by kernel_rfl,by kernel_rfl⟩)
theorem wpP:WP.P=NC.P:=rfl
theorem wpF (f:FuncId) (t:TypeId):WP.frz f t=false:=Eq.trans rfl rfl
theorem wpp_88_11:WP.plans 88 11=[⟨.data,0,0,[]⟩,⟨.data,0,1,[]⟩,⟨.data,0,3,[]⟩,⟨.data,0,7,[]⟩,⟨.data,0,15,[]⟩,⟨.data,0,31,[]⟩,⟨.data,0,63,[]⟩,⟨.read,0,127,[]⟩,⟨.data,0,127,[]⟩,⟨.data,0,511,[]⟩,⟨.data,0,1023,[]⟩,⟨.load,0,2047,[]⟩,⟨.load,0,127,[]⟩,⟨.data,0,8191,[]⟩,⟨.data,0,16383,[]⟩]:=by kernel_rfl
theorem wpp_88_12:WP.plans 88 12=[⟨.data,0,0,[]⟩,⟨.load,0,0,[]⟩,⟨.writeAt,0,1,[1]⟩,⟨.writeAt,1,7,[]⟩,⟨.writeAt,2,15,[]⟩]:=by kernel_rfl
theorem wpp_88_16:WP.plans 88 16=[⟨.data,0,0,[]⟩,⟨.load,0,0,[]⟩,⟨.writeAt,0,1,[1]⟩,⟨.writeAt,1,7,[]⟩,⟨.writeAt,2,15,[]⟩]:=by kernel_rfl
theorem wpp_88_20:WP.plans 88 20=[⟨.data,0,0,[]⟩,⟨.load,0,0,[]⟩,⟨.data,0,0,[]⟩,⟨.writeAt,0,1,[1]⟩,⟨.writeAt,1,11,[]⟩,⟨.writeAt,2,31,[]⟩]:=by kernel_rfl
theorem wpp_212_4:WP.plans 212 4=[⟨.load,0,0,[]⟩,⟨.data,0,0,[]⟩,⟨.data,0,2,[]⟩,⟨.data,0,7,[]⟩,⟨.load,0,0,[]⟩,⟨.data,0,0,[]⟩,⟨.data,0,32,[]⟩,⟨.data,0,112,[]⟩,⟨.data,0,15,[]⟩,⟨.writeAt,0,511,[]⟩]:=by kernel_rfl
theorem wpp_216_0:WP.plans 216 0=[⟨.data,0,0,[]⟩,⟨.data,0,0,[]⟩,⟨.data,0,2,[]⟩,⟨.data,0,6,[]⟩,⟨.load,0,14,[]⟩,⟨.data,0,0,[]⟩,⟨.writeAt,0,32,[4]⟩,⟨.data,1,96,[]⟩,⟨.fresh,1,224,[]⟩,⟨.writeAt,2,510,[]⟩,⟨.data,3,1023,[]⟩,⟨.data,3,2047,[]⟩,⟨.writeAt,3,4095,[]⟩]:=by kernel_rfl
theorem wpp_217_6:WP.plans 217 6=[⟨.data,0,0,[]⟩,⟨.data,0,1,[]⟩,⟨.data,0,3,[]⟩,⟨.load,0,7,[]⟩,⟨.data,0,0,[]⟩,⟨.data,0,16,[]⟩,⟨.data,0,48,[]⟩,⟨.load,0,112,[]⟩,⟨.read,0,240,[]⟩,⟨.data,0,496,[]⟩,⟨.data,0,1023,[]⟩,⟨.data,0,2047,[]⟩]:=by kernel_rfl
theorem wpp_217_7:WP.plans 217 7=[⟨.data,0,0,[]⟩,⟨.data,0,0,[]⟩,⟨.data,0,2,[]⟩,⟨.data,0,6,[]⟩,⟨.load,0,14,[]⟩,⟨.load,0,0,[]⟩,⟨.data,0,32,[]⟩,⟨.writeAt,0,126,[]⟩,⟨.data,1,255,[]⟩,⟨.data,1,511,[]⟩,⟨.writeAt,1,1023,[]⟩]:=by kernel_rfl
theorem wpp_220_5:WP.plans 220 5=[⟨.data,0,0,[]⟩,⟨.data,0,0,[]⟩,⟨.data,0,2,[]⟩,⟨.data,0,6,[]⟩,⟨.load,0,14,[]⟩,⟨.load,0,0,[]⟩,⟨.data,0,32,[]⟩,⟨.writeAt,0,126,[]⟩,⟨.data,1,255,[]⟩,⟨.data,1,511,[]⟩,⟨.writeAt,1,1023,[]⟩]:=by kernel_rfl
theorem wpp_221_5:WP.plans 221 5=[⟨.data,0,0,[]⟩,⟨.data,0,0,[]⟩,⟨.data,0,2,[]⟩,⟨.data,0,6,[]⟩,⟨.load,0,14,[]⟩,⟨.load,0,0,[]⟩,⟨.data,0,32,[]⟩,⟨.writeAt,0,126,[]⟩,⟨.data,1,255,[]⟩,⟨.data,1,511,[]⟩,⟨.writeAt,1,1023,[]⟩]:=by kernel_rfl
theorem wra_216_36:WP.refApp 216 36=true:=by kernel_rfl
theorem wli_216_36:WP.lit 216 36=true:=by kernel_rfl
theorem wra_217_194:WP.refApp 217 194=false:=by kernel_rfl
theorem wli_217_194:WP.lit 217 194=false:=by kernel_rfl
theorem wra_220_37:WP.refApp 220 37=false:=by kernel_rfl
theorem wli_220_37:WP.lit 220 37=false:=by kernel_rfl
theorem wra_221_38:WP.refApp 221 38=false:=by kernel_rfl
theorem wli_221_38:WP.lit 221 38=false:=by kernel_rfl
theorem wli_88_40:WP.lit 88 40=false:=by kernel_rfl
attribute [go_sem] wpP wpF wpp_88_11 wpp_88_12 wpp_88_16 wpp_88_20 wpp_212_4 wpp_216_0 wpp_217_6 wpp_217_7 wpp_220_5 wpp_221_5 wra_216_36 wli_216_36 wra_217_194 wli_217_194 wra_220_37 wli_220_37 wra_221_38 wli_221_38 wli_88_40
theorem wp_165 {rec:Rec} {lo:Nat} {args:List AV} {H:Heap} {K:AV→Heap→Prop}:VO (aenter WP rec lo 165 args H) K=AO (onPure p165 args) fun v=>K v H:=enter_prim (by rfl) (by kernel_rfl)
theorem wp_166 {rec:Rec} {lo:Nat} {args:List AV} {H:Heap} {K:AV→Heap→Prop}:VO (aenter WP rec lo 166 args H) K=AO (onPure p166 args) fun v=>K v H:=enter_prim (by rfl) (by kernel_rfl)
theorem wp_169 {rec:Rec} {lo:Nat} {args:List AV} {H:Heap} {K:AV→Heap→Prop}:VO (aenter WP rec lo 169 args H) K=AO (onPure p169 args) fun v=>K v H:=enter_prim (by rfl) (by kernel_rfl)
theorem wp_213 {rec:Rec} {lo:Nat} {args:List AV} {H:Heap} {K:AV→Heap→Prop}:VO (aenter WP rec lo 213 args H) K=AO (onPure p213 args) fun v=>K v H:=enter_prim (by rfl) (by kernel_rfl)
theorem enter_h {C:Cfg} {f:FuncId} {p:Nat→List AV→Heap→Option (AV × Heap)} (hm:∀ args,C.memo f args=none) (hp:C.prim f=none) (hh:C.hprim f=some p) {rec:Rec} {lo:Nat} {args:List AV} {H:Heap} {K:AV→Heap→Prop}:VO (aenter C rec lo f args H) K=VO (p lo args H) K:=by
 unfold aenter
 simp only [hm,hp,hh]
theorem wp_167 {rec:Rec} {lo:Nat} {args:List AV} {H:Heap} {K:AV→Heap→Prop}:VO (aenter WP rec lo 167 args H) K=VO (hTk F167 lo args H) K:=enter_h (fun _=>rfl) (by kernel_rfl) (by kernel_rfl)
theorem wp_218 {rec:Rec} {lo:Nat} {args:List AV} {H:Heap} {K:AV→Heap→Prop}:VO (aenter WP rec lo 218 args H) K=VO (hTk F218 lo args H) K:=enter_h (fun _=>rfl) (by kernel_rfl) (by kernel_rfl)
theorem wp_219 {rec:Rec} {lo:Nat} {args:List AV} {H:Heap} {K:AV→Heap→Prop}:VO (aenter WP rec lo 219 args H) K=VO (hTk F219 lo args H) K:=enter_h (fun _=>rfl) (by kernel_rfl) (by kernel_rfl)
theorem wp_29 {rec:Rec} {lo:Nat} {args:List AV} {H:Heap} {K:AV→Heap→Prop}:VO (aenter WP rec lo 29 args H) K=VO (onView p29 lo args H) K:=enter_h (fun _=>rfl) (by kernel_rfl) (by kernel_rfl)
theorem wp_164 {lo:Nat} {args:List AV} {H:Heap} {K:AV→Heap→Prop}:VO (aenter WP (R WP) lo 164 args H) K=AO (R WP (.call H.n 164 args H)) fun o=>K o.val o.s.H:=enter_fresh rfl (by kernel_rfl) (by kernel_rfl) (by kernel_rfl) (by kernel_rfl)
theorem wp_168 {lo:Nat} {args:List AV} {H:Heap} {K:AV→Heap→Prop}:VO (aenter WP (R WP) lo 168 args H) K=AO (R WP (.call H.n 168 args H)) fun o=>o.val.strip.pure=true∧K o.val.strip H:=enter_pure rfl (by kernel_rfl) (by kernel_rfl) (by kernel_rfl) (by kernel_rfl)
theorem wp_170 {lo:Nat} {args:List AV} {H:Heap} {K:AV→Heap→Prop}:VO (aenter WP (R WP) lo 170 args H) K=AO (R WP (.call H.n 170 args H)) fun o=>o.val.strip.pure=true∧K o.val.strip H:=enter_pure rfl (by kernel_rfl) (by kernel_rfl) (by kernel_rfl) (by kernel_rfl)
theorem wp_216 {lo:Nat} {args:List AV} {H:Heap} {K:AV→Heap→Prop}:VO (aenter WP (R WP) lo 216 args H) K=AO (R WP (.call lo 216 args H)) fun o=>K o.val o.s.H:=enter_free rfl (by kernel_rfl) (by kernel_rfl) (by kernel_rfl) (by kernel_rfl)
theorem wp_217 {lo:Nat} {args:List AV} {H:Heap} {K:AV→Heap→Prop}:VO (aenter WP (R WP) lo 217 args H) K=AO (R WP (.call lo 217 args H)) fun o=>K o.val o.s.H:=enter_free rfl (by kernel_rfl) (by kernel_rfl) (by kernel_rfl) (by kernel_rfl)
theorem wp_220 {lo:Nat} {args:List AV} {H:Heap} {K:AV→Heap→Prop}:VO (aenter WP (R WP) lo 220 args H) K=AO (R WP (.call lo 220 args H)) fun o=>K o.val o.s.H:=enter_free rfl (by kernel_rfl) (by kernel_rfl) (by kernel_rfl) (by kernel_rfl)
theorem wp_221 {lo:Nat} {args:List AV} {H:Heap} {K:AV→Heap→Prop}:VO (aenter WP (R WP) lo 221 args H) K=AO (R WP (.call lo 221 args H)) fun o=>K o.val o.s.H:=enter_free rfl (by kernel_rfl) (by kernel_rfl) (by kernel_rfl) (by kernel_rfl)
attribute [go_sem ↓] wp_165 wp_166 wp_169 wp_213 wp_167 wp_218 wp_219 wp_29 wp_164 wp_168 wp_170 wp_216 wp_217 wp_220 wp_221 op_buildLit
theorem wglob0 {T:TT AV}:evalO WP T (.global 0)=some (.pptr [.str sUp,.str sDown]):=by kernel_rfl
theorem wglob1 {T:TT AV}:evalO WP T (.global 1)=some (.pptr [.str sFirst,.str sLast]):=by kernel_rfl
attribute [go_sem] wglob0 wglob1 acc_at1 accS_ptr
end Go.Sim

/-
Texts: the lines of a text as strings.Lines tells them; a step of Parse: the plain law.
-/
namespace Go.Sim
open Go Go.Proofs
def remS (s:Wd) (k:Nat):Wd:=((partS s).drop k).flatMap (fun l=>l++[10])++lastW (splitL 10 s)
theorem remS_zero (s:Wd):remS s 0=s:=(text_lines s).symm
theorem remS_end (s:Wd):remS s (partS s).length=lastW (splitL 10 s):=by
 unfold remS;rw [List.drop_length];rfl
theorem split_no {c:Nat} {s w:List Nat} (h:w ∈ splitL c s):c ∉ w:=splitL_pieces s [] (by simp) w h
theorem last_mem (s:Wd):lastW (splitL 10 s) ∈ splitL 10 s:=by
 have h:=split_snoc 10 s
 rw [h]
 have e:lastW ((splitL 10 s).dropLast++[lastW (splitL 10 s)])=lastW (splitL 10 s):=by rw [← h]
 rw [e];simp
theorem part_mem {s l:Wd} {k:Nat} (h:(partS s)[k]? = some l):l ∈ splitL 10 s:=by
 have h1:=List.mem_of_getElem? h
 rw [split_snoc 10 s]
 exact List.mem_append_left _ h1
theorem remS_succ {s l:Wd} {k:Nat} (h:(partS s)[k]? = some l):remS s k=l++10::remS s (k+1):=by
 obtain ⟨hk,he⟩:=List.getElem?_eq_some_iff.1 h
 unfold remS
 rw [List.drop_eq_getElem_cons hk,he,List.flatMap_cons]
 simp
theorem remS_len (s:Wd):∀ k,(remS s k).length≤s.length:=by
 intro k
 have h:(remS s 0).length=s.length:=by rw [remS_zero]
 rw [← h]
 unfold remS
 rw [List.drop_zero,List.length_append,List.length_append]
 have:(((partS s).drop k).flatMap fun l=>l++[10]).length≤((partS s).flatMap fun l=>l++[10]).length:=by
  conv=>rhs;rw [← List.take_append_drop k (partS s)]
  rw [List.flatMap_append,List.length_append];omega
 omega
theorem idxL_app {c:Nat}:∀ {l:List Nat} (r:List Nat),c ∉ l→idxL c (l++c::r)=(l.length:Int)
 | [],r,_=>by simp [idxL]
 | a::l,r,h=>by
   rw [List.mem_cons,not_or] at h
   have ih:=idxL_app (l:=l) r h.2
   show (if a=c then 0 else if idxL c (l++c::r) = -1 then -1 else idxL c (l++c::r)+1)=_
   rw [if_neg (Ne.symm h.1),ih,if_neg (by omega)]
   simp
theorem idxL_no {c:Nat} {l:List Nat} (h:c ∉ l):idxL c l = -1:=by
 rcases idxL_cases c l with ⟨h1,_⟩ | ⟨i,_,_,h3,_⟩
 · exact h1
 · exact absurd (List.mem_of_getElem? h3) h
theorem beqL_same (a:Wd):beqL a a=true:=by rw [beqL_dec];simp
theorem beqL_to {a b:Wd} (h:beqL a b=true):a=b:=by rw [beqL_dec] at h;simpa using h
/-! ### A step -/
theorem word_sub (x:Tk):∀ w ∈ x.word.2.ws,w ∈ x.ws:=by
 obtain ⟨ws,b⟩:=x
 intro w h
 unfold Tk.word at h
 cases ws with
 | nil=>cases h
 | cons a r =>
   simp only at h
   split at h
   · cases h
   · exact List.mem_cons_of_mem _ h
def idxK (h:Wd):Int:=match kindW h with
 | none=>-1
 | some q=>(q:Int)
theorem step_none {n:Net} {k:Int} {i:Nat} {l:Wd} {r:List Wd} (h:kindW (Tk.word ⟨splitL 32 l,false⟩).1=none):(goG n k i (l::r)).2.2=some i:=by
 rw [goG_cons,← lineT_eq]
 unfold lineT
 rw [h]
theorem step_low {n:Net} {k:Int} {i q:Nat} {l:Wd} {r:List Wd} (h:kindW (Tk.word ⟨splitL 32 l,false⟩).1=some q) (hk:kindOf q < k):(goG n k i (l::r)).2.2=some i:=by
 rw [goG_cons,← lineT_eq]
 unfold lineT
 rw [h]
 simp only
 cases hf:finT (readT n (Tk.word ⟨splitL 32 l,false⟩).2 q) (kindOf q) with
 | none=>rfl
 | some y =>
   obtain ⟨n',k'⟩:=y
   obtain ⟨_,_,h3⟩:=finT_iff.1 hf
   have:k'=kindOf q:=(congrArg Prod.snd h3).symm
   simp only
   rw [if_pos (by omega)]
theorem step_bad {n:Net} {k:Int} {i q:Nat} {l:Wd} {r:List Wd} (h:kindW (Tk.word ⟨splitL 32 l,false⟩).1=some q) (hb:(readT n (Tk.word ⟨splitL 32 l,false⟩).2 q).2.wrong=true∨(readT n (Tk.word ⟨splitL 32 l,false⟩).2 q).2.ws ≠ []):(goG n k i (l::r)).2.2=some i:=by
 rw [goG_cons,← lineT_eq]
 unfold lineT
 rw [h]
 simp only
 unfold finT
 rw [if_pos hb]
theorem step_good {n:Net} {k:Int} {i q:Nat} {l:Wd} {r:List Wd} (h:kindW (Tk.word ⟨splitL 32 l,false⟩).1=some q) (hk:¬ kindOf q < k) (h1:(readT n (Tk.word ⟨splitL 32 l,false⟩).2 q).2.wrong=false) (h2:(readT n (Tk.word ⟨splitL 32 l,false⟩).2 q).2.ws=[]) :
 goG n k i (l::r)=goG (readT n (Tk.word ⟨splitL 32 l,false⟩).2 q).1 (kindOf q) (i+1) r∧lineF n (splitL 32 l)=some ((readT n (Tk.word ⟨splitL 32 l,false⟩).2 q).1,kindOf q):=by
 have e:lineF n (splitL 32 l)=some ((readT n (Tk.word ⟨splitL 32 l,false⟩).2 q).1,kindOf q):=by
  rw [← lineT_eq]
  unfold lineT
  rw [h]
  simp only
  exact finT_iff.2 ⟨h1,h2,rfl⟩
 refine ⟨?_,e⟩
 rw [goG_cons,e]
 simp only
 rw [if_neg hk]
theorem kindW_lt {h:Wd} {q:Nat} (e:kindW h=some q):q < 4:=by
 unfold kindW at e
 split at e
 · cases e;decide
 split at e
 · cases e;decide
 split at e
 · cases e;decide
 split at e
 · cases e;decide
 cases e
/-! ### The first form with a head -/
def bW (h:Wd) (k:Nat):Bool:=if k=0 then beqL sLine h else if k=1 then beqL sPiece h else if k=2 then beqL sSwitch h else beqL sStructure h
theorem idxK_at {h:Wd} {k:Nat} (hk:k < 4) (h0:∀ i,i < k→bW h i=false) (h1:bW h k=true):idxK h=(k:Int):=by
 have hne:∀ i,bW h i=false → ¬ (h=(if i=0 then sLine else if i=1 then sPiece else if i=2 then sSwitch else sStructure)):=fun i hi he=>by
  subst he
  unfold bW at hi
  by_cases a:i=0
  · simp [a,beqL_same] at hi
  by_cases b:i=1
  · simp [b,beqL_same] at hi
  by_cases c:i=2
  · simp [c,beqL_same] at hi
  simp [a,b,c,beqL_same] at hi
 have hk':k=0∨k=1∨k=2∨k=3:=by omega
 unfold idxK kindW
 rcases hk' with rfl | rfl | rfl | rfl
 · have:h=sLine:=(beqL_to h1).symm
   rw [if_pos this]
 · have:h=sPiece:=(beqL_to h1).symm
   have a0:¬ h=sLine:=hne 0 (h0 0 (by decide))
   rw [if_neg a0,if_pos this]
 · have:h=sSwitch:=(beqL_to h1).symm
   have a0:¬ h=sLine:=hne 0 (h0 0 (by decide))
   have a1:¬ h=sPiece:=hne 1 (h0 1 (by decide))
   rw [if_neg a0,if_neg a1,if_pos this]
 · have:h=sStructure:=(beqL_to h1).symm
   have a0:¬ h=sLine:=hne 0 (h0 0 (by decide))
   have a1:¬ h=sPiece:=hne 1 (h0 1 (by decide))
   have a2:¬ h=sSwitch:=hne 2 (h0 2 (by decide))
   rw [if_neg a0,if_neg a1,if_neg a2,if_pos this]
theorem idxK_none {h:Wd} (h0:∀ i,i < 4→bW h i=false):idxK h = -1:=by
 have ne:∀ {a:Wd},beqL a h=false → ¬ h=a:=fun e he=>by rw [he,beqL_same] at e;cases e
 unfold idxK kindW
 rw [if_neg (ne (h0 0 (by decide))),if_neg (ne (h0 1 (by decide))),if_neg (ne (h0 2 (by decide))),if_neg (ne (h0 3 (by decide)))]
end Go.Sim

/-
Texts: a line read by the program: what it holds, and the first form.
-/
namespace Go.Sim
open Go Go.Proofs
set_option maxRecDepth 100000
set_option maxHeartbeats 16000000
/-! ### The network's block -/
structure NB (nb:Nat) (n:Net) (H:Heap) (lv:AV) (L:List LT) (t2 t3:Tok):Prop where
 bp:H.get nb=.cells [lv,.ps t2 (n.sws.map Sw.row),.ps t3 (n.sts.map Stc.row)] 40
 nbn:nb < H.n
 lv:LV 196 0 H lv L
 ls:L.map Prod.snd=n.lines
 last:LastE 200 0 H L
 a2:AppE 0 H t2 (n.sws.map Sw.row) 5 201
 a3:AppE 0 H t3 (n.sts.map Stc.row) 5 202
theorem NB.keep {nb:Nat} {n:Net} {H H':Heap} {lv:AV} {L:List LT} {t2 t3:Tok} (h:NB nb n H lv L t2 t3) (hn:H.n≤H'.n) (h0:H'.get nb=H.get nb) (hg:∀ i cs sz e,i < H.n→H.get i=.row cs sz e→H'.get i=H.get i):NB nb n H' lv L t2 t3 :=
 ⟨h0.trans h.bp,Nat.lt_of_lt_of_le h.nbn hn,h.lv.keep hn fun i cs hi _ hc=>hg i _ _ _ hi hc,h.ls,fun t l hl=>(h.last t l hl).keep hn fun i hi _ hc=>hg i _ _ _ hi hc,h.a2.keep hn fun i hi _ hc=>hg i _ _ _ hi hc,h.a3.keep hn fun i hi _ hc=>hg i _ _ _ hi hc⟩
structure PS (nb tb:Nat) (n:Net) (x:Tk) (H0 H:Heap):Prop where
 ex:∃ lv L t2 t3,NB nb n H lv L t2 t3
 tk:∃ t,TkT t x∧H.get tb=.cells (TkC t x) 291
 n:H0.n≤H.n
 fr:∀ j,j < H0.n→j ≠ nb→j ≠ tb→(∀ cs sz e,H0.get j ≠ .row cs sz e)→H.get j=H0.get j
theorem PS.take {nb tb:Nat} {n:Net} {x x':Tk} {t':Tok} {H0 H:Heap} (S:PS nb tb n x H0 H) (hne:nb ≠ tb) (ht:TkT t' x'):PS nb tb n x' H0 (H.set tb (.cells (TkC t' x') 291)):=by
 obtain ⟨lv,L,t2,t3,N⟩:=S.ex
 obtain ⟨t,_,hg⟩:=S.tk
 refine ⟨⟨lv,L,t2,t3,N.keep (by simp) (by rw [Heap.get_set,if_neg hne]) fun i cs sz e hi hc => ?_⟩,⟨t',ht,by rw [Heap.get_set,if_pos rfl]⟩,by simpa using S.n,fun j hj h1 h2 h3 => ?_⟩
 · rw [Heap.get_set,if_neg (fun he=>by rw [he,hg] at hc;cases hc)]
 · rw [Heap.get_set,if_neg h2];exact S.fr j hj h1 h2 h3
theorem PS.push {nb tb:Nat} {n:Net} {x:Tk} {H0 H:Heap} (S:PS nb tb n x H0 H) (htb:tb < H0.n) (b:ABlk):PS nb tb n x H0 (H.push b):=by
 obtain ⟨lv,L,t2,t3,N⟩:=S.ex
 obtain ⟨t,ht,hg⟩:=S.tk
 have hn:=S.n
 have h1:=N.nbn
 refine ⟨⟨lv,L,t2,t3,N.keep (by simp) (by rw [Heap.get_push,if_neg (by omega)]) fun i cs sz e hi hc => ?_⟩,⟨t,ht,by rw [Heap.get_push,if_neg (by omega)];exact hg⟩,by simp;omega,fun j hj h1 h2 h3 => ?_⟩
 · rw [Heap.get_push,if_neg (by omega)]
 · rw [Heap.get_push,if_neg (by omega)];exact S.fr j hj h1 h2 h3
theorem PS.setv {nb tb pb:Nat} {n:Net} {x:Tk} {H0 H:Heap} {b:ABlk} {cs0:List AV} {e0:TypeId} (S:PS nb tb n x H0 H) (h0:H0.n≤pb) (h1:nb ≠ pb) (h2:tb ≠ pb) (hc:H.get pb=.cells cs0 e0):PS nb tb n x H0 (H.set pb b):=by
 obtain ⟨lv,L,t2,t3,N⟩:=S.ex
 obtain ⟨t,ht,hg⟩:=S.tk
 refine ⟨⟨lv,L,t2,t3,N.keep (by simp) (by rw [Heap.get_set,if_neg h1]) fun i cs sz e hi hr => ?_⟩,⟨t,ht,by rw [Heap.get_set,if_neg h2];exact hg⟩,by simpa using S.n,fun j hj _ _ h3 => ?_⟩
 · rw [Heap.get_set,if_neg (fun he=>by rw [he,hc] at hr;cases hr)]
 · rw [Heap.get_set,if_neg (by omega)];exact S.fr j hj ‹_› ‹_› h3
theorem PS.box {nb tb:Nat} {n:Net} {x:Tk} {H:Heap} (S:PS nb tb n x H H) (htb:tb < H.n) (b c:ABlk) {cs0:List AV} {e0:TypeId} (hb:b=.cells cs0 e0) {x':Tk} {t':Tok} (hne:nb ≠ tb) (ht:TkT t' x'):PS nb tb n x' H (((H.set tb (.cells (TkC t' x') 291)).push b).set H.n c):=by
 obtain ⟨lv,L,t2,t3,N⟩:=S.ex
 have:=N.nbn
 have S1:=(S.take hne ht).push htb b
 exact S1.setv (Nat.le_refl _) (by omega) (by omega) (by rw [Heap.get_push,if_pos (by simp)];exact hb)
theorem lit36 (a:List Nat) (t:Tok) (rows:List (List AV)) (H:Heap):abuildLit NC.P H 36 1 [(0,.agg [.str a,.ps t rows])]=some (.rs H.n 0 1 2 (some 1),H.push (.cells [.str a,.ps t rows] 196)):=by
 have e1:elemOf NC.P 36=some 196:=by kernel_rfl
 have e2:szOf NC.P 196=some 2:=by kernel_rfl
 have e3:(zeroOf NC.P 196).isSome=true:=by kernel_rfl
 unfold abuildLit
 rw [e1]
 simp only
 rw [e2]
 simp only
 rw [e3]
 rfl
/-! ### A line's name -/
theorem r216 {nb tb:Nat} {n:Net} {x:Tk} {H:Heap} (hne:nb ≠ tb) (htb:tb < H.n) (hr:n.lines.length+1≤maxRows) (S:PS nb tb n x H H) :
 ∃ v H1,R WP (.call 0 216 [.ptr nb 0,.ptr tb 0] H)=some (.ofVal v H1)∧PS nb tb (readT n x 0).1 (readT n x 0).2 H H1:=by
 refine R_of_body (C:=WP) (f:=216) (lo:=0) (args:=[.ptr nb 0,.ptr tb 0]) (H:=H) (fn:=Tryz.f216) (Q:=fun _ H1=>PS nb tb (readT n x 0).1 (readT n x 0).2 H H1) (by kernel_rfl) Tryz.func216 rfl rfl ?_
 obtain ⟨lv,L,t2,t3,N⟩:=S.ex
 obtain ⟨t,ht,hg⟩:=S.tk
 have e:=hTk_eq (F:=F167) (lo:=0) (rest:=[]) (v:=.str x.word.1) (t':=wordT x) (x':=x.word.2) hg ht (Nat.zero_le _) htb rfl
 have S1:=S.take hne (wordT_ok x)
 have N1:NB nb n (H.set tb (.cells (TkC (wordT x) x.word.2) 291)) lv L t2 t3:=N.keep (by simp) (by rw [Heap.get_set,if_neg hne]) fun i cs sz e hi hc=>by rw [Heap.get_set,if_neg (fun he=>by rw [he,hg] at hc;cases hc)]
 have hLl:L.length=n.lines.length:=by have:=congrArg List.length N.ls;simpa using this
 have hbp:=N.bp
 have hnb:=N.nbn
 have e1:readT n x 0=(n.addLine x.word.1,x.word.2):=rfl
 rw [e1]
 have hg1:(H.set tb (.cells (TkC (wordT x) x.word.2) 291)).get tb=.cells (TkC (wordT x) x.word.2) 291:=by rw [Heap.get_set,if_pos rfl]
 have hn1:(H.set tb (.cells (TkC (wordT x) x.word.2) 291)).n=H.n:=by simp
 have ho1:∀ j,j ≠ tb→(H.set tb (.cells (TkC (wordT x) x.word.2) 291)).get j=H.get j:=fun j hj=>by rw [Heap.get_set,if_neg hj]
 generalize (H.set tb (.cells (TkC (wordT x) x.word.2) 291))=H1 at *
 have hL1:LV 196 0 (H1.push (.cells [.str x.word.1,.ps .nil []] 196)) lv L:=N1.lv.keep (by simp) fun i cs hi _ _=>by rw [Heap.get_push,if_neg (by omega)]
 obtain ⟨id,H2,ha,hL2,hn2,hb2,hc2⟩:=appL (lo:=0) (.nil,⟨x.word.1,[]⟩) hL1 (Nat.zero_le _) (Nat.zero_le _) (by rw [hLl];exact hr)
 have hli:=lit36 x.word.1 .nil [] H1
 have hch:∀ a b:AV,chunks 2 1 [a,b]=some [[a,b]]:=fun _ _=>rfl
 simp only [List.map_nil] at ha
 simp only [Heap.n_push] at hn2
 have hpH:H2.get nb=.cells [lv,.ps t2 (n.sws.map Sw.row),.ps t3 (n.sts.map Stc.row)] 40:=by
  rw [hc2 nb (by simp;omega) (fun cs=>by rw [Heap.get_push,if_neg (by omega),ho1 nb hne,hbp];intro h;cases h),Heap.get_push,if_neg (by omega),ho1 nb hne,hbp]
 have htH:H2.get tb=.cells (TkC (wordT x) x.word.2) 291:=by
  rw [hc2 tb (by simp;omega) (fun cs=>by rw [Heap.get_push,if_neg (by omega),hg1];intro h;cases h),Heap.get_push,if_neg (by omega),hg1]
 have keep:∀ i,i < H.n→(∀ cs,H1.get i ≠ .row cs 2 196)→H2.get i=H1.get i:=fun i hi h=>by
  rw [hc2 i (by simp;omega) (fun cs=>by rw [Heap.get_push,if_neg (by omega)];exact h cs),Heap.get_push,if_neg (by omega)]
 have fin:PS nb tb (n.addLine x.word.1) x.word.2 H (H2.set nb (.cells [.rs id 0 (L.length+1) 2 none,.ps t2 (n.sws.map Sw.row),.ps t3 (n.sts.map Stc.row)] 40)):=by
  refine ⟨⟨_,L++[(.nil,⟨x.word.1,[]⟩)],t2,t3,⟨by rw [Heap.get_set,if_pos rfl];rfl,by simp;omega,hL2.keep (by simp) fun i cs hi _ hc => ?_, ?_,fun t l hl => ?_, ?_, ?_⟩⟩,⟨_,wordT_ok x,by rw [Heap.get_set,if_neg (Ne.symm hne)];exact htH⟩,by simp;omega,fun j hj h1 h2 h3 => ?_⟩
  · rw [Heap.get_set,if_neg (fun he=>by rw [he,hpH] at hc;cases hc)]
  · rw [List.map_append,N.ls];rfl
  · rw [List.getLast?_concat] at hl
    cases hl
    exact .inl ⟨rfl,.inl rfl⟩
  · exact N1.a2.keep (by simp;omega) fun i hi _ hc=>by rw [Heap.get_set,if_neg (fun he=>by rw [he,ho1 nb hne,hbp] at hc;cases hc),keep i (by omega) (fun cs=>by rw [hc];intro h;cases h)]
  · exact N1.a3.keep (by simp;omega) fun i hi _ hc=>by rw [Heap.get_set,if_neg (fun he=>by rw [he,ho1 nb hne,hbp] at hc;cases hc),keep i (by omega) (fun cs=>by rw [hc];intro h;cases h)]
  · rw [Heap.get_set,if_neg h1,keep j hj (fun cs=>by rw [ho1 j h2];exact h3 _ _ _),ho1 j h2]
 have n1:=eq_false hne
 have n2:=eq_false (Ne.symm hne)
 have hpH1:H1.get nb=.cells [lv,.ps t2 (n.sws.map Sw.row),.ps t3 (n.sts.map Stc.row)] 40:=by rw [ho1 nb hne];exact hbp
 have hlv:(∃ id,lv=.rs id 0 L.length 2 none)∨(lv=.ps .nil []∧L=[]):=by
  rcases N.lv with ⟨h0,h⟩ | ⟨_,id,h,_⟩
  · exact .inr ⟨h,h0⟩
  · exact .inl ⟨_,h⟩
 rcases hlv with ⟨id0,rfl⟩ | ⟨rfl,rfl⟩
 · simp only [go_sem,reduceIte,reduceEqDiff,reduceAdd,reduceMul,reduceSub,reduceLeDiff,reduceLT,Nat.reduceBEq,reduceCtorEq,hbp,e,n1,n2,hli,hch,ha,appO,hpH,hpH1,op_nil]
   exact fin
 · simp only [go_sem,reduceIte,reduceEqDiff,reduceAdd,reduceMul,reduceSub,reduceLeDiff,reduceLT,Nat.reduceBEq,reduceCtorEq,hbp,e,n1,n2,hli,hch,ha,appO,hpH,hpH1,op_nil]
   exact fin
end Go.Sim

/-
Texts: the first form with a head, and the lines of a text, by the program: the walks.
-/
namespace Go.Sim
open Go Go.Proofs
set_option maxRecDepth 100000
set_option maxHeartbeats 16000000
theorem r170 (w head:Wd) (k:Int) (f:FuncId) {lo hb:Nat} {H:Heap} (hg:H.get hb=.cells [.str head] 9) (hhb:hb < H.n) :
 ∃ v H',R WP (.call lo 170 [.agg [.str w,.int .i64 k,.fn f [] []],.ptr hb 0] H)=some (.ofVal v H')∧v=.bool (beqL w head):=by
 refine R_of_body (C:=WP) (f:=170) (lo:=lo) (args:=[.agg [.str w,.int .i64 k,.fn f [] []],.ptr hb 0]) (H:=H) (fn:=Tryz.f170) (Q:=fun v _=>v=.bool (beqL w head)) (by kernel_rfl) Tryz.func170 rfl rfl ?_
 have z:(hb=H.n)=False:=by simp only [eq_iff_iff,iff_false];omega
 have z2:(H.n=hb)=False:=by simp only [eq_iff_iff,iff_false];omega
 simp only [go_sem,reduceIte,reduceEqDiff,reduceAdd,reduceMul,reduceSub,reduceLeDiff,reduceLT,Nat.reduceBEq,reduceCtorEq,hg,z,z2]
 first | done | rfl
def fF (k:Nat):FuncId:=if k=0 then 216 else if k=1 then 217 else if k=2 then 220 else 221
theorem form_at (head:Wd) {k:Nat} (hk:k < 4):∃ w,formsL[k]? = some [.str w,.int .i64 (kindOf k),.fn (fF k) [] []]∧bW head k=beqL w head:=by
 have h:k=0∨k=1∨k=2∨k=3:=by omega
 rcases h with rfl | rfl | rfl | rfl<;>exact ⟨_,rfl,rfl⟩
theorem r168 (head:Wd) {lo hb:Nat} {H:Heap} (hg:H.get hb=.cells [.str head] 9) (hhb:hb < H.n) :
 ∃ v H',R WP (.call lo 168 [.ps .unk formsL,.fn 170 [] [.ptr hb 0]] H)=some (.ofVal v H')∧v=i64 (idxK head):=by
 refine R_of_body (C:=WP) (f:=168) (lo:=lo) (args:=[.ps .unk formsL,.fn 170 [] [.ptr hb 0]]) (H:=H) (fn:=Tryz.f168) (Q:=fun v _=>v=i64 (idxK head)) (by kernel_rfl) Tryz.func168 rfl rfl ?_
 have hfl:formsL.length=4:=rfl
 simp only [go_sem,reduceIte,reduceEqDiff,reduceAdd,reduceMul,reduceSub,reduceLeDiff,reduceLT,Nat.reduceBEq,reduceCtorEq,hfl]
 refine W_for (fun k T H' M=>M=[]∧H=H'∧getT T 0=.ps .unk formsL∧getT T 1=.fn 170 [] [.ptr hb 0]∧getT T 7=.int .i64 ((4:Nat):Int)∧getT T 8=i64 k ∧ ∀ i,i < k→bW head i=false) 4 ?_ ?_ ?_
 · simp only [go_sem,reduceIte,reduceEqDiff,reduceAdd,reduceMul,reduceSub,reduceLeDiff,reduceLT,Nat.reduceBEq,reduceCtorEq,hfl]
   exact fun i hi=>absurd hi (Nat.not_lt_zero _)
 · rintro k T H' M hk ⟨rfl,rfl,g0,g1,g7,g8,hI⟩
   obtain ⟨w,hx,hb'⟩:=form_at head hk
   obtain ⟨v,H1,e1,rfl⟩:=r170 w head (kindOf k) (fF k) (lo:=H.n) hg hhb
   have hw:=wrap_succ hk (by unfold maxRows;omega)
   cases hB:beqL w head with
   | false =>
     rw [hB] at e1
     simp only [go_sem,reduceIte,reduceEqDiff,reduceAdd,reduceMul,reduceSub,reduceLeDiff,reduceLT,Nat.reduceBEq,reduceCtorEq,g0,g1,g7,g8,hk,hfl,hx,e1,hw]
     first
      | (intro i hi
         by_cases h:i=k
         · rw [h,hb',hB]
         · exact hI i (by omega))
   | true =>
     rw [hB] at e1
     have hE:=idxK_at hk hI (hb'.trans hB)
     simp only [go_sem,reduceIte,reduceEqDiff,reduceAdd,reduceMul,reduceSub,reduceLeDiff,reduceLT,Nat.reduceBEq,reduceCtorEq,g0,g1,g7,g8,hk,hfl,hx,e1,hw,hE]
     done
 · rintro T H' M ⟨rfl,rfl,g0,g1,g7,g8,hI⟩
   have hE:=idxK_none hI
   simp only [go_sem,reduceIte,reduceEqDiff,reduceAdd,reduceMul,reduceSub,reduceLeDiff,reduceLT,Nat.reduceBEq,reduceCtorEq,g0,g1,g7,g8,hfl,hE,Nat.lt_irrefl]
   done
/-! ### The lines of a text -/
theorem lines_run {lo y c:Nat} {s:Wd} {H:Heap} (hs:s.length+1≤maxRows) (hlo:lo≤c) (J:Nat→Heap→Prop) (E:Heap→Prop) (hJ0:J 0 H) (h0:H.get c=.cells [.str s] 9)
 (hJs:∀ k H w,J k H→J k (H.set c (.cells [.str w] 9)))
 (hy:∀ k l H,(partS s)[k]? = some l→J k H→H.get c=.cells [.str (remS s (k+1))] 9 → ∃ v H',R WP (.yield lo y [.str (l++[10])] H)=some (.ofVal (.bool v) H')∧(if v then J (k+1) H'∧H'.get c=.cells [.str (remS s (k+1))] 9 else E H'))
 (hl:lastW (splitL 10 s) ≠ [] → ∀ H,J (partS s).length H → ∃ H',R WP (.yield lo y [.str (lastW (splitL 10 s))] H)=some (.ofVal (.bool false) H')∧E H') :
 ∃ v H',R WP (.call lo 212 [.yld y,.ptr c 0] H)=some (.ofVal v H')∧((J (partS s).length H'∧lastW (splitL 10 s)=[])∨E H'):=by
 refine R_of_body (C:=WP) (f:=212) (lo:=lo) (args:=[.yld y,.ptr c 0]) (H:=H) (fn:=Tryz.f212) (Q:=fun _ H'=>(J (partS s).length H'∧lastW (splitL 10 s)=[])∨E H') (by kernel_rfl) Tryz.func212 rfl rfl ?_
 have hlo':=eq_true hlo
 simp only [go_sem,reduceIte,reduceEqDiff,reduceAdd,reduceMul,reduceSub,reduceLeDiff,reduceLT,Nat.reduceBEq,reduceCtorEq]
 refine W_for (fun k T H' M=>M=[]∧getT T 0=.yld y∧getT T 1=.ptr c 0∧J k H'∧H'.get c=.cells [.str (remS s k)] 9) (partS s).length ?_ ?_ ?_
 · simp only [go_sem,reduceIte,reduceEqDiff,reduceAdd,reduceMul,reduceSub,reduceLeDiff,reduceLT,Nat.reduceBEq,reduceCtorEq,h0]
   first | exact ⟨hJ0,by rw [remS_zero]⟩ | (rw [remS_zero];exact hJ0)
 · rintro k T H' M hk ⟨rfl,g0,g1,hJ,hc⟩
   obtain ⟨l,hp⟩:∃ l,(partS s)[k]? = some l:=⟨_,List.getElem?_eq_getElem hk⟩
   have hrem:=remS_succ hp
   have hno:10 ∉ l:=split_no (part_mem hp)
   have hix:onPure p213 [.str (remS s k),.int .u8 10]=some (.int .i64 (l.length:Int)):=onPure_eq (by rw [e213,hrem,idxL_app _ hno]) rfl rfl
   have hlen:(remS s k).length=l.length+1+(remS s (k+1)).length:=by rw [hrem];simp;omega
   have hle:=remS_len s k
   have z0:((0:Int) < ((remS s k).length:Int))=True:=by simp only [eq_iff_iff,iff_true];omega
   have z1:((l.length:Int) < 0)=False:=by simp only [eq_iff_iff,iff_false];omega
   have hw:wrapq .i64 (Int.add (l.length:Int) 1)=((l.length+1:Nat):Int):=wrap_nat (n:=l.length+1) (by unfold maxRows at hs;omega)
   have s1:=asl_hi (s:=remS s k) (i:=l.length+1) (by omega)
   have s2:=asl_lo (s:=remS s k) (i:=l.length+1) (by omega)
   have u1:(remS s k).take (l.length+1)=l++[10]:=by
    rw [hrem]
    have:l++10::remS s (k+1)=(l++[10])++remS s (k+1):=by simp
    rw [this];exact List.take_left' (by simp)
   have u2:(remS s k).drop (l.length+1)=remS s (k+1):=by
    rw [hrem]
    have:l++10::remS s (k+1)=(l++[10])++remS s (k+1):=by simp
    rw [this];exact List.drop_left' (by simp)
   rw [u1] at s1
   rw [u2] at s2
   obtain ⟨v,H2,hr,hv⟩:=hy k l (H'.set c (.cells [.str (remS s (k+1))] 9)) hp (hJs k H' _ hJ) (by rw [Heap.get_set,if_pos rfl])
   cases v with
   | false =>
     simp only [go_sem,reduceIte,reduceEqDiff,reduceAdd,reduceMul,reduceSub,reduceLeDiff,reduceLT,Nat.reduceBEq,reduceCtorEq,g0,g1,hc,hix,z0,z1,hw,s1,s2,hr,hlo',kNone]
     exact .inr hv
   | true =>
     simp only [if_true] at hv
     simp only [go_sem,reduceIte,reduceEqDiff,reduceAdd,reduceMul,reduceSub,reduceLeDiff,reduceLT,Nat.reduceBEq,reduceCtorEq,g0,g1,hc,hix,z0,z1,hw,s1,s2,hr,hlo',kNone]
     exact hv
 · rintro T H' M ⟨rfl,g0,g1,hJ,hc⟩
   rw [remS_end] at hc
   cases hw:lastW (splitL 10 s) with
   | nil =>
     rw [hw] at hc
     have z0:((0:Int) < 0)=False:=by simp
     simp only [go_sem,reduceIte,reduceEqDiff,reduceAdd,reduceMul,reduceSub,reduceLeDiff,reduceLT,Nat.reduceBEq,reduceCtorEq,g0,g1,hc,z0]
     first | exact .inl hJ | exact .inl ⟨hJ,trivial⟩
   | cons a r =>
     rw [hw] at hc
     have hno:10 ∉ a::r:=by rw [← hw];exact split_no (last_mem s)
     have hix:onPure p213 [.str (a::r),.int .u8 10]=some (.int .i64 (-1)):=onPure_eq (by rw [e213,idxL_no hno]) rfl rfl
     have z0:((0:Int) < ((r.length+1:Nat):Int))=True:=by simp only [eq_iff_iff,iff_true];omega
     have z1:((-1:Int) < 0)=True:=by simp
     obtain ⟨H2,hr,hv⟩:=hl (by rw [hw];simp) (H'.set c (.cells [.str []] 9)) (hJs _ H' _ hJ)
     rw [hw] at hr
     simp only [go_sem,reduceIte,reduceEqDiff,reduceAdd,reduceMul,reduceSub,reduceLeDiff,reduceLT,Nat.reduceBEq,reduceCtorEq,g0,g1,hc,hix,z0,z1,hr,hlo',kNone]
     first | exact .inr hv | exact hv
theorem W_lines {fid:FuncId} {g:Operand} {params:Array Tmp} {pa:Tmp} (hpar:params.toList=[pa]) {assign body:Code} {T:TT AV} {H:Heap} {M:List Nat} {Q:AExit→TT AV→Heap→List Nat→Prop} {s:Wd} {c:Nat} (hs:s.length+1≤maxRows)
 (hg:evalO WP T g=some (.fn 212 [] [.ptr c 0])) (hc:c < H.n) (h0:H.get c=.cells [.str s] 9) (G:Nat→Heap→Prop) (F:AV→TT AV→Prop) (E:AExit→Heap→Prop)
 (hG0:∀ lp,G 0 ((H.push .defr).push (.loop lp))) (hGs:∀ k H' w,G k H'→G k (H'.set c (.cells [.str w] 9))) (hGl:∀ k H' b,(∀ cs sz e,b ≠ .row cs sz e)→G k H'→G k (H'.set (H.n+1) b))
 (hE:∀ e H' b,E e H'→E e (H'.set (H.n+1) b))
 (ha:∀ v H',W WP 0 fid true assign (setT T pa v) H' [] fun e T1 H1 M1=>e=.nrm∧H1=H'∧M1=[]∧F v T1)
 (round:∀ k l o Hk T1 lp,(o=true→(partS s)[k]? = some l∧Hk.get c=.cells [.str (remS s (k+1))] 9)→(o=false→k=(partS s).length∧l=lastW (splitL 10 s)∧l ≠ [])→G k Hk→Hk.get (H.n+1)=.loop lp→F (.str (if o then l++[10] else l)) T1 →
   W WP 0 fid true body T1 Hk [] fun e T3 H3 _=>H3.get (H.n+1)=.loop lp∧next e (o=true∧H3.get c=.cells [.str (remS s (k+1))] 9∧G (k+1) H3) (E e H3))
 (fin:lastW (splitL 10 s)=[] → ∀ H4,G (partS s).length H4→Q .nrm T H4 (H.n::M))
 (stop:∀ e H3,e ≠ .nrm→E e H3→Q e T H3 (H.n::M)) :
 W WP 0 fid false (.rangeFunc g params assign body) T H M Q:=by
 refine W_rangeFunc hg ?_
 let r0:ALoop:=⟨fid,T,params.toList,assign,body,.ready,none,H.n⟩
 let J:Nat→Heap→Prop:=fun k H'=>G k H'∧H'.get (H.n+1)=.loop r0
 let EE:Heap→Prop:=fun H'=>∃ e H3,e ≠ .nrm∧E e H3∧H'=H3.set (H.n+1) (.loop { r0 with state:=.done,pending:=some e })
 have nl:∀ lp cs sz e,ABlk.loop lp ≠ .row cs sz e:=fun lp cs sz e h=>by cases h
 have hyield:∀ k l o Hk,(o=true→(partS s)[k]? = some l∧Hk.get c=.cells [.str (remS s (k+1))] 9)→(o=false→k=(partS s).length∧l=lastW (splitL 10 s)∧l ≠ [])→J k Hk → ∃ v H',R WP (.yield 0 (H.n+1) [.str (if o then l++[10] else l)] Hk)=some (.ofVal (.bool v) H')∧(if v then o=true∧J (k+1) H'∧H'.get c=.cells [.str (remS s (k+1))] 9 else EE H'):=by
  rintro k l o Hk ho1 ho2 ⟨hG,h3⟩
  have hW:W WP 0 fid true assign (setParams params.toList [.str (if o then l++[10] else l)] T) Hk [] fun e T1 H1 M1=>e=.nrm∧H1.get (H.n+1)=.loop r0 ∧
   W WP 0 fid true body T1 (H1.set (H.n+1) (.loop { r0 with state:=.busy })) M1 fun e T2 H2 M2=>H2.get (H.n+1)=.loop { r0 with state:=.busy } ∧
     next e (if true then o=true∧J (k+1) (H2.set (H.n+1) (.loop { r0 with state:=.ready,pending:=none }))∧(H2.set (H.n+1) (.loop { r0 with state:=.ready,pending:=none })).get c=.cells [.str (remS s (k+1))] 9 else EE (H2.set (H.n+1) (.loop { r0 with state:=.ready,pending:=none })))
      (if false=true then o=true∧J (k+1) (H2.set (H.n+1) (.loop { r0 with state:=.done,pending:=some e }))∧(H2.set (H.n+1) (.loop { r0 with state:=.done,pending:=some e })).get c=.cells [.str (remS s (k+1))] 9 else EE (H2.set (H.n+1) (.loop { r0 with state:=.done,pending:=some e }))):=by
   rw [hpar]
   refine W_mono (ha _ Hk) ?_
   rintro e T1 H1 M1 ⟨he,rfl,rfl,hF⟩
   refine ⟨he,h3, ?_⟩
   have hrd:=round k l o (H1.set (H.n+1) (.loop { r0 with state:=.busy })) T1 { r0 with state:=.busy } (fun h=>⟨(ho1 h).1,by rw [Heap.get_set,if_neg (by omega)];exact (ho1 h).2⟩) ho2 (hGl k H1 _ (nl _) hG) (by rw [Heap.get_set,if_pos rfl]) hF
   refine W_mono hrd ?_
   rintro e T3 H3 M3 ⟨q1,q2⟩
   refine ⟨q1, ?_⟩
   cases e with
   | nrm=>exact ⟨q2.1,⟨hGl _ _ _ (nl _) q2.2.2,by rw [Heap.get_set,if_pos rfl]⟩,by rw [Heap.get_set,if_neg (by omega)];exact q2.2.1⟩
   | ext i=>exact ⟨_,_,by simp,q2,rfl⟩
   | gto i=>exact ⟨_,_,by simp,q2,rfl⟩
   | ret=>exact ⟨_,_,by simp,q2,rfl⟩
  obtain ⟨v,H',e1,e2⟩:=R_yield (C:=WP) (r0:=r0) h3 rfl (by show params.toList.length=1;rw [hpar];rfl) (Nat.zero_le _:0≤H.n+1) (Y:=fun v H'=>if v then o=true∧J (k+1) H'∧H'.get c=.cells [.str (remS s (k+1))] 9 else EE H') hW
  exact ⟨v,H',e1,e2⟩
 have hrun:∃ v H',R WP (.call 0 212 [.yld (H.n+1),.ptr c 0] ((H.push .defr).push (.loop r0)))=some (.ofVal v H')∧((J (partS s).length H'∧lastW (splitL 10 s)=[])∨EE H'):=by
  refine lines_run (lo:=0) (y:=H.n+1) (c:=c) (s:=s) (H:=(H.push .defr).push (.loop r0)) hs (Nat.zero_le _) J EE ⟨hG0 r0, ?_⟩ ?_ ?_ ?_ ?_
  · rw [Heap.get_push,if_pos (by simp)]
  · rw [Heap.get_push,if_neg (by simp;omega),Heap.get_push,if_neg (by omega)];exact h0
  · rintro k H' w ⟨h1,h2⟩
    exact ⟨hGs k H' w h1,by rw [Heap.get_set,if_neg (by omega)];exact h2⟩
  · intro k l H' hp hJ hc'
    obtain ⟨v,H2,e1,e2⟩:=hyield k l true H' (fun _=>⟨hp,hc'⟩) (fun h=>by cases h) hJ
    refine ⟨v,H2,e1, ?_⟩
    cases v with
    | true=>exact e2.2
    | false=>exact e2
  · intro hne H' hJ
    obtain ⟨v,H2,e1,e2⟩:=hyield (partS s).length (lastW (splitL 10 s)) false H' (fun h=>by cases h) (fun _=>⟨rfl,rfl,hne⟩) hJ
    cases v with
    | true=>exact absurd e2.1 (by simp)
    | false=>exact ⟨H2,e1,e2⟩
 obtain ⟨v,H',hr,hJ⟩:=hrun
 refine ⟨v,H',hr, ?_⟩
 rcases hJ with ⟨⟨h1,h2⟩,h3⟩ | ⟨e,H3,he,h1,rfl⟩
 · refine ⟨r0,h2,by simp [r0], ?_⟩
   exact fin h3 _ (hGl _ _ _ (fun _ _ _ h=>by cases h) h1)
 · refine ⟨_,by rw [Heap.get_set,if_pos rfl],by simp, ?_⟩
   have:(H3.set (H.n+1) (.loop { r0 with state:=.done,pending:=some e })).set (H.n+1) .dead=(H3.set (H.n+1) (.loop { r0 with state:=.done,pending:=some e })).set (H.n+1) .dead:=rfl
   exact stop e _ he (hE _ _ _ (hE _ _ _ h1))
end Go.Sim

/-
Texts: the readers of a line, by the program: the walks. (printed by mkWS.py)
-/
namespace Go.Sim
open Go Go.Proofs
set_option maxRecDepth 100000
set_option maxHeartbeats 16000000
theorem PS.step {nb tb pb:Nat} {n:Net} {x x':Tk} {t':Tok} {H0 H:Heap} {b:ABlk} {cs0:List AV} {e0:TypeId} (S:PS nb tb n x H0 H) (hb:H.get pb=.cells cs0 e0) (h0:H0.n≤pb) (h1:nb ≠ pb) (h2:tb ≠ pb) (hne:nb ≠ tb) (ht:TkT t' x'):PS nb tb n x' H0 ((H.set tb (.cells (TkC t' x') 291)).set pb b) :=
 (S.take hne ht).setv h0 h1 h2 (by rw [Heap.get_set,if_neg (Ne.symm h2)];exact hb)
theorem f218 {x:Tk} (h:∀ w ∈ x.ws,w.length≤maxRows):F218 [] x=some (.int .i64 x.num.1,wordT x,x.num.2):=by
 unfold F218
 rw [if_pos (by rw [List.all_eq_true];intro w hm;simpa using h w hm)]
theorem kWd {x:Tk} (h:∀ w ∈ x.ws,w.length≤maxRows):∀ w ∈ x.word.2.ws,w.length≤maxRows:=fun w hm=>h w (word_sub x w hm)
theorem r220 {nb tb:Nat} {n:Net} {x:Tk} {H:Heap} (hne:nb ≠ tb) (htb:tb < H.n) (hr:n.sws.length+1≤maxRows) (hw0:∀ w ∈ x.ws,w.length≤maxRows) (S:PS nb tb n x H H) :
 ∃ v H1,R WP (.call 0 220 [.ptr nb 0,.ptr tb 0] H)=some (.ofVal v H1)∧PS nb tb (readT n x 2).1 (readT n x 2).2 H H1:=by
 refine R_of_body (C:=WP) (f:=220) (lo:=0) (args:=[.ptr nb 0,.ptr tb 0]) (H:=H) (fn:=Tryz.f220) (Q:=fun _ H1=>PS nb tb (readT n x 2).1 (readT n x 2).2 H H1) (by kernel_rfl) Tryz.func220 rfl rfl ?_
 have hnb:nb < H.n:=by
  obtain ⟨_,_,_,_,N⟩:=S.ex
  exact N.nbn
 have p1:(H.n=tb)=False:=by simp only [eq_iff_iff,iff_false];omega
 have p2:(tb=H.n)=False:=by simp only [eq_iff_iff,iff_false];omega
 have p3:(H.n=nb)=False:=by simp only [eq_iff_iff,iff_false];omega
 have p4:(nb=H.n)=False:=by simp only [eq_iff_iff,iff_false];omega
 obtain ⟨t0,ht0,hg0⟩:=S.tk
 have e0:=hTk_eq (F:=F167) (lo:=0) (rest:=[]) (v:=.str x.word.1) (t':=wordT x) (x':=x.word.2) hg0 ht0 (Nat.zero_le _) (by omega) rfl
 refine W_cutB (fun T H' M=>M=[]∧getT T 0=.ptr nb 0∧getT T 1=.ptr tb 0∧getT T 4=.ptr H.n 0∧H'.get H.n=.cells [.str x.word.1,.str [],.int .i64 0,.str [],.bool false] 201∧H.n < H'.n∧PS nb tb n x.word.2 H H') ?_ ?_
 · simp only [go_sem,reduceIte,reduceEqDiff,reduceAdd,reduceMul,reduceSub,reduceLeDiff,reduceLT,Nat.reduceBEq,reduceCtorEq,e0,p1,p2]
   exact S.box htb _ _ rfl hne (wordT_ok x)
 skip
 rintro T H1 M ⟨rfl,g0,g1,g4,hb1,hn1,S1⟩
 have hw1:=kWd hw0
 obtain ⟨t1,ht1,hg1⟩:=S1.tk
 have e1:=hTk_eq (F:=F167) (lo:=0) (rest:=[]) (v:=.str x.word.2.word.1) (t':=wordT x.word.2) (x':=x.word.2.word.2) hg1 ht1 (Nat.zero_le _) (by omega) rfl
 refine W_cutB (fun T H' M=>M=[]∧getT T 0=.ptr nb 0∧getT T 1=.ptr tb 0∧getT T 4=.ptr H.n 0∧H'.get H.n=.cells [.str x.word.1,.str x.word.2.word.1,.int .i64 0,.str [],.bool false] 201∧H.n < H'.n∧PS nb tb n x.word.2.word.2 H H') ?_ ?_
 · have q:=eq_true hn1
   simp only [go_sem,reduceIte,reduceEqDiff,reduceAdd,reduceMul,reduceSub,reduceLeDiff,reduceLT,Nat.reduceBEq,reduceCtorEq,g0,g1,g4,e1,hb1,p1,p2,q]
   exact S1.step hb1 (Nat.le_refl _) (by omega) (by omega) hne (wordT_ok x.word.2)
 clear g0 g1 g4
 rintro T H2 M ⟨rfl,g0,g1,g4,hb2,hn2,S2⟩
 have hw2:=kWd hw1
 obtain ⟨t2,ht2,hg2⟩:=S2.tk
 have e2:=hTk_eq (F:=F218) (lo:=0) (rest:=[]) (v:=.int .i64 x.word.2.word.2.num.1) (t':=wordT x.word.2.word.2) (x':=x.word.2.word.2.num.2) hg2 ht2 (Nat.zero_le _) (by omega) (f218 hw2)
 refine W_cutB (fun T H' M=>M=[]∧getT T 0=.ptr nb 0∧getT T 1=.ptr tb 0∧getT T 4=.ptr H.n 0∧H'.get H.n=.cells [.str x.word.1,.str x.word.2.word.1,.int .i64 x.word.2.word.2.num.1,.str [],.bool false] 201∧H.n < H'.n∧PS nb tb n x.word.2.word.2.num.2 H H') ?_ ?_
 · have q:=eq_true hn2
   simp only [go_sem,reduceIte,reduceEqDiff,reduceAdd,reduceMul,reduceSub,reduceLeDiff,reduceLT,Nat.reduceBEq,reduceCtorEq,g0,g1,g4,e2,hb2,p1,p2,q]
   exact S2.step hb2 (Nat.le_refl _) (by omega) (by omega) hne (wordT_ok x.word.2.word.2)
 clear g0 g1 g4
 rintro T H3 M ⟨rfl,g0,g1,g4,hb3,hn3,S3⟩
 have hw3:=kWd hw2
 obtain ⟨t3,ht3,hg3⟩:=S3.tk
 have e3:=hTk_eq (F:=F167) (lo:=0) (rest:=[]) (v:=.str x.word.2.word.2.num.2.word.1) (t':=wordT x.word.2.word.2.num.2) (x':=x.word.2.word.2.num.2.word.2) hg3 ht3 (Nat.zero_le _) (by omega) rfl
 refine W_cutB (fun T H' M=>M=[]∧getT T 0=.ptr nb 0∧getT T 1=.ptr tb 0∧getT T 4=.ptr H.n 0∧H'.get H.n=.cells [.str x.word.1,.str x.word.2.word.1,.int .i64 x.word.2.word.2.num.1,.str x.word.2.word.2.num.2.word.1,.bool false] 201∧H.n < H'.n∧PS nb tb n x.word.2.word.2.num.2.word.2 H H') ?_ ?_
 · have q:=eq_true hn3
   simp only [go_sem,reduceIte,reduceEqDiff,reduceAdd,reduceMul,reduceSub,reduceLeDiff,reduceLT,Nat.reduceBEq,reduceCtorEq,g0,g1,g4,e3,hb3,p1,p2,q]
   exact S3.step hb3 (Nat.le_refl _) (by omega) (by omega) hne (wordT_ok x.word.2.word.2.num.2)
 clear g0 g1 g4
 rintro T H4 M ⟨rfl,g0,g1,g4,hb4,hn4,S4⟩
 have hw4:=kWd hw3
 obtain ⟨t4,ht4,hg4⟩:=S4.tk
 have e4:=hTk_eq (F:=F219) (lo:=0) (rest:=[.agg [.str sFirst,.str sLast]]) (v:=.bool (x.word.2.word.2.num.2.word.2.one sFirst sLast).1) (t':=wordT x.word.2.word.2.num.2.word.2) (x':=(x.word.2.word.2.num.2.word.2.one sFirst sLast).2) hg4 ht4 (Nat.zero_le _) (by omega) rfl
 refine W_cutB (fun T H' M=>M=[]∧getT T 0=.ptr nb 0∧getT T 1=.ptr tb 0∧getT T 4=.ptr H.n 0∧H'.get H.n=.cells [.str x.word.1,.str x.word.2.word.1,.int .i64 x.word.2.word.2.num.1,.str x.word.2.word.2.num.2.word.1,.bool (x.word.2.word.2.num.2.word.2.one sFirst sLast).1] 201∧H.n < H'.n∧PS nb tb n (x.word.2.word.2.num.2.word.2.one sFirst sLast).2 H H') ?_ ?_
 · have q:=eq_true hn4
   simp only [go_sem,reduceIte,reduceEqDiff,reduceAdd,reduceMul,reduceSub,reduceLeDiff,reduceLT,Nat.reduceBEq,reduceCtorEq,g0,g1,g4,e4,hb4,p1,p2,q,wglob0,wglob1]
   exact S4.step hb4 (Nat.le_refl _) (by omega) (by omega) hne (wordT_ok x.word.2.word.2.num.2.word.2)
 clear g0 g1 g4
 rintro T H5 M ⟨rfl,g0,g1,g4,hb5,hn5,S5⟩
 have hw5:=kWd hw4
 obtain ⟨lv,L,t2,t3,N⟩:=S5.ex
 obtain ⟨t,ht,hg⟩:=S5.tk
 have hbp:=N.bp
 have e1:readT n x 2=(n.addSwitch ⟨x.word.1,x.word.2.word.1,x.word.2.word.2.num.1,x.word.2.word.2.num.2.word.1,(x.word.2.word.2.num.2.word.2.one sFirst sLast).1⟩,(x.word.2.word.2.num.2.word.2.one sFirst sLast).2):=rfl
 rw [e1]
 obtain ⟨t',HB,ha,hE,hnB,_,hcB⟩:=appE (lo:=0) (rx:=[[AV.str x.word.1,AV.str x.word.2.word.1,AV.int .i64 x.word.2.word.2.num.1,AV.str x.word.2.word.2.num.2.word.1,AV.bool (x.word.2.word.2.num.2.word.2.one sFirst sLast).1]]) N.a2 (Nat.zero_le _) (Nat.zero_le _) (by simpa using hr) rfl rfl (by decide) (sw_all _)
 have hp1:HB.get nb=.cells [lv,.ps t2 (n.sws.map Sw.row),.ps t3 (n.sts.map Stc.row)] 40:=by rw [hcB nb N.nbn (by rw [hbp];intro h;cases h),hbp]
 have hrw:n.sws.map Sw.row++[[AV.str x.word.1,AV.str x.word.2.word.1,AV.int .i64 x.word.2.word.2.num.1,AV.str x.word.2.word.2.num.2.word.1,AV.bool (x.word.2.word.2.num.2.word.2.one sFirst sLast).1]]=(n.addSwitch ⟨x.word.1,x.word.2.word.1,x.word.2.word.2.num.1,x.word.2.word.2.num.2.word.1,(x.word.2.word.2.num.2.word.2.one sFirst sLast).1⟩).sws.map Sw.row:=by
  show _=(n.sws++[_]).map Sw.row
  rw [List.map_append];rfl
 rw [hrw] at ha hE
 have hSn:=S5.n
 have hNb:=N.nbn
 have fin:PS nb tb (n.addSwitch ⟨x.word.1,x.word.2.word.1,x.word.2.word.2.num.1,x.word.2.word.2.num.2.word.1,(x.word.2.word.2.num.2.word.2.one sFirst sLast).1⟩) (x.word.2.word.2.num.2.word.2.one sFirst sLast).2 H (HB.set nb (.cells [lv,.ps t' ((n.addSwitch ⟨x.word.1,x.word.2.word.1,x.word.2.word.2.num.1,x.word.2.word.2.num.2.word.1,(x.word.2.word.2.num.2.word.2.one sFirst sLast).1⟩).sws.map Sw.row),.ps t3 (n.sts.map Stc.row)] 40)):=by
  refine ⟨⟨lv,L,t',t3,⟨by rw [Heap.get_set,if_pos rfl];rfl,by simp;omega,N.lv.keep (by simp;omega) fun i cs hi _ hc => ?_,N.ls,fun t l hl=>(N.last t l hl).keep (by simp;omega) fun i hi _ hc => ?_,hE.keep (by simp) fun i hi _ hc => ?_,N.a3.keep (by simp;omega) fun i hi _ hc => ?_⟩⟩,⟨t,ht,by rw [Heap.get_set,if_neg (Ne.symm hne),hcB tb (by omega) (by rw [hg];intro h;cases h)];exact hg⟩,by simp;omega,fun j hj h1 h2 h3 => ?_⟩
  · rw [Heap.get_set,if_neg (fun he=>by rw [he,hbp] at hc;cases hc),hcB i hi (by rw [hc];intro h;cases h)]
  · rw [Heap.get_set,if_neg (fun he=>by rw [he,hbp] at hc;cases hc),hcB i hi (by rw [hc];intro h;cases h)]
  · rw [Heap.get_set,if_neg (fun he=>by rw [he,hp1] at hc;cases hc)]
  · rw [Heap.get_set,if_neg (fun he=>by rw [he,hbp] at hc;cases hc),hcB i hi (by rw [hc];intro h;cases h)]
  · rw [Heap.get_set,if_neg h1,hcB j (by omega) (by rw [S5.fr j hj h1 h2 h3];exact h3 _ _ _),S5.fr j hj h1 h2 h3]
 generalize (n.addSwitch ⟨x.word.1,x.word.2.word.1,x.word.2.word.2.num.1,x.word.2.word.2.num.2.word.1,(x.word.2.word.2.num.2.word.2.one sFirst sLast).1⟩).sws.map Sw.row=R2 at ha fin
 have htk:t2=.nil∨t2=.exact ∨ ∃ j,t2=.tok j:=by
  rcases N.a2 with ⟨_,h | h⟩ | ⟨j,h,_⟩
  · exact .inl h
  · exact .inr (.inl h)
  · exact .inr (.inr ⟨j,h⟩)
 rcases htk with rfl | rfl | ⟨j,rfl⟩
 all_goals
  simp only [go_sem,reduceIte,reduceEqDiff,reduceAdd,reduceMul,reduceSub,reduceLeDiff,reduceLT,Nat.reduceBEq,reduceCtorEq,g0,g1,g4,hbp,hb5,appO,ha,hp1,p1,p2,p3,p4]
  exact fin
theorem r221 {nb tb:Nat} {n:Net} {x:Tk} {H:Heap} (hne:nb ≠ tb) (htb:tb < H.n) (hr:n.sts.length+1≤maxRows) (hw0:∀ w ∈ x.ws,w.length≤maxRows) (S:PS nb tb n x H H) :
 ∃ v H1,R WP (.call 0 221 [.ptr nb 0,.ptr tb 0] H)=some (.ofVal v H1)∧PS nb tb (readT n x 3).1 (readT n x 3).2 H H1:=by
 refine R_of_body (C:=WP) (f:=221) (lo:=0) (args:=[.ptr nb 0,.ptr tb 0]) (H:=H) (fn:=Tryz.f221) (Q:=fun _ H1=>PS nb tb (readT n x 3).1 (readT n x 3).2 H H1) (by kernel_rfl) Tryz.func221 rfl rfl ?_
 have hnb:nb < H.n:=by
  obtain ⟨_,_,_,_,N⟩:=S.ex
  exact N.nbn
 have p1:(H.n=tb)=False:=by simp only [eq_iff_iff,iff_false];omega
 have p2:(tb=H.n)=False:=by simp only [eq_iff_iff,iff_false];omega
 have p3:(H.n=nb)=False:=by simp only [eq_iff_iff,iff_false];omega
 have p4:(nb=H.n)=False:=by simp only [eq_iff_iff,iff_false];omega
 obtain ⟨t0,ht0,hg0⟩:=S.tk
 have e0:=hTk_eq (F:=F167) (lo:=0) (rest:=[]) (v:=.str x.word.1) (t':=wordT x) (x':=x.word.2) hg0 ht0 (Nat.zero_le _) (by omega) rfl
 refine W_cutB (fun T H' M=>M=[]∧getT T 0=.ptr nb 0∧getT T 1=.ptr tb 0∧getT T 4=.ptr H.n 0∧H'.get H.n=.cells [.str x.word.1,.str [],.str [],.int .i64 0,.int .i64 0] 202∧H.n < H'.n∧PS nb tb n x.word.2 H H') ?_ ?_
 · simp only [go_sem,reduceIte,reduceEqDiff,reduceAdd,reduceMul,reduceSub,reduceLeDiff,reduceLT,Nat.reduceBEq,reduceCtorEq,e0,p1,p2]
   exact S.box htb _ _ rfl hne (wordT_ok x)
 skip
 rintro T H1 M ⟨rfl,g0,g1,g4,hb1,hn1,S1⟩
 have hw1:=kWd hw0
 obtain ⟨t1,ht1,hg1⟩:=S1.tk
 have e1:=hTk_eq (F:=F167) (lo:=0) (rest:=[]) (v:=.str x.word.2.word.1) (t':=wordT x.word.2) (x':=x.word.2.word.2) hg1 ht1 (Nat.zero_le _) (by omega) rfl
 refine W_cutB (fun T H' M=>M=[]∧getT T 0=.ptr nb 0∧getT T 1=.ptr tb 0∧getT T 4=.ptr H.n 0∧H'.get H.n=.cells [.str x.word.1,.str x.word.2.word.1,.str [],.int .i64 0,.int .i64 0] 202∧H.n < H'.n∧PS nb tb n x.word.2.word.2 H H') ?_ ?_
 · have q:=eq_true hn1
   simp only [go_sem,reduceIte,reduceEqDiff,reduceAdd,reduceMul,reduceSub,reduceLeDiff,reduceLT,Nat.reduceBEq,reduceCtorEq,g0,g1,g4,e1,hb1,p1,p2,q]
   exact S1.step hb1 (Nat.le_refl _) (by omega) (by omega) hne (wordT_ok x.word.2)
 clear g0 g1 g4
 rintro T H2 M ⟨rfl,g0,g1,g4,hb2,hn2,S2⟩
 have hw2:=kWd hw1
 obtain ⟨t2,ht2,hg2⟩:=S2.tk
 have e2:=hTk_eq (F:=F167) (lo:=0) (rest:=[]) (v:=.str x.word.2.word.2.word.1) (t':=wordT x.word.2.word.2) (x':=x.word.2.word.2.word.2) hg2 ht2 (Nat.zero_le _) (by omega) rfl
 refine W_cutB (fun T H' M=>M=[]∧getT T 0=.ptr nb 0∧getT T 1=.ptr tb 0∧getT T 4=.ptr H.n 0∧H'.get H.n=.cells [.str x.word.1,.str x.word.2.word.1,.str x.word.2.word.2.word.1,.int .i64 0,.int .i64 0] 202∧H.n < H'.n∧PS nb tb n x.word.2.word.2.word.2 H H') ?_ ?_
 · have q:=eq_true hn2
   simp only [go_sem,reduceIte,reduceEqDiff,reduceAdd,reduceMul,reduceSub,reduceLeDiff,reduceLT,Nat.reduceBEq,reduceCtorEq,g0,g1,g4,e2,hb2,p1,p2,q]
   exact S2.step hb2 (Nat.le_refl _) (by omega) (by omega) hne (wordT_ok x.word.2.word.2)
 clear g0 g1 g4
 rintro T H3 M ⟨rfl,g0,g1,g4,hb3,hn3,S3⟩
 have hw3:=kWd hw2
 obtain ⟨t3,ht3,hg3⟩:=S3.tk
 have e3:=hTk_eq (F:=F218) (lo:=0) (rest:=[]) (v:=.int .i64 x.word.2.word.2.word.2.num.1) (t':=wordT x.word.2.word.2.word.2) (x':=x.word.2.word.2.word.2.num.2) hg3 ht3 (Nat.zero_le _) (by omega) (f218 hw3)
 refine W_cutB (fun T H' M=>M=[]∧getT T 0=.ptr nb 0∧getT T 1=.ptr tb 0∧getT T 4=.ptr H.n 0∧H'.get H.n=.cells [.str x.word.1,.str x.word.2.word.1,.str x.word.2.word.2.word.1,.int .i64 x.word.2.word.2.word.2.num.1,.int .i64 0] 202∧H.n < H'.n∧PS nb tb n x.word.2.word.2.word.2.num.2 H H') ?_ ?_
 · have q:=eq_true hn3
   simp only [go_sem,reduceIte,reduceEqDiff,reduceAdd,reduceMul,reduceSub,reduceLeDiff,reduceLT,Nat.reduceBEq,reduceCtorEq,g0,g1,g4,e3,hb3,p1,p2,q]
   exact S3.step hb3 (Nat.le_refl _) (by omega) (by omega) hne (wordT_ok x.word.2.word.2.word.2)
 clear g0 g1 g4
 rintro T H4 M ⟨rfl,g0,g1,g4,hb4,hn4,S4⟩
 have hw4:=kWd hw3
 obtain ⟨t4,ht4,hg4⟩:=S4.tk
 have e4:=hTk_eq (F:=F218) (lo:=0) (rest:=[]) (v:=.int .i64 x.word.2.word.2.word.2.num.2.num.1) (t':=wordT x.word.2.word.2.word.2.num.2) (x':=x.word.2.word.2.word.2.num.2.num.2) hg4 ht4 (Nat.zero_le _) (by omega) (f218 hw4)
 refine W_cutB (fun T H' M=>M=[]∧getT T 0=.ptr nb 0∧getT T 1=.ptr tb 0∧getT T 4=.ptr H.n 0∧H'.get H.n=.cells [.str x.word.1,.str x.word.2.word.1,.str x.word.2.word.2.word.1,.int .i64 x.word.2.word.2.word.2.num.1,.int .i64 x.word.2.word.2.word.2.num.2.num.1] 202∧H.n < H'.n∧PS nb tb n x.word.2.word.2.word.2.num.2.num.2 H H') ?_ ?_
 · have q:=eq_true hn4
   simp only [go_sem,reduceIte,reduceEqDiff,reduceAdd,reduceMul,reduceSub,reduceLeDiff,reduceLT,Nat.reduceBEq,reduceCtorEq,g0,g1,g4,e4,hb4,p1,p2,q]
   exact S4.step hb4 (Nat.le_refl _) (by omega) (by omega) hne (wordT_ok x.word.2.word.2.word.2.num.2)
 clear g0 g1 g4
 rintro T H5 M ⟨rfl,g0,g1,g4,hb5,hn5,S5⟩
 have hw5:=kWd hw4
 obtain ⟨lv,L,t2,t3,N⟩:=S5.ex
 obtain ⟨t,ht,hg⟩:=S5.tk
 have hbp:=N.bp
 have e1:readT n x 3=(n.addStruct ⟨x.word.1,x.word.2.word.1,x.word.2.word.2.word.1,x.word.2.word.2.word.2.num.1,x.word.2.word.2.word.2.num.2.num.1⟩,x.word.2.word.2.word.2.num.2.num.2):=rfl
 rw [e1]
 obtain ⟨t',HB,ha,hE,hnB,_,hcB⟩:=appE (lo:=0) (rx:=[[AV.str x.word.1,AV.str x.word.2.word.1,AV.str x.word.2.word.2.word.1,AV.int .i64 x.word.2.word.2.word.2.num.1,AV.int .i64 x.word.2.word.2.word.2.num.2.num.1]]) N.a3 (Nat.zero_le _) (Nat.zero_le _) (by simpa using hr) rfl rfl (by decide) (stc_all _)
 have hp1:HB.get nb=.cells [lv,.ps t2 (n.sws.map Sw.row),.ps t3 (n.sts.map Stc.row)] 40:=by rw [hcB nb N.nbn (by rw [hbp];intro h;cases h),hbp]
 have hrw:n.sts.map Stc.row++[[AV.str x.word.1,AV.str x.word.2.word.1,AV.str x.word.2.word.2.word.1,AV.int .i64 x.word.2.word.2.word.2.num.1,AV.int .i64 x.word.2.word.2.word.2.num.2.num.1]]=(n.addStruct ⟨x.word.1,x.word.2.word.1,x.word.2.word.2.word.1,x.word.2.word.2.word.2.num.1,x.word.2.word.2.word.2.num.2.num.1⟩).sts.map Stc.row:=by
  show _=(n.sts++[_]).map Stc.row
  rw [List.map_append];rfl
 rw [hrw] at ha hE
 have hSn:=S5.n
 have hNb:=N.nbn
 have fin:PS nb tb (n.addStruct ⟨x.word.1,x.word.2.word.1,x.word.2.word.2.word.1,x.word.2.word.2.word.2.num.1,x.word.2.word.2.word.2.num.2.num.1⟩) x.word.2.word.2.word.2.num.2.num.2 H (HB.set nb (.cells [lv,.ps t2 (n.sws.map Sw.row),.ps t' ((n.addStruct ⟨x.word.1,x.word.2.word.1,x.word.2.word.2.word.1,x.word.2.word.2.word.2.num.1,x.word.2.word.2.word.2.num.2.num.1⟩).sts.map Stc.row)] 40)):=by
  refine ⟨⟨lv,L,t2,t',⟨by rw [Heap.get_set,if_pos rfl];rfl,by simp;omega,N.lv.keep (by simp;omega) fun i cs hi _ hc => ?_,N.ls,fun t l hl=>(N.last t l hl).keep (by simp;omega) fun i hi _ hc => ?_,N.a2.keep (by simp;omega) fun i hi _ hc => ?_,hE.keep (by simp) fun i hi _ hc => ?_⟩⟩,⟨t,ht,by rw [Heap.get_set,if_neg (Ne.symm hne),hcB tb (by omega) (by rw [hg];intro h;cases h)];exact hg⟩,by simp;omega,fun j hj h1 h2 h3 => ?_⟩
  · rw [Heap.get_set,if_neg (fun he=>by rw [he,hbp] at hc;cases hc),hcB i hi (by rw [hc];intro h;cases h)]
  · rw [Heap.get_set,if_neg (fun he=>by rw [he,hbp] at hc;cases hc),hcB i hi (by rw [hc];intro h;cases h)]
  · rw [Heap.get_set,if_neg (fun he=>by rw [he,hbp] at hc;cases hc),hcB i hi (by rw [hc];intro h;cases h)]
  · rw [Heap.get_set,if_neg (fun he=>by rw [he,hp1] at hc;cases hc)]
  · rw [Heap.get_set,if_neg h1,hcB j (by omega) (by rw [S5.fr j hj h1 h2 h3];exact h3 _ _ _),S5.fr j hj h1 h2 h3]
 generalize (n.addStruct ⟨x.word.1,x.word.2.word.1,x.word.2.word.2.word.1,x.word.2.word.2.word.2.num.1,x.word.2.word.2.word.2.num.2.num.1⟩).sts.map Stc.row=R2 at ha fin
 have htk:t3=.nil∨t3=.exact ∨ ∃ j,t3=.tok j:=by
  rcases N.a3 with ⟨_,h | h⟩ | ⟨j,h,_⟩
  · exact .inl h
  · exact .inr (.inl h)
  · exact .inr (.inr ⟨j,h⟩)
 rcases htk with rfl | rfl | ⟨j,rfl⟩
 all_goals
  simp only [go_sem,reduceIte,reduceEqDiff,reduceAdd,reduceMul,reduceSub,reduceLeDiff,reduceLT,Nat.reduceBEq,reduceCtorEq,g0,g1,g4,hbp,hb5,appO,ha,hp1,p1,p2,p3,p4]
  exact fin
end Go.Sim

/-
Texts: a piece, read by the program: the walk.
-/
namespace Go.Sim
open Go Go.Proofs
set_option maxRecDepth 100000
set_option maxHeartbeats 16000000
theorem r217 {nb tb:Nat} {n:Net} {x:Tk} {H:Heap} (hne:nb ≠ tb) (htb:tb < H.n) (hll:n.lines.length≤maxRows) (hr:∀ l ∈ n.lines,l.ps.length+1≤maxRows) (hw0:∀ w ∈ x.ws,w.length≤maxRows) (S:PS nb tb n x H H) :
 ∃ v H1,R WP (.call 0 217 [.ptr nb 0,.ptr tb 0] H)=some (.ofVal v H1)∧PS nb tb (readT n x 1).1 (readT n x 1).2 H H1:=by
 refine R_of_body (C:=WP) (f:=217) (lo:=0) (args:=[.ptr nb 0,.ptr tb 0]) (H:=H) (fn:=Tryz.f217) (Q:=fun _ H1=>PS nb tb (readT n x 1).1 (readT n x 1).2 H H1) (by kernel_rfl) Tryz.func217 rfl rfl ?_
 have hnb:nb < H.n:=by
  obtain ⟨_,_,_,_,N⟩:=S.ex
  exact N.nbn
 have p1:(H.n=tb)=False:=by simp only [eq_iff_iff,iff_false];omega
 have p2:(tb=H.n)=False:=by simp only [eq_iff_iff,iff_false];omega
 have p3:(H.n=nb)=False:=by simp only [eq_iff_iff,iff_false];omega
 have p4:(nb=H.n)=False:=by simp only [eq_iff_iff,iff_false];omega
 refine W_cutB (fun T H' M=>M=[]∧H=H'∧getT T 0=.ptr nb 0∧getT T 1=.ptr tb 0∧getT T 4=.fn 218 [.ptr tb 0] []) ?_ ?_
 · simp only [go_sem,reduceIte,reduceEqDiff,reduceAdd,reduceMul,reduceSub,reduceLeDiff,reduceLT,Nat.reduceBEq,reduceCtorEq]
   done
 rintro T H' M ⟨rfl,rfl,g0,g1,g4⟩
 obtain ⟨t0,ht0,hg0⟩:=S.tk
 have e0:=hTk_eq (F:=F218) (lo:=0) (rest:=[]) (v:=.int .i64 x.num.1) (t':=wordT x) (x':=x.num.2) hg0 ht0 (Nat.zero_le _) (by omega) (f218 hw0)
 refine W_cutB (fun T H' M=>M=[]∧getT T 0=.ptr nb 0∧getT T 1=.ptr tb 0∧getT T 4=.fn 218 [.ptr tb 0] []∧getT T 5=.ptr H.n 0∧H'.get H.n=.cells [.int .i64 x.num.1,.int .i64 0,.bool false] 200∧H.n < H'.n∧PS nb tb n x.num.2 H H') ?_ ?_
 · simp only [go_sem,reduceIte,reduceEqDiff,reduceAdd,reduceMul,reduceSub,reduceLeDiff,reduceLT,Nat.reduceBEq,reduceCtorEq,g0,g1,g4,e0,p1,p2]
   exact S.box htb _ _ rfl hne (wordT_ok x)
 clear g0 g1 g4
 rintro T H1 M ⟨rfl,g0,g1,g4,g5,hb1,hn1,S1⟩
 have hw1:=kWd hw0
 obtain ⟨t1,ht1,hg1⟩:=S1.tk
 have e1:=hTk_eq (F:=F218) (lo:=0) (rest:=[]) (v:=.int .i64 x.num.2.num.1) (t':=wordT x.num.2) (x':=x.num.2.num.2) hg1 ht1 (Nat.zero_le _) (by omega) (f218 hw1)
 refine W_cutB (fun T H' M=>M=[]∧getT T 0=.ptr nb 0∧getT T 1=.ptr tb 0∧getT T 5=.ptr H.n 0∧H'.get H.n=.cells [.int .i64 x.num.1,.int .i64 x.num.2.num.1,.bool false] 200∧H.n < H'.n∧PS nb tb n x.num.2.num.2 H H') ?_ ?_
 · have q:=eq_true hn1
   simp only [go_sem,reduceIte,reduceEqDiff,reduceAdd,reduceMul,reduceSub,reduceLeDiff,reduceLT,Nat.reduceBEq,reduceCtorEq,g0,g1,g4,g5,e1,hb1,p1,p2,q]
   exact S1.step hb1 (Nat.le_refl _) (by omega) (by omega) hne (wordT_ok x.num.2)
 clear g0 g1 g4 g5
 rintro T H2 M ⟨rfl,g0,g1,g5,hb2,hn2,S2⟩
 obtain ⟨t2,ht2,hg2⟩:=S2.tk
 have e2:=hTk_eq (F:=F219) (lo:=0) (rest:=[.agg [.str sUp,.str sDown]]) (v:=.bool (x.num.2.num.2.one sUp sDown).1) (t':=wordT x.num.2.num.2) (x':=(x.num.2.num.2.one sUp sDown).2) hg2 ht2 (Nat.zero_le _) (by omega) rfl
 refine W_cutB (fun T H' M=>M=[]∧getT T 0=.ptr nb 0∧getT T 1=.ptr tb 0∧getT T 5=.ptr H.n 0∧H'.get H.n=.cells [.int .i64 x.num.1,.int .i64 x.num.2.num.1,.bool (x.num.2.num.2.one sUp sDown).1] 200∧H.n < H'.n∧PS nb tb n (x.num.2.num.2.one sUp sDown).2 H H') ?_ ?_
 · have q:=eq_true hn2
   simp only [go_sem,reduceIte,reduceEqDiff,reduceAdd,reduceMul,reduceSub,reduceLeDiff,reduceLT,Nat.reduceBEq,reduceCtorEq,g0,g1,g5,e2,hb2,p1,p2,q,wglob0]
   exact S2.step hb2 (Nat.le_refl _) (by omega) (by omega) hne (wordT_ok x.num.2.num.2)
 clear g0 g1 g5
 rintro T H3 M ⟨rfl,g0,g1,g5,hb3,hn3,S3⟩
 have eR:readT n x 1=if n.lines=[] then (n,⟨(x.num.2.num.2.one sUp sDown).2.ws,true⟩) else (n.addPiece ⟨x.num.1,x.num.2.num.1,(x.num.2.num.2.one sUp sDown).1⟩,(x.num.2.num.2.one sUp sDown).2):=rfl
 obtain ⟨lv,L,t2,t3,N⟩:=S3.ex
 obtain ⟨t,ht,hg⟩:=S3.tk
 have hbp:=N.bp
 have hLl:L.length=n.lines.length:=by have:=congrArg List.length N.ls;simpa using this
 by_cases hz:n.lines=[]
 · rw [eR,if_pos hz]
   have hL0:L=[]:=List.length_eq_zero_iff.1 (by rw [hLl,hz];rfl)
   have hlv:lv=.ps .nil []:=by
    rcases N.lv with ⟨_,h⟩ | ⟨h,_⟩
    · exact h
    · exact absurd hL0 h
   subst hlv
   have fin:PS nb tb n ⟨(x.num.2.num.2.one sUp sDown).2.ws,true⟩ H (H3.set tb (.cells (TkC t ⟨(x.num.2.num.2.one sUp sDown).2.ws,true⟩) 291)):=S3.take hne ht
   simp only [TkC] at hg fin
   simp only [go_sem,reduceIte,reduceEqDiff,reduceAdd,reduceMul,reduceSub,reduceLeDiff,reduceLT,Nat.reduceBEq,reduceCtorEq,g0,g1,g5,hbp,hg]
   exact fin
 · rw [eR,if_neg hz]
   generalize x.num.1=a at *
   generalize x.num.2.num.1=b at *
   generalize (x.num.2.num.2.one sUp sDown).1=c at *
   generalize (x.num.2.num.2.one sUp sDown).2=x3 at *
   have hL0:L ≠ []:=fun h=>hz (by rw [← N.ls,h];rfl)
   obtain ⟨L0,tl,l,rfl⟩:∃ L0 t l,L=L0++[(t,l)]:=⟨L.dropLast,(L.getLast hL0).1,(L.getLast hL0).2,(List.dropLast_concat_getLast hL0).symm⟩
   obtain ⟨id,rfl,iH,hid⟩:∃ id,lv=.rs id 0 (L0.length+1) 2 none∧id < H3.n∧H3.get id=.row (lnCs L0++[.str l.name,.ps tl (l.ps.map Pc.row)]) 2 196:=by
    rcases N.lv with ⟨h0,_⟩ | ⟨_,id,h,_,h2,h3⟩
    · exact absurd h0 hL0
    · rw [lnCs_app] at h3
      exact ⟨id,by simpa using h,h2,h3⟩
   have hroom:l.ps.length+1≤maxRows:=hr l (by rw [← N.ls];simp)
   have hAp:=N.last tl l (List.getLast?_concat ..)
   obtain ⟨t',HB,ha,hE,hnB,_,hcB⟩:=appE (lo:=0) (rx:=[[AV.int .i64 a,AV.int .i64 b,AV.bool c]]) hAp (Nat.zero_le _) (Nat.zero_le _) (by simpa using hroom) rfl rfl (by decide) (pc_all _)
   have hidne:H3.get id ≠ .row [] 3 200:=by
    rw [hid];intro h
    exact absurd (ABlk.row.inj h).2.1 (by decide)
   have hid1:HB.get id=.row (lnCs L0++[.str l.name,.ps tl (l.ps.map Pc.row)]) 2 196:=by rw [hcB id iH hidne,hid]
   have hp1:HB.get nb=.cells [.rs id 0 (L0.length+1) 2 none,.ps t2 (n.sws.map Sw.row),.ps t3 (n.sts.map Stc.row)] 40:=by
    rw [hcB nb N.nbn (by rw [hbp];intro h;cases h),hbp]
   have hcl:(lnCs L0).length=L0.length * 2:=lnCs_len L0
   have hpos:(((L0.length+1:Nat):Int)=0)=False:=by simp only [eq_iff_iff,iff_false];omega
   have hwp:wrapq .i64 (Int.sub ((L0.length+1:Nat):Int) 1)=((L0.length:Nat):Int):=by
    have:=wrap_pred (k:=L0.length+1) (n:=L0.length+1) (by omega) (Nat.le_refl _) (by rw [← hLl] at hll;simpa using hll)
    simpa using this
   have hlt:(L0.length < L0.length+1)=True:=by simp
   have f1:(L0.length * 2+1+1≤(lnCs L0++[AV.str l.name,AV.ps tl (l.ps.map Pc.row)]).length)=True:=by
    simp only [List.length_append,hcl,List.length_cons,List.length_nil,eq_iff_iff,iff_true];omega
   have f2:=drop_snd (a:=AV.str l.name) (b:=.ps tl (l.ps.map Pc.row)) hcl
   have f3:=drop_all2 (a:=AV.str l.name) (b:=.ps tl (l.ps.map Pc.row)) hcl
   have f4:=take_snd (a:=AV.str l.name) (b:=.ps tl (l.ps.map Pc.row)) hcl
   have hcs:lnCs L0++[AV.str l.name]++[AV.ps t' (l.ps.map Pc.row++[[AV.int .i64 a,AV.int .i64 b,AV.bool c]])]=lnCs (L0++[(t',⟨l.name,l.ps++[⟨a,b,c⟩]⟩)]):=by
    rw [lnCs_app];simp [lnCs,Pc.row,i64]
   have nid:id ≠ nb:=fun he=>by rw [he,hbp] at hid;cases hid
   have tid:id ≠ tb:=fun he=>by rw [he,hg] at hid;cases hid
   have hSn:=S3.n
   have hNb:=N.nbn
   have fin:PS nb tb (n.addPiece ⟨a,b,c⟩) x3 H (HB.set id (.row (lnCs L0++[AV.str l.name]++[AV.ps t' (l.ps.map Pc.row++[[AV.int .i64 a,AV.int .i64 b,AV.bool c]])]) 2 196)):=by
    rw [hcs]
    refine ⟨⟨_,L0++[(t',⟨l.name,l.ps++[⟨a,b,c⟩]⟩)],t2,t3,⟨by rw [Heap.get_set,if_neg (Ne.symm nid),hp1];rfl,by simp;omega,.inr ⟨by simp,id,by simp,Nat.zero_le _,by simp;omega,by rw [Heap.get_set,if_pos rfl]⟩, ?_,fun u k hl => ?_,N.a2.keep (by simp;omega) fun i hi _ hc => ?_,N.a3.keep (by simp;omega) fun i hi _ hc => ?_⟩⟩,⟨t,ht,by rw [Heap.get_set,if_neg (Ne.symm tid),hcB tb (by omega) (by rw [hg];intro h;cases h)];exact hg⟩,by simp;omega,fun j hj h1 h2 h3 => ?_⟩
    · have hls:=N.ls
      rw [List.map_append] at hls ⊢
      show _=addPc _ n.lines
      rw [← hls]
      exact (addPc_snoc _ _ _).symm
    · rw [List.getLast?_concat] at hl
      cases hl
      have hpe:(l.ps++[(⟨a,b,c⟩:Pc)]).map Pc.row=l.ps.map Pc.row++[[AV.int .i64 a,AV.int .i64 b,AV.bool c]]:=by rw [List.map_append];rfl
      show AppE 0 _ t' ((l.ps++[(⟨a,b,c⟩:Pc)]).map Pc.row) 3 200
      rw [hpe]
      exact hE.keep (by simp) fun i hi _ hc=>by rw [Heap.get_set,if_neg (fun he=>by rw [he,hid1] at hc;exact absurd (ABlk.row.inj hc).2.1 (by decide))]
    · rw [Heap.get_set,if_neg (fun he=>by rw [he,hid] at hc;exact absurd (ABlk.row.inj hc).2.1 (by decide)),hcB i hi (by rw [hc];intro h;cases h)]
    · rw [Heap.get_set,if_neg (fun he=>by rw [he,hid] at hc;exact absurd (ABlk.row.inj hc).2.1 (by decide)),hcB i hi (by rw [hc];intro h;cases h)]
    · have hj3:=S3.fr j hj h1 h2 h3
      have jid:j ≠ id:=fun he=>by rw [he,hid] at hj3;rw [he] at h3;exact h3 _ _ _ hj3.symm
      rw [Heap.get_set,if_neg jid,hcB j (by omega) (by rw [hj3];exact h3 _ _ _),hj3]
   have htk:tl=.nil∨tl=.exact ∨ ∃ j,tl=.tok j:=by
    rcases hAp with ⟨_,h | h⟩ | ⟨j,h,_⟩
    · exact .inl h
    · exact .inr (.inl h)
    · exact .inr (.inr ⟨j,h⟩)
   have hun:AV.under H3.n (.rs id 0 (L0.length+1) 2 none)=true:=by simpa [AV.under] using iH
   rcases htk with rfl | rfl | ⟨j,rfl⟩
   all_goals
    simp only [go_sem,reduceIte,reduceEqDiff,reduceAdd,reduceMul,reduceSub,reduceLeDiff,reduceLT,Nat.reduceBEq,reduceCtorEq,g0,g1,g5,hun,hbp,hb3,hpos,hwp,hlt,hid,appO,ha,hid1,hp1,f1,f2,f3,f4,p1,p2,p3,p4]
    exact fin
end Go.Sim

/-
Texts: the pieces of the lines copied, one line after the other.
-/
namespace Go.Sim
open Go Go.Proofs
set_option maxRecDepth 100000
set_option maxHeartbeats 16000000
theorem op_copy {C:Cfg} {rec:Rec} {fid lo:Nat} {T:TT AV} {H:Heap} {K:AV→Heap→Prop} {d:Option Tmp} {t:TypeId} {p:String} {af:Array Edge} {gd:Option (Nat × Bool)} (a b:Operand) (ts tx:TypeId) :
 VO (aop C rec fid lo ⟨d,.call ⟨.builtin .copy,#[a,b],#[ts,tx]⟩,t,p,af,gd⟩ T H) K=AO (evalO C T a) fun x=>AO (evalO C T b) fun y=>VO (acopy C.P lo H ts x y) K:=by
 simp only [aop,acall,evalOs]
 cases evalO C T a with
 | none=>rfl
 | some s=>cases evalO C T b with
   | none=>rfl
   | some x=>rfl
def pcF (l:List Pc):List AV:=(l.map Pc.row).flatten
theorem pcF_len:∀ l:List Pc,(pcF l).length=l.length * 3
 | []=>rfl
 | p::r=>by
   have ih:=pcF_len r
   show (Pc.row p++pcF r).length=_
   rw [List.length_append,ih,List.length_cons]
   show 3+_=_
   omega
def zPc:List AV:=[.int .i64 0,.int .i64 0,.bool false]
theorem mk194 (H:Heap) {N:Nat} (h:N≤maxRows):amakeSlice NC.P H 194 (.int .i64 (N:Nat)) (.int .i64 (N:Nat))=some (.rs H.n 0 N 3 (some N),H.push (.cells (List.replicate N zPc).flatten 200)):=by
 have e1:elemOf NC.P 194=some 200:=by kernel_rfl
 have e2:szOf NC.P 200=some 3:=by kernel_rfl
 have e3:bytesOf NC.P 200=some 24:=by kernel_rfl
 have e4:zeroOf NC.P 200=some (.agg zPc):=by kernel_rfl
 have hb:24 * N≤140737488355328:=by unfold maxRows at h;omega
 unfold amakeSlice
 rw [e1]
 simp only [e2,e3,e4]
 rw [if_pos (by simp [hb,h,AV.cells,zPc])]
 rfl
theorem rep_len (N:Nat):((List.replicate N zPc).flatten).length=N * 3:=by
 induction N with
 | zero=>rfl
 | succ n ih=>rw [List.replicate_succ,List.flatten_cons,List.length_append,ih];show 3+_=_;omega
theorem pcF_one:∀ l:List Pc,(pcF l).all AV.one=true
 | []=>rfl
 | p::r=>by
   have ih:=pcF_one r
   show (Pc.row p++pcF r).all AV.one=true
   rw [List.all_append,ih];rfl
theorem cp194 {H:Heap} {t:Tok} {l:List Pc} {cap:Option Nat} {id:Nat} {cs:List AV} (hi:H.get id=.cells cs 200) (hc:cs.length=l.length * 3) :
 acopy NC.P 0 H 194 (.rs id 0 l.length 3 cap) (.ps t (l.map Pc.row))=some (.int .i64 (l.length:Nat),H.set id (.cells (pcF l) 200)):=by
 have e1:elemOf NC.P 194=some 200:=by kernel_rfl
 have e2:szOf NC.P 200=some 3:=by kernel_rfl
 have e3:rowsIn H 3 (.ps t (l.map Pc.row))=some (l.map Pc.row):=by
  have h:=pc_all l
  unfold rowsIn
  simp only [h,if_true]
 have e4:(l.map Pc.row).flatten.all AV.one=true:=pcF_one l
 have e5:setBlk (H.get id) 0 (l.map Pc.row).flatten=some (.cells (pcF l) 200):=by
  have hl:=pcF_len l
  unfold pcF at hl
  rw [hi]
  unfold setBlk over
  simp only [Nat.zero_add,hl,hc,Nat.le_refl,if_true,List.take_zero,List.nil_append]
  rw [List.drop_eq_nil_of_le (by rw [hc];omega),List.append_nil];rfl
 unfold acopy
 rw [e1]
 simp only
 rw [e2]
 simp only
 rw [e3]
 simp only [e4,e5,List.length_map,Nat.le_refl,Nat.zero_le,decide_true,Bool.and_true,if_true]
/-! ### Lines, of which some have pieces of their own -/
abbrev CT:Type:=Nat × Ln
def cpCs (K:List CT):List AV:=K.flatMap fun x=>[.str x.2.name,.rs x.1 0 x.2.ps.length 3 (some x.2.ps.length)]
theorem cpCs_app (a b:List CT):cpCs (a++b)=cpCs a++cpCs b:=by unfold cpCs;rw [List.flatMap_append]
theorem cpCs_len:∀ K:List CT,(cpCs K).length=K.length * 2
 | []=>rfl
 | x::r=>by
   have ih:=cpCs_len r
   show (AV.str x.2.name::AV.rs x.1 0 x.2.ps.length 3 (some x.2.ps.length)::cpCs r).length=_
   simp only [List.length_cons,ih];omega
def CPok (H:Heap) (K:List CT):Prop:=∀ x ∈ K,x.1 < H.n∧H.get x.1=.cells (pcF x.2.ps) 200
theorem CPok.keep {H H':Heap} {K:List CT} (h:CPok H K) (hn:H.n≤H'.n) (hg:∀ i cs,i < H.n→H.get i=.cells cs 200→H'.get i=H.get i):CPok H' K:=fun x hx=>⟨Nat.lt_of_lt_of_le (h x hx).1 hn,by rw [hg _ _ (h x hx).1 (h x hx).2];exact (h x hx).2⟩
theorem cons_drop1 {α:Type} {A C:List α} {a b:α} {k:Nat} (h:A.length=k):(A++a::b::C).drop (k+1)=b::C:=by
 have e:A++a::b::C=(A++[a])++b::C:=by simp
 rw [e];exact List.drop_left' (by simp [h])
theorem cons_drop2 {α:Type} {A C:List α} {a b:α} {k:Nat} (h:A.length=k):(A++a::b::C).drop (k+1+1)=C:=by
 have e:A++a::b::C=(A++[a,b])++C:=by simp
 rw [e];exact List.drop_left' (by simp [h])
theorem cons_take1 {α:Type} {A C:List α} {a b:α} {k:Nat} (h:A.length=k):(A++a::b::C).take (k+1)=A++[a]:=by
 have e:A++a::b::C=(A++[a])++b::C:=by simp
 rw [e];exact List.take_left' (by simp [h])
/-! ### Read as lists -/
theorem deepC_pcF (d:Nat) (H:Heap):∀ l:List Pc,deepC (deep (d+1) H) (pcF l)=some (pcF l)
 | []=>rfl
 | p::r=>by
   have ih:=deepC_pcF d H r
   show deepC (deep (d+1) H) (.int .i64 p.len :: .int .i64 p.post :: .bool p.back::pcF r)=some (.int .i64 p.len :: .int .i64 p.post :: .bool p.back::pcF r)
   have e1:∀ i,deep (d+1) H (.int .i64 i)=some (.int .i64 i):=fun _=>rfl
   have e2:∀ b,deep (d+1) H (.bool b)=some (.bool b):=fun _=>rfl
   unfold deepC
   rw [e1]
   simp only
   unfold deepC
   rw [e1]
   simp only
   unfold deepC
   rw [e2]
   simp only
   rw [ih]
theorem chunks_pcF:∀ l:List Pc,chunks 3 l.length (pcF l)=some (l.map Pc.row)
 | []=>rfl
 | p::r=>by
   have ih:=chunks_pcF r
   show chunks 3 (r.length+1) (.int .i64 p.len :: .int .i64 p.post :: .bool p.back::pcF r)=_
   unfold chunks
   rw [if_pos (by simp)]
   show (match chunks 3 r.length (pcF r) with
    | some l'=>some ([AV.int .i64 p.len,AV.int .i64 p.post,AV.bool p.back]::l')
    | none=>none)=_
   rw [ih];rfl
theorem deep_pc {H:Heap} {id:Nat} {l:List Pc} {cap:Option Nat} (h:H.get id=.cells (pcF l) 200) (d:Nat):deep (d+2) H (.rs id 0 l.length 3 cap)=some (.ps .unk (l.map Pc.row)):=by
 have hl:=pcF_len l
 have hr:readCells H (.ptr id 0) (l.length * 3)=some (pcF l):=by
  unfold readCells
  simp only [h]
  simp only [blkCells,sub?,Nat.zero_add,List.drop_zero,hl,Nat.le_refl,if_true]
  rw [List.take_of_length_le (by omega)]
 show (match readCells H (.ptr id 0) (l.length * 3) with
  | some cs=>match deepC (deep (d+1) H) cs with
    | some cs'=>match chunks 3 l.length cs' with
      | some rows=>some (AV.ps .unk rows)
      | none=>none
    | none=>none
  | none=>none)=_
 rw [hr]
 simp only
 rw [deepC_pcF]
 simp only
 rw [chunks_pcF]
theorem deepC_cp (d:Nat) {H:Heap}:∀ {K:List CT},CPok H K→deepC (deep (d+2) H) (cpCs K)=some (lnFl (K.map Prod.snd))
 | [],_=>rfl
 | (i,l)::r,h=>by
   have ih:=deepC_cp d (K:=r) fun x hx=>h x (List.mem_cons_of_mem _ hx)
   have h0:=(h (i,l) (by simp)).2
   have e1:deep (d+2) H (.str l.name)=some (.str l.name):=rfl
   have e2:=deep_pc (cap:=some l.ps.length) h0 d
   show deepC (deep (d+2) H) (.str l.name :: .rs i 0 l.ps.length 3 (some l.ps.length)::cpCs r)=_
   unfold deepC
   rw [e1]
   simp only
   unfold deepC
   rw [e2]
   simp only
   rw [ih]
   rfl
theorem deep_cp {H:Heap} {id:Nat} {K:List CT} {te:TypeId} (h:H.get id=.row (cpCs K) 2 te) (hk:CPok H K) (d:Nat):deep (d+3) H (.rs id 0 K.length 2 none)=some (.ps .unk ((K.map Prod.snd).map Ln.row)):=by
 have hl:=cpCs_len K
 have hr:readCells H (.ptr id 0) (K.length * 2)=some (cpCs K):=by
  unfold readCells
  simp only [h]
  simp only [blkCells,sub?,Nat.zero_add,List.drop_zero,hl,Nat.le_refl,if_true]
  rw [List.take_of_length_le (by omega)]
 have hc:=chunks_lns (K.map Prod.snd)
 rw [List.length_map] at hc
 show (match readCells H (.ptr id 0) (K.length * 2) with
  | some cs=>match deepC (deep (d+2) H) cs with
    | some cs'=>match chunks 2 K.length cs' with
      | some rows=>some (AV.ps .unk rows)
      | none=>none
    | none=>none
  | none=>none)=_
 rw [hr]
 simp only
 rw [deepC_cp d hk]
 simp only
 rw [hc]
theorem deep_out {H:Heap} {v:AV} {d:Nat} {ls:List Ln} (h:deep (d+1) H v=some (.ps .unk (ls.map Ln.row))) (t2 t3:Tok) (r2 r3:List (List AV)) (a b:Int) :
 deep (d+3) H (.tup [.agg [v,.ps t2 r2,.ps t3 r3],.int .i64 a,.int .i64 b])=some (.tup [.agg [.ps .unk (ls.map Ln.row),.ps .unk r2,.ps .unk r3],.int .i64 a,.int .i64 b]):=by
 have e2:deep (d+2) H (.agg [v,.ps t2 r2,.ps t3 r3])=some (.agg [.ps .unk (ls.map Ln.row),.ps .unk r2,.ps .unk r3]):=by
  show (match deepC (deep (d+1) H) [v,.ps t2 r2,.ps t3 r3] with
   | some l=>some (AV.agg l)
   | none=>none)=_
  unfold deepC
  rw [h]
  rfl
 show (match deepC (deep (d+2) H) [.agg [v,.ps t2 r2,.ps t3 r3],.int .i64 a,.int .i64 b] with
  | some l=>some (AV.tup l)
  | none=>none)=_
 unfold deepC
 rw [e2]
 rfl
end Go.Sim

/-
Texts: Parse by the program: one line.
-/
namespace Go.Sim
open Go Go.Proofs
set_option maxRecDepth 100000
set_option maxHeartbeats 16000000
theorem r164 (s:Wd) {lo:Nat} {H:Heap}:∃ v H',R WP (.call lo 164 [.str s] H)=some (.ofVal v H')∧v=.fn 212 [] [.ptr H.n 0]∧H'=H.push (.cells [.str s] 9):=by
 refine R_of_body (C:=WP) (f:=164) (lo:=lo) (args:=[.str s]) (H:=H) (fn:=Tryz.f164) (Q:=fun v H'=>v=.fn 212 [] [.ptr H.n 0]∧H'=H.push (.cells [.str s] 9)) (by kernel_rfl) Tryz.func164 rfl rfl ?_
 simp only [go_sem,reduceIte,reduceEqDiff,reduceAdd,reduceMul,reduceSub,reduceLeDiff,reduceLT,Nat.reduceBEq,reduceCtorEq,evalO_nilf]
 done
/-! ### What holds ahead of a line -/
structure GP (s:Wd) (k:Nat) (H:Heap):Prop where
 n:9≤H.n
 h0:H.get 0=.cells [.ps .nil [],.ps .nil [],.ps .nil []] 40
 h1:H.get 1=.cells [.int .i64 0] 3
 h2:H.get 2=.cells [.int .i64 0] 33
 h4:H.get 4=.cells [.int .i64 (k:Nat)] 3
 h6:∃ w,H.get 6=.cells [.str w] 9
 h7:H.get 7=.defr
 h8:∀ cs sz e,H.get 8 ≠ .row cs sz e
 ex:∃ n k1 lv L t2 t3,H.get 5=.cells [.int .i64 k1] 3∧NB 3 n H lv L t2 t3∧Sz n k s.length∧goG zNet 0 0 (partS s)=goG n k1 k ((partS s).drop k)
theorem GP.setc {s:Wd} {k:Nat} {H:Heap} (g:GP s k H) (w:Wd):GP s k (H.set 6 (.cells [.str w] 9)):=by
 obtain ⟨w0,h6⟩:=g.h6
 obtain ⟨n,k1,lv,L,t2,t3,h5,N,sz,go⟩:=g.ex
 have e:∀ j,j ≠ 6→(H.set 6 (.cells [.str w] 9)).get j=H.get j:=fun j hj=>by rw [Heap.get_set,if_neg hj]
 exact ⟨by simpa using g.n,by rw [e 0 (by decide)];exact g.h0,by rw [e 1 (by decide)];exact g.h1,by rw [e 2 (by decide)];exact g.h2,by rw [e 4 (by decide)];exact g.h4,⟨w,by rw [Heap.get_set,if_pos rfl]⟩,by rw [e 7 (by decide)];exact g.h7,by rw [e 8 (by decide)];exact g.h8,n,k1,lv,L,t2,t3,by rw [e 5 (by decide)];exact h5,N.keep (by simp) (e 3 (by decide)) fun i cs sz e' hi hc=>e i fun he=>(by rw [he,h6] at hc;cases hc),sz,go⟩
theorem GP.setl {s:Wd} {k:Nat} {H:Heap} (g:GP s k H) {b:ABlk} (hb:∀ cs sz e,b ≠ .row cs sz e):GP s k (H.set 8 b):=by
 obtain ⟨n,k1,lv,L,t2,t3,h5,N,sz,go⟩:=g.ex
 have e:∀ j,j ≠ 8→(H.set 8 b).get j=H.get j:=fun j hj=>by rw [Heap.get_set,if_neg hj]
 exact ⟨by simpa using g.n,by rw [e 0 (by decide)];exact g.h0,by rw [e 1 (by decide)];exact g.h1,by rw [e 2 (by decide)];exact g.h2,by rw [e 4 (by decide)];exact g.h4,by rw [e 6 (by decide)];exact g.h6,by rw [e 7 (by decide)];exact g.h7,by rw [Heap.get_set,if_pos rfl];exact hb,n,k1,lv,L,t2,t3,by rw [e 5 (by decide)];exact h5,N.keep (by simp) (e 3 (by decide)) fun i cs sz e' hi hc=>e i fun he=>g.h8 cs sz e' (he ▸ hc),sz,go⟩
def EP (s:Wd) (e:AExit) (H:Heap):Prop:=e=.ret∧H.get 7=.defr∧H.get 0=.cells [.ps .nil [],.ps .nil [],.ps .nil []] 40 ∧ ∃ i:Int,H.get 1=.cells [.int .i64 i] 3∧H.get 2=.cells [.int .i64 25] 33∧parseF s=(zNet,i,25)
theorem EP.setl {s:Wd} {e:AExit} {H:Heap} (h:EP s e H) (b:ABlk):EP s e (H.set 8 b):=by
 obtain ⟨h1,h2,h3,i,h4,h5,h6⟩:=h
 exact ⟨h1,by rw [Heap.get_set,if_neg (by decide)];exact h2,by rw [Heap.get_set,if_neg (by decide)];exact h3,i,by rw [Heap.get_set,if_neg (by decide)];exact h4,by rw [Heap.get_set,if_neg (by decide)];exact h5,h6⟩
def FT (v:AV) (T:TT AV):Prop:=getT T 8=v∧getT T 2=.ptr 0 0∧getT T 3=.ptr 1 0∧getT T 4=.ptr 2 0∧getT T 5=.ptr 3 0∧getT T 6=.ptr 4 0∧getT T 7=.ptr 5 0
theorem e165 {l:Wd} {o:Bool} (hno:10 ∉ l) (hl:l.length+1≤maxRows):onPure p165 [.str (if o then l++[10] else l),.str [10]]=some (.tup [.str l,.bool o]):=by
 cases o with
 | true =>
   have hE:endsB (l++[10])=true:=by
    unfold endsB
    have:(l++[10]).drop ((l++[10]).length - 1)=[10]:=by
     have:(l++[10]).length - 1=l.length:=by simp
     rw [this];exact List.drop_left' rfl
    rw [this];simp [beqL_same]
   have ht:(l++[10]).take ((l++[10]).length - 1)=l:=by
    have:(l++[10]).length - 1=l.length:=by simp
    rw [this];exact List.take_left' rfl
   have e:=pe165 (l++[10]) (by simpa using hl)
   rw [hE,ht] at e
   exact onPure_eq e rfl rfl
 | false =>
   have hE:endsB l=false:=by
    unfold endsB
    cases hb:beqL (l.drop (l.length - 1)) [10] with
    | false=>simp
    | true =>
      exfalso
      have h:=beqL_to hb
      exact hno (List.mem_of_mem_drop (by rw [h];simp))
   have e:=pe165 l (by omega)
   rw [hE] at e
   exact onPure_eq e rfl rfl
theorem e169:onPure p169 []=some (.ps .unk formsL):=onPure_eq rfl rfl rfl
theorem read_sz {n:Net} {k1:Int} {k q m:Nat} {l:Wd} (h:Sz n k m) (hm:l.length≤m) (hF:lineF n (splitL 32 l)=some ((readT n (Tk.word ⟨splitL 32 l,false⟩).2 q).1,kindOf q)):Sz (readT n (Tk.word ⟨splitL 32 l,false⟩).2 q).1 (k+1) m:=by
 have hp:=h.parsed (w:=splitL 32 l) fun x hx=>Nat.le_trans (splitL_mem hx) hm
 have hl:=parsedF_line n (splitL 32 l)
 rw [hF] at hl
 split at hl
 · have e:=congrArg Prod.fst (Option.some.inj hl)
   simp only at e
   rw [e];exact hp
 · cases hl
theorem wp_rd {q:Nat} (hq:q < 4) {args:List AV} {H:Heap} {K:AV→Heap→Prop}:VO (aenter WP (R WP) 0 (fF q) args H) K=AO (R WP (.call 0 (fF q) args H)) fun o=>K o.val o.s.H:=by
 have h:q=0∨q=1∨q=2∨q=3:=by omega
 rcases h with rfl | rfl | rfl | rfl
 · exact wp_216
 · exact wp_217
 · exact wp_220
 · exact wp_221
theorem r_rd {q nb tb:Nat} {n:Net} {x:Tk} {H:Heap} (hq:q < 4) (hne:nb ≠ tb) (htb:tb < H.n) (hr:Room n) (hw0:∀ w ∈ x.ws,w.length≤maxRows) (S:PS nb tb n x H H) :
 ∃ v H1,R WP (.call 0 (fF q) [.ptr nb 0,.ptr tb 0] H)=some (.ofVal v H1)∧PS nb tb (readT n x q).1 (readT n x q).2 H H1:=by
 have h:q=0∨q=1∨q=2∨q=3:=by omega
 rcases h with rfl | rfl | rfl | rfl
 · exact r216 hne htb hr.lines S
 · exact r217 hne htb (by have:=hr.lines;omega) hr.ps hw0 S
 · exact r220 hne htb hr.sws hw0 S
 · exact r221 hne htb hr.sts hw0 S
end Go.Sim

/-
Texts: Parse by the program: the walk.
-/
namespace Go.Sim
open Go Go.Proofs
set_option maxRecDepth 100000
set_option maxHeartbeats 32000000
theorem view29 {n:Net} {H:Heap} {v:AV} {t2 t3:Tok} {lo:Nat} (hok:n.Ok) (hv:deep 3 H v=some (.ps .unk (n.lines.map Ln.row))):onView p29 lo [.agg [v,.ps t2 (n.sws.map Sw.row),.ps t3 (n.sts.map Stc.row)]] H=some (.int .i64 (netP n),H):=by
 have e2:deep 4 H (.agg [v,.ps t2 (n.sws.map Sw.row),.ps t3 (n.sts.map Stc.row)])=some (.agg n.cells):=by
  show (match deepC (deep 3 H) [v,.ps t2 (n.sws.map Sw.row),.ps t3 (n.sts.map Stc.row)] with
   | some l=>some (AV.agg l)
   | none=>none)=_
  unfold deepC
  rw [hv]
  rfl
 have e3:deepC (deep 4 H) [.agg [v,.ps t2 (n.sws.map Sw.row),.ps t3 (n.sts.map Stc.row)]]=some [.agg n.cells]:=by
  unfold deepC
  rw [e2]
  rfl
 have e4:p29 [.agg n.cells]=some (.int .i64 (netP n)):=pe29 n hok
 unfold onView
 rw [e3]
 simp only
 rw [e4]
 rfl
theorem w88run (s:Wd) (hs:s.length+1≤maxRows):∃ v H',R WP (.call 0 88 [.str s] .empty)=some (.ofVal v H')∧deep 6 H' v=some (.tup [.agg (parseF s).1.cells,.int .i64 (parseF s).2.1,.int .i64 (parseF s).2.2]):=by
 refine R_of_body (C:=WP) (f:=88) (lo:=0) (args:=[.str s]) (H:=.empty) (fn:=Tryz.f88) (Q:=fun v H'=>deep 6 H' v=some (.tup [.agg (parseF s).1.cells,.int .i64 (parseF s).2.1,.int .i64 (parseF s).2.2])) (by kernel_rfl) Tryz.func88 rfl rfl ?_
 have hzz:∀ (H:Heap) (a b:Int),deep 6 H (.tup [.agg [.ps .nil [],.ps .nil [],.ps .nil []],.int .i64 a,.int .i64 b])=some (.tup [.agg zNet.cells,.int .i64 a,.int .i64 b]):=fun _ _ _=>rfl
 by_cases hl:(4096:Int) < s.length
 · have e:parseF s=(zNet,0,26):=by unfold parseF;rw [if_pos hl]
   rw [e]
   have hl':=eq_true hl
   simp only [go_sem,reduceIte,reduceEqDiff,reduceAdd,reduceMul,reduceSub,reduceLeDiff,reduceLT,Nat.reduceBEq,reduceCtorEq,hl']
   rfl
 have hl':=eq_false hl
 have hplen:=partS_len s
 have hple:(partS s).length≤s.length:=by have:=splitL_le 10 s;omega
 have hpf:∀ i,(goG zNet 0 0 (partS s)).2.2=some i→parseF s=(zNet,(i:Int),25):=fun i h=>by
  unfold parseF;rw [if_neg hl,h]
 have e164:∀ (lo:Nat) (H:Heap),R WP (.call lo 164 [.str s] H)=some (.ofVal (.fn 212 [] [.ptr H.n 0]) (H.push (.cells [.str s] 9))):=fun lo H=>by
  obtain ⟨v,H',h1,rfl,rfl⟩:=r164 s (lo:=lo) (H:=H)
  exact h1
 simp only [go_sem,reduceIte,reduceEqDiff,reduceAdd,reduceMul,reduceSub,reduceLeDiff,reduceLT,Nat.reduceBEq,reduceCtorEq,hl',e164]
 refine W_lines (s:=s) (c:=6) rfl hs (by simp only [go_sem,reduceIte,reduceEqDiff,reduceAdd,reduceMul,reduceSub,reduceLeDiff,reduceLT,Nat.reduceBEq,reduceCtorEq]) ?_ ?_ (GP s) FT (EP s) ?_ (fun k H' w h=>h.setc w) (fun k H' b hb h=>h.setl hb) (fun e H' b h=>h.setl b) ?_ ?_ ?_ ?_
 · simp only [go_sem,reduceIte,reduceEqDiff,reduceAdd,reduceMul,reduceSub,reduceLeDiff,reduceLT,Nat.reduceBEq,reduceCtorEq]
   first | done | decide
 · simp only [go_sem,reduceIte,reduceEqDiff,reduceAdd,reduceMul,reduceSub,reduceLeDiff,reduceLT,Nat.reduceBEq,reduceCtorEq]
   done
 · intro lp
   refine ⟨?_, ?_, ?_, ?_, ?_, ?_, ?_, ?_,zNet,0,.ps .nil [],[],.nil,.nil, ?_,⟨?_, ?_,.inl ⟨rfl,rfl⟩,rfl,fun t l h=>(by cases h),.inl ⟨rfl,.inl rfl⟩,.inl ⟨rfl,.inl rfl⟩⟩,Sz.zero _,rfl⟩
   all_goals simp only [go_sem,reduceIte,reduceEqDiff,reduceAdd,reduceMul,reduceSub,reduceLeDiff,reduceLT,Nat.reduceBEq,reduceCtorEq]
   all_goals first | done | rfl | exact ⟨_,rfl⟩ | (intro cs sz e h;cases h)
 · intro v H'
   simp only [go_sem,reduceIte,reduceEqDiff,reduceAdd,reduceMul,reduceSub,reduceLeDiff,reduceLT,Nat.reduceBEq,reduceCtorEq,FT]
   first | done | rfl
 · rintro k l o Hk T1 lp ho1 ho2 g hlp ⟨f8,f2,f3,f4,f5,f6,f7⟩
   have hmem:l ∈ splitL 10 s:=by
    cases o with
    | true=>exact part_mem (ho1 rfl).1
    | false=>rw [(ho2 rfl).2.1];exact last_mem s
   have hno:10 ∉ l:=split_no hmem
   have hll:l.length≤s.length:=splitL_mem hmem
   have hkp:k≤(partS s).length:=by
    cases o with
    | true=>exact Nat.le_of_lt (List.getElem?_eq_some_iff.1 (ho1 rfl).1).1
    | false=>rw [(ho2 rfl).1];exact Nat.le_refl _
   have ec:=e165 (o:=o) hno (by omega:l.length+1≤maxRows)
   have es:onPure p166 [.str l,.str [32]]=some (.ps .unk ((splitL 32 l).map strRow)):=onPure_eq (pe166 l 32 (by omega)) rfl rfl
   obtain ⟨n,k1,lv,L,t2,t3,h5,N,sz,go⟩:=g.ex
   have hN9:=g.n
   have hlp:Hk.get 8=.loop lp:=hlp
   have hroom:Room n:=sz.room (by omega) (by omega)
   generalize hcl:(if o then l++[10] else l)=line at f8 ec
   rw [W_block]
   refine W_cutB (fun T H M=>M=[]∧Hk=H∧getT T 2=.ptr 0 0∧getT T 3=.ptr 1 0∧getT T 4=.ptr 2 0∧getT T 5=.ptr 3 0∧getT T 6=.ptr 4 0∧getT T 7=.ptr 5 0∧getT T 9=.str l∧getT T 10=.bool o) ?_ ?_
   · simp only [go_sem,reduceIte,reduceEqDiff,reduceAdd,reduceMul,reduceSub,reduceLeDiff,reduceLT,Nat.reduceBEq,reduceCtorEq,f8,f2,f3,f4,f5,f6,f7,kLF,ec]
     done
   clear f8 f2 f3 f4 f5 f6 f7
   rintro T H M ⟨rfl,rfl,f2,f3,f4,f5,f6,f7,f9,f10⟩
   refine W_cutB (fun T H M=>M=[]∧H=Hk.push (.cells (TkC .unk ⟨splitL 32 l,false⟩) 291)∧getT T 2=.ptr 0 0∧getT T 3=.ptr 1 0∧getT T 4=.ptr 2 0∧getT T 5=.ptr 3 0∧getT T 6=.ptr 4 0∧getT T 7=.ptr 5 0∧getT T 10=.bool o∧getT T 11=.ptr Hk.n 0) ?_ ?_
   · simp only [go_sem,reduceIte,reduceEqDiff,reduceAdd,reduceMul,reduceSub,reduceLeDiff,reduceLT,Nat.reduceBEq,reduceCtorEq,f9,f10,f2,f3,f4,f5,f6,f7,kSP,es]
     first | done | rfl
   clear f2 f3 f4 f5 f6 f7 f9 f10
   rintro T H M ⟨rfl,rfl,f2,f3,f4,f5,f6,f7,f10,f11⟩
   have htg:(Hk.push (.cells (TkC .unk ⟨splitL 32 l,false⟩) 291)).get Hk.n=.cells (TkC .unk ⟨splitL 32 l,false⟩) 291:=by rw [Heap.get_push,if_pos rfl]
   have ew:=hTk_eq (F:=F167) (lo:=0) (rest:=[]) (v:=.str (Tk.word ⟨splitL 32 l,false⟩).1) (t':=wordT ⟨splitL 32 l,false⟩) (x':=(Tk.word ⟨splitL 32 l,false⟩).2) htg (.inl rfl) (Nat.zero_le _) (by simp) rfl
   refine W_cutB (fun T H M=>M=[]∧(H.get (Hk.n+1)=.cells [.str (Tk.word ⟨splitL 32 l,false⟩).1] 9∧H.get Hk.n=.cells (TkC (wordT ⟨splitL 32 l,false⟩) (Tk.word ⟨splitL 32 l,false⟩).2) 291∧H.n=Hk.n+1+1 ∧ ∀ j,j < Hk.n→H.get j=Hk.get j)∧getT T 2=.ptr 0 0∧getT T 3=.ptr 1 0∧getT T 4=.ptr 2 0∧getT T 5=.ptr 3 0∧getT T 6=.ptr 4 0∧getT T 7=.ptr 5 0∧getT T 10=.bool o∧getT T 11=.ptr Hk.n 0∧getT T 12=.ptr (Hk.n+1) 0) ?_ ?_
   · simp only [go_sem,reduceIte,reduceEqDiff,reduceAdd,reduceMul,reduceSub,reduceLeDiff,reduceLT,Nat.reduceBEq,reduceCtorEq,f10,f11,f2,f3,f4,f5,f6,f7,ew]
     first
      | (refine fun j hj => ?_
         rw [if_neg (by omega),if_neg (by omega),if_neg (by omega),if_neg (by omega)])
   clear f2 f3 f4 f5 f6 f7 f10 f11
   rintro T H M ⟨rfl,⟨hhd,htk,hHn,hold⟩,f2,f3,f4,f5,f6,f7,f10,f11,f12⟩
   obtain ⟨v0,H0,e168,rfl⟩:=r168 (Tk.word ⟨splitL 32 l,false⟩).1 (lo:=H.n) hhd (by omega)
   have e9:=e169
   have ecp:Nat.succ 0=1:=rfl
   have hpfn:(AV.fn 170 [] [.ptr (Hk.n+1) 0]).strip=.fn 170 [] [.ptr (Hk.n+1) 0]:=rfl
   refine W_cutB (fun T H' M=>M=[]∧H=H'∧getT T 2=.ptr 0 0∧getT T 3=.ptr 1 0∧getT T 4=.ptr 2 0∧getT T 5=.ptr 3 0∧getT T 6=.ptr 4 0∧getT T 7=.ptr 5 0∧getT T 10=.bool o∧getT T 11=.ptr Hk.n 0∧getT T 13=.int .i64 (idxK (Tk.word ⟨splitL 32 l,false⟩).1)) ?_ ?_
   · simp only [go_sem,reduceIte,reduceEqDiff,reduceAdd,reduceMul,reduceSub,reduceLeDiff,reduceLT,Nat.reduceBEq,reduceCtorEq,f10,f11,f12,f2,f3,f4,f5,f6,f7,e9,e168,hpfn]
     done
   clear f2 f3 f4 f5 f6 f7 f10 f11 f12 e168
   rintro T H' M ⟨rfl,rfl,f2,f3,f4,f5,f6,f7,f10,f11,f13⟩
   -- what a wrong line leaves
   have b0:=(hold 0 (by omega)).trans g.h0
   have b1:=(hold 1 (by omega)).trans g.h1
   have b2:=(hold 2 (by omega)).trans g.h2
   have b4:=(hold 4 (by omega)).trans g.h4
   have b5:=(hold 5 (by omega)).trans h5
   have b7:=(hold 7 (by omega)).trans g.h7
   have b8:=(hold 8 (by omega)).trans hlp
   have bad:∀ Hx:Heap,parseF s=(zNet,(k:Int),25)→Hx.get 7=.defr→Hx.get 8=.loop lp→(((Hx.set 0 (.cells [.ps .nil [],.ps .nil [],.ps .nil []] 40)).set 1 (.cells [.int .i64 (k:Nat)] 3)).set 2 (.cells [.int .i64 25] 33)).get 8=.loop lp∧EP s .ret (((Hx.set 0 (.cells [.ps .nil [],.ps .nil [],.ps .nil []] 40)).set 1 (.cells [.int .i64 (k:Nat)] 3)).set 2 (.cells [.int .i64 25] 33)):=fun Hx h h7 h8=>⟨by simp [Heap.get_set,h8],rfl,by simp [Heap.get_set,h7],by simp [Heap.get_set],k,by simp [Heap.get_set],by simp [Heap.get_set],h⟩
   cases o with
   | false =>
     obtain ⟨rfl,_,hne⟩:=ho2 rfl
     have hpp:parseF s=(zNet,((partS s).length:Int),25):=by
      rw [List.drop_length] at go
      have go:goG zNet 0 0 (partS s)=(n,k1,none):=go
      unfold parseF
      rw [if_neg hl,go,if_pos (by rw [← (ho2 rfl).2.1];exact hne)]
     have hb:=bad H hpp b7 b8
     simp only [go_sem,reduceIte,reduceEqDiff,reduceAdd,reduceMul,reduceSub,reduceLeDiff,reduceLT,Nat.reduceBEq,reduceCtorEq,f10,f11,f13,f2,f3,f4,f5,f6,f7,b0,b1,b2,b4,b5]
     exact ⟨b8,hb.2⟩
   | true =>
   obtain ⟨hp,hc6⟩:=ho1 rfl
   have hk:k < (partS s).length:=(List.getElem?_eq_some_iff.1 hp).1
   have hdr:(partS s).drop k=l::(partS s).drop (k+1):=by
    rw [List.drop_eq_getElem_cons hk,(List.getElem?_eq_some_iff.1 hp).2]
   rw [hdr] at go
   cases hK:kindW (Tk.word ⟨splitL 32 l,false⟩).1 with
   | none =>
     have hi:idxK (Tk.word ⟨splitL 32 l,false⟩).1 = -1:=by unfold idxK;rw [hK]
     have hb:=bad H (hpf k (by rw [go];exact step_none hK)) b7 b8
     rw [hi] at f13
     have z:((-1:Int) < 0)=True:=by simp
     simp only [go_sem,reduceIte,reduceEqDiff,reduceAdd,reduceMul,reduceSub,reduceLeDiff,reduceLT,Nat.reduceBEq,reduceCtorEq,f10,f11,f13,f2,f3,f4,f5,f6,f7,b0,b1,b2,b4,b5,z]
     exact ⟨b8,hb.2⟩
   | some q =>
   have hq4:=kindW_lt hK
   have hi:idxK (Tk.word ⟨splitL 32 l,false⟩).1=(q:Int):=by unfold idxK;rw [hK]
   rw [hi] at f13
   obtain ⟨wq,hx,_⟩:=form_at [] hq4
   have hfl:formsL.length=4:=rfl
   have z:((q:Int) < 0)=False:=by simp only [eq_iff_iff,iff_false];omega
   by_cases hkk:kindOf q < k1
   · have hb:=bad H (hpf k (by rw [go];exact step_low hK hkk)) b7 b8
     have hkt:=eq_true hkk
     simp only [go_sem,reduceIte,reduceEqDiff,reduceAdd,reduceMul,reduceSub,reduceLeDiff,reduceLT,Nat.reduceBEq,reduceCtorEq,f10,f11,f13,f2,f3,f4,f5,f6,f7,b0,b1,b2,b4,b5,z,e9,hfl,hq4,hx,hkt]
     exact ⟨b8,hb.2⟩
   have hkt:=eq_false hkk
   refine W_cutB (fun T H' M=>M=[]∧H=H'∧getT T 2=.ptr 0 0∧getT T 3=.ptr 1 0∧getT T 4=.ptr 2 0∧getT T 5=.ptr 3 0∧getT T 6=.ptr 4 0∧getT T 7=.ptr 5 0∧getT T 11=.ptr Hk.n 0∧getT T 13=.int .i64 (q:Nat)) ?_ ?_
   · simp only [go_sem,reduceIte,reduceEqDiff,reduceAdd,reduceMul,reduceSub,reduceLeDiff,reduceLT,Nat.reduceBEq,reduceCtorEq,f10,f11,f13,f2,f3,f4,f5,f6,f7,b0,b1,b2,b4,b5,z,e9,hfl,hq4,hx,hkt]
     done
   clear f2 f3 f4 f5 f6 f7 f10 f11 f13
   rintro T H' M ⟨rfl,rfl,f2,f3,f4,f5,f6,f7,f11,f13⟩
   -- the kind
   refine W_cutB (fun T H' M=>M=[]∧H'=H.set 5 (.cells [.int .i64 (kindOf q)] 3)∧getT T 2=.ptr 0 0∧getT T 3=.ptr 1 0∧getT T 4=.ptr 2 0∧getT T 5=.ptr 3 0∧getT T 6=.ptr 4 0∧getT T 7=.ptr 5 0∧getT T 11=.ptr Hk.n 0∧getT T 13=.int .i64 (q:Nat)) ?_ ?_
   · simp only [go_sem,reduceIte,reduceEqDiff,reduceAdd,reduceMul,reduceSub,reduceLeDiff,reduceLT,Nat.reduceBEq,reduceCtorEq,f11,f13,f2,f3,f4,f5,f6,f7,b5,e9,hfl,hq4,hx]
     done
   clear f2 f3 f4 f5 f6 f7 f11 f13
   rintro T H' M ⟨rfl,rfl,f2,f3,f4,f5,f6,f7,f11,f13⟩
   -- the rest of the line
   have hold5:∀ j,j < Hk.n→j ≠ 5→(H.set 5 (.cells [.int .i64 (kindOf q)] 3)).get j=Hk.get j:=fun j hj h=>by rw [Heap.get_set,if_neg h];exact hold j hj
   have S0:PS 3 Hk.n n (Tk.word ⟨splitL 32 l,false⟩).2 (H.set 5 (.cells [.int .i64 (kindOf q)] 3)) (H.set 5 (.cells [.int .i64 (kindOf q)] 3)) :=
    ⟨⟨lv,L,t2,t3,N.keep (by simp;omega) (hold5 3 (by omega) (by decide)) fun i cs sz e hi hc=>hold5 i hi fun he=>(by rw [he,h5] at hc;cases hc)⟩,⟨_,wordT_ok _,by rw [Heap.get_set,if_neg (by omega)];exact htk⟩,Nat.le_refl _,fun _ _ _ _ _=>rfl⟩
   obtain ⟨v1,H1,er,S1⟩:=r_rd hq4 (by omega:(3:Nat) ≠ Hk.n) (by simp;omega) hroom (fun w hw=>by
    have h1:w ∈ splitL 32 l:=word_sub ⟨splitL 32 l,false⟩ w hw
    have:=splitL_mem h1
    omega) S0
   have a0:H1.get 0=.cells [.ps .nil [],.ps .nil [],.ps .nil []] 40:=by
    rw [S1.fr 0 (by simp;omega) (by decide) (by omega) (by rw [hold5 0 (by omega) (by decide),g.h0];intro _ _ _ h;cases h),hold5 0 (by omega) (by decide)];exact g.h0
   have a1:H1.get 1=.cells [.int .i64 0] 3:=by
    rw [S1.fr 1 (by simp;omega) (by decide) (by omega) (by rw [hold5 1 (by omega) (by decide),g.h1];intro _ _ _ h;cases h),hold5 1 (by omega) (by decide)];exact g.h1
   have a2:H1.get 2=.cells [.int .i64 0] 33:=by
    rw [S1.fr 2 (by simp;omega) (by decide) (by omega) (by rw [hold5 2 (by omega) (by decide),g.h2];intro _ _ _ h;cases h),hold5 2 (by omega) (by decide)];exact g.h2
   have a4:H1.get 4=.cells [.int .i64 (k:Nat)] 3:=by
    rw [S1.fr 4 (by simp;omega) (by decide) (by omega) (by rw [hold5 4 (by omega) (by decide),g.h4];intro _ _ _ h;cases h),hold5 4 (by omega) (by decide)];exact g.h4
   have a5:H1.get 5=.cells [.int .i64 (kindOf q)] 3:=by
    rw [S1.fr 5 (by simp;omega) (by decide) (by omega) (by rw [Heap.get_set,if_pos rfl];intro _ _ _ h;cases h),Heap.get_set,if_pos rfl]
   have a6:H1.get 6=.cells [.str (remS s (k+1))] 9:=by
    rw [S1.fr 6 (by simp;omega) (by decide) (by omega) (by rw [hold5 6 (by omega) (by decide),hc6];intro _ _ _ h;cases h),hold5 6 (by omega) (by decide)];exact hc6
   have a7:H1.get 7=.defr:=by
    rw [S1.fr 7 (by simp;omega) (by decide) (by omega) (by rw [hold5 7 (by omega) (by decide),g.h7];intro _ _ _ h;cases h),hold5 7 (by omega) (by decide)];exact g.h7
   have a8:H1.get 8=.loop lp:=by
    rw [S1.fr 8 (by simp;omega) (by decide) (by omega) (by rw [hold5 8 (by omega) (by decide),hlp];intro _ _ _ h;cases h),hold5 8 (by omega) (by decide)];exact hlp
   have aN:9≤H1.n:=by have:=S1.n;simp at this;omega
   have ern:=fun (args:List AV) (Hx:Heap) (K:AV→Heap→Prop)=>wp_rd hq4 (args:=args) (H:=Hx) (K:=K)
   refine W_cutB (fun T H' M=>M=[]∧H1=H'∧getT T 2=.ptr 0 0∧getT T 3=.ptr 1 0∧getT T 4=.ptr 2 0∧getT T 5=.ptr 3 0∧getT T 6=.ptr 4 0∧getT T 11=.ptr Hk.n 0) ?_ ?_
   · simp only [go_sem,reduceIte,reduceEqDiff,reduceAdd,reduceMul,reduceSub,reduceLeDiff,reduceLT,Nat.reduceBEq,reduceCtorEq,f11,f13,f2,f3,f4,f5,f6,f7,e9,hfl,hq4,hx,ern,er]
     done
   clear f2 f3 f4 f5 f6 f7 f11 f13
   rintro T H' M ⟨rfl,rfl,f2,f3,f4,f5,f6,f11⟩
   obtain ⟨tz,htz,hgz⟩:=S1.tk
   have hbw:=fun h=>bad H1 (hpf k (by rw [go];exact step_bad hK h)) a7 a8
   have hgd:=fun h1 h2=>step_good (n:=n) (i:=k) (r:=(partS s).drop (k+1)) hK hkk h1 h2
   obtain ⟨lv',L',u2,u3,N'⟩:=S1.ex
   generalize hX:(readT n (Tk.word ⟨splitL 32 l,false⟩).2 q).2=X at hgz hbw hgd
   obtain ⟨ws,wr⟩:=X
   simp only [TkC] at hgz
   have hw:=wrap_succ hk (by omega:(partS s).length≤maxRows)
   cases wr with
   | true =>
     have hb:=hbw (.inl rfl)
     simp only [go_sem,reduceIte,reduceEqDiff,reduceAdd,reduceMul,reduceSub,reduceLeDiff,reduceLT,Nat.reduceBEq,reduceCtorEq,f11,f2,f3,f4,f5,f6,hgz,a0,a1,a2,a4]
     exact ⟨a8,hb.2⟩
   | false =>
     cases ws with
     | cons w0 wr0 =>
       have hb:=hbw (.inr (by simp))
       have z0:((0:Int) < ((wr0.length+1:Nat):Int))=True:=by simp only [eq_iff_iff,iff_true];omega
       simp only [go_sem,reduceIte,reduceEqDiff,reduceAdd,reduceMul,reduceSub,reduceLeDiff,reduceLT,Nat.reduceBEq,reduceCtorEq,f11,f2,f3,f4,f5,f6,hgz,a0,a1,a2,a4,z0]
       exact ⟨a8,hb.2⟩
     | nil =>
       obtain ⟨g1,g2⟩:=hgd rfl rfl
       have sz':=read_sz (k1:=k1) (q:=q) sz hll g2
       have hfin:GP s (k+1) (H1.set 4 (.cells [.int .i64 ((k+1:Nat):Int)] 3)):=by
        have e:∀ j,j ≠ 4→(H1.set 4 (.cells [.int .i64 ((k+1:Nat):Int)] 3)).get j=H1.get j:=fun j hj=>by rw [Heap.get_set,if_neg hj]
        exact ⟨by simpa using aN,by rw [e 0 (by decide)];exact a0,by rw [e 1 (by decide)];exact a1,by rw [e 2 (by decide)];exact a2,by rw [Heap.get_set,if_pos rfl],⟨_,by rw [e 6 (by decide)];exact a6⟩,by rw [e 7 (by decide)];exact a7,(by rw [e 8 (by decide),a8];intro _ _ _ h;cases h),_,kindOf q,lv',L',u2,u3,by rw [e 5 (by decide)];exact a5,N'.keep (by simp) (e 3 (by decide)) fun i cs sz e' hi hc=>e i fun he=>(by rw [he,a4] at hc;cases hc),sz',by rw [go];exact g1⟩
       have z0:((0:Int) < 0)=False:=by simp
       simp only [go_sem,reduceIte,reduceEqDiff,reduceAdd,reduceMul,reduceSub,reduceLeDiff,reduceLT,Nat.reduceBEq,reduceCtorEq,f11,f2,f3,f4,f5,f6,hgz,a0,a1,a2,a4,a6,a8,hw,z0]
       exact hfin
 · intro hlw H4 g
   obtain ⟨n,k1,lv,L,t2,t3,h5,N,sz,go⟩:=g.ex
   rw [List.drop_length] at go
   have go:goG zNet 0 0 (partS s)=(n,k1,none):=go
   have hok:n.Ok:=sz.ok (by omega) (by omega)
   have e0:parseF s=if netP n=0 then (n,0,0) else (zNet,(((partS s).length:Nat):Int),netP n):=by
    unfold parseF;rw [if_neg hl,go,if_neg (by simpa using hlw)]
   have h0:=g.h0
   have h1:=g.h1
   have h2:=g.h2
   have h4:=g.h4
   have h7:=g.h7
   have hN:=g.n
   have hbp:=N.bp
   have hLl:L.length=n.lines.length:=by have:=congrArg List.length N.ls;simpa using this
   rw [e0]
   by_cases hL:L=[]
   · subst hL
     have hlv:lv=.ps .nil []:=by
      rcases N.lv with ⟨_,h⟩ | ⟨h,_⟩
      · exact h
      · exact absurd rfl h
     subst hlv
     have hn0:n.lines=[]:=by rw [← N.ls];rfl
     have eV:=view29 (v:=.ps .unk []) (t2:=.unk) (t3:=.unk) (H:=H4) (lo:=0) hok (by rw [hn0];rfl)
     by_cases hz:netP n=0
     · rw [if_pos hz]
       rw [hz] at eV
       have z0:((0:Int) < 0)=False:=by simp
       simp only [go_sem,reduceIte,reduceEqDiff,reduceAdd,reduceMul,reduceSub,reduceLeDiff,reduceLT,Nat.reduceBEq,reduceCtorEq,h0,h1,h2,h4,h7,hbp,eV]
       rw [W_loop]
       simp only [go_sem,reduceIte,reduceEqDiff,reduceAdd,reduceMul,reduceSub,reduceLeDiff,reduceLT,Nat.reduceBEq,reduceCtorEq,h0,h1,h2,h4,h7,hbp,z0,shutMarks_cons]
       have hd:∀ Hx:Heap,deep 6 Hx (.tup [.agg [.ps .nil [],.ps t2 (n.sws.map Sw.row),.ps t3 (n.sts.map Stc.row)],.int .i64 0,.int .i64 0])=some (.tup [.agg n.cells,.int .i64 0,.int .i64 0]):=fun Hx=>by
        rw [deep_out (d:=3) (ls:=n.lines) (by rw [hn0];rfl)];rfl
       exact hd _
     · rw [if_neg hz]
       have hz':=eq_false hz
       simp only [go_sem,reduceIte,reduceEqDiff,reduceAdd,reduceMul,reduceSub,reduceLeDiff,reduceLT,Nat.reduceBEq,reduceCtorEq,h0,h1,h2,h4,h7,hbp,eV,hz',shutMarks_cons]
       rfl
   obtain ⟨id,rfl,hidn,hid⟩:∃ id,lv=.rs id 0 L.length 2 none∧id < H4.n∧H4.get id=.row (lnCs L) 2 196:=by
    rcases N.lv with ⟨h,_⟩ | ⟨_,id,h,_,h2,h3⟩
    · exact absurd h hL
    · exact ⟨id,h,h2,h3⟩
   have eV:=view29 (v:=.rs id 0 L.length 2 none) (t2:=.unk) (t3:=.unk) (H:=H4) (lo:=0) hok (by rw [← N.ls];exact deep_lv N.lv 1)
   by_cases hz:netP n=0
   case neg =>
    rw [if_neg hz]
    have hz':=eq_false hz
    simp only [go_sem,reduceIte,reduceEqDiff,reduceAdd,reduceMul,reduceSub,reduceLeDiff,reduceLT,Nat.reduceBEq,reduceCtorEq,h0,h1,h2,h4,h7,hbp,eV,hz',shutMarks_cons]
    rfl
   rw [if_pos hz]
   rw [hz] at eV
   have hLs:=N.ls
   simp only [go_sem,reduceIte,reduceEqDiff,reduceAdd,reduceMul,reduceSub,reduceLeDiff,reduceLT,Nat.reduceBEq,reduceCtorEq,h0,h1,h2,h4,h7,hbp,eV]
   refine W_for (fun k T H M=>M=[7]∧getT T 2=.ptr 0 0∧getT T 3=.ptr 1 0∧getT T 4=.ptr 2 0∧getT T 5=.ptr 3 0∧getT T 92=.int .i64 (L.length:Nat)∧getT T 93=.int .i64 (k:Nat)∧9≤H.n∧H.get 0=.cells [.ps .nil [],.ps .nil [],.ps .nil []] 40∧H.get 1=.cells [.int .i64 0] 3∧H.get 2=.cells [.int .i64 0] 33∧H.get 7=.defr∧H.get 3=.cells [.rs id 0 L.length 2 none,.ps t2 (n.sws.map Sw.row),.ps t3 (n.sts.map Stc.row)] 40∧id < H.n ∧ ∃ K:List CT,K.map Prod.snd=n.lines.take k∧CPok H K∧H.get id=.row (cpCs K++lnCs (L.drop k)) 2 196) L.length ?_ ?_ ?_
   · simp only [go_sem,reduceIte,reduceEqDiff,reduceAdd,reduceMul,reduceSub,reduceLeDiff,reduceLT,Nat.reduceBEq,reduceCtorEq,h0,h1,h2,h4,h7,hbp,hN,hidn]
     exact ⟨[],rfl,(fun x hx=>by cases hx),by rw [hid];rfl⟩
   · rintro k T H M hk ⟨rfl,g2,g3,g4,g5,g92,g93,hN',b0,b1,b2,b7,b3,hin,K,hK,hcp,hidk⟩
     obtain ⟨tk,l,hat⟩:∃ tk l,L[k]? = some (tk,l):=⟨L[k].1,L[k].2,List.getElem?_eq_getElem hk⟩
     have hdr:L.drop k=(tk,l)::L.drop (k+1):=by
      rw [List.drop_eq_getElem_cons hk,(List.getElem?_eq_some_iff.1 hat).2]
     have hnl:n.lines[k]? = some l:=by rw [← hLs,List.getElem?_map,hat];rfl
     have hKl:K.length=k:=by
      have:=congrArg List.length hK
      simp only [List.length_map,List.length_take] at this
      omega
     have hfit:l.ps.length≤maxRows:=(hok.line l (List.mem_of_getElem? hnl)).2
     have hcl:(cpCs K).length=k * 2:=by rw [cpCs_len,hKl]
     rw [hdr] at hidk
     have hidk:H.get id=.row (cpCs K ++ .str l.name :: .ps tk (l.ps.map Pc.row)::lnCs (L.drop (k+1))) 2 196:=hidk
     have f1:(k * 2+1+1≤(cpCs K++AV.str l.name::AV.ps tk (l.ps.map Pc.row)::lnCs (L.drop (k+1))).length)=True:=by
      simp only [List.length_append,hcl,List.length_cons,eq_iff_iff,iff_true];omega
     have f2:=cons_drop1 (a:=AV.str l.name) (b:=.ps tk (l.ps.map Pc.row)) (C:=lnCs (L.drop (k+1))) hcl
     have f3:=cons_drop2 (a:=AV.str l.name) (b:=.ps tk (l.ps.map Pc.row)) (C:=lnCs (L.drop (k+1))) hcl
     have f4:=cons_take1 (a:=AV.str l.name) (b:=.ps tk (l.ps.map Pc.row)) (C:=lnCs (L.drop (k+1))) hcl
     have mk:=mk194 H hfit
     have cp:=cp194 (H:=H.push (.cells (List.replicate l.ps.length zPc).flatten 200)) (id:=H.n) (t:=tk) (l:=l.ps) (cap:=some l.ps.length) (by rw [Heap.get_push,if_pos rfl]) (rep_len _)
     have hw:=wrap_succ hk (by rw [hLl];exact hok.lines)
     have y0:(0=H.n)=False:=by simp only [eq_iff_iff,iff_false];omega
     have y1:(1=H.n)=False:=by simp only [eq_iff_iff,iff_false];omega
     have y2:(2=H.n)=False:=by simp only [eq_iff_iff,iff_false];omega
     have y3:(3=H.n)=False:=by simp only [eq_iff_iff,iff_false];omega
     have y7:(7=H.n)=False:=by simp only [eq_iff_iff,iff_false];omega
     have yi:(id=H.n)=False:=by simp only [eq_iff_iff,iff_false];omega
     have i0:(0=id)=False:=by simp only [eq_iff_iff,iff_false];intro h;rw [← h,b0] at hidk;cases hidk
     have i1:(1=id)=False:=by simp only [eq_iff_iff,iff_false];intro h;rw [← h,b1] at hidk;cases hidk
     have i2:(2=id)=False:=by simp only [eq_iff_iff,iff_false];intro h;rw [← h,b2] at hidk;cases hidk
     have i3:(3=id)=False:=by simp only [eq_iff_iff,iff_false];intro h;rw [← h,b3] at hidk;cases hidk
     have i7:(7=id)=False:=by simp only [eq_iff_iff,iff_false];intro h;rw [← h,b7] at hidk;cases hidk
     have hcs:cpCs K++[AV.str l.name]++[AV.rs H.n 0 l.ps.length 3 (some l.ps.length)]++lnCs (L.drop (k+1))=cpCs (K++[(H.n,l)])++lnCs (L.drop (k+1)):=by
      rw [cpCs_app];simp [cpCs]
     have n1:(9≤H.n+1)=True:=by simp only [eq_iff_iff,iff_true];omega
     have n2:(id < H.n+1)=True:=by simp only [eq_iff_iff,iff_true];omega
     simp only [go_sem,reduceIte,reduceEqDiff,reduceAdd,reduceMul,reduceSub,reduceLeDiff,reduceLT,Nat.reduceBEq,reduceCtorEq,op_mkSlice,op_copy,g2,g3,g4,g5,g92,g93,hk,b0,b1,b2,b3,b7,hidk,f1,f2,f3,f4,mk,cp,hw,y0,y1,y2,y3,y7,yi,i0,i1,i2,i3,i7,n1,n2]
     first
      | (refine ⟨K++[(H.n,l)], ?_, ?_, ?_⟩
         · rw [List.map_append,hK,List.take_add_one,hnl];rfl
         · intro x hx
           rcases List.mem_append.1 hx with hx | hx
           · obtain ⟨q1,q2⟩:=hcp x hx
             exact ⟨by simp;omega,by rw [Heap.get_set,if_neg (fun he=>by rw [he,hidk] at q2;cases q2),Heap.get_set,if_neg (by omega),Heap.get_push,if_neg (by omega)];exact q2⟩
           · obtain rfl:=List.mem_singleton.1 hx
             exact ⟨by simp,by rw [Heap.get_set,if_neg (by omega),Heap.get_set,if_pos rfl]⟩
         · rw [← hcs];first | done | rfl | simp)
   · rintro T H M ⟨rfl,g2,g3,g4,g5,g92,g93,hN',b0,b1,b2,b7,b3,hin,K,hK,hcp,hidk⟩
     have hdl:L.drop L.length=[]:=List.drop_length
     have hidk:H.get id=.row (cpCs K) 2 196:=by
      rw [hidk,hdl];show ABlk.row (cpCs K++[]) 2 196=_
      rw [List.append_nil]
     rw [hLl,List.take_length] at hK
     have hKl:K.length=L.length:=by rw [hLl,← hK,List.length_map]
     have hd:∀ Hx:Heap,H.n≤Hx.n→(∀ i,i ≠ 0→i ≠ 1→i ≠ 2→i ≠ 7→Hx.get i=H.get i)→deep 6 Hx (.tup [.agg [.rs id 0 L.length 2 none,.ps t2 (n.sws.map Sw.row),.ps t3 (n.sts.map Stc.row)],.int .i64 0,.int .i64 0])=some (.tup [.agg n.cells,.int .i64 0,.int .i64 0]):=fun Hx hnx hx=>by
      have hid2:Hx.get id=.row (cpCs K) 2 196:=by
       rw [hx id (fun he=>by rw [he,b0] at hidk;cases hidk) (fun he=>by rw [he,b1] at hidk;cases hidk) (fun he=>by rw [he,b2] at hidk;cases hidk) (fun he=>by rw [he,b7] at hidk;cases hidk)];exact hidk
      have hcp2:CPok Hx K:=hcp.keep hnx fun i cs hi hc=>hx i (fun he=>by rw [he,b0] at hc;cases hc) (fun he=>by rw [he,b1] at hc;cases hc) (fun he=>by rw [he,b2] at hc;cases hc) (fun he=>by rw [he,b7] at hc;cases hc)
      have e:=deep_cp hid2 hcp2 1
      rw [hKl,hK] at e
      rw [deep_out (d:=3) e];rfl
     simp only [go_sem,reduceIte,reduceEqDiff,reduceAdd,reduceMul,reduceSub,reduceLeDiff,reduceLT,Nat.reduceBEq,reduceCtorEq,g2,g3,g4,g5,g92,g93,b0,b1,b2,b3,b7,Nat.lt_irrefl,shutMarks_cons]
     first
      | (refine hd _ (by simp) fun i x0 x1 x2 x7 => ?_
         simp only [Heap.get_set,x0,x1,x2,x7,if_false])
 · rintro e H3 he ⟨rfl,h7,h0,i,h1,h2,hp⟩
   rw [hp]
   simp only [go_sem,reduceIte,reduceEqDiff,reduceAdd,reduceMul,reduceSub,reduceLeDiff,reduceLT,Nat.reduceBEq,reduceCtorEq,h7,h0,h1,h2,shutMarks_cons]
   rfl
end Go.Sim

/-
Texts: Parse by the program, as it is known to the laws.
-/
namespace Go.Sim
open Go Go.Proofs
set_option maxRecDepth 100000
set_option maxHeartbeats 16000000
theorem c88 (s:Wd) (hs:s.length+1≤maxRows) (lo:Nat) (H:Heap):CallOk NC lo 88 [.str s] H (.tup [.agg (parseF s).1.cells,.int .i64 (parseF s).2.1,.int .i64 (parseF s).2.2]) H:=by
 obtain ⟨v,H',h1,h2⟩:=w88run s hs
 exact view_ok (C:=NC) wp_sane rfl rfl h1 rfl h2 lo H
noncomputable def p88:List AV→Option AV:=primOf (α:=List Nat) (fun x=>[.str x]) (fun x=>x.length+1≤maxRows) (fun x=>.tup [.agg (parseF x).1.cells,.int .i64 (parseF x).2.1,.int .i64 (parseF x).2.2])
theorem pok88:∀ args v,p88 args=some v → ∀ lo H,CallOk NC lo 88 args H v H:=by
 intro args v h
 obtain ⟨x,rfl,hp,rfl⟩:=primOf_inv h
 clear h
 revert x
 intro x hp;exact c88 x hp
theorem pe88 (x:List Nat) (hp:(fun x=>x.length+1≤maxRows) x):p88 ((fun x=>[.str x]) x)=some ((fun x=>.tup [.agg (parseF x).1.cells,.int .i64 (parseF x).2.1,.int .i64 (parseF x).2.2]) x):=primOf_enc (by intro x y h;exact strs1_inj x y h) x hp
end Go.Sim

/-
The law: NetworkBack returns true.
-/
namespace Go.Sim
open Go Go.Proofs
set_option maxRecDepth 100000
set_option maxHeartbeats 32000000
noncomputable def PPF15:FuncId→Option (List AV→Option AV):=addPrim 93 p93 (addPrim 92 p92 (addPrim 91 p91 (addPrim 88 p88 (addPrim 87 p87 (addPrim 22 p22 (addPrim 19 p19 (addPrim 17 p17 (addPrim 16 p16 (fun _=>none)))))))))
theorem primsF15:PrimsOk NC PPF15:=primsOk_add (primsOk_add (primsOk_add (primsOk_add (primsOk_add (primsOk_add (primsOk_add (primsOk_add (primsOk_add (primsOk_none) (by kernel_rfl) (by kernel_rfl) pok16) (by kernel_rfl) (by kernel_rfl) pok17) (by kernel_rfl) (by kernel_rfl) pok19) (by kernel_rfl) (by kernel_rfl) pok22) (by kernel_rfl) (by kernel_rfl) pok87) (by kernel_rfl) (by kernel_rfl) pok88) (by kernel_rfl) (by kernel_rfl) pok91) (by kernel_rfl) (by kernel_rfl) pok92) (by kernel_rfl) (by kernel_rfl) pok93
theorem enF15_16:En PPF15 16 p16:=enter_prim (by rfl) (by kernel_rfl)
theorem enF15_17:En PPF15 17 p17:=enter_prim (by rfl) (by kernel_rfl)
theorem enF15_19:En PPF15 19 p19:=enter_prim (by rfl) (by kernel_rfl)
theorem enF15_22:En PPF15 22 p22:=enter_prim (by rfl) (by kernel_rfl)
theorem enF15_87:En PPF15 87 p87:=enter_prim (by rfl) (by kernel_rfl)
theorem enF15_88:En PPF15 88 p88:=enter_prim (by rfl) (by kernel_rfl)
theorem enF15_91:En PPF15 91 p91:=enter_prim (by rfl) (by kernel_rfl)
theorem enF15_92:En PPF15 92 p92:=enter_prim (by rfl) (by kernel_rfl)
theorem enF15_93:En PPF15 93 p93:=enter_prim (by rfl) (by kernel_rfl)
attribute [go_sem ↓] enF15_16 enF15_17 enF15_19 enF15_22 enF15_87 enF15_88 enF15_91 enF15_92 enF15_93
theorem c15 (n:Net) (s:List Nat):∀ lo H,CallOk NC lo 15 [.agg n.cells,.str s] H (.bool true) H:=by
 refine contract saneNC primsF15 (fn:=Tryz.f15) (by kernel_rfl) Tryz.func15 rfl rfl (by rfl) (by rfl) ?_
 have e17:=pe17 n trivial
 simp only [Net.cells] at e17
 cases hS:shortN n with
 | false =>
   simp only [hS] at e17
   simp only [go_sem,reduceIte,reduceEqDiff,reduceAdd,reduceMul,reduceSub,reduceLeDiff,reduceLT,Nat.reduceBEq,reduceCtorEq,Net.cells,e16,e17]
 | true =>
 simp only [hS] at e17
 have hok:=short_ok hS
 have e22:=pe22 n ⟨hok.fits,hok.sws,hok.sts⟩
 simp only [Net.cells,i64] at e22
 rcases Classical.propComplete (netR n=0) with z | z
 case inr=>simp only [go_sem,reduceIte,reduceEqDiff,reduceAdd,reduceMul,reduceSub,reduceLeDiff,reduceLT,Nat.reduceBEq,reduceCtorEq,Net.cells,e16,e17,e22,z]
 have hz:=of_eq_true z
 have hzp:netP n=0:=by rw [net_same];exact hz
 rw [hz] at e22
 rcases Classical.propComplete ((400:Int) < s.length) with q | q
 · simp only [go_sem,reduceIte,reduceEqDiff,reduceAdd,reduceMul,reduceSub,reduceLeDiff,reduceLT,Nat.reduceBEq,reduceCtorEq,Net.cells,e16,e17,e22,q]
 have hle:s.length≤400:=by
  have:¬ ((400:Int) < s.length):=fun h=>by rw [eq_true h] at q;simp at q
  omega
 have hpr:=prOk hzp
 have hpl:=print_len hS hzp
 have e19:=pe19 n ⟨hok.fits,hok.sws,hok.sts⟩
 have e87:p87 [.agg n.cells]=some (.tup [.str (if netP n=0 then printF n else []),i64 (netP n)]):=pe87 n ⟨hok,fun h=>hpl⟩
 rw [if_pos hzp,hzp] at e87
 simp only [Net.cells,i64] at e19 e87
 rcases Classical.propComplete ((4096:Int) < (printF n).length) with q2 | q2
 · simp only [go_sem,reduceIte,reduceEqDiff,reduceAdd,reduceMul,reduceSub,reduceLeDiff,reduceLT,Nat.reduceBEq,reduceCtorEq,Net.cells,e16,e17,e22,q,e19,e87,q2]
 have hle2:(printF n).length≤4096:=by
  have:¬ ((4096:Int) < (printF n).length):=fun h=>by rw [eq_true h] at q2;simp at q2
  omega
 obtain ⟨hpp,hsl⟩:=parse_print hzp hle2
 have hN:=txLines_length n
 have e88a:p88 [.str (printF n)]=some (.tup [.agg (parseF (printF n)).1.cells,.int .i64 (parseF (printF n)).2.1,.int .i64 (parseF (printF n)).2.2]):=pe88 (printF n) (by unfold maxRows;omega)
 rw [hpp] at e88a
 have e92:=pe92 n ⟨hok.fits,hok.sws,hok.sts⟩
 have e91:=pe91 n ⟨hok.fits,hok.sws,hok.sts⟩
 have e93:=e93_10 (printF n) (by unfold maxRows;omega)
 have hsum:∀ k,((n.lines.take k).map fun l=>l.ps.length).sum≤(n.lines.map fun l=>l.ps.length).sum:=fun k=>by
  conv=>rhs;rw [← List.take_append_drop k n.lines]
  rw [List.map_append,List.sum_append];omega
 have hNb:(txLines n).length≤4096:=by
  have:(txLines n).length≤(printF n).length:=by
   unfold printF
   have:∀ L:List Wd,L.length≤(L.flatMap fun l=>l++[10]).length:=fun L=>by
    induction L with
    | nil=>simp
    | cons a r ih=>rw [List.flatMap_cons,List.length_append,List.length_append,List.length_cons];simp only [List.length_cons,List.length_nil];omega
   exact this _
  omega
 have w1:wrapq .i64 (Int.add (n.lines.length:Int) (n.sws.length:Int))=((n.lines.length+n.sws.length:Nat):Int):=wrap_nat (n:=n.lines.length+n.sws.length) (by omega)
 have w2:wrapq .i64 (Int.add ((n.lines.length+n.sws.length:Nat):Int) (n.sts.length:Int))=((n.lines.length+n.sws.length+n.sts.length:Nat):Int):=wrap_nat (n:=n.lines.length+n.sws.length+n.sts.length) (by omega)
 simp only [Net.cells,i64] at e88a e92 e91
 simp only [go_sem,reduceIte,reduceEqDiff,reduceAdd,reduceMul,reduceSub,reduceLeDiff,reduceLT,Nat.reduceBEq,reduceCtorEq,Net.cells,e16,e17,e22,q,e19,e87,q2,e88a,List.length_map,w1,w2]
 refine W_for (fun k T H M=>M=[]∧getT T 1=.str s∧getT T 2=.ptr 0 0∧getT T 5=.str (printF n)∧getT T 6=.int .i64 0∧getT T 7=.ptr 1 0∧getT T 8=.int .i64 0∧getT T 9=.int .i64 0∧getT T 10=i64 ((n.lines.length+n.sws.length+n.sts.length+((n.lines.take k).map fun l=>l.ps.length).sum:Nat))∧getT T 68=.ps .unk (n.lines.map Ln.row)∧getT T 69=i64 (n.lines.length:Nat)∧getT T 70=i64 k∧1 < H.n∧H.get 0=.cells [.ps .unk (n.lines.map Ln.row),.ps .unk (n.sws.map Sw.row),.ps .unk (n.sts.map Stc.row)] 26∧H.get 1=.cells [.ps .unk (n.lines.map Ln.row),.ps .unk (n.sws.map Sw.row),.ps .unk (n.sts.map Stc.row)] 40) n.lines.length ?_ ?_ ?_
 · simp only [go_sem,reduceIte,reduceEqDiff,reduceAdd,reduceMul,reduceSub,reduceLeDiff,reduceLT,Nat.reduceBEq,reduceCtorEq,List.length_map]
   rfl
 · rintro k T H M hk ⟨rfl,g1,g2,g5,g6,g7,g8,g9,g10,g68,g69,g70,hn,h0,h1⟩
   obtain ⟨l,hp⟩:∃ p,n.lines[k]? = some p:=⟨n.lines[k],by simp⟩
   have hr:=map_at (f:=Ln.row) hp
   have hw:=wrap_succ hk hok.lines
   have htk:((n.lines.take (k+1)).map fun l=>l.ps.length).sum=((n.lines.take k).map fun l=>l.ps.length).sum+l.ps.length:=by
    rw [take_map (f:=fun l:Ln=>l.ps.length) hp,List.sum_append];simp
   have hsk:=hsum (k+1)
   have hwa:wrapq .i64 (Int.add ((n.lines.length+n.sws.length+n.sts.length+((n.lines.take k).map fun l=>l.ps.length).sum:Nat):Int) (l.ps.length:Int))=((n.lines.length+n.sws.length+n.sts.length+((n.lines.take (k+1)).map fun l=>l.ps.length).sum:Nat):Int):=by
    have e:Int.add ((n.lines.length+n.sws.length+n.sts.length+((n.lines.take k).map fun l=>l.ps.length).sum:Nat):Int) (l.ps.length:Int)=((n.lines.length+n.sws.length+n.sts.length+((n.lines.take (k+1)).map fun l=>l.ps.length).sum:Nat):Int):=by
     show ((n.lines.length+n.sws.length+n.sts.length+((n.lines.take k).map fun l=>l.ps.length).sum:Nat):Int)+(l.ps.length:Int)=_
     rw [htk];push_cast;omega
    rw [e];exact wrap_nat (by omega)
   have y0:(0=H.n)=False:=by simp only [eq_iff_iff,iff_false];omega
   have y1:(1=H.n)=False:=by simp only [eq_iff_iff,iff_false];omega
   have y2:(1 < H.n+1)=True:=by simp only [eq_iff_iff,iff_true];omega
   obtain ⟨ln,lp⟩:=l
   simp only [Ln.row] at hr
   simp only at hwa
   simp only [go_sem,reduceIte,reduceEqDiff,reduceAdd,reduceMul,reduceSub,reduceLeDiff,reduceLT,Nat.reduceBEq,reduceCtorEq,g1,g2,g5,g6,g7,g8,g9,g10,g68,g69,g70,h0,h1,hn,y0,y1,y2,List.length_map,hk,hr,hw,hwa]
 · rintro T H M ⟨rfl,g1,g2,g5,g6,g7,g8,g9,g10,g68,g69,g70,hn,h0,h1⟩
   rw [List.take_length] at g10
   have e10:n.lines.length+n.sws.length+n.sts.length+(n.lines.map fun l=>l.ps.length).sum=(txLines n).length:=by omega
   rw [e10] at g10
   have wN:wrapq .i64 (Int.add ((txLines n).length:Int) 1)=(((txLines n).length+1:Nat):Int):=wrap_nat (n:=(txLines n).length+1) (by omega)
   have hsq:=parse_ok s
   have e88b:p88 [.str s]=some (.tup [.agg (parseF s).1.cells,.int .i64 (parseF s).2.1,.int .i64 (parseF s).2.2]):=pe88 s (by unfold maxRows;omega)
   have e87b:(parseF s).2.2=0→p87 [.agg (parseF s).1.cells]=some (.tup [.str s,.int .i64 0]):=fun h=>by
    obtain ⟨h1,h2⟩:=print_parse h
    have this:p87 [.agg (parseF s).1.cells]=some (.tup [.str (if netP (parseF s).1=0 then printF (parseF s).1 else []),i64 (netP (parseF s).1)]):=pe87 (parseF s).1 ⟨hsq,fun _=>by rw [h1];unfold maxRows;omega⟩
    rw [if_pos h2,h1,h2] at this
    exact this
   have hbs:=beqL_self s
   have hcut:beqL (printF n) []=false→p88 [.str ((printF n).take ((printF n).length - 1))]=some (.tup [.agg zNet.cells,.int .i64 (((txLines n).length:Int) - 1),.int .i64 25])∧aslice NC.P 9 (.str (printF n)) none (some (.int .i64 (((printF n).length - 1:Nat):Int))) none=some (.str ((printF n).take ((printF n).length - 1)))∧wrapq .i64 (Int.sub ((printF n).length:Int) 1)=(((printF n).length - 1:Nat):Int):=fun h=>by
    have hne:printF n ≠ []:=fun e=>by rw [e] at h;cases h
    have hpos:0 < (printF n).length:=List.length_pos_iff.2 hne
    refine ⟨?_,asl_hi (by omega),wrap_pred hpos (Nat.le_refl _) hpl⟩
    have e:p88 [.str ((printF n).take ((printF n).length - 1))]=some (.tup [.agg (parseF ((printF n).take ((printF n).length - 1))).1.cells,.int .i64 (parseF ((printF n).take ((printF n).length - 1))).2.1,.int .i64 (parseF ((printF n).take ((printF n).length - 1))).2.2]):=pe88 ((printF n).take ((printF n).length - 1)) (by rw [List.length_take];unfold maxRows;omega)
    rw [parse_cut hzp hle2 hne] at e
    exact e
   have wM:wrapq .i64 (Int.sub ((txLines n).length:Int) 1)=((txLines n).length:Int) - 1:=wrapq_i64 (by show _≤((txLines n).length:Int) - 1;omega) (by show ((txLines n).length:Int) - 1≤_;omega)
   have hsl':(splitL 10 (printF n)).length=(txLines n).length+1:=hsl
   generalize parseF s=X at e88b e87b
   obtain ⟨m,a,b⟩:=X
   simp only [Net.cells,i64] at e88b e87b
   have y0:(0=H.n)=False:=by simp only [eq_iff_iff,iff_false];omega
   have y1:(1=H.n)=False:=by simp only [eq_iff_iff,iff_false];omega
   rcases Classical.propComplete (b=0) with hb | hb
   · have hb':=of_eq_true hb
     have e87c:=e87b hb'
     rw [hb'] at e88b
     cases hE:beqL (printF n) [] with
     | true=>simp only [go_sem,reduceIte,reduceEqDiff,reduceAdd,reduceMul,reduceSub,reduceLeDiff,reduceLT,Nat.reduceBEq,reduceCtorEq,g1,g2,g5,g6,g7,g8,g9,g10,g68,g69,g70,h0,h1,hn,y0,y1,List.length_map,Nat.lt_irrefl,e91,e92,e93,hsl',wN,eqI_self,e88b,e87c,hbs,hE]
     | false =>
       obtain ⟨c1,c2,c3⟩:=hcut hE
       simp only [Net.cells] at c1
       simp only [go_sem,reduceIte,reduceEqDiff,reduceAdd,reduceMul,reduceSub,reduceLeDiff,reduceLT,Nat.reduceBEq,reduceCtorEq,g1,g2,g5,g6,g7,g8,g9,g10,g68,g69,g70,h0,h1,hn,y0,y1,List.length_map,Nat.lt_irrefl,e91,e92,e93,hsl',wN,eqI_self,e88b,e87c,hbs,hE,c3,c2,c1,wM]
   · cases hE:beqL (printF n) [] with
     | true=>simp only [go_sem,reduceIte,reduceEqDiff,reduceAdd,reduceMul,reduceSub,reduceLeDiff,reduceLT,Nat.reduceBEq,reduceCtorEq,g1,g2,g5,g6,g7,g8,g9,g10,g68,g69,g70,h0,h1,hn,y0,y1,List.length_map,Nat.lt_irrefl,e91,e92,e93,hsl',wN,eqI_self,e88b,hb,hE]
     | false =>
       obtain ⟨c1,c2,c3⟩:=hcut hE
       simp only [Net.cells] at c1
       simp only [go_sem,reduceIte,reduceEqDiff,reduceAdd,reduceMul,reduceSub,reduceLeDiff,reduceLT,Nat.reduceBEq,reduceCtorEq,g1,g2,g5,g6,g7,g8,g9,g10,g68,g69,g70,h0,h1,hn,y0,y1,List.length_map,Nat.lt_irrefl,e91,e92,e93,hsl',wN,eqI_self,e88b,hb,hE,c3,c2,c1,wM]
end Go.Sim
