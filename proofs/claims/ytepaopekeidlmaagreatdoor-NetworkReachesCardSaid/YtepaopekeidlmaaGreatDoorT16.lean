/-
The parts NetY6, NetY7, NetY5, NetY8, NetY10, NetY11, NetY13, NetX8, NetY9 of one proof, joined: each begins with a remark that says what it shows.
-/
import Derived.Test.YtepaopekeidlmaaGreatDoorT15
set_option linter.unusedSimpArgs false
set_option linter.unusedVariables false
open Nat (reduceEqDiff reduceAdd reduceMul reduceSub reduceLeDiff reduceLT)

/-
Distances, by the reference.
-/
-- INJ Leg.row_iff lgs_iff pts_iff ptr_iff
namespace Go.Sim
open Go Go.Proofs
set_option maxRecDepth 100000
set_option maxHeartbeats 16000000
variable {P:FuncId→Option (List AV→Option AV)}
noncomputable def dR (n:Net) (a b:Pt):Int:=match bestO n a b with
 | none=>-1
 | some w=>sumR w 0
noncomputable def PPF191:FuncId→Option (List AV→Option AV):=addPrim 75 p75 (fun _=>none)
theorem primsF191:PrimsOk NC PPF191:=primsOk_add (primsOk_none) (by kernel_rfl) (by kernel_rfl) pok75
theorem enF191_75:En PPF191 75 p75:=enter_prim (by rfl) (by kernel_rfl)
attribute [go_sem ↓] enF191_75
theorem c191 (n:Net) (a b:Pt) (hp:FineN n∧lnB n.lines a.1=true∧inR a.2∧inR b.2):∀ lo H,CallOk NC lo 191 [.agg n.cells,.agg (ptRow a),.agg (ptRow b)] H (i64 (dR n a b)) H:=by
 refine contract saneNC primsF191 (fn:=Tryz.f191) (by kernel_rfl) Tryz.func191 rfl rfl (by rfl) (by first | rfl | (split<;>first | rfl | (split<;>rfl))) ?_
 have e75:=pe75 n a b hp
 unfold dR
 obtain ⟨a1,a2⟩:=a
 obtain ⟨b1,b2⟩:=b
 simp only [Net.cells,ptRow] at e75
 cases hb:bestO n (a1,a2) (b1,b2) with
 | none =>
   rw [hb] at e75
   simp only [wayRv,i64] at e75
   have z18:((18:Int)=0)=False:=by simp
   simp only [go_sem,reduceIte,reduceEqDiff,reduceAdd,reduceMul,reduceSub,reduceLeDiff,reduceLT,Nat.reduceBEq,reduceCtorEq,Net.cells,ptRow,e75,z18]
 | some w =>
   rw [hb] at e75
   simp only [wayRv,i64] at e75
   simp only [go_sem,reduceIte,reduceEqDiff,reduceAdd,reduceMul,reduceSub,reduceLeDiff,reduceLT,Nat.reduceBEq,reduceCtorEq,Net.cells,ptRow,e75]
noncomputable def p191:List AV→Option AV:=primOf (α:=(Net) × (Pt) × (Pt)) (fun x=>[.agg x.1.cells,.agg (ptRow x.2.1),.agg (ptRow x.2.2)]) (fun x=>FineN x.1∧lnB x.1.lines x.2.1.1=true∧inR x.2.1.2∧inR x.2.2.2) (fun x=>i64 (dR x.1 x.2.1 x.2.2))
theorem pok191:∀ args v,p191 args=some v → ∀ lo H,CallOk NC lo 191 args H v H:=by
 intro args v h
 obtain ⟨x,rfl,hp,rfl⟩:=primOf_inv h
 exact c191 x.1 x.2.1 x.2.2 hp
theorem pe191 (n:Net) (a b:Pt) (hp:FineN n∧lnB n.lines a.1=true∧inR a.2∧inR b.2):p191 [.agg n.cells,.agg (ptRow a),.agg (ptRow b)]=some (.int .i64 (dR n a b)):=primOf_enc (α:=(Net) × (Pt) × (Pt)) (enc:=fun x=>[.agg x.1.cells,.agg (ptRow x.2.1),.agg (ptRow x.2.2)]) (pre:=fun x=>FineN x.1∧lnB x.1.lines x.2.1.1=true∧inR x.2.1.2∧inR x.2.2.2) (spec:=fun x=>i64 (dR x.1 x.2.1 x.2.2)) (by intro x y h;(simp only [List.cons.injEq,AV.agg.injEq,AV.str.injEq,AV.int.injEq,AV.ps.injEq,AV.bool.injEq,Net.cells_iff,Ln.row_iff,Pc.row_iff,Mv.row_iff,lns_iff,pcs_iff,mvs_iff,Leg.row_iff,lgs_iff,pts_iff,ptr_iff,true_and,and_true] at h;first | simpa only [Prod.ext_iff] using h | simpa only [Prod.ext_iff,and_assoc] using h)) (n,a,b) hp
theorem dR_spec {n:Net} (h:netP n=0) (h4:n.sws.length≤4) {a b:Pt} (ha:lnB n.lines a.1=true) (hRa:inR a.2) (hRb:inR b.2):(dR n a b = -1 ∧ ∀ σ,¬ okS (endE n) n.sws.length a σ b)∨(Dist (endE n) n.sws.length a b (dR n a b)∧dR n a b≤4000000):=by
 unfold dR
 have hb:=bestO_spec h ha (b:=b)
 cases hw:bestO n a b with
 | none =>
   rw [hw] at hb
   exact .inl ⟨rfl,fun σ hσ=>hb _ ⟨σ,hσ,rfl⟩⟩
 | some w =>
   rw [hw] at hb
   obtain ⟨σ,s1,s2,s3⟩:=bestO_in h hRa hRb hw
   have hl:=bestO_len hw
   have hs:sumR w 0=wSum w:=by rw [sumR_eq s3 (by omega) (by omega)];omega
   have:=wSum_small s3
   right
   show Dist _ _ a b (sumR w 0)∧sumR w 0≤_
   rw [hs]
   exact ⟨hb.dist,by omega⟩
/-! ### Where a line is entered -/
noncomputable def doorAt (n:Net) (a:Pt) (s:List Nat) (i:Nat):List (Int × Int):=match n.sws[i]? with
 | none=>[]
 | some sw=>if 0≤atS n sw s then (if 0≤dR n a (s,atS n sw s) then [(atS n sw s,dR n a (s,atS n sw s))] else []) else []
noncomputable def doorsTo (n:Net) (a:Pt) (s:List Nat):Nat→List (Int × Int)
 | 0=>if a.1=s then [(a.2,0)] else []
 | i+1=>doorsTo n a s i++doorAt n a s i
noncomputable def doorsO (n:Net) (a:Pt) (s:List Nat):List (Int × Int):=doorsTo n a s n.sws.length
theorem doorAt_len (n:Net) (a:Pt) (s:List Nat) (i:Nat):(doorAt n a s i).length≤1:=by
 unfold doorAt
 split
 · simp
 · split
   · split<;>simp
   · simp
theorem doorsTo_len (n:Net) (a:Pt) (s:List Nat):∀ i,(doorsTo n a s i).length≤1+i
 | 0=>by unfold doorsTo;split<;>simp
 | i+1=>by
   have:=doorsTo_len n a s i
   have:=doorAt_len n a s i
   unfold doorsTo
   rw [List.length_append];omega
theorem door_mem (n:Net) (a:Pt) (s:List Nat) (e:Int × Int):∀ {i:Nat},e ∈ doorsTo n a s i ↔ (a.1=s∧e=(a.2,0)) ∨ ∃ j,j < i∧e ∈ doorAt n a s j
 | 0=>by
   unfold doorsTo
   split
   · rename_i h;simp [h]
   · rename_i h;simp [h]
 | i+1=>by
   have ih:=door_mem n a s e (i:=i)
   unfold doorsTo
   rw [List.mem_append,ih]
   constructor
   · rintro ((h | ⟨j,h1,h2⟩) | h)
     · exact .inl h
     · exact .inr ⟨j,by omega,h2⟩
     · exact .inr ⟨i,by omega,h⟩
   · rintro (h | ⟨j,h1,h2⟩)
     · exact .inl (.inl h)
     · rcases Nat.lt_or_ge j i with hj | hj
       · exact .inl (.inr ⟨j,hj,h2⟩)
       · obtain rfl:j=i:=by omega
         exact .inr h2
theorem at_end {n:Net} (h:netP n=0) {i:Nat} {k:Bool} (hi:i < n.sws.length):∃ sw,n.sws[i]? = some sw∧atS n sw (endE n i k).1=(endE n i k).2:=by
 obtain ⟨sw,hs⟩:∃ p,n.sws[i]? = some p:=⟨n.sws[i],by simp⟩
 refine ⟨sw,hs, ?_⟩
 have hz:=sw_zero h sw (List.mem_of_getElem? hs)
 have hne:=hz.2.2.2
 have e:endE n i k=if k then (sw.other,endM n sw) else (sw.line,sw.metre):=by unfold endE;rw [hs]
 rw [e]
 unfold atS
 cases k with
 | false=>simp [beqL_self]
 | true=>simp [beqL_self,hne]
theorem end_at {n:Net} {i:Nat} {sw:Sw} (hs:n.sws[i]? = some sw) {s:List Nat} (h0:0≤atS n sw s):∃ k,endE n i k=(s,atS n sw s):=by
 have e:∀ k,endE n i k=if k then (sw.other,endM n sw) else (sw.line,sw.metre):=fun k=>by unfold endE;rw [hs]
 unfold atS at h0 ⊢
 cases h1:beqL sw.line s with
 | true =>
   have:=(beqL_iff _ _).1 h1
   exact ⟨false,by rw [e];simp [this]⟩
 | false =>
   cases h2:beqL sw.other s with
   | true =>
     have:=(beqL_iff _ _).1 h2
     exact ⟨true,by rw [e];simp [this]⟩
   | false=>rw [h1,h2] at h0;simp at h0
theorem door_cover {n:Net} (h:netP n=0) (h4:n.sws.length≤4) {a:Pt} (ha:lnB n.lines a.1=true) (hRa:inR a.2) (s:List Nat):Cover (endE n) n.sws.length a s (doorsO n a s) where
 sound:=by
  intro x d hx
  rcases (door_mem n a s _).1 hx with ⟨hs,he⟩ | ⟨j,hj,he⟩
  · obtain ⟨e1,e2⟩:=Prod.mk.inj he
    subst e1;subst e2
    exact ⟨[],hs,by rw [lenS_nil,dI_self];exact Int.le_refl _⟩
  · obtain ⟨sw,hs⟩:∃ p,n.sws[j]? = some p:=⟨n.sws[j],by simp⟩
    unfold doorAt at he
    rw [hs] at he
    simp only [] at he
    by_cases h0:0≤atS n sw s
    · rw [if_pos h0] at he
      by_cases h1:0≤dR n a (s,atS n sw s)
      · rw [if_pos h1] at he
        obtain ⟨e1,e2⟩:=Prod.mk.inj (List.mem_singleton.1 he)
        obtain ⟨k,hk⟩:=end_at hs h0
        have hin:=(ends_in h j k hj).2
        rw [hk] at hin
        rcases dR_spec h h4 ha hRa (b:=(s,atS n sw s)) hin with ⟨q,_⟩ | ⟨q,_⟩
        · omega
        · obtain ⟨σ,s1,s2⟩:=q.way
          rw [e1,e2]
          exact ⟨σ,s1,by omega⟩
      · rw [if_neg h1] at he;cases he
    · rw [if_neg h0] at he;cases he
 full:=by
  intro σ m hσ
  rcases List.eq_nil_or_concat σ with rfl | ⟨τ,st,rfl⟩
  · have hs:a.1=s:=hσ
    refine ⟨a.2,0,(door_mem n a s _).2 (.inl ⟨hs,rfl⟩), ?_⟩
    rw [lenS_nil];simp only;omega
  · rw [List.concat_eq_append] at *
    obtain ⟨h1,h2,h3⟩:=(okS_snoc _ _ a τ st _).1 hσ
    obtain ⟨sw,hs,hat⟩:=at_end h (i:=st.1) (k:=!st.2) h2
    simp only at h3
    rw [h3] at hat
    have hin:=(ends_in h st.1 (!st.2) h2).2
    have hw:okS (endE n) n.sws.length a (τ++[st]) (s,(endE n st.1 (!st.2)).2):=(okS_snoc _ _ a τ st _).2 ⟨h1,h2,h3⟩
    rcases dR_spec h h4 ha hRa (b:=(s,atS n sw s)) (by rw [hat];exact hin) with ⟨_,q⟩ | ⟨q,_⟩
    · rw [hat] at q;exact (q _ hw).elim
    · have hd0:=q.nonneg
      have hl:=q.least (τ++[st]) (by rw [hat];exact hw)
      rw [lenS_snoc] at hl ⊢
      simp only at hl ⊢
      rw [hat,dI_self] at hl
      refine ⟨atS n sw s,dR n a (s,atS n sw s),(door_mem n a s _).2 (.inr ⟨st.1,h2, ?_⟩), ?_⟩
      · unfold doorAt
        rw [hs]
        simp only []
        rw [if_pos (by rw [hat];exact hin.1),if_pos hd0]
        exact List.mem_singleton.2 rfl
      · rw [hat] at ⊢;omega
/-! ### The best one at a metre -/
def nearW (m:Int) (e:Int × Int):Int:=wrapq .i64 (Int.add e.2 (absR (wrapq .i64 (Int.sub m e.1))))
def bestD (L:List (Int × Int)) (m:Int):Int:=L.foldl (fun b e=>if b < 0∨nearW m e < b then nearW m e else b) (-1)
noncomputable def distsR (n:Net) (a:Pt) (s:List Nat):List Int:=(List.range (sumW (lnOf n.lines s).ps 0).toNat).map fun (m:Nat)=>bestD (doorsO n a s) (m:Int)
theorem near_small {m:Int} {e:Int × Int} (hm:inR m) (h1:inR e.1) (h2:0≤e.2∧e.2≤4000000):nearW m e=e.2+dI e.1 m:=by
 have h:=absR_len (l:=⟨[],e.1,m⟩) h1 hm
 have e1:absR (wrapq .i64 (Int.sub m e.1))=dI e.1 m:=h.1
 have h3:dI e.1 m≤800000:=h.2.2
 have h4:=dI_nonneg e.1 m
 unfold nearW
 rw [e1]
 have e2:Int.add e.2 (dI e.1 m)=e.2+dI e.1 m:=rfl
 rw [e2];exact wrap_small (by omega) (by omega)
theorem bestD_fold {m:Int}:∀ (L:List (Int × Int)) (b:Int),(∀ e ∈ L,0≤nearW m e)→(0≤b→(L.foldl (fun b e=>if b < 0∨nearW m e < b then nearW m e else b) b≤b∧0≤L.foldl (fun b e=>if b < 0∨nearW m e < b then nearW m e else b) b∧(∀ e ∈ L,L.foldl (fun b e=>if b < 0∨nearW m e < b then nearW m e else b) b≤nearW m e)∧(L.foldl (fun b e=>if b < 0∨nearW m e < b then nearW m e else b) b=b ∨ ∃ e ∈ L,L.foldl (fun b e=>if b < 0∨nearW m e < b then nearW m e else b) b=nearW m e)))
 | [],b,_,h0=>⟨Int.le_refl _,h0,fun e he=>(by cases he),.inl rfl⟩
 | x::r,b,h,h0=>by
   have hx:=h x (by simp)
   have hnb:¬ (b < 0):=by omega
   show (r.foldl _ (if b < 0∨nearW m x < b then nearW m x else b)≤b∧_)
   by_cases c:nearW m x < b
   · rw [List.foldl_cons,if_pos (.inr c)]
     obtain ⟨i1,i2,i3,i4⟩:=bestD_fold r (nearW m x) (fun e he=>h e (by simp [he])) hx
     refine ⟨by omega,i2,fun e he => ?_, ?_⟩
     · rcases List.mem_cons.1 he with rfl | he
       · exact i1
       · exact i3 e he
     · rcases i4 with i4 | ⟨e,he,i4⟩
       · exact .inr ⟨x,by simp,i4⟩
       · exact .inr ⟨e,by simp [he],i4⟩
   · rw [List.foldl_cons,if_neg (fun q=>q.elim hnb c)]
     obtain ⟨i1,i2,i3,i4⟩:=bestD_fold r b (fun e he=>h e (by simp [he])) h0
     refine ⟨i1,i2,fun e he => ?_, ?_⟩
     · rcases List.mem_cons.1 he with rfl | he
       · omega
       · exact i3 e he
     · rcases i4 with i4 | ⟨e,he,i4⟩
       · exact .inl i4
       · exact .inr ⟨e,by simp [he],i4⟩
theorem bestD_spec {L:List (Int × Int)} {m:Int} (h:∀ e ∈ L,0≤nearW m e):(L=[]∧bestD L m = -1)∨(0≤bestD L m∧(∀ e ∈ L,bestD L m≤nearW m e) ∧ ∃ e ∈ L,bestD L m=nearW m e):=by
 cases L with
 | nil=>exact .inl ⟨rfl,rfl⟩
 | cons x r =>
   right
   have hx:=h x (by simp)
   have e:bestD (x::r) m=r.foldl (fun b e=>if b < 0∨nearW m e < b then nearW m e else b) (nearW m x):=rfl
   obtain ⟨i1,i2,i3,i4⟩:=bestD_fold r (nearW m x) (fun e he=>h e (by simp [he])) hx
   rw [e]
   refine ⟨i2,fun e he => ?_, ?_⟩
   · rcases List.mem_cons.1 he with rfl | he
     · exact i1
     · exact i3 e he
   · rcases i4 with i4 | ⟨e,he,i4⟩
     · exact ⟨x,by simp,i4⟩
     · exact ⟨e,by simp [he],i4⟩
theorem door_in {n:Net} (h:netP n=0) (h4:n.sws.length≤4) {a:Pt} (ha:lnB n.lines a.1=true) (hRa:inR a.2) {s:List Nat}:∀ e ∈ doorsO n a s,inR e.1∧0≤e.2∧e.2≤4000000:=by
 intro e he
 rcases (door_mem n a s _).1 he with ⟨hs,rfl⟩ | ⟨j,hj,he⟩
 · exact ⟨hRa,by simp,by simp⟩
 · obtain ⟨sw,hs⟩:∃ p,n.sws[j]? = some p:=⟨n.sws[j],by simp⟩
   unfold doorAt at he
   rw [hs] at he
   simp only [] at he
   by_cases h0:0≤atS n sw s
   · rw [if_pos h0] at he
     by_cases h1:0≤dR n a (s,atS n sw s)
     · rw [if_pos h1] at he
       rw [List.mem_singleton.1 he]
       obtain ⟨k,hk⟩:=end_at hs h0
       have hin:=(ends_in h j k hj).2
       rw [hk] at hin
       rcases dR_spec h h4 ha hRa (b:=(s,atS n sw s)) hin with ⟨q,_⟩ | ⟨_,q⟩
       · omega
       · exact ⟨hin,h1,q⟩
     · rw [if_neg h1] at he;cases he
   · rw [if_neg h0] at he;cases he
theorem bestD_dist {n:Net} (h:netP n=0) (h4:n.sws.length≤4) {a:Pt} (ha:lnB n.lines a.1=true) (hRa:inR a.2) {s:List Nat} {m:Int} (hm:inR m):(bestD (doorsO n a s) m = -1 ∧ ∀ σ,¬ okS (endE n) n.sws.length a σ (s,m))∨(0≤bestD (doorsO n a s) m∧Dist (endE n) n.sws.length a (s,m) (bestD (doorsO n a s) m)):=by
 have hin:=door_in h h4 ha hRa (s:=s)
 have hnear:∀ e ∈ doorsO n a s,nearW m e=e.2+dI e.1 m:=fun e he=>near_small hm (hin e he).1 (hin e he).2
 have hc:=door_cover h h4 ha hRa s
 rcases bestD_spec (L:=doorsO n a s) (m:=m) (fun e he=>by rw [hnear e he];have:=dI_nonneg e.1 m;have:=(hin e he).2.1;omega) with ⟨h1,h2⟩ | ⟨h1,h2,e,he,h3⟩
 · refine .inl ⟨h2,fun σ hσ => ?_⟩
   obtain ⟨x,d,hx,_⟩:=hc.full σ m hσ
   rw [h1] at hx;cases hx
 · refine .inr ⟨h1, ?_⟩
   obtain ⟨σ,s1,s2⟩:=hc.sound e.1 e.2 he
   obtain ⟨d,hd⟩:=dist_of (endE n) n.sws.length _ σ (okS_end (endE n) n.sws.length (b:=(s,e.1)) (c:=(s,m)) rfl s1) (Nat.lt_succ_self _)
   obtain ⟨⟨x,y,hx,hxy⟩,hlow⟩:=hc.dist hd
   have a1:=h2 (x,y) hx
   rw [hnear _ hx] at a1
   have a2:=hlow e.1 e.2 he
   rw [hnear e he] at h3
   simp only at a1
   have:bestD (doorsO n a s) m=d:=by omega
   rw [this];exact hd
end Go.Sim

/-
Distances of a line, by the reference's walk.
-/
-- INJ Leg.row_iff lgs_iff pts_iff ptr_iff
namespace Go.Sim
open Go Go.Proofs
set_option maxRecDepth 100000
set_option maxHeartbeats 64000000
variable {P:FuncId→Option (List AV→Option AV)}
def DS (H:Heap) (x y:AV) (L:List (Int × Int)):Prop:=(L=[]∧x=.ps .nil []∧y=.ps .nil [])∨(L ≠ [] ∧ ∃ j k,x=.ps (.tok j) (intRows (L.map Prod.fst))∧y=.ps (.tok k) (intRows (L.map Prod.snd))∧j ≠ k∧2 < j∧2 < k∧j < H.n∧k < H.n∧H.get j=.row [] 1 3∧H.get k=.row [] 1 3)
theorem foldl_tk {α β:Type} {f:β→α→β} {s:β} {l:List α} {k:Nat} {x:α} (h:l[k]? = some x):(l.take (k+1)).foldl f s=f ((l.take k).foldl f s) x:=by
 rw [List.take_add_one,h,List.foldl_append];rfl
theorem int_nil (lo:Nat) (H:Heap) (x:Int):appP lo H 1 3 (.ps .nil []) [[.int .i64 x]]=some (.ps (.tok H.n) [[.int .i64 x]],H.push (.row [] 1 3)):=app_first (by simp) (by show 1≤1073741824;decide) rfl (by decide)
theorem int_tok (l:List Int) (h0:l ≠ []) (hl:l.length+1≤maxRows) (lo:Nat) (H:Heap) (k:Nat) (hk:H.get k=.row [] 1 3) (hlo:lo≤k) (x:Int):appP lo H 1 3 (.ps (.tok k) (intRows l)) [[.int .i64 x]]=some (.ps (.tok H.n) (intRows (l++[x])),(H.set k .dead).push (.row [] 1 3)):=by
 rw [app_next (by simp) (by simpa [intRows] using hl) rfl (by decide) (intRows_all l) hk hlo (by simpa [intRows] using h0)]
 simp [intRows,AV.strip0]
noncomputable def PPF123:FuncId→Option (List AV→Option AV):=addPrim 150 p150 (addPrim 26 p26 (addPrim 191 p191 (addPrim 156 p156 (addPrim 27 p27 (fun _=>none)))))
theorem primsF123:PrimsOk NC PPF123:=primsOk_add (primsOk_add (primsOk_add (primsOk_add (primsOk_add (primsOk_none) (by kernel_rfl) (by kernel_rfl) pok27) (by kernel_rfl) (by kernel_rfl) pok156) (by kernel_rfl) (by kernel_rfl) pok191) (by kernel_rfl) (by kernel_rfl) pok26) (by kernel_rfl) (by kernel_rfl) pok150
theorem enF123_27:En PPF123 27 p27:=enter_prim (by rfl) (by kernel_rfl)
theorem enF123_156:En PPF123 156 p156:=enter_prim (by rfl) (by kernel_rfl)
theorem enF123_191:En PPF123 191 p191:=enter_prim (by rfl) (by kernel_rfl)
theorem enF123_26:En PPF123 26 p26:=enter_prim (by rfl) (by kernel_rfl)
theorem enF123_150:En PPF123 150 p150:=enter_prim (by rfl) (by kernel_rfl)
attribute [go_sem ↓] enF123_27 enF123_156 enF123_191 enF123_26 enF123_150
theorem c123 (n : Net) (a : Pt) (s : List Nat) (hp : FineN n ∧ lnB n.lines a.1 = true ∧ lnB n.lines s = true ∧ inR a.2 ∧ sumW (lnOf n.lines s).ps 0 ≤ 120) : ∀ lo H, CallOk NC lo 123 [.agg n.cells, .agg (ptRow a), .str s] H (.ps .unk (intRows (distsR n a s))) H := by
 refine contract saneNC primsF123 (fn := Tryz.f123) (by kernel_rfl) Tryz.func123 rfl rfl (by rfl) (by first | rfl | (split <;> first | rfl | (split <;> rfl))) ?_
 obtain ⟨hfine, hLa, hLs, hRa, h120⟩ := hp
 obtain ⟨hz, hfit, h4⟩ := hfine
 obtain ⟨q, l, hq, hql, hmem, hlo⟩ := lnB_some hLs
 have e27 := pe27 (n, s) hfit.1
 have e26 := pe26 l (hfit.2 l hmem)
 have hrl := map_at (f := Ln.row) hql
 have hqlt := (List.getElem?_eq_some_iff.1 hql).1
 have hlen := len_in hz hLs
 unfold distsR
 rw [hlo] at h120 hlen ⊢
 have hdl := doorsTo_len n a s
 have hDO : doorsO n a s = doorsTo n a s n.sws.length := rfl
 simp only [findI, hq, Net.cells, i64] at e27 e26
 have hlr : l.row = [.str l.name, .ps .unk (l.ps.map Pc.row)] := rfl
 rw [W_assoc, W_assoc, W_assoc]
 refine W_cut (fun T Ha M => M = [] ∧ getT T 2 = .str s ∧ getT T 3 = .ptr 0 0 ∧ getT T 4 = .ptr 1 0 ∧ getT T 7 = .ptr 2 0 ∧ 2 < Ha.n ∧ Ha.get 0 = .cells n.cells 26 ∧ Ha.get 1 = .cells (ptRow a) 28 ∧ Ha.get 2 = .cells l.row 56 ∧ ∃ x y, getT T 8 = x ∧ getT T 9 = y ∧ DS Ha x y (doorsTo n a s 0)) ?_ ?_
 · obtain ⟨a1, a2⟩ := a
   simp only [hlr] at hrl
   cases hB : beqL a1 s with
   | false =>
     have hne : ¬ (a1 = s) := fun e => by rw [e, beqL_self] at hB; cases hB
     have hd : doorsTo n (a1, a2) s 0 = [] := if_neg hne
     rw [hd]
     simp only [go_sem, reduceIte, reduceEqDiff, reduceAdd, reduceMul, reduceSub, reduceLeDiff, reduceLT, Nat.reduceBEq, reduceCtorEq, Net.cells, ptRow, e27, List.length_map, hqlt, hrl, hB, hlr]
     exact ⟨_, _, rfl, rfl, .inl ⟨rfl, rfl, rfl⟩⟩
   | true =>
     have heq : a1 = s := (beqL_iff _ _).1 hB
     have hd : doorsTo n (a1, a2) s 0 = [(a2, 0)] := if_pos heq
     rw [hd]
     simp only [go_sem, reduceIte, reduceEqDiff, reduceAdd, reduceMul, reduceSub, reduceLeDiff, reduceLT, Nat.reduceBEq, reduceCtorEq, Net.cells, ptRow, e27, List.length_map, hqlt, hrl, hB, hlr, appO, int_nil]
     exact ⟨_, _, rfl, rfl, .inr ⟨by simp, 3, 4, rfl, rfl, by decide, by decide, by decide, by simp [empty_n], by simp [empty_n], by simp [Heap.get_push, Heap.get_set, empty_n], by simp [Heap.get_push, Heap.get_set, empty_n]⟩⟩
 rintro T Ha M ⟨rfl, t2, t3, t4, t7, hnA, g0, g1, g2, x8, x9, t8, t9, hD⟩
 simp only [go_sem, reduceIte, reduceEqDiff, reduceAdd, reduceMul, reduceSub, reduceLeDiff, reduceLT, Nat.reduceBEq, reduceCtorEq, t2, t3, t4, t7, t8, t9]
 refine W_for (fun i T H M => M = [] ∧ getT T 2 = .str s ∧ getT T 3 = .ptr 0 0 ∧ getT T 4 = .ptr 1 0 ∧ getT T 7 = .ptr 2 0 ∧ getT T 10 = i64 i ∧ 2 < H.n ∧ H.get 0 = .cells n.cells 26 ∧ H.get 1 = .cells (ptRow a) 28 ∧ H.get 2 = .cells l.row 56 ∧ ∃ x y, getT T 8 = x ∧ getT T 9 = y ∧ DS H x y (doorsTo n a s i)) n.sws.length ?_ ?_ ?_
 · simp only [go_sem, reduceIte, reduceEqDiff, reduceAdd, reduceMul, reduceSub, reduceLeDiff, reduceLT, Nat.reduceBEq, reduceCtorEq, t2, t3, t4, t7, t8, t9]
   exact ⟨hnA, g0, g1, g2, _, _, rfl, rfl, hD⟩
 · clear hD t8 t9 t2 t3 t4 t7 g0 g1 g2 hnA
   rintro i T H M hi ⟨rfl, t2, t3, t4, t7, t10, hn2, g0, g1, g2, x8, x9, t8, t9, hD⟩
   obtain ⟨sw, hs⟩ : ∃ p, n.sws[i]? = some p := ⟨n.sws[i], by simp⟩
   have hr := map_at (f := Sw.row) hs
   have hw := wrap_succ hi (by unfold maxRows; omega)
   have e156 := pe156 n sw s ⟨hfit, lks hz sw (List.mem_of_getElem? hs)⟩
   have hDA : doorAt n a s i = if 0 ≤ atS n sw s then (if 0 ≤ dR n a (s, atS n sw s) then [(atS n sw s, dR n a (s, atS n sw s))] else []) else [] := by unfold doorAt; rw [hs]
   have hDT : doorsTo n a s (i + 1) = doorsTo n a s i ++ doorAt n a s i := rfl
   have e191' : 0 ≤ atS n sw s → p191 [.agg n.cells, .agg (ptRow a), .agg [.str s, .int .i64 (atS n sw s)]] = some (.int .i64 (dR n a (s, atS n sw s))) := fun h0 => by
    obtain ⟨k, hk⟩ := end_at hs h0
    have hin := (ends_in hz i k hi).2
    rw [hk] at hin
    exact pe191 n a (s, atS n sw s) ⟨⟨hz, hfit, h4⟩, hLa, hRa, hin⟩
   have hLl := hdl i
   rw [hDT, hDA]
   clear hDA hDT
   generalize doorsTo n a s i = L at hD hLl ⊢
   generalize atS n sw s = m at e156 e191' ⊢
   have g0' := g0
   have g1' := g1
   have hswr : sw.row = [.str sw.name, .str sw.line, i64 sw.metre, .str sw.other, .bool sw.last] := rfl
   obtain ⟨a1, a2⟩ := a
   simp only [hswr, i64] at hr e156
   simp only [Net.cells, ptRow] at e156 e191' g0' g1'
   rcases Classical.propComplete (m < 0) with z | z
   · rw [if_neg (by have := of_eq_true z; omega), List.append_nil]
     simp only [go_sem, reduceIte, reduceEqDiff, reduceAdd, reduceMul, reduceSub, reduceLeDiff, reduceLT, Nat.reduceBEq, reduceCtorEq, t2, t3, t4, t7, t8, t9, t10, List.length_map, Int.ofNat_lt, hi, hr, hw, g0', g1', e156, z]
     exact ⟨hn2, rfl, rfl, g2, _, _, rfl, rfl, hD⟩
   have hm0 : 0 ≤ m := by
    rcases Int.lt_or_le m 0 with q | q
    · rw [eq_true q] at z; simp at z
    · exact q
   have e191 := e191' hm0
   rw [if_pos hm0]
   generalize dR n (a1, a2) (s, m) = d at e191 ⊢
   rcases Classical.propComplete (d < 0) with z2 | z2
   · rw [if_neg (by have := of_eq_true z2; omega), List.append_nil]
     simp only [go_sem, reduceIte, reduceEqDiff, reduceAdd, reduceMul, reduceSub, reduceLeDiff, reduceLT, Nat.reduceBEq, reduceCtorEq, t2, t3, t4, t7, t8, t9, t10, List.length_map, Int.ofNat_lt, hi, hr, hw, g0', g1', e156, z, e191, z2]
     exact ⟨hn2, rfl, rfl, g2, _, _, rfl, rfl, hD⟩
   have hd0 : 0 ≤ d := by
    rcases Int.lt_or_le d 0 with q | q
    · rw [eq_true q] at z2; simp at z2
    · exact q
   rw [if_pos hd0]
   rcases hD with ⟨rfl, rfl, rfl⟩ | ⟨hne, j, k, rfl, rfl, hjk, hj, hk, hj1, hk1, hj2, hk2⟩
   · simp only [go_sem, reduceIte, reduceEqDiff, reduceAdd, reduceMul, reduceSub, reduceLeDiff, reduceLT, Nat.reduceBEq, reduceCtorEq, t2, t3, t4, t7, t8, t9, t10, List.length_map, Int.ofNat_lt, hi, hr, hw, g0', g1', e156, z, e191, z2, appO, int_nil]
     exact ⟨by omega, by rw [if_neg (by omega)]; rfl, by rw [if_neg (by omega), if_neg (by omega)]; rfl, by rw [if_neg (by omega), if_neg (by omega)]; exact g2, _, _, rfl, rfl, .inr ⟨by simp, H.n, H.n + 1, rfl, rfl, by omega, by omega, by omega, by simp; omega, by simp, by rw [Heap.get_push, if_neg (by simp), Heap.get_push, if_pos rfl], by rw [Heap.get_push, if_pos (by simp)]⟩⟩
   · have hf := fun lo H k h1 h2 => int_tok (L.map Prod.fst) (by simpa using hne) (by rw [List.length_map]; unfold maxRows; omega) lo H k h1 h2 m
     have hg := fun lo H k h1 h2 => int_tok (L.map Prod.snd) (by simpa using hne) (by rw [List.length_map]; unfold maxRows; omega) lo H k h1 h2 d
     have y1 : (k = j) = False ∧ (k = H.n) = False := by simp only [eq_iff_iff, iff_false]; omega
     simp only [go_sem, reduceIte, reduceEqDiff, reduceAdd, reduceMul, reduceSub, reduceLeDiff, reduceLT, Nat.reduceBEq, reduceCtorEq, t2, t3, t4, t7, t8, t9, t10, List.length_map, Int.ofNat_lt, hi, hr, hw, g0', g1', e156, z, e191, z2, appO, intRows_all, hf, hg, hj2, hk2, y1]
     exact ⟨by omega, by (repeat rw [if_neg (by omega)]); rfl, by (repeat rw [if_neg (by omega)]); rfl, by (repeat rw [if_neg (by omega)]); exact g2, _, _, rfl, rfl, .inr ⟨by simp, H.n, H.n + 1, by rw [List.map_append]; rfl, by rw [List.map_append]; rfl, by omega, by omega, by omega, by simp; omega, by simp, by rw [Heap.get_push, if_neg (by simp), Heap.get_set, if_neg (by omega), Heap.get_push, if_pos (by simp)], by rw [Heap.get_push, if_pos (by simp)]⟩⟩
 · clear hD t8 t9 t2 t3 t4 t7 g0 g1 g2 hnA
   rintro T H M ⟨rfl, t2, t3, t4, t7, t10, hn2, g0, g1, g2, x8, x9, t8, t9, hD⟩
   have g0' := g0
   simp only [Net.cells] at g0'
   rw [← hDO] at hD
   have hx : ∃ u v, x8 = .ps u (intRows ((doorsO n a s).map Prod.fst)) ∧ x9 = .ps v (intRows ((doorsO n a s).map Prod.snd)) := by
    rcases hD with ⟨h1, rfl, rfl⟩ | ⟨_, j, k, rfl, rfl, _⟩
    · rw [h1]; exact ⟨_, _, rfl, rfl⟩
    · exact ⟨_, _, rfl, rfl⟩
   obtain ⟨u, v, rfl, rfl⟩ := hx
   have hLl := hdl n.sws.length
   rw [← hDO] at hLl
   clear hD
   generalize doorsO n a s = L at t8 t9 hLl ⊢
   simp only [go_sem, reduceIte, reduceEqDiff, reduceAdd, reduceMul, reduceSub, reduceLeDiff, reduceLT, Nat.reduceBEq, reduceCtorEq, t2, t3, t4, t7, t8, t9, t10, g0', List.length_map, Int.ofNat_lt, Nat.lt_irrefl]
   simp only [hlr] at g2
   have hl8 : L.length ≤ maxRows := by unfold maxRows; omega
   refine W_for (fun m T H' M => M = [] ∧ getT T 7 = .ptr 2 0 ∧ getT T 8 = .ps u (intRows (L.map Prod.fst)) ∧ getT T 9 = .ps v (intRows (L.map Prod.snd)) ∧ getT T 14 = i64 m ∧ 2 < H'.n ∧ H'.get 2 = .cells [.str l.name, .ps .unk (l.ps.map Pc.row)] 56 ∧ ∃ t, getT T 13 = .ps t (intRows ((List.range m).map fun (m : Nat) => bestD L (m : Int))) ∧ App H' t (intRows ((List.range m).map fun (m : Nat) => bestD L (m : Int))) 1 3) (sumW l.ps 0).toNat ?_ ?_ ?_
   · simp only [go_sem, reduceIte, reduceEqDiff, reduceAdd, reduceMul, reduceSub, reduceLeDiff, reduceLT, Nat.reduceBEq, reduceCtorEq, t7, t8, t9]
     exact ⟨hn2, g2, .nil, rfl, .inl ⟨rfl, rfl⟩⟩
   · rintro m T H1 M hm ⟨rfl, t7, t8, t9, t14, hn1, g2, t, t13, hA⟩
     have hw := wrap_succ hm (by unfold maxRows; omega)
     have hlt : ((m : Int) < sumW l.ps 0) = True := by simp only [eq_iff_iff, iff_true]; omega
     simp only [hlr] at e26
     simp only [go_sem, reduceIte, reduceEqDiff, reduceAdd, reduceMul, reduceSub, reduceLeDiff, reduceLT, Nat.reduceBEq, reduceCtorEq, t7, t8, t9, t14, t13, g2, e26, hlt]
     refine W_for (fun k T H' M => M = [] ∧ H' = H1 ∧ getT T 7 = .ptr 2 0 ∧ getT T 8 = .ps u (intRows (L.map Prod.fst)) ∧ getT T 9 = .ps v (intRows (L.map Prod.snd)) ∧ getT T 14 = i64 m ∧ getT T 13 = .ps t (intRows ((List.range m).map fun (m : Nat) => bestD L (m : Int))) ∧ getT T 16 = i64 k ∧ ∃ b, getT T 15 = i64 b ∧ (L.take k).foldl (fun b e => if b < 0 ∨ nearW m e < b then nearW m e else b) (-1) = b) L.length ?_ ?_ ?_
     · simp only [go_sem, reduceIte, reduceEqDiff, reduceAdd, reduceMul, reduceSub, reduceLeDiff, reduceLT, Nat.reduceBEq, reduceCtorEq, t7, t8, t9, t14, t13]
       exact ⟨-1, rfl, rfl⟩
     · rintro k T H' M hk ⟨rfl, rfl, t7, t8, t9, t14, t13, t16, b, t15, hb⟩
       obtain ⟨e, he⟩ : ∃ p, L[k]? = some p := ⟨L[k], by simp⟩
       have h1 := intRows_at (map_at (f := Prod.fst) he)
       have h2 := intRows_at (map_at (f := Prod.snd) he)
       have hwk := wrap_succ hk hl8
       have hft := foldl_tk (f := fun (b : Int) (e : Int × Int) => if b < 0 ∨ nearW m e < b then nearW m e else b) (s := -1) he
       rw [hb] at hft
       rw [hft]
       have e150 := pe150 (wrapq .i64 (Int.sub (m : Int) e.1))
       have hnw : wrapq .i64 (Int.add e.2 (absR (wrapq .i64 (Int.sub (m : Int) e.1)))) = nearW m e := rfl
       generalize nearW m e = V at hnw ⊢
       simp only [i64] at h1 h2 e150
       rcases Classical.propComplete (b < 0) with z | z <;> rcases Classical.propComplete (V < b) with z2 | z2 <;> simp only [go_sem, reduceIte, reduceEqDiff, reduceAdd, reduceMul, reduceSub, reduceLeDiff, reduceLT, Nat.reduceBEq, reduceCtorEq, t7, t8, t9, t14, t13, t15, t16, intRows_len, List.length_map, Int.ofNat_lt, hk, h1, h2, e150, hnw, hwk, z, z2, or_true, true_or, or_false, false_or]
       all_goals exact ⟨_, rfl, rfl⟩
     · rintro T H' M ⟨rfl, rfl, t7, t8, t9, t14, t13, t16, b, t15, hb⟩
       rw [List.take_length] at hb
       have hbd : bestD L (m : Int) = b := hb
       have hrs : intRows ((List.range (m + 1)).map fun (m : Nat) => bestD L (m : Int)) = intRows ((List.range m).map fun (m : Nat) => bestD L (m : Int)) ++ [[.int .i64 b]] := by
        rw [List.range_succ, List.map_append, ← hbd]; simp [intRows]
       rw [hrs]
       obtain ⟨t', H2, ha, hB, hn3, hc3, _⟩ := app_any hA (r := [.int .i64 b]) (by simp [intRows]; unfold maxRows; omega) rfl (by decide) (intRows_all _)
       simp only [go_sem, reduceIte, reduceEqDiff, reduceAdd, reduceMul, reduceSub, reduceLeDiff, reduceLT, Nat.reduceBEq, reduceCtorEq, t7, t8, t9, t14, t13, t15, t16, intRows_len, List.length_map, Int.ofNat_lt, Nat.lt_irrefl, appO, intRows_all, ha, hw]
       exact ⟨by omega, hc3 2 _ _ (by omega) g2, t', rfl, hB⟩
   · rintro T H1 M ⟨rfl, t7, t8, t9, t14, hn1, g2, t, t13, hA⟩
     have hge : (((sumW l.ps 0).toNat : Int) < sumW l.ps 0) = False := by simp only [eq_iff_iff, iff_false]; omega
     simp only [hlr] at e26
     simp only [go_sem, reduceIte, reduceEqDiff, reduceAdd, reduceMul, reduceSub, reduceLeDiff, reduceLT, Nat.reduceBEq, reduceCtorEq, t7, t8, t9, t14, t13, g2, e26, hge]
noncomputable def p123:List AV→Option AV:=primOf (α:=(Net) × (Pt) × (List Nat)) (fun x=>[.agg x.1.cells,.agg (ptRow x.2.1),.str x.2.2]) (fun x=>FineN x.1∧lnB x.1.lines x.2.1.1=true∧lnB x.1.lines x.2.2=true∧inR x.2.1.2∧sumW (lnOf x.1.lines x.2.2).ps 0≤120) (fun x=>.ps .unk (intRows (distsR x.1 x.2.1 x.2.2)))
theorem pok123:∀ args v,p123 args=some v → ∀ lo H,CallOk NC lo 123 args H v H:=by
 intro args v h
 obtain ⟨x,rfl,hp,rfl⟩:=primOf_inv h
 exact c123 x.1 x.2.1 x.2.2 hp
theorem pe123 (n:Net) (a:Pt) (s:List Nat) (hp:FineN n∧lnB n.lines a.1=true∧lnB n.lines s=true∧inR a.2∧sumW (lnOf n.lines s).ps 0≤120):p123 [.agg n.cells,.agg (ptRow a),.str s]=some (.ps .unk (intRows (distsR n a s))):=primOf_enc (α:=(Net) × (Pt) × (List Nat)) (enc:=fun x=>[.agg x.1.cells,.agg (ptRow x.2.1),.str x.2.2]) (pre:=fun x=>FineN x.1∧lnB x.1.lines x.2.1.1=true∧lnB x.1.lines x.2.2=true∧inR x.2.1.2∧sumW (lnOf x.1.lines x.2.2).ps 0≤120) (spec:=fun x=>.ps .unk (intRows (distsR x.1 x.2.1 x.2.2))) (by intro x y h;(simp only [List.cons.injEq,AV.agg.injEq,AV.str.injEq,AV.int.injEq,AV.ps.injEq,AV.bool.injEq,Net.cells_iff,Ln.row_iff,Pc.row_iff,Mv.row_iff,lns_iff,pcs_iff,mvs_iff,Leg.row_iff,lgs_iff,pts_iff,ptr_iff,true_and,and_true] at h;first | simpa only [Prod.ext_iff] using h | simpa only [Prod.ext_iff,and_assoc] using h)) (n,a,s) hp
end Go.Sim

/-
The nearest structure, by the program.
-/
-- INJ Leg.row_iff lgs_iff pts_iff ptr_iff
namespace Go.Sim
open Go Go.Proofs
set_option maxRecDepth 100000
set_option maxHeartbeats 64000000
variable {P:FuncId→Option (List AV→Option AV)}
abbrev NSt:Type:=List Nat × Int × Bool
def ndist (s:Stc) (e:Ent):Int:=wrapq .i64 (Int.add e.2 (maxI (maxI 0 (wrapq .i64 (Int.sub s.fr e.1.2))) (wrapq .i64 (Int.add (wrapq .i64 (Int.sub e.1.2 s.till)) 1))))
def stEnt (s:Stc) (st:NSt) (e:Ent):NSt:=if beqL e.1.1 s.line then (if st.2.2=false∨ndist s e < st.2.1 then (s.name,ndist s e,true) else st) else st
def stSt (es:List Ent) (k:List Nat) (st:Bool × NSt) (s:Stc):Bool × NSt:=if beqL s.kind k then (true,es.foldl (stEnt s) st.2) else st
def nearF (es:List Ent) (sts:List Stc) (k:List Nat):Bool × NSt:=sts.foldl (stSt es k) (false,([],0,false))
noncomputable def nearP (n:Net) (a:Pt) (k:List Nat):List AV :=
 if firstI [placesP n [a],whenI (!nameB k) 8]=0 then (if firstI [whenI (!(nearF (entO n a) n.sts k).1) 10,whenI (!(nearF (entO n a) n.sts k).2.2.2) 18]=0 then [.str (nearF (entO n a) n.sts k).2.1,i64 (nearF (entO n a) n.sts k).2.2.1,i64 0] else [.str [],i64 0,i64 (firstI [whenI (!(nearF (entO n a) n.sts k).1) 10,whenI (!(nearF (entO n a) n.sts k).2.2.2) 18])]) else [.str [],i64 0,i64 (firstI [placesP n [a],whenI (!nameB k) 8])]
theorem nearP_pure (n:Net) (a:Pt) (k:List Nat):(AV.tup (nearP n a k)).pure=true:=by
 unfold nearP
 repeat' split
 all_goals rfl
theorem foldl_take {α β:Type} {f:β→α→β} {s:β} {l:List α} {k:Nat} {x:α} (h:l[k]? = some x):(l.take (k+1)).foldl f s=f ((l.take k).foldl f s) x:=by
 rw [List.take_add_one,h,List.foldl_append];rfl
noncomputable def PPF33:FuncId→Option (List AV→Option AV):=addPrim 121 p121 (addPrim 116 p116 (addPrim 111 p111 (addPrim 120 p120 (addPrim 114 p114 (fun _=>none)))))
theorem primsF33:PrimsOk NC PPF33:=primsOk_add (primsOk_add (primsOk_add (primsOk_add (primsOk_add (primsOk_none) (by kernel_rfl) (by kernel_rfl) pok114) (by kernel_rfl) (by kernel_rfl) pok120) (by kernel_rfl) (by kernel_rfl) pok111) (by kernel_rfl) (by kernel_rfl) pok116) (by kernel_rfl) (by kernel_rfl) pok121
theorem enF33_114:En PPF33 114 p114:=enter_prim (by rfl) (by kernel_rfl)
theorem enF33_120:En PPF33 120 p120:=enter_prim (by rfl) (by kernel_rfl)
theorem enF33_111:En PPF33 111 p111:=enter_prim (by rfl) (by kernel_rfl)
theorem enF33_116:En PPF33 116 p116:=enter_prim (by rfl) (by kernel_rfl)
theorem enF33_121:En PPF33 121 p121:=enter_prim (by rfl) (by kernel_rfl)
attribute [go_sem ↓] enF33_114 enF33_120 enF33_111 enF33_116 enF33_121
theorem c33 (n : Net) (a : Pt) (k : List Nat) (hp : n.Ok ∧ k.length ≤ maxRows) : ∀ lo H, CallOk NC lo 33 [.agg n.cells, .agg (ptRow a), .str k] H (.tup (nearP n a k)) H := by
 refine contract saneNC primsF33 (fn := Tryz.f33) (by kernel_rfl) Tryz.func33 rfl rfl (by rfl) (nearP_pure n a k) ?_
 obtain ⟨hn, hk⟩ := hp
 have e114 := pe114 n [a] ⟨hn, by unfold maxRows; simp⟩
 have e120 := e120 k hk
 have e116' : placesP n [a] = 0 → p116 [.agg n.cells, .agg (ptRow a)] = some (.ps .unk ((entO n a).map entRow)) ∧ (entO n a).length ≤ maxRows := fun h => by
  have hz := places_zero h
  have hA := place_in hz.1 (hz.2 a (by simp))
  exact ⟨pe116 n a ⟨hn, hz.1, hA.1, hA.2⟩, by have := entTo_len n a n.sws.length; have := net_sws hz.1; show (entTo n a n.sws.length).length ≤ _; unfold maxRows; omega⟩
 unfold nearP
 generalize entO n a = es at e116' ⊢
 obtain ⟨a1, a2⟩ := a
 simp only [Net.cells, i64, ptRow, List.map_cons, List.map_nil] at e114 e116'
 generalize placesP n [(a1, a2)] = E1 at e114 e116' ⊢
 generalize whenI (!nameB k) 8 = E2 at e120 ⊢
 rcases Classical.propComplete (firstI [E1, E2] = 0) with z | z
 case inr => 
  simp only [go_sem, reduceIte, reduceEqDiff, reduceAdd, reduceMul, reduceSub, reduceLeDiff, reduceLT, Nat.reduceBEq, reduceCtorEq, Net.cells, ptRow, e114, e120, e111_2, z]
 have hz := first2 _ _ (of_eq_true z)
 obtain ⟨e116, hes⟩ := e116' hz.1
 clear e116'
 rw [if_pos (of_eq_true z)]
 simp only [go_sem, reduceIte, reduceEqDiff, reduceAdd, reduceMul, reduceSub, reduceLeDiff, reduceLT, Nat.reduceBEq, reduceCtorEq, Net.cells, ptRow, e114, e120, e111_2, z, e116]
 refine W_for (fun i T H M => M = [] ∧ getT T 2 = .str k ∧ getT T 10 = .ps .unk (es.map entRow) ∧ getT T 36 = .ps .unk (n.sts.map Stc.row) ∧ getT T 37 = i64 (n.sts.length : Nat) ∧ getT T 38 = i64 i ∧ ∃ kn nm ls fd, getT T 11 = .str nm ∧ getT T 12 = i64 ls ∧ getT T 13 = .bool kn ∧ getT T 14 = .bool fd ∧ (n.sts.take i).foldl (stSt es k) (false, ([], 0, false)) = (kn, nm, ls, fd)) n.sts.length ?_ ?_ ?_
 · simp only [go_sem, reduceIte, reduceEqDiff, reduceAdd, reduceMul, reduceSub, reduceLeDiff, reduceLT, Nat.reduceBEq, reduceCtorEq, List.length_map]
   exact ⟨false, [], 0, false, rfl, rfl, rfl, rfl, rfl⟩
 · rintro i T H M hi ⟨rfl, t2, t10, t36, t37, t38, kn, nm, ls, fd, t11, t12, t13, t14, hf⟩
   obtain ⟨s, hs⟩ : ∃ p, n.sts[i]? = some p := ⟨n.sts[i], by simp⟩
   have hr := map_at (f := Stc.row) hs
   have hw := wrap_succ hi hn.sts
   have hft := foldl_take (f := stSt es k) (s := (false, ([], 0, false))) hs
   rw [hf] at hft
   rw [hft]
   clear hf hft
   have hS : stSt es k (kn, nm, ls, fd) s = if beqL s.kind k then (true, es.foldl (stEnt s) (nm, ls, fd)) else (kn, nm, ls, fd) := rfl
   rw [hS]
   clear hS
   have hrow : s.row = [.str s.name, .str s.kind, .str s.line, i64 s.fr, i64 s.till] := rfl
   simp only [hrow, i64] at hr
   cases hB : beqL s.kind k with
   | false =>
     simp only [go_sem, reduceIte, reduceEqDiff, reduceAdd, reduceMul, reduceSub, reduceLeDiff, reduceLT, Nat.reduceBEq, reduceCtorEq, t2, t10, t36, t37, t38, t11, t12, t13, t14, hi, hr, hw, hB]
     exact ⟨kn, nm, ls, fd, rfl, rfl, rfl, rfl, rfl⟩
   | true =>
     simp only [go_sem, reduceIte, reduceEqDiff, reduceAdd, reduceMul, reduceSub, reduceLeDiff, reduceLT, Nat.reduceBEq, reduceCtorEq, t2, t10, t36, t37, t38, t11, t12, t13, t14, hi, hr, hw, hB]
     refine W_for (fun j T H' M => M = [] ∧ getT T 2 = .str k ∧ getT T 10 = .ps .unk (es.map entRow) ∧ getT T 36 = .ps .unk (n.sts.map Stc.row) ∧ getT T 37 = i64 (n.sts.length : Nat) ∧ getT T 38 = i64 i ∧ getT T 13 = .bool true ∧ getT T 16 = .ptr H.n 0 ∧ getT T 46 = .ps .unk (es.map entRow) ∧ getT T 47 = i64 (es.length : Nat) ∧ getT T 48 = i64 j ∧ H.n < H'.n ∧ H'.get H.n = .cells [.str s.name, .str s.kind, .str s.line, .int .i64 s.fr, .int .i64 s.till] 202 ∧ ∃ nm' ls' fd', getT T 11 = .str nm' ∧ getT T 12 = i64 ls' ∧ getT T 14 = .bool fd' ∧ (es.take j).foldl (stEnt s) (nm, ls, fd) = (nm', ls', fd')) es.length ?_ ?_ ?_
     · simp only [go_sem, reduceIte, reduceEqDiff, reduceAdd, reduceMul, reduceSub, reduceLeDiff, reduceLT, Nat.reduceBEq, reduceCtorEq, t2, t10, t36, t37, t38, t11, t12, t13, t14, List.length_map]
       exact ⟨nm, ls, fd, rfl, rfl, rfl, rfl⟩
     · rintro j T H' M hj ⟨rfl, t2, t10, t36, t37, t38, t13, t16, t46, t47, t48, hn', hg, nm', ls', fd', t11, t12, t14, hf⟩
       obtain ⟨e, he⟩ : ∃ p, es[j]? = some p := ⟨es[j], by simp⟩
       have hre := map_at (f := entRow) he
       have hwj := wrap_succ hj hes
       have hft := foldl_take (f := stEnt s) (s := (nm, ls, fd)) he
       rw [hf] at hft
       rw [hft]
       clear hf hft
       have b1 : (H.n = H'.n) = False := by simp only [eq_iff_iff, iff_false]; omega
       have hE : stEnt s (nm', ls', fd') e = if beqL e.1.1 s.line then (if fd' = false ∨ ndist s e < ls' then (s.name, ndist s e, true) else (nm', ls', fd')) else (nm', ls', fd') := rfl
       rw [hE]
       clear hE
       have hnd : wrapq .i64 (Int.add e.2 (maxI (maxI 0 (wrapq .i64 (Int.sub s.fr e.1.2))) (wrapq .i64 (Int.add (wrapq .i64 (Int.sub e.1.2 s.till)) 1)))) = ndist s e := rfl
       generalize ndist s e = D at hnd ⊢
       obtain ⟨⟨e1, e2⟩, e3⟩ := e
       simp only [entRow, i64] at hre
       simp only at hnd
       cases hL : beqL e1 s.line with
       | false =>
         simp only [go_sem, reduceIte, reduceEqDiff, reduceAdd, reduceMul, reduceSub, reduceLeDiff, reduceLT, Nat.reduceBEq, reduceCtorEq, t2, t10, t36, t37, t38, t11, t12, t13, t14, t16, t46, t47, t48, hj, hre, hwj, hg, b1, hL]
         exact ⟨by omega, nm', ls', fd', rfl, rfl, rfl, rfl⟩
       | true =>
         cases fd' with
         | false =>
           simp only [go_sem, reduceIte, reduceEqDiff, reduceAdd, reduceMul, reduceSub, reduceLeDiff, reduceLT, Nat.reduceBEq, reduceCtorEq, t2, t10, t36, t37, t38, t11, t12, t13, t14, t16, t46, t47, t48, hj, hre, hwj, hg, b1, hL, hnd]
           exact ⟨by omega, s.name, D, true, rfl, rfl, rfl, rfl⟩
         | true =>
           rcases Classical.propComplete (D < ls') with q | q
           · simp only [go_sem, reduceIte, reduceEqDiff, reduceAdd, reduceMul, reduceSub, reduceLeDiff, reduceLT, Nat.reduceBEq, reduceCtorEq, t2, t10, t36, t37, t38, t11, t12, t13, t14, t16, t46, t47, t48, hj, hre, hwj, hg, b1, hL, hnd, q]
             exact ⟨by omega, s.name, D, true, rfl, rfl, rfl, rfl⟩
           · simp only [go_sem, reduceIte, reduceEqDiff, reduceAdd, reduceMul, reduceSub, reduceLeDiff, reduceLT, Nat.reduceBEq, reduceCtorEq, t2, t10, t36, t37, t38, t11, t12, t13, t14, t16, t46, t47, t48, hj, hre, hwj, hg, b1, hL, hnd, q]
             exact ⟨by omega, nm', ls', true, rfl, rfl, rfl, rfl⟩
     · rintro T H' M ⟨rfl, t2, t10, t36, t37, t38, t13, t16, t46, t47, t48, hn', hg, nm', ls', fd', t11, t12, t14, hf⟩
       rw [List.take_length] at hf
       rw [hf]
       simp only [go_sem, reduceIte, reduceEqDiff, reduceAdd, reduceMul, reduceSub, reduceLeDiff, reduceLT, Nat.reduceBEq, reduceCtorEq, t2, t10, t36, t37, t38, t11, t12, t13, t14, t16, t46, t47, t48, Nat.lt_irrefl, hw]
       exact ⟨true, nm', ls', fd', rfl, rfl, rfl, rfl, rfl⟩
 · rintro T H M ⟨rfl, t2, t10, t36, t37, t38, kn, nm, ls, fd, t11, t12, t13, t14, hf⟩
   rw [List.take_length] at hf
   have hN : nearF es n.sts k = (kn, nm, ls, fd) := hf
   rw [hN]
   clear hN hf
   have fa : firstI [whenI true 10, whenI true 18] = 10 := rfl
   have fb : firstI [whenI true 10, whenI false 18] = 10 := rfl
   have fc : firstI [whenI false 10, whenI true 18] = 18 := rfl
   have fd0 : firstI [whenI false 10, whenI false 18] = 0 := rfl
   have z10 : ((10 : Int) = 0) = False := by simp
   have z18 : ((18 : Int) = 0) = False := by simp
   cases kn <;> cases fd <;> simp only [go_sem, reduceIte, reduceEqDiff, reduceAdd, reduceMul, reduceSub, reduceLeDiff, reduceLT, Nat.reduceBEq, reduceCtorEq, t2, t10, t36, t37, t38, t11, t12, t13, t14, Nat.lt_irrefl, e121, e111_2, fa, fb, fc, fd0, z10, z18]
noncomputable def p33:List AV→Option AV:=primOf (α:=(Net) × (Pt) × (List Nat)) (fun x=>[.agg x.1.cells,.agg (ptRow x.2.1),.str x.2.2]) (fun x=>x.1.Ok∧x.2.2.length≤maxRows) (fun x=>.tup (nearP x.1 x.2.1 x.2.2))
theorem pok33:∀ args v,p33 args=some v → ∀ lo H,CallOk NC lo 33 args H v H:=by
 intro args v h
 obtain ⟨x,rfl,hp,rfl⟩:=primOf_inv h
 exact c33 x.1 x.2.1 x.2.2 hp
theorem pe33 (n:Net) (a:Pt) (k:List Nat) (hp:n.Ok∧k.length≤maxRows):p33 [.agg n.cells,.agg (ptRow a),.str k]=some (.tup (nearP n a k)):=primOf_enc (α:=(Net) × (Pt) × (List Nat)) (enc:=fun x=>[.agg x.1.cells,.agg (ptRow x.2.1),.str x.2.2]) (pre:=fun x=>x.1.Ok∧x.2.2.length≤maxRows) (spec:=fun x=>.tup (nearP x.1 x.2.1 x.2.2)) (by intro x y h;(simp only [List.cons.injEq,AV.agg.injEq,AV.str.injEq,AV.int.injEq,AV.ps.injEq,AV.bool.injEq,Net.cells_iff,Ln.row_iff,Pc.row_iff,Mv.row_iff,lns_iff,pcs_iff,mvs_iff,Leg.row_iff,lgs_iff,pts_iff,ptr_iff,true_and,and_true] at h;first | simpa only [Prod.ext_iff] using h | simpa only [Prod.ext_iff,and_assoc] using h)) (n,a,k) hp
end Go.Sim

/-
What is reached, and what is nearest: both ways of asking are one.
-/
namespace Go.Sim
open Go Go.Proofs
set_option maxRecDepth 100000
set_option maxHeartbeats 4000000
/-! ### Ends lie on their lines -/
theorem has_on {n:Net} {s:List Nat} {m:Int} (hm:hasB (lnOf n.lines s) m=true):0≤m∧m < sumW (lnOf n.lines s).ps 0:=by
 unfold hasB at hm
 simp only [Bool.and_eq_true,Bool.not_eq_true',decide_eq_false_iff_not,decide_eq_true_eq] at hm
 omega
theorem place_on {n:Net} {s:List Nat} {m:Int} (hp:placeP n s m=0):0≤m∧m < sumW (lnOf n.lines s).ps 0:=by
 unfold placeP at hp
 have z2:=when_zero (by decide) (firstI_mem0 hp _ (List.mem_cons_of_mem _ (List.mem_cons_self ..)))
 simp only [Bool.not_eq_false'] at z2
 exact has_on z2
theorem ends_on {n:Net} (h:netP n=0):∀ i k,i < n.sws.length→0≤(endE n i k).2∧(endE n i k).2 < sumW (lnOf n.lines (endE n i k).1).ps 0:=by
 intro i k hi
 obtain ⟨z1,z2,z3,_⟩:=sw_zero h _ (List.getElem_mem hi)
 have e:endE n i k=if k then (n.sws[i].other,endM n n.sws[i]) else (n.sws[i].line,n.sws[i].metre):=by
  unfold endE
  rw [List.getElem?_eq_getElem hi]
 rw [e]
 cases k with
 | false=>exact has_on z2
 | true =>
   have hl:=len_in h z3
   show 0≤endM n n.sws[i]∧endM n n.sws[i] < sumW (lnOf n.lines n.sws[i].other).ps 0
   unfold endM
   split
   · have e1:Int.sub (sumW (lnOf n.lines n.sws[i].other).ps 0) 1=sumW (lnOf n.lines n.sws[i].other).ps 0 - 1:=rfl
     have e2:wrapq .i64 (Int.sub (sumW (lnOf n.lines n.sws[i].other).ps 0) 1)=sumW (lnOf n.lines n.sws[i].other).ps 0 - 1:=wrapq_i64 (by rw [e1];omega) (by rw [e1];omega)
     rw [e2];omega
   · omega
theorem ent_on {n:Net} (h:netP n=0) (h4:n.sws.length≤4) {a:Pt} (ha:lnB n.lines a.1=true) (hRa:inR a.2) (hon:0≤a.2∧a.2 < sumW (lnOf n.lines a.1).ps 0):∀ e ∈ entO n a,(0≤e.1.2∧e.1.2 < sumW (lnOf n.lines e.1.1).ps 0)∧inR e.1.2∧0≤e.2∧e.2≤4000000:=by
 intro e he
 rcases (ent_mem n a _).1 he with rfl | ⟨j,k,hj,he⟩
 · exact ⟨hon,hRa,by simp,by simp⟩
 · unfold entAt at he
   cases ho:bestO n a (endE n j k) with
   | none=>rw [ho] at he;cases he
   | some w =>
     rw [ho] at he
     rw [List.mem_singleton.1 he]
     obtain ⟨σ,s1,s2,s3⟩:=bestO_in h hRa (ends_in h j k hj).2 ho
     have hl:=bestO_len ho
     have:=wSum_small s3
     have:=wSum_nonneg w
     exact ⟨ends_on h j (!k) hj,(ends_in h j (!k) hj).2,by show 0≤wSum w;omega,by show wSum w≤4000000;omega⟩
/-! ### What is reached -/
theorem dI_le {x m d:Int}:dI x m≤d ↔ x - d≤m∧m≤x+d:=by unfold dI;split<;>omega
theorem spanE_mem {len most:Int} {s:List Nat} {e:Ent} (hlen:1≤len∧len≤800000) (hm:0≤most∧most≤100000000) (he:inR e.1.2∧0≤e.2∧e.2≤4000000) (hon:e.1.1=s→0≤e.1.2∧e.1.2 < len):(∀ p ∈ spanE len most s e, -1 < p.1∧p.1 < p.2) ∧ ∀ x,memS (spanE len most s e) x ↔ (0≤x∧x < len)∧e.1.1=s∧e.2+dI e.1.2 x≤most:=by
 obtain ⟨⟨r1,r2⟩,d0,d1⟩:=he
 have eL:leftW most e=most - e.2:=by
  have:Int.sub most e.2=most - e.2:=rfl
  unfold leftW
  rw [this];exact wrap_small (by omega) (by omega)
 unfold spanE
 rw [eL]
 by_cases hs:e.1.1=s
 · have hb:beqL e.1.1 s=true:=(beqL_iff _ _).2 hs
   have ho:=hon hs
   rw [hb]
   by_cases hl:most - e.2 < 0
   · rw [if_neg (by simp [hl])]
     refine ⟨fun p hp=>(by cases hp),fun x=>⟨fun k=>absurd k (memS_nil x),fun k => ?_⟩⟩
     have:=dI_nonneg e.1.2 x
     omega
   · rw [if_pos (by simp [hl])]
     have e1:Int.sub e.1.2 (most - e.2)=e.1.2 - (most - e.2):=rfl
     have e2:Int.add e.1.2 (most - e.2)=e.1.2+(most - e.2):=rfl
     rw [e1,wrap_small (x:=e.1.2 - (most - e.2)) (by omega) (by omega),e2,wrap_small (x:=e.1.2+(most - e.2)) (by omega) (by omega)]
     have e3:Int.add (e.1.2+(most - e.2)) 1=e.1.2+(most - e.2)+1:=rfl
     rw [e3,wrap_small (x:=e.1.2+(most - e.2)+1) (by omega) (by omega)]
     have h1:maxI 0 (e.1.2 - (most - e.2))≤e.1.2 ∧ -1 < maxI 0 (e.1.2 - (most - e.2)):=by unfold maxI;split<;>omega
     have h2:e.1.2 < minI len (e.1.2+(most - e.2)+1):=by unfold minI;split<;>omega
     refine ⟨fun p hp => ?_,fun x => ?_⟩
     · rw [List.mem_singleton.1 hp]
       simp only
       omega
     · rw [memS_cons]
       simp only
       have hx:(e.2+dI e.1.2 x≤most) ↔ (e.1.2 - (most - e.2)≤x∧x≤e.1.2+(most - e.2)):=by
        have:=dI_le (x:=e.1.2) (m:=x) (d:=most - e.2)
        omega
       have n0:=memS_nil x
       constructor
       · rintro (k | k)
         · refine ⟨⟨?_, ?_⟩,hs,hx.2 ⟨?_, ?_⟩⟩
           all_goals (revert k;unfold maxI minI;(repeat' split)<;>omega)
         · exact absurd k n0
       · rintro ⟨k1,_,k2⟩
         have:=hx.1 k2
         left
         unfold maxI minI
         (repeat' split)<;>omega
 · have hb:beqL e.1.1 s=false:=by
    cases hc:beqL e.1.1 s with
    | false=>rfl
    | true=>exact absurd ((beqL_iff _ _).1 hc) hs
   rw [hb]
   simp only [Bool.false_and,Bool.false_eq_true,if_false]
   exact ⟨fun p hp=>(by cases hp),fun x=>⟨fun k=>absurd k (memS_nil x),fun k=>absurd k.2.1 hs⟩⟩
theorem memS_flat {α:Type} {f:α→List Spn} {x:Int}:∀ {l:List α},memS (l.flatMap f) x ↔ ∃ e ∈ l,memS (f e) x
 | []=>⟨fun k=>absurd k (memS_nil x),fun ⟨e,he,_⟩=>by cases he⟩
 | a::r=>by
   rw [List.flatMap_cons,memS_append,memS_flat]
   constructor
   · rintro (h | ⟨e,he,h⟩)
     · exact ⟨a,by simp,h⟩
     · exact ⟨e,by simp [he],h⟩
   · rintro ⟨e,he,h⟩
     rcases List.mem_cons.1 he with rfl | he
     · exact .inl h
     · exact .inr ⟨e,he,h⟩
theorem spLt_iff (a b:Spn):spLt a b=true ↔ a.1 < b.1:=by
 unfold spLt
 rw [decide_eq_true_eq,cmpI_lt]
theorem sorted_of:∀ {l:List Spn},l.Pairwise (fun a b=>spLt b a=false)→sortedS l
 | [],_=>trivial
 | [_],_=>trivial
 | a::b::r,h=>by
   have hc:=List.pairwise_cons.1 h
   refine ⟨?_,sorted_of hc.2⟩
   have h1:=hc.1 b (by simp)
   rcases Int.lt_or_le b.1 a.1 with k | k
   · have:=(spLt_iff b a).2 k
     rw [this] at h1;cases h1
   · exact k
theorem spans_sorted (l:List Spn):sortedS (isort spLt l):=by
 refine sorted_of (isort_sorted spLt (fun a b h => ?_) (fun a b c h1 h2 => ?_) l)
 · have:=(spLt_iff a b).1 h
   cases hb:spLt b a with
   | false=>rfl
   | true=>have:=(spLt_iff b a).1 hb;omega
 · cases hb:spLt c a with
   | false=>rfl
   | true =>
     have h3:=(spLt_iff c a).1 hb
     rcases Int.lt_or_le b.1 a.1 with k | k
     · have:=(spLt_iff b a).2 k
       rw [this] at h1;cases h1
     · have:=(spLt_iff c b).2 (by omega)
       rw [this] at h2;cases h2
theorem merge_runs {len most:Int} {s:List Nat} {es:List Ent} {f:Nat→Bool} (hlen:1≤len∧len≤800000) (hm:0≤most∧most≤100000000) (he:∀ e ∈ es,(inR e.1.2∧0≤e.2∧e.2≤4000000)∧(e.1.1=s→0≤e.1.2∧e.1.2 < len)) (hf:∀ x:Int,0≤x→x < len→(f x.toNat=true ↔ ∃ e ∈ es,e.1.1=s∧e.2+dI e.1.2 x≤most)):mergeE len most s es=runsR f len.toNat:=by
 have hsp:=fun e h=>spanE_mem (most:=most) (s:=s) hlen hm (he e h).1 (he e h).2
 have hmem:∀ p,p ∈ isort spLt (spansE len most s es) ↔ p ∈ spansE len most s es:=fun p=>(isort_perm spLt _).mem_iff
 have hgood:∀ p ∈ isort spLt (spansE len most s es), -1 < p.1∧p.1 < p.2:=by
  intro p hp
  obtain ⟨e,h1,h2⟩:=List.mem_flatMap.1 ((hmem p).1 hp)
  exact (hsp e h1).1 p h2
 obtain ⟨j1,j2⟩:=joins_ok (lo:=-1) (l:=isort spLt (spansE len most s es)) (acc:=[]) trivial (spans_sorted _) hgood (fun t ht=>by cases ht)
 obtain ⟨r1,r2,_⟩:=runs_ok f len.toNat
 refine canon j1 r1 fun x => ?_
 have hj:=j2 x
 have hr:=r2 x
 show memS (List.foldl joinP [] (isort spLt (spansE len most s es))) x ↔ memS (runsR f len.toNat) x
 rw [hj,hr]
 have e1:memS (isort spLt (spansE len most s es)) x ↔ memS (spansE len most s es) x:=by
  constructor
  · rintro ⟨p,hp,h⟩;exact ⟨p,(hmem p).1 hp,h⟩
  · rintro ⟨p,hp,h⟩;exact ⟨p,(hmem p).2 hp,h⟩
 rw [e1]
 unfold spansE
 rw [memS_flat]
 constructor
 · rintro (k | ⟨e,h1,h2⟩)
   · exact absurd k (memS_nil x)
   · obtain ⟨⟨q1,q2⟩,q3,q4⟩:=((hsp e h1).2 x).1 h2
     exact ⟨q1,by omega,(hf x q1 q2).2 ⟨e,h1,q3,q4⟩⟩
 · rintro ⟨q1,q2,q3⟩
   have q2:x < len:=by omega
   obtain ⟨e,h1,h2,h3⟩:=(hf x q1 q2).1 q3
   exact .inr ⟨e,h1,((hsp e h1).2 x).2 ⟨⟨q1,q2⟩,h2,h3⟩⟩
noncomputable def okR (n:Net) (a:Pt) (most:Int) (s:List Nat) (m:Nat):Bool:=!decide (bestD (doorsO n a s) m < 0) && !decide (most < bestD (doorsO n a s) m)
noncomputable def strsR (n:Net) (a:Pt) (most:Int) (l:Ln):List Str:=(runsR (okR n a most l.name) (sumW l.ps 0).toNat).map fun p=>(l.name,p)
noncomputable def reachR (n:Net) (a:Pt) (most:Int):List Str:=n.lines.flatMap (strsR n a most)
theorem line_self {n:Net} (h:netP n=0) {l:Ln} (hl:l ∈ n.lines):lnB n.lines l.name=true∧lnOf n.lines l.name=l:=by
 obtain ⟨i,hi⟩:=List.getElem?_of_mem hl
 have hf:=line_found (by rw [← net_same];exact h) hi
 unfold lnB lnOf
 rw [hf]
 exact ⟨rfl,by simp [hi]⟩
theorem okR_iff {n:Net} (h:netP n=0) (h4:n.sws.length≤4) {a:Pt} (ha:lnB n.lines a.1=true) (hRa:inR a.2) {most:Int} {s:List Nat} {x:Int} (hx:inR x):okR n a most s x.toNat=true ↔ ∃ e ∈ entO n a,e.1.1=s∧e.2+dI e.1.2 x≤most:=by
 have e0:((x.toNat:Nat):Int)=x:=Int.toNat_of_nonneg hx.1
 have hw:=(ent_cover h ha s).within x most
 have hL:(∃ y d,(y,d) ∈ lineOf s (entO n a)∧d+dI y x≤most) ↔ ∃ e ∈ entO n a,e.1.1=s∧e.2+dI e.1.2 x≤most:=by
  constructor
  · rintro ⟨y,d,h1,h2⟩
    exact ⟨((s,y),d),mem_lineOf.1 h1,rfl,h2⟩
  · rintro ⟨⟨⟨t,y⟩,d⟩,h1,h2,h3⟩
    simp only at h2;subst h2
    exact ⟨y,d,mem_lineOf.2 h1,h3⟩
 rw [← hL,hw]
 unfold okR
 rw [e0]
 simp only [Bool.and_eq_true,Bool.not_eq_true',decide_eq_false_iff_not]
 rcases bestD_dist h h4 ha hRa (s:=s) hx with ⟨q1,q2⟩ | ⟨q1,q2⟩
 · constructor
   · rintro ⟨k,_⟩;omega
   · rintro ⟨d,hd,_⟩
     obtain ⟨σ,s1,_⟩:=hd.way
     exact (q2 σ s1).elim
 · constructor
   · rintro ⟨_,k⟩;exact ⟨_,q2,by omega⟩
   · rintro ⟨d,hd,k⟩
     have:=hd.uniq q2
     omega
theorem reach_same {n:Net} (h:netP n=0) (h4:n.sws.length≤4) {a:Pt} (ha:lnB n.lines a.1=true) (hRa:inR a.2) (hon:0≤a.2∧a.2 < sumW (lnOf n.lines a.1).ps 0) {most:Int} (hm:0≤most∧most≤100000000):reachE most (entO n a) n.lines=reachR n a most:=by
 unfold reachE reachR
 have key:∀ l ∈ n.lines,strsE most (entO n a) l=strsR n a most l:=by
  intro l hl
  obtain ⟨hb,hlo⟩:=line_self h hl
  have hlen:=len_in h hb
  rw [hlo] at hlen
  have hent:=ent_on h h4 ha hRa hon
  unfold strsE strsR
  rw [merge_runs (f:=okR n a most l.name) hlen hm (fun e he=>⟨(hent e he).2,fun q=>by have:=(hent e he).1;rw [q,hlo] at this;exact this⟩) fun x h0 h1=>okR_iff h h4 ha hRa (show inR x from ⟨h0,by omega⟩)]
 have:∀ (ls:List Ln),(∀ l ∈ ls,strsE most (entO n a) l=strsR n a most l)→ls.flatMap (strsE most (entO n a))=ls.flatMap (strsR n a most):=by
  intro ls
  induction ls with
  | nil=>intro _;rfl
  | cons l r ih =>
    intro hk
    rw [List.flatMap_cons,List.flatMap_cons,hk l (by simp),ih fun q hq=>hk q (by simp [hq])]
 exact this _ key
/-! ### The nearest -/
abbrev OSt:Type:=Option (List Nat × Int)
def minSt (nm:List Nat) (st:OSt) (v:Int):OSt:=match st with
 | none=>some (nm,v)
 | some (q,b)=>if v < b then some (nm,v) else some (q,b)
theorem minSt_twice (nm:List Nat) (st:OSt) (v w:Int):minSt nm (minSt nm st v) w=minSt nm st (if w < v then w else v):=by
 cases st with
 | none =>
   show (if w < v then some (nm,w) else some (nm,v))=some (nm,if w < v then w else v)
   split<;>rfl
 | some p =>
   obtain ⟨q,b⟩:=p
   show minSt nm (if v < b then some (nm,v) else some (q,b)) w=if (if w < v then w else v) < b then some (nm,if w < v then w else v) else some (q,b)
   by_cases h1:v < b
   · rw [if_pos h1]
     show (if w < v then some (nm,w) else some (nm,v))=_
     by_cases h2:w < v
     · rw [if_pos h2,if_pos h2,if_pos (by omega)]
     · rw [if_neg h2,if_neg h2,if_pos h1]
   · rw [if_neg h1]
     show (if w < b then some (nm,w) else some (q,b))=_
     by_cases h2:w < v
     · rw [if_pos h2]
     · rw [if_neg h2,if_neg h1,if_neg (by omega)]
theorem min_fold {nm:List Nat}:∀ (l:List Int) (st:OSt) (v:Int),∃ μ,(μ=v∨μ ∈ l)∧μ≤v∧(∀ x ∈ l,μ≤x)∧l.foldl (minSt nm) (minSt nm st v)=minSt nm st μ
 | [],st,v=>⟨v,.inl rfl,Int.le_refl _,fun x hx=>(by cases hx),rfl⟩
 | w::r,st,v=>by
   rw [List.foldl_cons,minSt_twice]
   obtain ⟨μ,h1,h2,h3,h4⟩:=min_fold r st (if w < v then w else v)
   refine ⟨μ, ?_, ?_,fun x hx => ?_,h4⟩
   · rcases h1 with h1 | h1
     · by_cases h:w < v
       · rw [if_pos h] at h1;exact .inr (by simp [h1])
       · rw [if_neg h] at h1;exact .inl h1
     · exact .inr (by simp [h1])
   · by_cases h:w < v
     · rw [if_pos h] at h2;omega
     · rw [if_neg h] at h2;exact h2
   · rcases List.mem_cons.1 hx with rfl | hx
     · by_cases h:x < v
       · rw [if_pos h] at h2;exact h2
       · rw [if_neg h] at h2;omega
     · exact h3 x hx
theorem min_same {nm:List Nat} {l m:List Int} (hlm:∀ x ∈ l,∃ y ∈ m,y≤x) (hml:∀ y ∈ m,∃ x ∈ l,x≤y) (st:OSt):l.foldl (minSt nm) st=m.foldl (minSt nm) st:=by
 cases l with
 | nil =>
   cases m with
   | nil=>rfl
   | cons y r=>obtain ⟨x,hx,_⟩:=hml y (by simp);cases hx
 | cons x r =>
   cases m with
   | nil=>obtain ⟨y,hy,_⟩:=hlm x (by simp);cases hy
   | cons y s =>
     rw [List.foldl_cons,List.foldl_cons]
     obtain ⟨μ,a1,a2,a3,a4⟩:=min_fold (nm:=nm) r st x
     obtain ⟨ν,b1,b2,b3,b4⟩:=min_fold (nm:=nm) s st y
     rw [a4,b4]
     have hμ:μ ∈ x::r:=by rcases a1 with rfl | h<;>simp [*]
     have hν:ν ∈ y::s:=by rcases b1 with rfl | h<;>simp [*]
     have lμ:∀ z ∈ x::r,μ≤z:=fun z hz=>by
      rcases List.mem_cons.1 hz with rfl | hz
      · exact a2
      · exact a3 z hz
     have lν:∀ z ∈ y::s,ν≤z:=fun z hz=>by
      rcases List.mem_cons.1 hz with rfl | hz
      · exact b2
      · exact b3 z hz
     obtain ⟨p,p1,p2⟩:=hlm μ hμ
     obtain ⟨q,q1,q2⟩:=hml ν hν
     have:=lν p p1
     have:=lμ q q1
     have:μ=ν:=by omega
     rw [this]
def toO (st:NSt):OSt:=if st.2.2 then some (st.1,st.2.1) else none
theorem stEnt_toO (s:Stc) (e:Ent) (st:NSt):toO (stEnt s st e)=if e.1.1=s.line then minSt s.name (toO st) (ndist s e) else toO st:=by
 obtain ⟨nm,ls,fd⟩:=st
 unfold stEnt
 by_cases hl:e.1.1=s.line
 · have hb:beqL e.1.1 s.line=true:=(beqL_iff _ _).2 hl
   rw [hb,if_pos hl,if_pos rfl]
   cases fd with
   | false=>rw [if_pos (.inl rfl)];rfl
   | true =>
     simp only [Bool.true_eq_false,false_or]
     show toO _=if ndist s e < ls then some (s.name,ndist s e) else some (nm,ls)
     by_cases h:ndist s e < ls
     · rw [if_pos h,if_pos h];rfl
     · rw [if_neg h,if_neg h];rfl
 · have hb:beqL e.1.1 s.line=false:=by
    cases hc:beqL e.1.1 s.line with
    | false=>rfl
    | true=>exact absurd ((beqL_iff _ _).1 hc) hl
   rw [hb,if_neg hl];rfl
def valsE (s:Stc) (es:List Ent):List Int:=(es.filter fun e=>decide (e.1.1=s.line)).map (ndist s)
theorem stEnt_fold (s:Stc):∀ (es:List Ent) (st:NSt),toO (es.foldl (stEnt s) st)=(valsE s es).foldl (minSt s.name) (toO st)
 | [],_=>rfl
 | e::r,st=>by
   have ih:=stEnt_fold s r (stEnt s st e)
   rw [List.foldl_cons,ih,stEnt_toO]
   unfold valsE
   by_cases h:e.1.1=s.line
   · rw [if_pos h,List.filter_cons_of_pos (by simp [h])];rfl
   · rw [if_neg h,List.filter_cons_of_neg (by simp [h])]
abbrev RSt:Type:=List Nat × Int
def toR (st:RSt):OSt:=if st.2 < 0 then none else some st
def stMet (D:Nat→Int) (nm:List Nat) (st:RSt) (m:Nat):RSt:=if 0≤D m∧(st.2 < 0∨D m < st.2) then (nm,D m) else st
theorem stMet_toR (D:Nat→Int) (nm:List Nat) (st:RSt) (m:Nat):toR (stMet D nm st m)=if 0≤D m then minSt nm (toR st) (D m) else toR st:=by
 obtain ⟨q,b⟩:=st
 unfold stMet toR
 by_cases h0:0≤D m
 · simp only [h0,true_and]
   by_cases hb:b < 0
   · simp only [hb,true_or,if_true]
     rw [if_neg (by omega)];rfl
   · simp only [hb,false_or,if_false]
     show _=if D m < b then some (nm,D m) else some (q,b)
     by_cases h:D m < b
     · simp only [h,if_true];rw [if_neg (by omega)]
     · simp only [h,if_false,hb]
 · simp only [h0,false_and,if_false]
def metsF (fr till:Int):List Nat:=(List.range (till - fr).toNat).map fun i=>fr.toNat+i
def valsR (D:Nat→Int) (fr till:Int):List Int:=((metsF fr till).filter fun m=>decide (0≤D m)).map D
theorem stMet_fold (D:Nat→Int) (nm:List Nat):∀ (l:List Nat) (st:RSt),toR (l.foldl (stMet D nm) st)=((l.filter fun m=>decide (0≤D m)).map D).foldl (minSt nm) (toR st)
 | [],_=>rfl
 | m::r,st=>by
   have ih:=stMet_fold D nm r (stMet D nm st m)
   rw [List.foldl_cons,ih,stMet_toR]
   by_cases h:0≤D m
   · rw [if_pos h,List.filter_cons_of_pos (by simp [h])];rfl
   · rw [if_neg h,List.filter_cons_of_neg (by simp [h])]
noncomputable def stStR (n:Net) (a:Pt) (k:List Nat) (st:Bool × RSt) (s:Stc):Bool × RSt:=if beqL s.kind k then (true,(metsF s.fr s.till).foldl (stMet (fun m=>bestD (doorsO n a s.line) m) s.name) st.2) else st
noncomputable def nearR (n:Net) (a:Pt) (k:List Nat):Bool × RSt:=n.sts.foldl (stStR n a k) (false,([], -1))
theorem near_one {n:Net} (h:netP n=0) (h4:n.sws.length≤4) {a:Pt} (ha:lnB n.lines a.1=true) (hRa:inR a.2) (hon:0≤a.2∧a.2 < sumW (lnOf n.lines a.1).ps 0) {s:Stc} (hs:0≤s.fr∧s.fr < s.till∧s.till≤800000) (st:OSt):(valsE s (entO n a)).foldl (minSt s.name) st=(valsR (fun m=>bestD (doorsO n a s.line) m) s.fr s.till).foldl (minSt s.name) st:=by
 have hent:=ent_on h h4 ha hRa hon
 have hcov:=ent_cover h ha s.line
 have hnd:∀ e ∈ entO n a,ndist s e=e.2+(if e.1.2 < s.fr then s.fr - e.1.2 else if s.till≤e.1.2 then e.1.2 - s.till+1 else 0):=by
  intro e he
  obtain ⟨_,⟨r1,r2⟩,d0,d1⟩:=hent e he
  have e1:Int.sub s.fr e.1.2=s.fr - e.1.2:=rfl
  have e2:Int.sub e.1.2 s.till=e.1.2 - s.till:=rfl
  have e3:Int.add (e.1.2 - s.till) 1=e.1.2 - s.till+1:=rfl
  unfold ndist
  rw [e1,e2,wrap_small (x:=s.fr - e.1.2) (by omega) (by omega),wrap_small (x:=e.1.2 - s.till) (by omega) (by omega),e3,wrap_small (x:=e.1.2 - s.till+1) (by omega) (by omega)]
  have hmx:maxI (maxI 0 (s.fr - e.1.2)) (e.1.2 - s.till+1)=if e.1.2 < s.fr then s.fr - e.1.2 else if s.till≤e.1.2 then e.1.2 - s.till+1 else 0:=by
   unfold maxI
   (repeat' split)<;>omega
  rw [hmx]
  have e4:∀ y:Int,Int.add e.2 y=e.2+y:=fun y=>rfl
  rw [e4]
  refine wrap_small ?_ ?_
  all_goals ((repeat' split)<;>omega)
 have hmet:∀ m:Nat,m ∈ metsF s.fr s.till ↔ s.fr≤(m:Int)∧(m:Int) < s.till:=by
  intro m
  unfold metsF
  rw [List.mem_map]
  constructor
  · rintro ⟨i,hi,rfl⟩
    have:=List.mem_range.1 hi
    omega
  · rintro ⟨h1,h2⟩
    exact ⟨m - s.fr.toNat,List.mem_range.2 (by omega),by omega⟩
 refine min_same ?_ ?_ st
 · intro x hx
   obtain ⟨e,he,rfl⟩:=List.mem_map.1 hx
   obtain ⟨he1,he2⟩:=List.mem_filter.1 he
   have he2:e.1.1=s.line:=by simpa using he2
   obtain ⟨_,⟨r1,r2⟩,d0,d1⟩:=hent e he1
   -- the metre that is nearest to the entry
   obtain ⟨m,m1,m2,m3⟩:∃ m:Nat,s.fr≤(m:Int)∧(m:Int) < s.till∧dI e.1.2 m=(if e.1.2 < s.fr then s.fr - e.1.2 else if s.till≤e.1.2 then e.1.2 - s.till+1 else 0):=by
    by_cases c1:e.1.2 < s.fr
    · refine ⟨s.fr.toNat,by omega,by omega, ?_⟩
      rw [if_pos c1];unfold dI;split<;>omega
    · rw [if_neg c1]
      by_cases c2:s.till≤e.1.2
      · refine ⟨(s.till - 1).toNat,by omega,by omega, ?_⟩
        rw [if_pos c2];unfold dI;split<;>omega
      · refine ⟨e.1.2.toNat,by omega,by omega, ?_⟩
        rw [if_neg c2];unfold dI;split<;>omega
   have hmR:inR (m:Int):=⟨by omega,by omega⟩
   have hin:((e.1.2,e.2):Int × Int) ∈ lineOf s.line (entO n a):=mem_lineOf.2 (by rw [← he2];exact he1)
   rcases bestD_dist h h4 ha hRa (s:=s.line) hmR with ⟨_,q2⟩ | ⟨q1,q2⟩
   · obtain ⟨σ,s1,_⟩:=hcov.sound _ _ hin
     exact (q2 σ (okS_end (endE n) n.sws.length (b:=(s.line,e.1.2)) (c:=(s.line,(m:Int))) rfl s1)).elim
   · refine ⟨bestD (doorsO n a s.line) m,List.mem_map.2 ⟨m,List.mem_filter.2 ⟨(hmet m).2 ⟨m1,m2⟩,by simpa using q1⟩,rfl⟩, ?_⟩
     have:=(hcov.dist q2).2 _ _ hin
     rw [hnd e he1,← m3];exact this
 · intro y hy
   obtain ⟨m,hm,rfl⟩:=List.mem_map.1 hy
   obtain ⟨hm1,hm2⟩:=List.mem_filter.1 hm
   have hm2:0≤bestD (doorsO n a s.line) m:=by simpa using hm2
   obtain ⟨m1,m2⟩:=(hmet m).1 hm1
   have hmR:inR (m:Int):=⟨by omega,by omega⟩
   rcases bestD_dist h h4 ha hRa (s:=s.line) hmR with ⟨q1,_⟩ | ⟨q1,q2⟩
   · omega
   · obtain ⟨x,d,h1,h2⟩:=(hcov.dist q2).1
     have h3:=mem_lineOf.1 h1
     refine ⟨ndist s ((s.line,x),d),List.mem_map.2 ⟨_,List.mem_filter.2 ⟨h3,by simp⟩,rfl⟩, ?_⟩
     rw [hnd _ h3]
     show d+_≤bestD (doorsO n a s.line) m
     rw [← h2]
     have:(if x < s.fr then s.fr - x else if s.till≤x then x - s.till+1 else 0)≤dI x m:=by
      unfold dI
      (repeat' split)<;>omega
     simp only
     omega
theorem near_same {n:Net} (h:netP n=0) (h4:n.sws.length≤4) {a:Pt} (ha:lnB n.lines a.1=true) (hRa:inR a.2) (hon:0≤a.2∧a.2 < sumW (lnOf n.lines a.1).ps 0) (k:List Nat) (hst:∀ s ∈ n.sts,0≤s.fr∧s.fr < s.till∧s.till≤800000):(nearF (entO n a) n.sts k).1=(nearR n a k).1∧toO (nearF (entO n a) n.sts k).2=toR (nearR n a k).2:=by
 have key:∀ (l:List Stc),(∀ s ∈ l,0≤s.fr∧s.fr < s.till∧s.till≤800000) → ∀ (x:Bool × NSt) (y:Bool × RSt),x.1=y.1→toO x.2=toR y.2→(l.foldl (stSt (entO n a) k) x).1=(l.foldl (stStR n a k) y).1∧toO (l.foldl (stSt (entO n a) k) x).2=toR (l.foldl (stStR n a k) y).2:=by
  intro l
  induction l with
  | nil=>intro _ x y h1 h2;exact ⟨h1,h2⟩
  | cons s r ih =>
    intro hl x y h1 h2
    rw [List.foldl_cons,List.foldl_cons]
    refine ih (fun q hq=>hl q (by simp [hq])) _ _ ?_ ?_
    · unfold stSt stStR
      split
      · rfl
      · exact h1
    · unfold stSt stStR
      split
      · show toO ((entO n a).foldl (stEnt s) x.2)=toR ((metsF s.fr s.till).foldl (stMet (fun m=>bestD (doorsO n a s.line) m) s.name) y.2)
        rw [stEnt_fold,stMet_fold,h2]
        exact near_one h h4 ha hRa hon (hl s (by simp)) _
      · exact h2
 exact key n.sts hst _ _ rfl rfl
end Go.Sim

/-
What is reached, by the reference's walk.
-/
-- INJ Leg.row_iff lgs_iff pts_iff ptr_iff
namespace Go.Sim
open Go Go.Proofs
set_option maxRecDepth 100000
set_option maxHeartbeats 64000000
variable {P:FuncId→Option (List AV→Option AV)}
theorem ref37:(NC.withPrims P).refApp 37 72=true:=by kernel_rfl
theorem en123 (h:P 123=some p123) {lo:Nat} {rec:Rec} {args:List AV} {H:Heap} {K:AV→Heap→Prop}:VO (aenter (NC.withPrims P) rec lo 123 args H) K=AO (p123 args) fun v=>K v H:=enter_prim (by rfl) (known h (by kernel_rfl))
theorem runsR_len (f:Nat→Bool):∀ m,(runsR f m).length≤m
 | 0=>by simp [runsR]
 | m+1=>by
   have:=runsR_len f m
   unfold runsR
   split
   · split
     · simp;omega
     · simp;omega
   · omega
theorem runsR_more {f:Nat→Bool} {m:Nat} {a:List Spn} {s:Spn} (hf:f m=true) (hp:0 < m∧f (m - 1)=true) (h:runsR f m=a++[s]):runsR f (m+1)=a++[(s.1,(m:Int)+1)]:=by
 unfold runsR
 rw [if_pos hf,if_pos hp,h,List.dropLast_concat,List.getLast?_concat];rfl
theorem runsR_new {f:Nat→Bool} {m:Nat} (hf:f m=true) (hp:¬ (0 < m∧f (m - 1)=true)):runsR f (m+1)=runsR f m++[((m:Int),(m:Int)+1)]:=by
 conv=>lhs;unfold runsR
 rw [if_pos hf,if_neg hp]
theorem runsR_skip {f:Nat→Bool} {m:Nat} (hf:f m=false):runsR f (m+1)=runsR f m:=by
 conv=>lhs;unfold runsR
 rw [hf];rfl
theorem strsR_len {n:Net} {a:Pt} {most:Int} {l:Ln} (h:sumW l.ps 0≤120):(strsR n a most l).length≤120:=by
 unfold strsR
 rw [List.length_map]
 have:=runsR_len (okR n a most l.name) (sumW l.ps 0).toNat
 omega
theorem strs_take {n:Net} {a:Pt} {most:Int}:∀ {ls:List Ln},(∀ l ∈ ls,sumW l.ps 0≤120)→(ls.flatMap (strsR n a most)).length≤120 * ls.length
 | [],_=>by simp
 | l::r,h=>by
   have h1:=strsR_len (n:=n) (a:=a) (most:=most) (h l (by simp))
   have h2:=strs_take (n:=n) (a:=a) (most:=most) (ls:=r) fun q hq=>h q (by simp [hq])
   rw [List.flatMap_cons,List.length_append,List.length_cons];omega
theorem r37 (h123:P 123=some p123) (n:Net) (hfine:FineN n) (a:Pt) (most:Int) (hLa:lnB n.lines a.1=true) (hRa:inR a.2) (h120:∀ l ∈ n.lines,sumW l.ps 0≤120) (hl4:n.lines.length≤4) (lo:Nat) (H:Heap) (hlo:lo≤H.n) :
 ∃ v H',R (NC.withPrims P) (.call lo 37 [.agg n.cells,.agg (ptRow a),.int .i64 most] H)=some (.ofVal v H')∧RS3 (fun id=>H.n≤id) 185 H' v (reachR n a most)∧H.n≤H'.n ∧ ∀ j,j < H.n→H'.get j=H.get j:=by
 refine R_of_body (C:=NC.withPrims P) (f:=37) (lo:=lo) (args:=[.agg n.cells,.agg (ptRow a),.int .i64 most]) (H:=H) (fn:=Tryz.f37) (Q:=fun v H'=>RS3 (fun id=>H.n≤id) 185 H' v (reachR n a most)∧H.n≤H'.n ∧ ∀ j,j < H.n→H'.get j=H.get j) (by kernel_rfl) Tryz.func37 rfl rfl ?_
 simp only [go_sem,reduceIte,reduceEqDiff,reduceAdd,reduceMul,reduceSub,reduceLeDiff,reduceLT,Nat.reduceBEq,reduceCtorEq,Net.cells,ptRow]
 refine W_for (fun i T H' M=>M=[]∧getT T 2=i64 most∧getT T 3=.ptr H.n 0∧getT T 4=.ptr (H.n+1) 0∧getT T 8=i64 i∧H.n+1 < H'.n∧H'.get H.n=.cells n.cells 26∧H'.get (H.n+1)=.cells (ptRow a) 28∧(∀ j,j < H.n→H'.get j=H.get j) ∧ ∃ x,getT T 7=x∧RS3 (fun id=>H.n+1 < id) 185 H' x ((n.lines.take i).flatMap (strsR n a most))) n.lines.length ?_ ?_ ?_
 · simp only [go_sem,reduceIte,reduceEqDiff,reduceAdd,reduceMul,reduceSub,reduceLeDiff,reduceLT,Nat.reduceBEq,reduceCtorEq,Net.cells,ptRow]
   refine ⟨fun j h => ?_,_,rfl,.inl ⟨rfl,rfl⟩⟩
   rw [if_neg (by omega),if_neg (by omega)]
 · rintro i T H1 M hi ⟨rfl,t2,t3,t4,t8,hn1,g0,g1,ho,x,t7,hX⟩
   obtain ⟨l,hl⟩:∃ p,n.lines[i]? = some p:=⟨n.lines[i],by simp⟩
   have hr:=map_at (f:=Ln.row) hl
   have hw:=wrap_succ hi (by unfold maxRows;omega)
   have hmem:=List.mem_of_getElem? hl
   have hft:=flatMap_take (f:=strsR n a most) hl
   rw [hft]
   have hbl:=strs_take (n:=n) (a:=a) (most:=most) (ls:=n.lines.take i) fun q hq=>h120 q (List.mem_of_mem_take hq)
   have hbl':((n.lines.take i).flatMap (strsR n a most)).length≤480:=by rw [List.length_take] at hbl;omega
   generalize (n.lines.take i).flatMap (strsR n a most)=base at hX hbl' ⊢
   clear hft hbl
   obtain ⟨hLl,hlo2⟩:=line_self hfine.1 hmem
   have e123:=pe123 n a l.name ⟨hfine,hLa,hLl,hRa,by rw [hlo2];exact h120 l hmem⟩
   have hlen0:=(len_in hfine.1 hLl).1
   have h12:=h120 l hmem
   rw [hlo2] at hlen0
   obtain ⟨D,hD⟩:∃ D:Nat→Int,D=fun (m:Nat)=>bestD (doorsO n a l.name) (m:Int):=⟨_,rfl⟩
   have hok:okR n a most l.name=fun m=>!decide (D m < 0) && !decide (most < D m):=by rw [hD];rfl
   have hDr:∀ m:Nat,m < (sumW l.ps 0).toNat→(intRows (distsR n a l.name))[m]? = some [.int .i64 (D m)]:=by
    intro m hm
    have:(distsR n a l.name)[m]? = some (D m):=by
     unfold distsR
     rw [hlo2,List.getElem?_map,List.getElem?_range hm,hD];rfl
    exact intRows_at this
   have hDl:(distsR n a l.name).length=(sumW l.ps 0).toNat:=by
    unfold distsR
    rw [hlo2];simp
   have hSR:strsR n a most l=(runsR (okR n a most l.name) (sumW l.ps 0).toNat).map fun p=>(l.name,p):=rfl
   rw [hSR,hok]
   generalize distsR n a l.name=DL at e123 hDr hDl
   have hN:(sumW l.ps 0).toNat≤120:=by omega
   generalize (sumW l.ps 0).toNat=N at hDr hDl hN ⊢
   have g0':=g0
   have g1':=g1
   have hlr:l.row=[.str l.name,.ps .unk (l.ps.map Pc.row)]:=rfl
   simp only [Net.cells,ptRow,i64] at e123 g0' g1'
   simp only [hlr] at hr
   obtain ⟨a1,a2⟩:=a
   simp only [go_sem,reduceIte,reduceEqDiff,reduceAdd,reduceMul,reduceSub,reduceLeDiff,reduceLT,Nat.reduceBEq,reduceCtorEq,t2,t3,t4,t8,t7,g0',g1',List.length_map,Int.ofNat_lt,hi,hr,en123 h123,e123]
   obtain ⟨f,hf⟩:∃ f:Nat→Bool,f=fun m=>!decide (D m < 0) && !decide (most < D m):=⟨_,rfl⟩
   rw [← hf]
   have hfm:∀ m,f m=(!decide (D m < 0) && !decide (most < D m)):=fun m=>by rw [hf]
   have hrl:=runsR_len f
   refine W_for (fun m T H' M=>M=[]∧getT T 2=i64 most∧getT T 3=.ptr H.n 0∧getT T 4=.ptr (H.n+1) 0∧getT T 8=i64 i∧getT T 9=.ps .unk (intRows DL)∧getT T 10=i64 m∧H.n+1 < H'.n∧H'.get H.n=.cells n.cells 26∧H'.get (H.n+1)=.cells (ptRow (a1,a2)) 28∧(∀ j,j < H.n→H'.get j=H.get j) ∧ ∃ x,getT T 7=x∧RS3 (fun id=>H.n+1 < id) 185 H' x (base++(runsR f m).map fun p=>(l.name,p))) N ?_ ?_ ?_
   · simp only [go_sem,reduceIte,reduceEqDiff,reduceAdd,reduceMul,reduceSub,reduceLeDiff,reduceLT,Nat.reduceBEq,reduceCtorEq,t2,t3,t4,t8,t7]
     refine ⟨hn1,g0,g1,ho,_,rfl, ?_⟩
     rw [show base++(runsR f 0).map (fun p=>(l.name,p))=base by simp [runsR]]
     exact hX
   · clear hX t7 t2 t3 t4 t8 g0 g1 g0' g1' ho hn1
     rintro m T H2 M hm ⟨rfl,t2,t3,t4,t8,t9,t10,hn1,g0,g1,ho,x,t7,hX⟩
     have hwm:=wrap_succ hm (by unfold maxRows;omega)
     have hr1:=hDr m hm
     have hr2:=hDr (m - 1) (by omega)
     have hml:m < DL.length:=by omega
     have hml2:m - 1 < N:=by omega
     have hrlm:=hrl m
     have g0':=g0
     simp only [Net.cells] at g0'
     have hfm1:=hfm m
     have hfm2:=hfm (m - 1)
     generalize D m=V at hr1 hfm1
     generalize D (m - 1)=Vp at hr2 hfm2
     rcases Classical.propComplete (V < 0) with z0 | z0
     · rw [runsR_skip (by rw [hfm1];simp [z0])]
       simp only [go_sem,reduceIte,reduceEqDiff,reduceAdd,reduceMul,reduceSub,reduceLeDiff,reduceLT,Nat.reduceBEq,reduceCtorEq,t2,t3,t4,t8,t9,t10,t7,intRows_len,hDl,Int.ofNat_lt,hm,hr1,hwm,z0]
       exact ⟨hn1,g0,g1,ho,_,rfl,hX⟩
     rcases Classical.propComplete (most < V) with z1 | z1
     · rw [runsR_skip (by rw [hfm1];simp [z1])]
       simp only [go_sem,reduceIte,reduceEqDiff,reduceAdd,reduceMul,reduceSub,reduceLeDiff,reduceLT,Nat.reduceBEq,reduceCtorEq,t2,t3,t4,t8,t9,t10,t7,intRows_len,hDl,Int.ofNat_lt,hm,hr1,hwm,z0,z1]
       exact ⟨hn1,g0,g1,ho,_,rfl,hX⟩
     have hf1:f m=true:=by rw [hfm1];simp [z0,z1]
     obtain ⟨_,_,_,hlast,_⟩:=runs_ok f m
     by_cases hp:0 < m∧f (m - 1)=true
     · obtain ⟨a',sp,e1,e2⟩:=hlast hp
       obtain ⟨hp1,hp2⟩:=id hp
       rw [hfm2] at hp2
       have z3:(Vp < 0)=False:=by simp only [Bool.and_eq_true,Bool.not_eq_true',decide_eq_false_iff_not] at hp2;exact eq_false hp2.1
       have z4:(most < Vp)=False:=by simp only [Bool.and_eq_true,Bool.not_eq_true',decide_eq_false_iff_not] at hp2;exact eq_false hp2.2
       have hpm:=wrap_pred (k:=m) (n:=N) hp1 (by omega) (by unfold maxRows;omega)
       have hm0:((0:Int) < (m:Int))=True:=by simp only [eq_iff_iff,iff_true];omega
       rw [runsR_more hf1 hp e1]
       rw [e1] at hX hrlm
       have eL:base++(a'++[sp]).map (fun p=>(l.name,p))=(base++a'.map fun p=>(l.name,p))++[(l.name,sp)]:=by simp
       have eL2:base++(a'++[(sp.1,(m:Int)+1)]).map (fun p=>(l.name,p))=(base++a'.map fun p=>(l.name,p))++[(l.name,sp.1,(m:Int)+1)]:=by simp
       rw [eL] at hX
       rw [eL2]
       have hLl:(base++a'.map fun p=>(l.name,p)).length≤600:=by simp at hrlm ⊢;omega
       generalize (base++a'.map fun p=>(l.name,p))=Lp at hX hLl ⊢
       clear eL eL2 e1
       rcases hX with ⟨h,_⟩ | ⟨_,id,rfl,hid1,hid2,hid3⟩
       · simp at h
       have hat:(Lp++[(l.name,sp)])[Lp.length]? = some (l.name,sp):=by simp
       obtain ⟨rest,d0,d1,d2,l3,l2,l1,l0,hov⟩:=st_at hat
       have hov':=hov ((m:Int)+1)
       rw [show (Lp++[(l.name,sp)]).set Lp.length (l.name,sp.1,(m:Int)+1)=Lp++[(l.name,sp.1,(m:Int)+1)] by simp] at hov'
       simp only [over,List.length_cons,List.length_nil,reduceAdd,Nat.zero_add] at hov'
       have hlen:(Lp++[(l.name,sp)]).length=Lp.length+1:=by simp
       have hlen2:(Lp++[(l.name,sp.1,(m:Int)+1)]).length=Lp.length+1:=by simp
       have hidx:wrapq .i64 (Int.sub ((Lp.length+1:Nat):Int) 1)=((Lp.length:Nat):Int):=by
        have:=wrap_pred (k:=Lp.length+1) (n:=Lp.length+1) (by omega) (Nat.le_refl _) (by unfold maxRows;omega)
        simpa using this
       have hlo2:(lo≤id)=True:=by simp only [eq_iff_iff,iff_true];omega
       have hm1:((m+1:Nat):Int)=(m:Int)+1:=by omega
       rw [hlen] at t7
       simp only [go_sem,reduceIte,reduceEqDiff,reduceAdd,reduceMul,reduceSub,reduceLeDiff,reduceLT,Nat.reduceBEq,reduceCtorEq,t2,t3,t4,t8,t9,t10,t7,intRows_len,hDl,Int.ofNat_lt,hm,hml2,hr1,hr2,hwm,hpm,hm0,z0,z1,z3,z4,hidx,hid3,l0,hov',hlo2,hm1]
       exact ⟨hn1,by rw [if_neg (by omega)];exact g0,by rw [if_neg (by omega)];exact g1,fun j h=>by rw [if_neg (by omega)];exact ho j h,_,rfl,.inr ⟨by simp,id,by rw [hlen2],hid1,by simpa using hid2,by rw [Heap.get_set,if_pos rfl]⟩⟩
     · have hnw:=runsR_new hf1 hp
       rw [hnw]
       have eL2:base++(runsR f m++[((m:Int),(m:Int)+1)]).map (fun p=>(l.name,p))=(base++(runsR f m).map fun p=>(l.name,p))++[(l.name,(m:Int),(m:Int)+1)]:=by simp
       rw [eL2]
       have hLl:(base++(runsR f m).map fun p=>(l.name,p)).length≤600:=by simp;omega
       generalize (base++(runsR f m).map fun p=>(l.name,p))=Lp at hX hLl ⊢
       clear eL2 hnw hlast
       have hm1:((m+1:Nat):Int)=(m:Int)+1:=by omega
       have hao:=fun lo H=>st_one 185 lo H l.name (m:Int) ((m:Int)+1)
       have ham:=fun lo H id h1 h2=>st_more 185 Lp (by unfold maxRows;omega) lo H id h1 h2 l.name (m:Int) ((m:Int)+1)
       have hnew:∀ (H':Heap) (H0:Heap),H0.n≤H'.n→RS3 (fun id=>H.n+1 < id) 185 H' (.rs H0.n 0 (Lp.length+1) 3 none) (Lp++[(l.name,(m:Int),(m:Int)+1)])∨True:=fun _ _ _=>.inr trivial
       clear hnew
       have g1':H2.get (H.n+1)=.cells [.str a1,.int .i64 a2] 28:=g1
       have y0:(H.n=H2.n)=False∧(H.n+1=H2.n)=False:=by simp only [eq_iff_iff,iff_false];omega
       have cases3:m=0∨(0 < m∧Vp < 0)∨(0 < m ∧ ¬ (Vp < 0)∧most < Vp):=by
        rcases Nat.eq_zero_or_pos m with h0 | h0
        · exact .inl h0
        · have h1:f (m - 1)=false:=by
           cases hc:f (m - 1) with
           | false=>rfl
           | true=>exact absurd ⟨h0,hc⟩ hp
          rw [hfm2] at h1
          by_cases h2:Vp < 0
          · exact .inr (.inl ⟨h0,h2⟩)
          · refine .inr (.inr ⟨h0,h2, ?_⟩)
            by_cases h3:most < Vp
            · exact h3
            · simp [h2,h3] at h1
       rcases cases3 with h0 | ⟨h0,h2⟩ | ⟨h0,h2,h3⟩
       · have hm0:((0:Int) < (m:Int))=False:=by simp only [eq_iff_iff,iff_false];omega
         rcases hX with ⟨rfl,rfl⟩ | ⟨hne,id,rfl,hid1,hid2,hid3⟩
         · simp only [go_sem,reduceIte,reduceEqDiff,reduceAdd,reduceMul,reduceSub,reduceLeDiff,reduceLT,Nat.reduceBEq,reduceCtorEq,t2,t3,t4,t8,t9,t10,t7,List.length_map,intRows_len,hDl,Int.ofNat_lt,hm,hi,hr,hr1,hwm,z0,z1,hm1,hm0,g0',g1',y0,appO,ref37,hao]
           exact ⟨by omega,rfl,rfl,fun j h=>by rw [if_neg (by omega)];exact ho j h,_,rfl,.inr ⟨by simp,H2.n,rfl,by show _ < _;omega,by simp,by rw [Heap.get_push,if_pos rfl]⟩⟩
         · have y1:(H.n=id)=False∧(H.n+1=id)=False:=by simp only [eq_iff_iff,iff_false];omega
           have hlo2:(lo≤id)=True:=by simp only [eq_iff_iff,iff_true];omega
           simp only [go_sem,reduceIte,reduceEqDiff,reduceAdd,reduceMul,reduceSub,reduceLeDiff,reduceLT,Nat.reduceBEq,reduceCtorEq,t2,t3,t4,t8,t9,t10,t7,List.length_map,intRows_len,hDl,Int.ofNat_lt,hm,hi,hr,hr1,hwm,z0,z1,hm1,hm0,g0',g1',y0,y1,appO,ref37,hid3,hlo2,ham]
           exact ⟨by omega,rfl,rfl,fun j h=>by rw [if_neg (by omega),if_neg (by omega)];exact ho j h,_,rfl,.inr ⟨by simp,H2.n,by simp,by show _ < _;omega,by simp,by rw [Heap.get_push,if_pos (by simp)]⟩⟩
       · have hm0:((0:Int) < (m:Int))=True:=by simp only [eq_iff_iff,iff_true];omega
         have hpm:=wrap_pred (k:=m) (n:=N) h0 (by omega) (by unfold maxRows;omega)
         have z3:(Vp < 0)=True:=eq_true h2
         rcases hX with ⟨rfl,rfl⟩ | ⟨hne,id,rfl,hid1,hid2,hid3⟩
         · simp only [go_sem,reduceIte,reduceEqDiff,reduceAdd,reduceMul,reduceSub,reduceLeDiff,reduceLT,Nat.reduceBEq,reduceCtorEq,t2,t3,t4,t8,t9,t10,t7,List.length_map,intRows_len,hDl,Int.ofNat_lt,hm,hi,hr,hr1,hwm,z0,z1,hm1,hm0,hpm,hml2,hr2,z3,g0',g1',y0,appO,ref37,hao]
           exact ⟨by omega,rfl,rfl,fun j h=>by rw [if_neg (by omega)];exact ho j h,_,rfl,.inr ⟨by simp,H2.n,rfl,by show _ < _;omega,by simp,by rw [Heap.get_push,if_pos rfl]⟩⟩
         · have y1:(H.n=id)=False∧(H.n+1=id)=False:=by simp only [eq_iff_iff,iff_false];omega
           have hlo2:(lo≤id)=True:=by simp only [eq_iff_iff,iff_true];omega
           simp only [go_sem,reduceIte,reduceEqDiff,reduceAdd,reduceMul,reduceSub,reduceLeDiff,reduceLT,Nat.reduceBEq,reduceCtorEq,t2,t3,t4,t8,t9,t10,t7,List.length_map,intRows_len,hDl,Int.ofNat_lt,hm,hi,hr,hr1,hwm,z0,z1,hm1,hm0,hpm,hml2,hr2,z3,g0',g1',y0,y1,appO,ref37,hid3,hlo2,ham]
           exact ⟨by omega,rfl,rfl,fun j h=>by rw [if_neg (by omega),if_neg (by omega)];exact ho j h,_,rfl,.inr ⟨by simp,H2.n,by simp,by show _ < _;omega,by simp,by rw [Heap.get_push,if_pos (by simp)]⟩⟩
       · have hm0:((0:Int) < (m:Int))=True:=by simp only [eq_iff_iff,iff_true];omega
         have hpm:=wrap_pred (k:=m) (n:=N) h0 (by omega) (by unfold maxRows;omega)
         have z3:(Vp < 0)=False:=eq_false h2
         have z4:(most < Vp)=True:=eq_true h3
         rcases hX with ⟨rfl,rfl⟩ | ⟨hne,id,rfl,hid1,hid2,hid3⟩
         · simp only [go_sem,reduceIte,reduceEqDiff,reduceAdd,reduceMul,reduceSub,reduceLeDiff,reduceLT,Nat.reduceBEq,reduceCtorEq,t2,t3,t4,t8,t9,t10,t7,List.length_map,intRows_len,hDl,Int.ofNat_lt,hm,hi,hr,hr1,hwm,z0,z1,hm1,hm0,hpm,hml2,hr2,z3,z4,g0',g1',y0,appO,ref37,hao]
           exact ⟨by omega,rfl,rfl,fun j h=>by rw [if_neg (by omega)];exact ho j h,_,rfl,.inr ⟨by simp,H2.n,rfl,by show _ < _;omega,by simp,by rw [Heap.get_push,if_pos rfl]⟩⟩
         · have y1:(H.n=id)=False∧(H.n+1=id)=False:=by simp only [eq_iff_iff,iff_false];omega
           have hlo2:(lo≤id)=True:=by simp only [eq_iff_iff,iff_true];omega
           simp only [go_sem,reduceIte,reduceEqDiff,reduceAdd,reduceMul,reduceSub,reduceLeDiff,reduceLT,Nat.reduceBEq,reduceCtorEq,t2,t3,t4,t8,t9,t10,t7,List.length_map,intRows_len,hDl,Int.ofNat_lt,hm,hi,hr,hr1,hwm,z0,z1,hm1,hm0,hpm,hml2,hr2,z3,z4,g0',g1',y0,y1,appO,ref37,hid3,hlo2,ham]
           exact ⟨by omega,rfl,rfl,fun j h=>by rw [if_neg (by omega),if_neg (by omega)];exact ho j h,_,rfl,.inr ⟨by simp,H2.n,by simp,by show _ < _;omega,by simp,by rw [Heap.get_push,if_pos (by simp)]⟩⟩
   · rintro T H2 M ⟨rfl,t2,t3,t4,t8,t9,t10,hn1,g0,g1,ho,x,t7,hX⟩
     simp only [go_sem,reduceIte,reduceEqDiff,reduceAdd,reduceMul,reduceSub,reduceLeDiff,reduceLT,Nat.reduceBEq,reduceCtorEq,t2,t3,t4,t8,t9,t10,t7,intRows_len,hDl,Int.ofNat_lt,Nat.lt_irrefl,hw]
     exact ⟨hn1,g0,g1,ho,_,rfl,hX⟩
 · rintro T H1 M ⟨rfl,t2,t3,t4,t8,hn1,g0,g1,ho,x,t7,hX⟩
   rw [List.take_length] at hX
   have hRR:reachR n a most=n.lines.flatMap (strsR n a most):=rfl
   rw [hRR]
   have g0':=g0
   simp only [Net.cells] at g0'
   simp only [go_sem,reduceIte,reduceEqDiff,reduceAdd,reduceMul,reduceSub,reduceLeDiff,reduceLT,Nat.reduceBEq,reduceCtorEq,t2,t3,t4,t8,t7,g0',List.length_map,Int.ofNat_lt,Nat.lt_irrefl]
   exact ⟨RS3_mono (fun i h=>by omega) hX,by omega,ho⟩
end Go.Sim

/-
Stretches told to the reference, and compared.
-/
-- INJ Leg.row_iff lgs_iff pts_iff ptr_iff spRow_iff sps_iff
namespace Go.Sim
open Go Go.Proofs
set_option maxRecDepth 100000
set_option maxHeartbeats 64000000
variable {P:FuncId→Option (List AV→Option AV)}
theorem r40n (lo:Nat) (H:Heap):∃ t H',R (NC.withPrims P) (.call lo 40 [.ps .unk []] H)=some (.ofVal (.ps t []) H'):=by
 obtain ⟨v,H',h1,t,rfl⟩:∃ v H',R (NC.withPrims P) (.call lo 40 [.ps .unk []] H)=some (.ofVal v H') ∧ ∃ t,v=.ps t []:=by
  refine R_of_body (C:=NC.withPrims P) (f:=40) (lo:=lo) (args:=[.ps .unk []]) (H:=H) (fn:=Tryz.f40) (Q:=fun v H'=>∃ t,v=.ps t []) (by kernel_rfl) Tryz.func40 rfl rfl ?_
  simp only [go_sem,reduceIte,reduceEqDiff,reduceAdd,reduceMul,reduceSub,reduceLeDiff,reduceLT,Nat.reduceBEq,reduceCtorEq]
  have i00:((0:Int) < 0)=False:=by simp
  refine W_for (fun k T H M=>M=[]∧getT T 3=.ps .nil []∧getT T 7=i64 0∧getT T 8=i64 k) 0 ?_ ?_ ?_
  · simp only [go_sem,reduceIte,reduceEqDiff,reduceAdd,reduceMul,reduceSub,reduceLeDiff,reduceLT,Nat.reduceBEq,reduceCtorEq]
  · intro k T H4 M hk;exact absurd hk (Nat.not_lt_zero _)
  · rintro T H M ⟨rfl,t3,t7,t8⟩
    simp only [go_sem,reduceIte,reduceEqDiff,reduceAdd,reduceMul,reduceSub,reduceLeDiff,reduceLT,Nat.reduceBEq,reduceCtorEq,t3,t7,t8,i00]
    exact ⟨_,rfl⟩
 exact ⟨t,H',h1⟩
theorem r40 (L:List Str) (hl:L.length≤maxRows) (id lo:Nat) (H:Heap) (hlo:lo≤H.n) (hid:id < H.n) (hg:H.get id=.row (stF L) 3 224):∃ t H',R (NC.withPrims P) (.call lo 40 [.rs id 0 L.length 3 none] H)=some (.ofVal (.ps t (L.map strow)) H'):=by
 obtain ⟨v,H',h1,t,rfl⟩:∃ v H',R (NC.withPrims P) (.call lo 40 [.rs id 0 L.length 3 none] H)=some (.ofVal v H') ∧ ∃ t,v=.ps t (L.map strow):=by
  refine R_of_body (C:=NC.withPrims P) (f:=40) (lo:=lo) (args:=[.rs id 0 L.length 3 none]) (H:=H) (fn:=Tryz.f40) (Q:=fun v H'=>∃ t,v=.ps t (L.map strow)) (by kernel_rfl) Tryz.func40 rfl rfl ?_
  simp only [go_sem,reduceIte,reduceEqDiff,reduceAdd,reduceMul,reduceSub,reduceLeDiff,reduceLT,Nat.reduceBEq,reduceCtorEq]
  refine W_for (fun k T H' M=>M=[]∧getT T 6=.rs id 0 L.length 3 none∧getT T 7=i64 (L.length:Nat)∧getT T 8=i64 k∧Old H.n H H' ∧ ∃ t,getT T 3=.ps t ((L.take k).map strow)∧AppB H.n H' t ((L.take k).map strow) 3 185) L.length ?_ ?_ ?_
  · simp only [go_sem,reduceIte,reduceEqDiff,reduceAdd,reduceMul,reduceSub,reduceLeDiff,reduceLT,Nat.reduceBEq,reduceCtorEq]
    exact ⟨Old.refl H,.nil,rfl,.inl ⟨rfl,rfl⟩⟩
  · rintro k T H' M hk ⟨rfl,t6,t7,t8,hO,t,t3,hA⟩
    obtain ⟨x,hx⟩:∃ p,L[k]? = some p:=⟨L[k],by simp⟩
    have hw:=wrap_succ hk hl
    have htk:=take_map (f:=strow) hx
    obtain ⟨rest,d0,d1,d2,l3,l2,l1,l0,hov⟩:=st_at hx
    have hgd:H'.get id=.row (stF L) 3 224:=by rw [hO.2 id hid];exact hg
    have hlo':(lo≤H'.n)=True:=by have:=hO.1;simp only [eq_iff_iff,iff_true];omega
    obtain ⟨t',H2,ha,hA2,hn2,hO2,_⟩:=app_b (lo:=lo) (hA.new (.cells [.str [],.int .i64 0,.int .i64 0] 224) (.cells (strow x) 224)) (by have:=hO.1;simp;omega) hlo (r:=strow x) (by simp;omega) rfl (by decide) (rows_all strow_len _)
    have hO1:=hO.new (.cells [.str [],.int .i64 0,.int .i64 0] 224) (.cells (strow x) 224)
    obtain ⟨x1,x2,x3⟩:=x
    simp only [strow,i64] at d0 ha hO1
    simp only [go_sem,reduceIte,reduceEqDiff,reduceAdd,reduceMul,reduceSub,reduceLeDiff,reduceLT,Nat.reduceBEq,reduceCtorEq,t6,t7,t8,t3,hk,hgd,d0,l3,hw,hlo',appO,ha]
    rw [htk]
    exact ⟨(hO.new _ _).trans hO2 |> fun h=>⟨h.1,h.2⟩,t',rfl,hA2⟩
  · rintro T H' M ⟨rfl,t6,t7,t8,hO,t,t3,hA⟩
    simp only [go_sem,reduceIte,reduceEqDiff,reduceAdd,reduceMul,reduceSub,reduceLeDiff,reduceLT,Nat.reduceBEq,reduceCtorEq,t6,t7,t8,t3,Nat.lt_irrefl,List.take_length]
    exact ⟨t,rfl⟩
 exact ⟨t,H',h1⟩
theorem aeq185_self (s:List Nat) (a b:Int):aeqT NC.P 100 185 (.agg [.str s,.int .i64 a,.int .i64 b]) (.agg [.str s,.int .i64 a,.int .i64 b])=some true:=by
 have h:aeqT NC.P 100 185 (.agg [.str s,.int .i64 a,.int .i64 b]) (.agg [.str s,.int .i64 a,.int .i64 b]) =
  (match some (beqL s s) with
  | some true=>(match (match some (eqI a a) with
    | some true=>(match some (eqI b b) with
      | some true=>some true
      | some false=>some false
      | none=>none)
    | some false=>some false
    | none=>none) with
    | some true=>some true
    | some false=>some false
    | none=>none)
  | some false=>some false
  | none=>none):=by kernel_rfl
 rw [h,beqL_self,eqI_self,eqI_self]
theorem ety185:eqType NC.P 100 185=true:=by kernel_rfl
theorem r39n (lo:Nat) (H:Heap):∃ H',R (NC.withPrims P) (.call lo 39 [.ps .unk [],.ps .unk []] H)=some (.ofVal (.bool true) H'):=by
 obtain ⟨v,H',h1,rfl⟩:∃ v H',R (NC.withPrims P) (.call lo 39 [.ps .unk [],.ps .unk []] H)=some (.ofVal v H')∧v=.bool true:=by
  refine R_of_body (C:=NC.withPrims P) (f:=39) (lo:=lo) (args:=[.ps .unk [],.ps .unk []]) (H:=H) (fn:=Tryz.f39) (Q:=fun v H'=>v=.bool true) (by kernel_rfl) Tryz.func39 rfl rfl ?_
  have i00:((0:Int) < 0)=False:=by simp
  have e00:((0:Int)=0)=True:=by simp
  simp only [go_sem,reduceIte,reduceEqDiff,reduceAdd,reduceMul,reduceSub,reduceLeDiff,reduceLT,Nat.reduceBEq,reduceCtorEq,e00]
  refine W_for (fun k T H M=>M=[]∧getT T 0=.ps .unk []∧getT T 5=i64 k) 0 ?_ ?_ ?_
  · simp only [go_sem,reduceIte,reduceEqDiff,reduceAdd,reduceMul,reduceSub,reduceLeDiff,reduceLT,Nat.reduceBEq,reduceCtorEq]
  · intro k T H4 M hk;exact absurd hk (Nat.not_lt_zero _)
  · rintro T H M ⟨rfl,t0,t5⟩
    simp only [go_sem,reduceIte,reduceEqDiff,reduceAdd,reduceMul,reduceSub,reduceLeDiff,reduceLT,Nat.reduceBEq,reduceCtorEq,t0,t5,i00]
 exact ⟨H',h1⟩
theorem r39 (L:List Str) (hl:L.length≤maxRows) (id lo:Nat) (H:Heap) (hid:id < H.n) (hg:H.get id=.row (stF L) 3 185):∃ H',R (NC.withPrims P) (.call lo 39 [.ps .unk (L.map strow),.rs id 0 L.length 3 none] H)=some (.ofVal (.bool true) H'):=by
 obtain ⟨v,H',h1,rfl⟩:∃ v H',R (NC.withPrims P) (.call lo 39 [.ps .unk (L.map strow),.rs id 0 L.length 3 none] H)=some (.ofVal v H')∧v=.bool true:=by
  refine R_of_body (C:=NC.withPrims P) (f:=39) (lo:=lo) (args:=[.ps .unk (L.map strow),.rs id 0 L.length 3 none]) (H:=H) (fn:=Tryz.f39) (Q:=fun v H'=>v=.bool true) (by kernel_rfl) Tryz.func39 rfl rfl ?_
  simp only [go_sem,reduceIte,reduceEqDiff,reduceAdd,reduceMul,reduceSub,reduceLeDiff,reduceLT,Nat.reduceBEq,reduceCtorEq,List.length_map]
  refine W_for (fun k T H' M=>M=[]∧H'=H∧getT T 0=.ps .unk (L.map strow)∧getT T 1=.rs id 0 L.length 3 none∧getT T 5=i64 k) L.length ?_ ?_ ?_
  · simp only [go_sem,reduceIte,reduceEqDiff,reduceAdd,reduceMul,reduceSub,reduceLeDiff,reduceLT,Nat.reduceBEq,reduceCtorEq]
  · rintro k T H' M hk ⟨rfl,rfl,t0,t1,t5⟩
    obtain ⟨x,hx⟩:∃ p,L[k]? = some p:=⟨L[k],by simp⟩
    have hr:=map_at (f:=strow) hx
    have hw:=wrap_succ hk hl
    obtain ⟨rest,d0,d1,d2,l3,l2,l1,l0,hov⟩:=st_at hx
    obtain ⟨x1,x2,x3⟩:=x
    have hae:=aeq185_self x1 x2 x3
    simp only [strow,i64] at d0 hr
    simp only [go_sem,reduceIte,reduceEqDiff,reduceAdd,reduceMul,reduceSub,reduceLeDiff,reduceLT,Nat.reduceBEq,reduceCtorEq,t0,t1,t5,List.length_map,Int.ofNat_lt,hk,hr,hg,d0,l3,hw,ety185,hae]
  · rintro T H' M ⟨rfl,rfl,t0,t1,t5⟩
    simp only [go_sem,reduceIte,reduceEqDiff,reduceAdd,reduceMul,reduceSub,reduceLeDiff,reduceLT,Nat.reduceBEq,reduceCtorEq,t0,t1,t5,List.length_map,Int.ofNat_lt,Nat.lt_irrefl]
 exact ⟨H',h1⟩
end Go.Sim

/-
The nearest structure, by the reference's walk.
-/
-- INJ Leg.row_iff lgs_iff pts_iff ptr_iff
namespace Go.Sim
open Go Go.Proofs
set_option maxRecDepth 100000
set_option maxHeartbeats 64000000
variable {P:FuncId→Option (List AV→Option AV)}
noncomputable def nearRV (n:Net) (a:Pt) (k:List Nat):List AV:=if (nearR n a k).1 then (if (nearR n a k).2.2 < 0 then [.str [],i64 0,i64 18] else [.str (nearR n a k).2.1,i64 (nearR n a k).2.2,i64 0]) else [.str [],i64 0,i64 10]
theorem nearRV_pure (n:Net) (a:Pt) (k:List Nat):(AV.tup (nearRV n a k)).pure=true:=by
 unfold nearRV
 repeat' split
 all_goals rfl
noncomputable def PPF38:FuncId→Option (List AV→Option AV):=addPrim 123 p123 (fun _=>none)
theorem primsF38:PrimsOk NC PPF38:=primsOk_add (primsOk_none) (by kernel_rfl) (by kernel_rfl) pok123
theorem enF38_123:En PPF38 123 p123:=enter_prim (by rfl) (by kernel_rfl)
attribute [go_sem ↓] enF38_123
theorem c38 (n:Net) (a:Pt) (w:List Nat) (hp:(FineN n∧lnB n.lines a.1=true∧inR a.2)∧(∀ l ∈ n.lines,sumW l.ps 0≤120)∧n.sts.length≤6∧(∀ s ∈ n.sts,lnB n.lines s.line=true∧0≤s.fr∧s.fr < s.till∧s.till≤sumW (lnOf n.lines s.line).ps 0)):∀ lo H,CallOk NC lo 38 [.agg n.cells,.agg (ptRow a),.str w] H (.tup (nearRV n a w)) H:=by
 refine contract saneNC primsF38 (fn:=Tryz.f38) (by kernel_rfl) Tryz.func38 rfl rfl (by rfl) (nearRV_pure n a w) ?_
 obtain ⟨⟨hfine,hLa,hRa⟩,h120,h6,hst⟩:=hp
 unfold nearRV
 simp only [go_sem,reduceIte,reduceEqDiff,reduceAdd,reduceMul,reduceSub,reduceLeDiff,reduceLT,Nat.reduceBEq,reduceCtorEq,Net.cells,ptRow]
 refine W_for (fun i T H M=>M=[]∧getT T 2=.str w∧getT T 3=.ptr 0 0∧getT T 4=.ptr 1 0∧getT T 12=i64 i∧1 < H.n∧H.get 0=.cells n.cells 26∧H.get 1=.cells (ptRow a) 28 ∧ ∃ kn nm b,getT T 11=.bool kn∧getT T 9=.str nm∧getT T 10=i64 b∧(n.sts.take i).foldl (stStR n a w) (false,([], -1))=(kn,nm,b)) n.sts.length ?_ ?_ ?_
 · simp only [go_sem,reduceIte,reduceEqDiff,reduceAdd,reduceMul,reduceSub,reduceLeDiff,reduceLT,Nat.reduceBEq,reduceCtorEq,Net.cells,ptRow]
   exact ⟨false,[], -1,rfl,rfl,rfl,rfl⟩
 · rintro i T H M hi ⟨rfl,t2,t3,t4,t12,hn1,g0,g1,kn,nm,b,t11,t9,t10,hf⟩
   obtain ⟨s,hs⟩:∃ p,n.sts[i]? = some p:=⟨n.sts[i],by simp⟩
   have hr:=map_at (f:=Stc.row) hs
   have hw:=wrap_succ hi (by unfold maxRows;omega)
   have hft:=foldl_take (f:=stStR n a w) (s:=(false,([], -1))) hs
   rw [hf] at hft
   rw [hft]
   clear hf hft
   have hS:stStR n a w (kn,nm,b) s=if beqL s.kind w then (true,(metsF s.fr s.till).foldl (stMet (fun m=>bestD (doorsO n a s.line) m) s.name) (nm,b)) else (kn,nm,b):=rfl
   rw [hS]
   clear hS
   obtain ⟨hsl,hs0,hs1,hs2⟩:=hst s (List.mem_of_getElem? hs)
   have h12:s.till≤120:=by
    obtain ⟨_,l,_,_,h3,h5⟩:=lnB_some hsl
    have:=h120 l h3
    rw [h5] at hs2;omega
   have hrow:s.row=[.str s.name,.str s.kind,.str s.line,i64 s.fr,i64 s.till]:=rfl
   simp only [hrow,i64] at hr
   have y0:(0=H.n)=False∧(1=H.n)=False:=by simp only [eq_iff_iff,iff_false];omega
   have g0':=g0
   have g1':=g1
   have e123:=pe123 n a s.line ⟨hfine,hLa,hsl,hRa,by
    obtain ⟨_,l,_,_,h3,h5⟩:=lnB_some hsl
    rw [h5];exact h120 l h3⟩
   obtain ⟨a1,a2⟩:=a
   simp only [Net.cells,ptRow,i64] at e123 g0' g1'
   cases hB:beqL s.kind w with
   | false =>
     simp only [go_sem,reduceIte,reduceEqDiff,reduceAdd,reduceMul,reduceSub,reduceLeDiff,reduceLT,Nat.reduceBEq,reduceCtorEq,t2,t3,t4,t9,t10,t11,t12,g0',g1',List.length_map,Int.ofNat_lt,hi,hr,hw,y0,hB]
     exact ⟨by omega,rfl,rfl,kn,nm,b,rfl,rfl,rfl,rfl⟩
   | true =>
     obtain ⟨D,hD⟩:∃ D:Nat→Int,D=fun (m:Nat)=>bestD (doorsO n (a1,a2) s.line) (m:Int):=⟨_,rfl⟩
     have hDr:∀ m:Nat,(m:Int) < s.till→(intRows (distsR n (a1,a2) s.line))[m]? = some [.int .i64 (D m)]:=by
      intro m hm
      have:(distsR n (a1,a2) s.line)[m]? = some (D m):=by
       unfold distsR
       rw [List.getElem?_map,List.getElem?_range (by omega),hD];rfl
      exact intRows_at this
     have hDl:∀ m:Nat,(m:Int) < s.till→m < (distsR n (a1,a2) s.line).length:=by
      intro m hm
      unfold distsR
      simp;omega
     rw [← hD]
     simp only [go_sem,reduceIte,reduceEqDiff,reduceAdd,reduceMul,reduceSub,reduceLeDiff,reduceLT,Nat.reduceBEq,reduceCtorEq,t2,t3,t4,t9,t10,t11,t12,g0',g1',List.length_map,Int.ofNat_lt,hi,hr,hw,y0,hB,e123]
     generalize distsR n (a1,a2) s.line=DL at hDr hDl ⊢
     have hmet:∀ j,j < (s.till - s.fr).toNat→(metsF s.fr s.till)[j]? = some (s.fr.toNat+j):=fun j hj=>by
      unfold metsF
      rw [List.getElem?_map,List.getElem?_range hj];rfl
     have hml:(metsF s.fr s.till).length=(s.till - s.fr).toNat:=by unfold metsF;simp
     refine W_for (fun j T H' M=>M=[]∧getT T 2=.str w∧getT T 3=.ptr 0 0∧getT T 4=.ptr 1 0∧getT T 12=i64 i∧getT T 11=.bool true∧getT T 13=.ptr H.n 0∧getT T 14=.ps .unk (intRows DL)∧getT T 15=i64 (s.fr+j)∧H.n < H'.n∧H'.get 0=.cells n.cells 26∧H'.get 1=.cells [.str a1,.int .i64 a2] 28∧H'.get H.n=.cells [.str s.name,.str s.kind,.str s.line,.int .i64 s.fr,.int .i64 s.till] 193 ∧ ∃ nm' b',getT T 9=.str nm'∧getT T 10=i64 b'∧((metsF s.fr s.till).take j).foldl (stMet D s.name) (nm,b)=(nm',b')) (s.till - s.fr).toNat ?_ ?_ ?_
     · simp only [go_sem,reduceIte,reduceEqDiff,reduceAdd,reduceMul,reduceSub,reduceLeDiff,reduceLT,Nat.reduceBEq,reduceCtorEq,t2,t3,t4,t9,t10,t11,t12,g0',g1',y0]
       exact ⟨by rw [Int.add_zero],rfl,nm,b,rfl,rfl,rfl⟩
     · rintro j T H' M hj ⟨rfl,t2,t3,t4,t12,t11,t13,t14,t15,hn',g0,g1,g2,nm',b',t9,t10,hf⟩
       have hft:=foldl_take (f:=stMet D s.name) (s:=(nm,b)) (hmet j hj)
       rw [hf] at hft
       rw [hft]
       clear hf hft
       have hm:((s.fr.toNat+j:Nat):Int)=s.fr+j:=by omega
       have hlt:(s.fr+(j:Int) < s.till)=True:=by simp only [eq_iff_iff,iff_true];omega
       have hrD:=hDr (s.fr.toNat+j) (by omega)
       have hlD:=hDl (s.fr.toNat+j) (by omega)
       have hidx:∀ lim,natOf lim (.int .i64 (s.fr+(j:Int)))=if s.fr.toNat+j < lim then some (s.fr.toNat+j) else none:=fun lim=>by rw [← hm];exact natOf_cast ..
       have hwn:wrapq .i64 (Int.add (s.fr+(j:Int)) 1)=s.fr+((j+1:Nat):Int):=by
        have e:Int.add (s.fr+(j:Int)) 1=s.fr+(j:Int)+1:=rfl
        rw [e,wrap_small (by omega) (by omega)];omega
       have hSM:stMet D s.name (nm',b') (s.fr.toNat+j)=if 0≤D (s.fr.toNat+j)∧(b' < 0∨D (s.fr.toNat+j) < b') then (s.name,D (s.fr.toNat+j)) else (nm',b'):=rfl
       rw [hSM]
       generalize D (s.fr.toNat+j)=V at hrD ⊢
       rcases Classical.propComplete (V < 0) with z0 | z0
       · have:¬ (0≤V∧(b' < 0∨V < b')):=by have:=of_eq_true z0;omega
         rw [if_neg this]
         simp only [go_sem,reduceIte,reduceEqDiff,reduceAdd,reduceMul,reduceSub,reduceLeDiff,reduceLT,Nat.reduceBEq,reduceCtorEq,t2,t3,t4,t9,t10,t11,t12,t13,t14,t15,g0,g1,g2,hlt,hidx,intRows_len,hlD,hrD,hwn,z0]
         exact ⟨hn',nm',b',rfl,rfl,rfl⟩
       · have hV:0≤V:=by
          rcases Int.lt_or_le V 0 with q | q
          · rw [eq_true q] at z0;simp at z0
          · exact q
         rcases Classical.propComplete (b' < 0) with z1 | z1
         · rw [if_pos ⟨hV,.inl (of_eq_true z1)⟩]
           simp only [go_sem,reduceIte,reduceEqDiff,reduceAdd,reduceMul,reduceSub,reduceLeDiff,reduceLT,Nat.reduceBEq,reduceCtorEq,t2,t3,t4,t9,t10,t11,t12,t13,t14,t15,g0,g1,g2,hlt,hidx,intRows_len,hlD,hrD,hwn,z0,z1]
           exact ⟨hn',s.name,V,rfl,rfl,rfl⟩
         · rcases Classical.propComplete (V < b') with z2 | z2
           · rw [if_pos ⟨hV,.inr (of_eq_true z2)⟩]
             simp only [go_sem,reduceIte,reduceEqDiff,reduceAdd,reduceMul,reduceSub,reduceLeDiff,reduceLT,Nat.reduceBEq,reduceCtorEq,t2,t3,t4,t9,t10,t11,t12,t13,t14,t15,g0,g1,g2,hlt,hidx,intRows_len,hlD,hrD,hwn,z0,z1,z2]
             exact ⟨hn',s.name,V,rfl,rfl,rfl⟩
           · rw [if_neg (fun q=>q.2.elim (fun q=>by rw [eq_true q] at z1;simp at z1) (fun q=>by rw [eq_true q] at z2;simp at z2))]
             simp only [go_sem,reduceIte,reduceEqDiff,reduceAdd,reduceMul,reduceSub,reduceLeDiff,reduceLT,Nat.reduceBEq,reduceCtorEq,t2,t3,t4,t9,t10,t11,t12,t13,t14,t15,g0,g1,g2,hlt,hidx,intRows_len,hlD,hrD,hwn,z0,z1,z2]
             exact ⟨hn',nm',b',rfl,rfl,rfl⟩
     · rintro T H' M ⟨rfl,t2,t3,t4,t12,t11,t13,t14,t15,hn',g0,g1,g2,nm',b',t9,t10,hf⟩
       have hge:(s.fr+(((s.till - s.fr).toNat:Nat):Int) < s.till)=False:=by simp only [eq_iff_iff,iff_false];omega
       rw [← hml,List.take_length] at hf
       rw [hf]
       simp only [go_sem,reduceIte,reduceEqDiff,reduceAdd,reduceMul,reduceSub,reduceLeDiff,reduceLT,Nat.reduceBEq,reduceCtorEq,t2,t3,t4,t9,t10,t11,t12,t13,t14,t15,g0,g1,g2,hge,hw]
       exact ⟨by omega,rfl,true,nm',b',rfl,rfl,rfl,rfl⟩
 · rintro T H M ⟨rfl,t2,t3,t4,t12,hn1,g0,g1,kn,nm,b,t11,t9,t10,hf⟩
   rw [List.take_length] at hf
   have hN:nearR n a w=(kn,nm,b):=hf
   rw [hN]
   have g0':=g0
   simp only [Net.cells] at g0'
   cases kn with
   | false=>simp only [go_sem,reduceIte,reduceEqDiff,reduceAdd,reduceMul,reduceSub,reduceLeDiff,reduceLT,Nat.reduceBEq,reduceCtorEq,t2,t3,t4,t9,t10,t11,t12,g0',List.length_map,Int.ofNat_lt,Nat.lt_irrefl]
   | true =>
     rcases Classical.propComplete (b < 0) with z | z<;>simp only [go_sem,reduceIte,reduceEqDiff,reduceAdd,reduceMul,reduceSub,reduceLeDiff,reduceLT,Nat.reduceBEq,reduceCtorEq,t2,t3,t4,t9,t10,t11,t12,g0',List.length_map,Int.ofNat_lt,Nat.lt_irrefl,z]
noncomputable def p38:List AV→Option AV:=primOf (α:=(Net) × (Pt) × (List Nat)) (fun x=>[.agg x.1.cells,.agg (ptRow x.2.1),.str x.2.2]) (fun x=>(FineN x.1∧lnB x.1.lines x.2.1.1=true∧inR x.2.1.2)∧(∀ l ∈ x.1.lines,sumW l.ps 0≤120)∧x.1.sts.length≤6∧(∀ s ∈ x.1.sts,lnB x.1.lines s.line=true∧0≤s.fr∧s.fr < s.till∧s.till≤sumW (lnOf x.1.lines s.line).ps 0)) (fun x=>.tup (nearRV x.1 x.2.1 x.2.2))
theorem pok38:∀ args v,p38 args=some v → ∀ lo H,CallOk NC lo 38 args H v H:=by
 intro args v h
 obtain ⟨x,rfl,hp,rfl⟩:=primOf_inv h
 exact c38 x.1 x.2.1 x.2.2 hp
theorem pe38 (n:Net) (a:Pt) (w:List Nat) (hp:(FineN n∧lnB n.lines a.1=true∧inR a.2)∧(∀ l ∈ n.lines,sumW l.ps 0≤120)∧n.sts.length≤6∧(∀ s ∈ n.sts,lnB n.lines s.line=true∧0≤s.fr∧s.fr < s.till∧s.till≤sumW (lnOf n.lines s.line).ps 0)):p38 [.agg n.cells,.agg (ptRow a),.str w]=some (.tup (nearRV n a w)):=primOf_enc (α:=(Net) × (Pt) × (List Nat)) (enc:=fun x=>[.agg x.1.cells,.agg (ptRow x.2.1),.str x.2.2]) (pre:=fun x=>(FineN x.1∧lnB x.1.lines x.2.1.1=true∧inR x.2.1.2)∧(∀ l ∈ x.1.lines,sumW l.ps 0≤120)∧x.1.sts.length≤6∧(∀ s ∈ x.1.sts,lnB x.1.lines s.line=true∧0≤s.fr∧s.fr < s.till∧s.till≤sumW (lnOf x.1.lines s.line).ps 0)) (spec:=fun x=>.tup (nearRV x.1 x.2.1 x.2.2)) (by intro x y h;(simp only [List.cons.injEq,AV.agg.injEq,AV.str.injEq,AV.int.injEq,AV.ps.injEq,AV.bool.injEq,Net.cells_iff,Ln.row_iff,Pc.row_iff,Mv.row_iff,lns_iff,pcs_iff,mvs_iff,Leg.row_iff,lgs_iff,pts_iff,ptr_iff,true_and,and_true] at h;first | simpa only [Prod.ext_iff] using h | simpa only [Prod.ext_iff,and_assoc] using h)) (n,a,w) hp
end Go.Sim

/-
The law: NetworkWays returns true.
-/
-- INJ Leg.row_iff lgs_iff pts_iff ptr_iff
namespace Go.Sim
open Go Go.Proofs
set_option maxRecDepth 100000
set_option maxHeartbeats 64000000
theorem small_fine {n:Net} (h:smallN n=true):shortN n=true∧netR n=0∧n.lines.length≤4∧n.sws.length≤4∧n.sts.length≤6:=by
 unfold smallN at h
 simp only [Bool.and_eq_true,Bool.not_eq_true',decide_eq_true_eq,decide_eq_false_iff_not] at h
 obtain ⟨h1,⟨⟨⟨h2,h3⟩,h4⟩,h5⟩,_⟩:=h
 exact ⟨h1,h2,by omega,by omega,by omega⟩
end Go.Sim

/-
The law: NetworkReaches returns true.
-/
-- INJ Leg.row_iff lgs_iff pts_iff ptr_iff spRow_iff sps_iff
namespace Go.Sim
open Go Go.Proofs
set_option maxRecDepth 100000
set_option maxHeartbeats 64000000
theorem en32 {P:FuncId→Option (List AV→Option AV)} (hP:P 32=none) {lo:Nat} {args:List AV} {H:Heap} {K:AV→Heap→Prop}:VO (aenter (NC.withPrims P) (R (NC.withPrims P)) lo 32 args H) K=AO (R (NC.withPrims P) (.call H.n 32 args H)) fun o=>K o.val o.s.H:=by
 refine enter_fresh rfl ?_ (by kernel_rfl) (by kernel_rfl) (by kernel_rfl)
 show (match NC.prim 32 with | some p=>some p | none=>P 32)=none
 rw [hP];kernel_rfl
theorem en37 {P:FuncId→Option (List AV→Option AV)} (hP:P 37=none) {lo:Nat} {args:List AV} {H:Heap} {K:AV→Heap→Prop}:VO (aenter (NC.withPrims P) (R (NC.withPrims P)) lo 37 args H) K=AO (R (NC.withPrims P) (.call H.n 37 args H)) fun o=>K o.val o.s.H:=by
 refine enter_fresh rfl ?_ (by kernel_rfl) (by kernel_rfl) (by kernel_rfl)
 show (match NC.prim 37 with | some p=>some p | none=>P 37)=none
 rw [hP];kernel_rfl
theorem en39 {P:FuncId→Option (List AV→Option AV)} (hP:P 39=none) {lo:Nat} {args:List AV} {H:Heap} {K:AV→Heap→Prop}:VO (aenter (NC.withPrims P) (R (NC.withPrims P)) lo 39 args H) K=AO (R (NC.withPrims P) (.call H.n 39 args H)) fun o=>o.val.strip.pure=true∧K o.val.strip H:=by
 refine enter_pure rfl ?_ (by kernel_rfl) (by kernel_rfl) (by kernel_rfl)
 show (match NC.prim 39 with | some p=>some p | none=>P 39)=none
 rw [hP];kernel_rfl
theorem en40 {P:FuncId→Option (List AV→Option AV)} (hP:P 40=none) {lo:Nat} {args:List AV} {H:Heap} {K:AV→Heap→Prop}:VO (aenter (NC.withPrims P) (R (NC.withPrims P)) lo 40 args H) K=AO (R (NC.withPrims P) (.call H.n 40 args H)) fun o=>o.val.strip.pure=true∧K o.val.strip H:=by
 refine enter_pure rfl ?_ (by kernel_rfl) (by kernel_rfl) (by kernel_rfl)
 show (match NC.prim 40 with | some p=>some p | none=>P 40)=none
 rw [hP];kernel_rfl
theorem near_vals {n:Net} (h:netP n=0) (h4:n.sws.length≤4) {a:Pt} (ha:lnB n.lines a.1=true) (hRa:inR a.2) (hon:0≤a.2∧a.2 < sumW (lnOf n.lines a.1).ps 0) (hp:placesP n [a]=0) (k:List Nat) (hk:whenI (!nameB k) 8=0) (hst:∀ s ∈ n.sts,0≤s.fr∧s.fr < s.till∧s.till≤800000):nearP n a k=nearRV n a k:=by
 obtain ⟨e1,e2⟩:=near_same h h4 ha hRa hon k hst
 unfold nearP nearRV
 rw [hp,hk]
 have f00:firstI [0,0]=0:=rfl
 rw [if_pos f00]
 generalize nearF (entO n a) n.sts k=F at e1 e2 ⊢
 generalize nearR n a k=G at e1 e2 ⊢
 obtain ⟨kn,nm,ls,fd⟩:=F
 obtain ⟨kn',nm',b⟩:=G
 simp only at e1
 subst e1
 unfold toO toR at e2
 simp only at e2 ⊢
 cases kn with
 | false =>
   rw [if_neg (by cases fd<;>decide)]
   cases fd<;>rfl
 | true =>
   cases fd with
   | false =>
     simp only [Bool.false_eq_true,if_false] at e2
     by_cases hb:b < 0
     · rw [if_neg (by decide),if_pos rfl,if_pos hb];rfl
     · rw [if_neg hb] at e2;cases e2
   | true =>
     simp only [if_true] at e2
     by_cases hb:b < 0
     · rw [if_pos hb] at e2;cases e2
     · rw [if_neg hb] at e2
       cases e2
       rw [if_pos (by decide),if_pos rfl,if_neg hb]
theorem nearP_shape (n:Net) (a:Pt) (k:List Nat):∃ (nm:List Nat) (d e:Int),nearP n a k=[.str nm,i64 d,i64 e]:=by
 unfold nearP
 repeat' split
 all_goals exact ⟨_,_,_,rfl⟩
theorem st_zero {n:Net} (h:netP n=0):∀ s ∈ n.sts,lnB n.lines s.line=true∧0≤s.fr∧s.fr < s.till∧s.till≤sumW (lnOf n.lines s.line).ps 0:=by
 intro s hs
 obtain ⟨i,hi⟩:=List.getElem?_of_mem hs
 have h2:structsP n=0:=by
  unfold netP at h
  by_cases hl:linesP n.lines=0
  · rw [if_pos hl] at h
    exact firstI_mem0 h _ (by simp)
  · rw [if_neg hl] at h;exact absurd h hl
 unfold structsP at h2
 split at h2
 · cases h2
 have h1:=allR_mem0 h2 i (List.getElem?_eq_some_iff.1 hi).1
 unfold structP at h1
 rw [hi] at h1
 simp only [] at h1
 have z:=firstI_mem0 h1
 have z1:=when_zero (by decide) (z (whenI (!lnB n.lines s.line) 10) (by simp))
 have z2:=when_zero (by decide) (z (whenI (spanB (lnOf n.lines s.line) s.fr s.till) 14) (by simp))
 simp only [Bool.not_eq_false'] at z1
 unfold spanB at z2
 simp only [Bool.or_eq_false_iff,Bool.not_eq_false',decide_eq_false_iff_not,decide_eq_true_eq] at z2
 have h3:=has_on z2.1.2
 exact ⟨z1,by omega,by omega,by omega⟩
noncomputable def PPF4:FuncId→Option (List AV→Option AV):=addPrim 123 p123 (addPrim 187 p187 (addPrim 118 p118 (addPrim 116 p116 (addPrim 115 p115 (addPrim 114 p114 (addPrim 111 p111 (addPrim 99 p99 (addPrim 38 p38 (addPrim 36 p36 (addPrim 34 p34 (addPrim 35 p35 (addPrim 24 p24 (addPrim 33 p33 (addPrim 19 p19 (addPrim 31 p31 (addPrim 22 p22 (addPrim 17 p17 (addPrim 16 p16 (fun _=>none)))))))))))))))))))
theorem primsF4:PrimsOk NC PPF4:=primsOk_add (primsOk_add (primsOk_add (primsOk_add (primsOk_add (primsOk_add (primsOk_add (primsOk_add (primsOk_add (primsOk_add (primsOk_add (primsOk_add (primsOk_add (primsOk_add (primsOk_add (primsOk_add (primsOk_add (primsOk_add (primsOk_add (primsOk_none) (by kernel_rfl) (by kernel_rfl) pok16) (by kernel_rfl) (by kernel_rfl) pok17) (by kernel_rfl) (by kernel_rfl) pok22) (by kernel_rfl) (by kernel_rfl) pok31) (by kernel_rfl) (by kernel_rfl) pok19) (by kernel_rfl) (by kernel_rfl) pok33) (by kernel_rfl) (by kernel_rfl) pok24) (by kernel_rfl) (by kernel_rfl) pok35) (by kernel_rfl) (by kernel_rfl) pok34) (by kernel_rfl) (by kernel_rfl) pok36) (by kernel_rfl) (by kernel_rfl) pok38) (by kernel_rfl) (by kernel_rfl) pok99) (by kernel_rfl) (by kernel_rfl) pok111) (by kernel_rfl) (by kernel_rfl) pok114) (by kernel_rfl) (by kernel_rfl) pok115) (by kernel_rfl) (by kernel_rfl) pok116) (by kernel_rfl) (by kernel_rfl) pok118) (by kernel_rfl) (by kernel_rfl) pok187) (by kernel_rfl) (by kernel_rfl) pok123
theorem enF4_16:En PPF4 16 p16:=enter_prim (by rfl) (by kernel_rfl)
theorem enF4_17:En PPF4 17 p17:=enter_prim (by rfl) (by kernel_rfl)
theorem enF4_22:En PPF4 22 p22:=enter_prim (by rfl) (by kernel_rfl)
theorem enF4_31:En PPF4 31 p31:=enter_prim (by rfl) (by kernel_rfl)
theorem enF4_19:En PPF4 19 p19:=enter_prim (by rfl) (by kernel_rfl)
theorem enF4_33:En PPF4 33 p33:=enter_prim (by rfl) (by kernel_rfl)
theorem enF4_24:En PPF4 24 p24:=enter_prim (by rfl) (by kernel_rfl)
theorem enF4_35:En PPF4 35 p35:=enter_prim (by rfl) (by kernel_rfl)
theorem enF4_34:En PPF4 34 p34:=enter_prim (by rfl) (by kernel_rfl)
theorem enF4_36:En PPF4 36 p36:=enter_prim (by rfl) (by kernel_rfl)
theorem enF4_38:En PPF4 38 p38:=enter_prim (by rfl) (by kernel_rfl)
theorem enF4_99:En PPF4 99 p99:=enter_prim (by rfl) (by kernel_rfl)
theorem enF4_111:En PPF4 111 p111:=enter_prim (by rfl) (by kernel_rfl)
theorem enF4_114:En PPF4 114 p114:=enter_prim (by rfl) (by kernel_rfl)
theorem enF4_115:En PPF4 115 p115:=enter_prim (by rfl) (by kernel_rfl)
theorem enF4_116:En PPF4 116 p116:=enter_prim (by rfl) (by kernel_rfl)
theorem enF4_118:En PPF4 118 p118:=enter_prim (by rfl) (by kernel_rfl)
theorem enF4_187:En PPF4 187 p187:=enter_prim (by rfl) (by kernel_rfl)
theorem enF4_123:En PPF4 123 p123:=enter_prim (by rfl) (by kernel_rfl)
attribute [go_sem ↓] enF4_16 enF4_17 enF4_22 enF4_31 enF4_19 enF4_33 enF4_24 enF4_35 enF4_34 enF4_36 enF4_38 enF4_99 enF4_111 enF4_114 enF4_115 enF4_116 enF4_118 enF4_187 enF4_123
theorem small_len {n:Net} (h:smallN n=true):∀ l ∈ n.lines,sumW l.ps 0≤120:=by
 unfold smallN at h
 simp only [Bool.and_eq_true,Bool.not_eq_true',decide_eq_true_eq,decide_eq_false_iff_not,List.all_eq_true] at h
 exact fun l hl=>by have:=h.2.2 l hl;omega
theorem places1 (n:Net) (a:Pt):placesP n [a]=if netR n=0 then hasI n.lines a.1 a.2 else netR n:=by
 unfold placesP
 rw [net_same]
 simp only [List.map_cons,List.map_nil,place_same]
 split
 · by_cases h:hasI n.lines a.1 a.2=0<;>simp [firstI,h]
 · rfl
theorem first_ne {e r:Int} (h:(e=0)=False):firstI [e,r]=e:=by simp [firstI,h]
theorem first_zero (r:Int):firstI [0,r]=r:=by by_cases h:r=0<;>simp [firstI,h]
theorem c4 (n:Net) (p:Pt) (m:Int) (k:List Nat):∀ lo H,CallOk NC lo 4 [.agg n.cells,.agg [.str p.1,i64 p.2],.agg [i64 m,.str k]] H (.bool true) H:=by
 refine contract saneNC primsF4 (fn:=Tryz.f4) (by kernel_rfl) Tryz.func4 rfl rfl (by rfl) (by rfl) ?_
 have e17:=pe17 n trivial
 have e31:=pe31 n
 simp only [Net.cells,i64] at e17 e31
 cases hS:shortN n with
 | false =>
   simp only [hS] at e17
   simp only [go_sem,reduceIte,reduceEqDiff,reduceAdd,reduceMul,reduceSub,reduceLeDiff,reduceLT,Nat.reduceBEq,reduceCtorEq,Net.cells,e16,e17]
 | true =>
 simp only [hS] at e17
 rcases Classical.propComplete ((40:Int) < p.1.length) with q1 | q1
 · simp only [go_sem,reduceIte,reduceEqDiff,reduceAdd,reduceMul,reduceSub,reduceLeDiff,reduceLT,Nat.reduceBEq,reduceCtorEq,Net.cells,e16,e17,q1]
 rcases Classical.propComplete ((40:Int) < k.length) with q2 | q2
 · simp only [go_sem,reduceIte,reduceEqDiff,reduceAdd,reduceMul,reduceSub,reduceLeDiff,reduceLT,Nat.reduceBEq,reduceCtorEq,Net.cells,e16,e17,q1,q2]
 have hok:=short_ok hS
 have hkl:k.length≤maxRows:=by
  have:¬ ((40:Int) < k.length):=fun h=>by rw [eq_true h] at q2;simp at q2
  unfold maxRows;omega
 have e19:=pe19 n ⟨hok.fits,hok.sws,hok.sts⟩
 have e22:=pe22 n ⟨hok.fits,hok.sws,hok.sts⟩
 have e24:=pe24 (n,p.1,p.2) hok.fits
 have e33:=pe33 n p k ⟨hok,hkl⟩
 have e35:=e35 m 0 100000000
 have e36:=e36 k
 have hnet:=net_same n
 simp only [Net.cells,i64,ptRow] at e19 e22 e24 e33
 have hH:∃ Hb:Heap,Hb=((Heap.empty.push (.cells n.cells 26)).push (.cells (ptRow p) 28)).push (.cells [i64 m,.str k] 62):=⟨_,rfl⟩
 rcases Classical.propComplete (netR n=0) with z | z
 case inr =>
  have hz:¬ (netR n=0):=fun h=>by rw [h] at z;simp at z
  have hpl:placesP n [p]=netR n:=by rw [places1,if_neg hz]
  have hre:reachErr n p m=netR n:=by unfold reachErr;rw [hpl,first_ne z]
  obtain ⟨v,H1,r1,⟨r2,r3⟩,r4⟩:=r32 (P:=PPF4) rfl rfl rfl rfl rfl rfl rfl rfl rfl rfl n hok (fun h=>absurd (hnet ▸ h) hz) p m 3 (((Heap.empty.push (.cells n.cells 26)).push (.cells (ptRow p) 28)).push (.cells [i64 m,.str k] 62)) (by simp [empty_n])
  rw [if_neg (by rw [hre];exact hz),hre] at r4
  subst r4
  have hnp:nearP n p k=[.str [],i64 0,i64 (netR n)]:=by
   unfold nearP
   rw [hpl,first_ne z,if_neg hz]
  rw [hnp] at e33
  have g0:=r3 0 (by simp [empty_n])
  have g1:=r3 1 (by simp [empty_n])
  have g2:=r3 2 (by simp [empty_n])
  simp only [Net.cells,ptRow,i64] at r1 e33
  simp [Heap.get_push,empty_n] at g0 g1 g2
  simp only [ptRow,i64] at g1 g2
  generalize netR n=E at e22 e33 z r1
  have hf1:=fun r=>first_ne (e:=E) (r:=r) z
  have hm0:∀ r,firstI [E,r]=E:=fun r=>hf1 r
  obtain ⟨t40,H40,h40⟩:=r40n (P:=PPF4) H1.n H1
  obtain ⟨H39,h39⟩:=r39n (P:=PPF4) H1.n H1
  simp only [go_sem,reduceIte,reduceEqDiff,reduceAdd,reduceMul,reduceSub,reduceLeDiff,reduceLT,Nat.reduceBEq,reduceCtorEq,Net.cells,e16,e17,q1,q2,e22,z,e19,en32 (show PPF4 32=none from rfl),r1,ofVal_v,ofVal_H,g0,g1,g2,e33,e35,e36,e34_2,hm0,en40 (show PPF4 40=none from rfl),h40,en39 (show PPF4 39=none from rfl),h39,beqL_self]
 cases hsm:smallN n with
 | false =>
   simp only [hsm] at e31
   simp only [go_sem,reduceIte,reduceEqDiff,reduceAdd,reduceMul,reduceSub,reduceLeDiff,reduceLT,Nat.reduceBEq,reduceCtorEq,Net.cells,e16,e17,q1,q2,e22,e31,z]
 | true =>
 simp only [hsm] at e31
 obtain ⟨_,hz,hl4,hs4,hst6⟩:=small_fine hsm
 have hzp:netP n=0:=by rw [net_same];exact hz
 have hfine:FineN n:=⟨hzp,hok.fits,hs4⟩
 have h120:∀ l ∈ n.lines,sumW l.ps 0≤120:=small_len hsm
 have hpl:placesP n [p]=hasI n.lines p.1 p.2:=by rw [places1,if_pos hz]
 obtain ⟨v,H1,r1,⟨r2,r3⟩,r4⟩:=r32 (P:=PPF4) rfl rfl rfl rfl rfl rfl rfl rfl rfl rfl n hok (fun _=>hs4) p m 3 (((Heap.empty.push (.cells n.cells 26)).push (.cells (ptRow p) 28)).push (.cells [i64 m,.str k] 62)) (by simp [empty_n])
 have g0:=r3 0 (by simp [empty_n])
 have g1:=r3 1 (by simp [empty_n])
 have g2:=r3 2 (by simp [empty_n])
 simp [Heap.get_push,empty_n] at g0 g1 g2 r2
 simp only [ptRow,i64] at g1 g2
 have hre:reachErr n p m=firstI [hasI n.lines p.1 p.2,rangeI m 0 100000000]:=by unfold reachErr;rw [hpl]
 rcases Classical.propComplete (hasI n.lines p.1 p.2=0) with y | y
 case inr =>
  have hy:¬ (hasI n.lines p.1 p.2=0):=fun h=>by rw [h] at y;simp at y
  rw [hre,first_ne y,if_neg hy] at r4
  subst r4
  have hnp:nearP n p k=[.str [],i64 0,i64 (hasI n.lines p.1 p.2)]:=by
   unfold nearP
   rw [hpl,first_ne y,if_neg hy]
  rw [hnp] at e33
  simp only [Net.cells,ptRow,i64] at r1 e33
  generalize hasI n.lines p.1 p.2=E at e24 e33 y r1
  have hf1:=fun r=>first_ne (e:=E) (r:=r) y
  obtain ⟨t40,H40,h40⟩:=r40n (P:=PPF4) H1.n H1
  obtain ⟨H39,h39⟩:=r39n (P:=PPF4) H1.n H1
  simp only [go_sem,reduceIte,reduceEqDiff,reduceAdd,reduceMul,reduceSub,reduceLeDiff,reduceLT,Nat.reduceBEq,reduceCtorEq,Net.cells,e16,e17,q1,q2,e22,e31,z,e19,en32 (show PPF4 32=none from rfl),r1,ofVal_v,ofVal_H,g0,g1,g2,e24,y,e33,e35,e36,e34_2,hf1,en40 (show PPF4 40=none from rfl),h40,en39 (show PPF4 39=none from rfl),h39,beqL_self]
 have hy:=of_eq_true y
 have hpz:=places_zero (hpl.trans hy)
 have hA:=place_in hzp (hpz.2 p (by simp))
 have hon:=place_on (hpz.2 p (by simp))
 have hf1:=first_zero
 rw [hre,hy,first_zero] at r4
 rw [hy] at e24
 -- the nearest
 have hstz:=st_zero hzp
 have near:∃ (nm:List Nat) (d e:Int),nearP n p k=[.str nm,i64 d,i64 e]∧(whenI (!nameB k) 8=0→p38 [.agg n.cells,.agg (ptRow p),.str k]=some (.tup [.str nm,.int .i64 d,.int .i64 e]))∧(whenI (!nameB k) 8 ≠ 0→nm=[]∧d=0∧e=whenI (!nameB k) 8):=by
  obtain ⟨nm,d,e,hsh⟩:=nearP_shape n p k
  refine ⟨nm,d,e,hsh,fun hk => ?_,fun hk => ?_⟩
  · have hv:=near_vals hzp hs4 hA.1 hA.2 hon (hpl.trans hy) k hk (fun s hs=>by
     obtain ⟨a1,a2,a3,a4⟩:=hstz s hs
     obtain ⟨_,l,_,_,b3,b5⟩:=lnB_some a1
     have:=h120 l b3
     rw [b5] at a4
     exact ⟨a2,a3,by omega⟩)
    have e38:=pe38 n p k ⟨⟨hfine,hA.1,hA.2⟩,h120,hst6,hstz⟩
    rw [← hv,hsh] at e38
    exact e38
  · have:nearP n p k=[.str [],i64 0,i64 (whenI (!nameB k) 8)]:=by
     unfold nearP
     rw [hpl,hy,first_zero,if_neg hk]
    rw [this] at hsh
    simp only [List.cons.injEq,AV.str.injEq,AV.int.injEq,true_and,and_true] at hsh
    exact ⟨hsh.1.symm,hsh.2.1.symm,hsh.2.2.symm⟩
 obtain ⟨nm,d,e2,n1,n2,n3⟩:=near
 rw [n1] at e33
 have hRS:=reach_same hzp hs4 hA.1 hA.2 hon (most:=m)
 have hrng:=rangeI_zero (n:=m) (a:=0) (b:=100000000)
 have e34z:∀ r,p34 [.ps .unk [[.int .i64 0],[.int .i64 r]]]=some (.int .i64 r):=fun r=>by rw [e34_2,first_zero]
 generalize rangeI m 0 100000000=RG at e35 r4 hrng
 generalize whenI (!nameB k) 8=W8 at e36 n2 n3
 simp only [Net.cells,ptRow,i64] at r1 e33 n2
 rcases Classical.propComplete (RG=0) with g | g
 case inr =>
  rw [if_neg (by rw [g];exact id)] at r4
  subst r4
  obtain ⟨t40,H40,h40⟩:=r40n (P:=PPF4) H1.n H1
  obtain ⟨H39,h39⟩:=r39n (P:=PPF4) H1.n H1
  rcases Classical.propComplete (W8=0) with w | w
  · have e38:=n2 (of_eq_true w)
    simp only [go_sem,reduceIte,reduceEqDiff,reduceAdd,reduceMul,reduceSub,reduceLeDiff,reduceLT,Nat.reduceBEq,reduceCtorEq,Net.cells,e16,e17,q1,q2,e22,e31,z,e19,en32 (show PPF4 32=none from rfl),r1,ofVal_v,ofVal_H,g0,g1,g2,e24,e33,e35,e36,e34z,en40 (show PPF4 40=none from rfl),h40,en39 (show PPF4 39=none from rfl),h39,beqL_self,g,w,e38]
  · obtain ⟨rfl,rfl,rfl⟩:=n3 (by rw [ne_eq,w];exact id)
    simp only [go_sem,reduceIte,reduceEqDiff,reduceAdd,reduceMul,reduceSub,reduceLeDiff,reduceLT,Nat.reduceBEq,reduceCtorEq,Net.cells,e16,e17,q1,q2,e22,e31,z,e19,en32 (show PPF4 32=none from rfl),r1,ofVal_v,ofVal_H,g0,g1,g2,e24,e33,e35,e36,e34z,en40 (show PPF4 40=none from rfl),h40,en39 (show PPF4 39=none from rfl),h39,beqL_self,g,w]
 have hRG:=of_eq_true g
 subst hRG
 rw [if_pos rfl] at r4
 obtain ⟨x,rfl,hX⟩:=r4
 rw [hRS (hrng (of_eq_true g))] at hX
 obtain ⟨v2,H2,s1,s2,s3,s4⟩:=r37 (P:=PPF4) rfl n hfine p m hA.1 hA.2 h120 hl4 H1.n H1 (Nat.le_refl _)
 have k0:=(s4 0 (by omega)).trans g0
 have k1:=(s4 1 (by omega)).trans g1
 have k2:=(s4 2 (by omega)).trans g2
 have hLl:(reachR n p m).length≤maxRows:=by
  have:=strs_take (n:=n) (a:=p) (most:=m) (ls:=n.lines) h120
  show (n.lines.flatMap (strsR n p m)).length≤_
  unfold maxRows;omega
 simp only [Net.cells,ptRow] at s1
 clear hRS hrng s3
 generalize reachR n p m=L at hX s2 hLl
 rcases hX with ⟨hL,rfl⟩ | ⟨hne,id1,rfl,b1,b2,b3⟩
 · rcases s2 with ⟨_,rfl⟩ | ⟨hne,_⟩
   case inr=>exact absurd hL hne
   obtain ⟨t40,H40,h40⟩:=r40n (P:=PPF4) H2.n H2
   obtain ⟨H39,h39⟩:=r39n (P:=PPF4) H2.n H2
   rcases Classical.propComplete (W8=0) with w | w
   · have e38:=n2 (of_eq_true w)
     simp only [go_sem,reduceIte,reduceEqDiff,reduceAdd,reduceMul,reduceSub,reduceLeDiff,reduceLT,Nat.reduceBEq,reduceCtorEq,Net.cells,e16,e17,q1,q2,e22,e31,z,e19,en32 (show PPF4 32=none from rfl),r1,ofVal_v,ofVal_H,g0,g1,g2,e24,e33,e35,e36,e34z,en40 (show PPF4 40=none from rfl),h40,en39 (show PPF4 39=none from rfl),h39,beqL_self,g,w,en37 (show PPF4 37=none from rfl),s1,k0,k1,k2,e38]
   · obtain ⟨rfl,rfl,rfl⟩:=n3 (by rw [ne_eq,w];exact id)
     simp only [go_sem,reduceIte,reduceEqDiff,reduceAdd,reduceMul,reduceSub,reduceLeDiff,reduceLT,Nat.reduceBEq,reduceCtorEq,Net.cells,e16,e17,q1,q2,e22,e31,z,e19,en32 (show PPF4 32=none from rfl),r1,ofVal_v,ofVal_H,g0,g1,g2,e24,e33,e35,e36,e34z,en40 (show PPF4 40=none from rfl),h40,en39 (show PPF4 39=none from rfl),h39,beqL_self,g,w,en37 (show PPF4 37=none from rfl),s1,k0,k1,k2]
 · rcases s2 with ⟨hL,_⟩ | ⟨_,id2,rfl,c1,c2,c3⟩
   case inl=>exact absurd hL hne
   have b3':=(s4 id1 b2).trans b3
   obtain ⟨t40,H40,h40⟩:=r40 (P:=PPF4) L hLl id1 H2.n H2 (Nat.le_refl _) (by omega) b3'
   obtain ⟨H39,h39⟩:=r39 (P:=PPF4) L hLl id2 H2.n H2 c2 c3
   rcases Classical.propComplete (W8=0) with w | w
   · have e38:=n2 (of_eq_true w)
     simp only [go_sem,reduceIte,reduceEqDiff,reduceAdd,reduceMul,reduceSub,reduceLeDiff,reduceLT,Nat.reduceBEq,reduceCtorEq,Net.cells,e16,e17,q1,q2,e22,e31,z,e19,en32 (show PPF4 32=none from rfl),r1,ofVal_v,ofVal_H,g0,g1,g2,e24,e33,e35,e36,e34z,en40 (show PPF4 40=none from rfl),h40,en39 (show PPF4 39=none from rfl),h39,beqL_self,g,w,en37 (show PPF4 37=none from rfl),s1,k0,k1,k2,e38]
   · obtain ⟨rfl,rfl,rfl⟩:=n3 (by rw [ne_eq,w];exact id)
     simp only [go_sem,reduceIte,reduceEqDiff,reduceAdd,reduceMul,reduceSub,reduceLeDiff,reduceLT,Nat.reduceBEq,reduceCtorEq,Net.cells,e16,e17,q1,q2,e22,e31,z,e19,en32 (show PPF4 32=none from rfl),r1,ofVal_v,ofVal_H,g0,g1,g2,e24,e33,e35,e36,e34z,en40 (show PPF4 40=none from rfl),h40,en39 (show PPF4 39=none from rfl),h39,beqL_self,g,w,en37 (show PPF4 37=none from rfl),s1,k0,k1,k2]
end Go.Sim
