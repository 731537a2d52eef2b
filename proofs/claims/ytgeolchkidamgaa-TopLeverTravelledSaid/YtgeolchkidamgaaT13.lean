/-
Lemmas of one proof, the texts NetV2 to LtB joined.
-/
import Derived.Test.YtgeolchkidamgaaT12
set_option linter.unusedSimpArgs false
set_option linter.unusedVariables false
open Nat (reduceEqDiff reduceAdd reduceMul reduceSub reduceLeDiff reduceLT)

namespace Go.Sim
section
variable (E:Nat→Bool→Pt) (N:Nat) (ix:List Nat→Int)
def isWay (a b:Pt) (w:List Leg):Prop:=∃ σ,okS E N a σ b∧w=legsOf E a σ b
structure Best (a b:Pt) (w:List Leg):Prop where
 way:isWay E N a b w
 least:∀ σ,okS E N a σ b→wLe ix w (legsOf E a σ b)
structure Lab (a:Pt) (L:Pt→Option (List Leg)):Prop where
 valid:∀ p w,L p=some w→isWay E N a p w
 first:∀ j m,j < N→(E j m).1=a.1 → ∃ w,L (E j m)=some w∧wLe ix w (legsOf E a [] (E j m))
 next:∀ i k w,i < N→L (E i k)=some w→w.length < 16 → ∀ j m,j < N→(E j m).1=(E i (!k)).1 → ∃ v,L (E j m)=some v∧wLe ix v (w++[⟨(E i (!k)).1,(E i (!k)).2,(E j m).2⟩])
variable {E N ix}
theorem legsOf_knownL {S:List Nat→Prop} (hS:∀ i k,i < N→S (E i k).1):∀ {a:Pt} {σ:List Stp} {b:Pt},S a.1→okS E N a σ b→knownL S (legsOf E a σ b)
 | a,[],b,ha,_=>by
   intro l hl
   rw [List.mem_singleton.1 hl];exact ha
 | a,s::r,b,ha,h=>by
   intro l hl
   rcases List.mem_cons.1 hl with rfl | hl
   · exact ha
   · exact legsOf_knownL hS (hS _ _ h.1) h.2.2 l hl
variable {S:List Nat→Prop} (inj:∀ s t,S s→S t→ix s=ix t→s=t) (hS:∀ i k,i < N→S (E i k).1)
include inj hS in
theorem Lab.least {a:Pt} {L:Pt→Option (List Leg)} (h:Lab E N ix a L) (hN:N≤14) (ha:S a.1):∀ (n:Nat) (σ:List Stp) (j:Nat) (m:Bool),j < N→okS E N a σ (E j m)→(σ.map Prod.fst).Nodup→(lenS E a σ (E j m)).toNat * 100+σ.length < n →
 ∃ w,L (E j m)=some w∧wLe ix w (legsOf E a σ (E j m)):=by
 intro n
 induction n with
 | zero=>intro σ j m _ _ _ h;omega
 | succ n ih =>
   intro σ j m hj hσ hn hm
   rcases List.eq_nil_or_concat σ with rfl | ⟨τ,s,rfl⟩
   · exact h.first j m hj hσ.symm
   · rw [List.concat_eq_append] at *
     have hk:=(okS_snoc E N a τ s (E j m)).1 hσ
     have hls:=lenS_snoc E a τ s (E j m)
     have hd:=dI_nonneg (E s.1 (!s.2)).2 (E j m).2
     have h0:=lenS_nonneg E a τ (E s.1 s.2)
     have hnt:(τ.map Prod.fst).Nodup:=by
      rw [List.map_append] at hn
      exact (List.nodup_append.1 hn).1
     have hfew:=simple_few hk.1 hnt
     simp only [List.length_append,List.length_cons,List.length_nil] at hm
     obtain ⟨w,w1,w2⟩:=ih τ s.1 s.2 hk.2.1 hk.1 hnt (by omega)
     by_cases hw:w.length < 16
     · obtain ⟨v,v1,v2⟩:=h.next s.1 s.2 w hk.2.1 w1 hw j m hj hk.2.2.symm
       refine ⟨v,v1, ?_⟩
       rw [legsOf_snoc]
       obtain ⟨ρ,r1,r2⟩:=h.valid _ _ v1
       obtain ⟨ρ',r1',r2'⟩:=h.valid _ _ w1
       have k1:knownL S v:=by rw [r2];exact legsOf_knownL hS ha r1
       have kl:∀ u,knownL S u→knownL S (u++[⟨(E s.1 (!s.2)).1,(E s.1 (!s.2)).2,(E j m).2⟩]):=by
        intro u hu l hl
        rcases List.mem_append.1 hl with hl | hl
        · exact hu l hl
        · rw [List.mem_singleton.1 hl];exact hS _ _ hk.2.1
       have k2:knownL S w:=by rw [r2'];exact legsOf_knownL hS ha r1'
       refine wLe_trans ix inj k1 (kl w k2) v2 ?_
       show wLt ix _ _=false
       rw [wLt_snoc];exact w2
     · exfalso
       obtain ⟨ρ,r1,r2⟩:=h.valid _ _ w1
       have hlen:=legsOf_length E a ρ (E s.1 s.2)
       rw [← r2] at hlen
       have hs:=wLe_sum ix w2
       have hρ:15≤ρ.length:=by omega
       obtain ⟨τ',t1,t2,t3⟩:=cut_all E N ρ.length (Nat.le_refl _) r1
       have hfew':=simple_few t1 t2
       rcases t3 with rfl | ⟨t3,t4⟩
       · omega
       · have hlt:wSum w < wSum (legsOf E a τ (E s.1 s.2)):=by
          rcases Int.lt_or_le (wSum w) (wSum (legsOf E a τ (E s.1 s.2))) with c | c
          · exact c
          · have:=wLe_len ix w2 (by omega)
            rw [legsOf_length] at this
            omega
         have e1:lenS E a ρ (E s.1 s.2)=wSum w:=by rw [r2];rfl
         have e2:lenS E a τ (E s.1 s.2)=wSum (legsOf E a τ (E s.1 s.2)):=rfl
         have h0':=lenS_nonneg E a τ' (E s.1 s.2)
         obtain ⟨u,u1,u2⟩:=ih τ' s.1 s.2 hk.2.1 t1 t2 (by omega)
         rw [w1] at u1
         cases u1
         have:wLt ix (legsOf E a τ' (E s.1 s.2)) w=true:=by
          apply wLt_short
          · rw [← e1];exact t4
          · rw [legsOf_length];omega
         exact wLe_no ix u2 this
include inj hS in
theorem Lab.best {a:Pt} {L:Pt→Option (List Leg)} (h:Lab E N ix a L) (hN:N≤14) (ha:S a.1) {σ:List Stp} {j:Nat} {m:Bool} (hj:j < N) (hσ:okS E N a σ (E j m)) :
 ∃ w,L (E j m)=some w∧Best E N ix a (E j m) w∧w.length < 16:=by
 have key:∀ σ,okS E N a σ (E j m) → ∃ w,L (E j m)=some w∧wLe ix w (legsOf E a σ (E j m)):=by
  intro σ hσ
  obtain ⟨τ,t1,t2,t3⟩:=cut_all E N σ.length (Nat.le_refl _) hσ
  obtain ⟨w,w1,w2⟩:=Lab.least inj hS h hN ha _ τ j m hj t1 t2 (Nat.lt_succ_self _)
  refine ⟨w,w1, ?_⟩
  rcases t3 with rfl | ⟨t3,t4⟩
  · exact w2
  · obtain ⟨ρ,r1,r2⟩:=h.valid _ _ w1
    refine wLe_trans ix inj (by rw [r2];exact legsOf_knownL hS ha r1) (legsOf_knownL hS ha t1) w2 (wLt_le ix ?_)
    exact wLt_short ix t4 (by rw [legsOf_length,legsOf_length];omega)
 obtain ⟨w,w1,w2⟩:=key σ hσ
 obtain ⟨ρ,r1,r2⟩:=h.valid _ _ w1
 refine ⟨w,w1,⟨⟨ρ,r1,r2⟩,fun τ hτ => ?_⟩, ?_⟩
 · obtain ⟨v,v1,v2⟩:=key τ hτ
   rw [w1] at v1;cases v1;exact v2
 · obtain ⟨τ,t1,t2,t3⟩:=cut_all E N ρ.length (Nat.le_refl _) r1
   have hfew:=simple_few t1 t2
   rcases t3 with rfl | ⟨t3,t4⟩
   · rw [r2,legsOf_length];omega
   · exfalso
     obtain ⟨v,v1,v2⟩:=key τ t1
     rw [w1] at v1;cases v1
     have:wLt ix (legsOf E a τ (E j m)) w=true:=wLt_short ix (by rw [r2];exact t4) (by rw [r2,legsOf_length,legsOf_length];omega)
     exact wLe_no ix v2 this
include inj hS in
theorem Best.uniq {a b:Pt} (ha:S a.1) {v w:List Leg} (h1:Best E N ix a b v) (h2:Best E N ix a b w):v=w:=by
 obtain ⟨σ,s1,s2⟩:=h1.way
 obtain ⟨τ,t1,t2⟩:=h2.way
 have k1:knownL S v:=by rw [s2];exact legsOf_knownL hS ha s1
 have k2:knownL S w:=by rw [t2];exact legsOf_knownL hS ha t1
 refine wLe_anti ix inj k1 k2 ?_ ?_
 · rw [t2];exact h1.least τ t1
 · rw [s2];exact h2.least σ s1
def candW (L:Pt→Option (List Leg)) (a b:Pt) (w:List Leg):Prop :=
 (a.1=b.1∧w=legsOf E a [] b) ∨ ∃ i k r,i < N∧L (E i k)=some r∧(E i (!k)).1=b.1∧r.length < 16∧w=r++[⟨(E i (!k)).1,(E i (!k)).2,b.2⟩]
theorem cand_way {a b:Pt} {L:Pt→Option (List Leg)} (h:Lab E N ix a L) {w:List Leg} (hw:candW (E:=E) (N:=N) L a b w):isWay E N a b w:=by
 rcases hw with ⟨h1,rfl⟩ | ⟨i,k,r,h1,h2,h3,_,rfl⟩
 · exact ⟨[],h1,rfl⟩
 · obtain ⟨σ,s1,rfl⟩:=h.valid _ _ h2
   exact ⟨σ++[(i,k)],(okS_snoc E N a σ (i,k) b).2 ⟨s1,h1,h3⟩,by rw [legsOf_snoc]⟩
include inj hS in
theorem cand_least {a b:Pt} {L:Pt→Option (List Leg)} (h:Lab E N ix a L) (hN:N≤14) (ha:S a.1) {σ:List Stp} (hσ:okS E N a σ b):∃ w,candW (E:=E) (N:=N) L a b w∧wLe ix w (legsOf E a σ b):=by
 rcases List.eq_nil_or_concat σ with rfl | ⟨τ,s,rfl⟩
 · exact ⟨_,.inl ⟨hσ,rfl⟩,wLe_refl ix _⟩
 · rw [List.concat_eq_append] at *
   have hk:=(okS_snoc E N a τ s b).1 hσ
   obtain ⟨w,w1,w2,w3⟩:=Lab.best inj hS h hN ha hk.2.1 hk.1
   refine ⟨_,.inr ⟨s.1,s.2,w,hk.2.1,w1,hk.2.2,w3,rfl⟩, ?_⟩
   rw [legsOf_snoc]
   show wLt ix _ _=false
   rw [wLt_snoc];exact w2.least τ hk.1
include inj hS in
theorem cand_best {a b:Pt} {L:Pt→Option (List Leg)} (h:Lab E N ix a L) (hN:N≤14) (ha:S a.1) {w:List Leg} (hw:candW (E:=E) (N:=N) L a b w) (hl:∀ v,candW (E:=E) (N:=N) L a b v→wLe ix w v):Best E N ix a b w:=by
 refine ⟨cand_way h hw,fun σ hσ => ?_⟩
 obtain ⟨v,v1,v2⟩:=cand_least inj hS h hN ha hσ
 obtain ⟨τ,t1,t2⟩:=cand_way h hw
 obtain ⟨ρ,r1,r2⟩:=cand_way h v1
 refine wLe_trans ix inj ?_ ?_ (hl v v1) v2
 · rw [t2];exact legsOf_knownL hS ha t1
 · rw [r2];exact legsOf_knownL hS ha r1
structure Dist (E:Nat→Bool→Pt) (N:Nat) (a b:Pt) (d:Int):Prop where
 way:∃ σ,okS E N a σ b∧lenS E a σ b=d
 least:∀ σ,okS E N a σ b→d≤lenS E a σ b
theorem Best.dist {a b:Pt} {w:List Leg} (h:Best E N ix a b w):Dist E N a b (wSum w):=by
 obtain ⟨σ,s1,s2⟩:=h.way
 exact ⟨⟨σ,s1,by rw [s2];rfl⟩,fun τ hτ=>wLe_sum ix (h.least τ hτ)⟩
theorem Dist.uniq {a b:Pt} {d e:Int} (h1:Dist E N a b d) (h2:Dist E N a b e):d=e:=by
 obtain ⟨σ,s1,s2⟩:=h1.way
 obtain ⟨τ,t1,t2⟩:=h2.way
 have:=h1.least τ t1
 have:=h2.least σ s1
 omega
theorem cat_ok (E:Nat→Bool→Pt) (N:Nat):∀ {a:Pt} {σ:List Stp} {c:Pt},okS E N a σ c → ∀ {τ:List Stp} {b:Pt},okS E N c τ b→okS E N a (σ++τ) b∧lenS E a (σ++τ) b≤lenS E a σ c+lenS E c τ b
 | a,[],c,h,τ,b,h2=>by
   refine ⟨okS_begin E N (Eq.symm h) h2, ?_⟩
   rw [lenS_nil]
   exact lenS_begin E c a τ b
 | a,s::r,c,h,τ,b,h2=>by
   obtain ⟨i1,i2⟩:=cat_ok E N h.2.2 h2
   refine ⟨⟨h.1,h.2.1,i1⟩, ?_⟩
   rw [List.cons_append,lenS_cons,lenS_cons];omega
end
end Go.Sim

namespace Go.Sim
open Go Go.Proofs
set_option maxRecDepth 100000
set_option maxHeartbeats 8000000
def smallN (n:Net):Bool:=shortN n && (decide (netR n=0) && !decide ((4:Int) < n.lines.length) && !decide ((4:Int) < n.sws.length) && !decide ((6:Int) < n.sts.length) && n.lines.all fun l=>!decide (120 < sumW l.ps 0))
noncomputable def PPF31:FuncId→Option (List AV→Option AV):=addPrim 6 p26 (addPrim 16 p22 (addPrim 15 p17 (fun _=>none)))
theorem primsF31:PrimsOk NC PPF31:=primsOk_add (primsOk_add (primsOk_add (primsOk_none) (by kernel_rfl) (by kernel_rfl) pok17) (by kernel_rfl) (by kernel_rfl) pok22) (by kernel_rfl) (by kernel_rfl) pok26
theorem enF31_17:En PPF31 15 p17:=enter_prim (by rfl) (by kernel_rfl)
theorem enF31_22:En PPF31 16 p22:=enter_prim (by rfl) (by kernel_rfl)
theorem enF31_26:En PPF31 6 p26:=enter_prim (by rfl) (by kernel_rfl)
attribute [go_sem ↓] enF31_17 enF31_22 enF31_26
theorem c31 (n:Net):∀ lo H,CallOk NC lo 5 [.agg n.cells] H (.bool (smallN n)) H:=by
 refine contract saneNC primsF31 (fn:=Try.f5) (by kernel_rfl) Try.func5 rfl rfl (by rfl) (by first | rfl | (split<;>first | rfl | (split<;>rfl))) ?_
 have e17:p17 [.agg n.cells]=some (.bool (shortN n)):=pe17 n trivial
 have hsm:smallN n=(shortN n && (decide (netR n=0) && !decide ((4:Int) < n.lines.length) && !decide ((4:Int) < n.sws.length) && !decide ((6:Int) < n.sts.length) && n.lines.all fun l=>!decide (120 < sumW l.ps 0))):=rfl
 rw [hsm]
 simp only [Net.cells] at e17
 cases hS:shortN n with
 | false =>
   rw [hS] at e17
   simp only [go_sem,reduceIte,reduceEqDiff,reduceAdd,reduceMul,reduceSub,reduceLeDiff,reduceLT,Nat.reduceBEq,reduceCtorEq,Net.cells,e17]
 | true =>
   rw [hS] at e17
   have hok:=short_ok hS
   have e22:p22 [.agg n.cells]=some (.int .i64 (netR n)):=pe22 n ⟨hok.fits,hok.sws,hok.sts⟩
   simp only [Net.cells] at e22
   rcases Classical.propComplete (netR n=0) with z | z
   case inr =>
    simp only [go_sem,reduceIte,reduceEqDiff,reduceAdd,reduceMul,reduceSub,reduceLeDiff,reduceLT,Nat.reduceBEq,reduceCtorEq,Net.cells,e17,e22,z]
   rcases Classical.propComplete ((4:Int) < n.lines.length) with q1 | q1
   · simp only [go_sem,reduceIte,reduceEqDiff,reduceAdd,reduceMul,reduceSub,reduceLeDiff,reduceLT,Nat.reduceBEq,reduceCtorEq,Net.cells,List.length_map,e17,e22,z,q1]
   rcases Classical.propComplete ((4:Int) < n.sws.length) with q2 | q2
   · simp only [go_sem,reduceIte,reduceEqDiff,reduceAdd,reduceMul,reduceSub,reduceLeDiff,reduceLT,Nat.reduceBEq,reduceCtorEq,Net.cells,List.length_map,e17,e22,z,q1,q2]
   rcases Classical.propComplete ((6:Int) < n.sts.length) with q3 | q3
   · simp only [go_sem,reduceIte,reduceEqDiff,reduceAdd,reduceMul,reduceSub,reduceLeDiff,reduceLT,Nat.reduceBEq,reduceCtorEq,Net.cells,List.length_map,e17,e22,z,q1,q2,q3]
   simp only [go_sem,reduceIte,reduceEqDiff,reduceAdd,reduceMul,reduceSub,reduceLeDiff,reduceLT,Nat.reduceBEq,reduceCtorEq,Net.cells,List.length_map,e17,e22,z,q1,q2,q3]
   refine W_for (fun k T H M=>M=[]∧getT T 1=.ptr 0 0∧getT T 3=i64 k∧H.get 0=.cells n.cells 26∧0 < H.n ∧ ∀ (j:Nat) x,j < k→n.lines[j]? = some x→(!decide (120 < sumW x.ps 0))=true) n.lines.length ?_ ?_ ?_
   · simp only [go_sem,reduceIte,reduceEqDiff,reduceAdd,reduceMul,reduceSub,reduceLeDiff,reduceLT,Nat.reduceBEq,reduceCtorEq,Net.cells];exact fun j x hj=>absurd hj (by omega)
   · rintro k T H M hk ⟨rfl,g1,g3,h0,hn,hall⟩
     obtain ⟨l,hp⟩:∃ p,n.lines[k]? = some p:=⟨n.lines[k],by simp⟩
     have hmem:=List.mem_of_getElem? hp
     have hr:=map_at (f:=Ln.row) hp
     have hw:=wrap_succ hk hok.lines
     have e26:p26 [.agg l.row]=some (.int .i64 (sumW l.ps 0)):=pe26 l (hok.line l hmem).2
     simp only [Ln.row,i64] at hr e26
     rcases Classical.propComplete (120 < sumW l.ps 0) with d1 | d1<;>simp only [go_sem,reduceIte,reduceEqDiff,reduceAdd,reduceMul,reduceSub,reduceLeDiff,reduceLT,Nat.reduceBEq,reduceCtorEq,g1,g3,h0,Net.cells,List.length_map,hk,hr,hw,e26,d1]
     case inr =>
      refine ⟨hn,fun j x hj hx => ?_⟩
      by_cases e:j=k
      · subst e;rw [hp] at hx;cases hx;simp [d1]
      · have:=hall j x (by omega) hx
        simpa using this
     rw [all_false hp (by simp [d1])]
     simp
   · rintro T H M ⟨rfl,g1,g3,h0,hn,hall⟩
     rw [all_true hall]
     simp only [go_sem,reduceIte,reduceEqDiff,reduceAdd,reduceMul,reduceSub,reduceLeDiff,reduceLT,Nat.reduceBEq,reduceCtorEq,g1,g3,h0,Net.cells,List.length_map,Nat.lt_irrefl]
     simp [z,q1,q2,q3]
noncomputable def p31:List AV→Option AV:=primOf (α:=(Net)) (fun x=>[.agg x.cells]) (fun x=>True) (fun x=>.bool (smallN x))
theorem pok31:∀ args v,p31 args=some v → ∀ lo H,CallOk NC lo 5 args H v H:=by
 intro args v h
 obtain ⟨x,rfl,hp,rfl⟩:=primOf_inv h
 exact c31 x
theorem pe31 (n:Net):p31 [.agg n.cells]=some (.bool (smallN n)):=primOf_enc (by intro x y h;(simp only [List.cons.injEq,AV.agg.injEq,AV.str.injEq,AV.int.injEq,AV.ps.injEq,AV.bool.injEq,Net.cells_iff,Ln.row_iff,Pc.row_iff,Mv.row_iff,lns_iff,pcs_iff,mvs_iff,true_and,and_true] at h;first | simpa only [Prod.ext_iff] using h | simpa only [Prod.ext_iff,and_assoc] using h)) n trivial
end Go.Sim

namespace Go.Sim
open Go
theorem line_found {n:Net} (h:netR n=0) {i:Nat} {l:Ln} (hl:n.lines[i]? = some l):findL n.lines l.name=some i:=by
 have hz:=allR_zero (netR_lines h) (List.getElem?_eq_some_iff.1 hl).1
 unfold lineR at hz
 simp only [hl] at hz
 split at hz
 · rename_i he
   have hd:=firstI_zero he (whenI (decide (findI n.lines l.name < i)) 9) (by simp)
   have hlt:¬ (findI n.lines l.name < i):=by
    intro hc;rw [decide_eq_true hc] at hd;simp [whenI] at hd
   unfold findI at hlt
   cases hf:findL n.lines l.name with
   | none=>rw [hf] at hlt;exfalso;simp only at hlt;omega
   | some k =>
     rw [hf] at hlt
     simp only at hlt
     have hki:i≤k:=by omega
     unfold findL at hf
     rw [List.findIdx?_eq_some_iff_getElem] at hf
     obtain ⟨hk,_,hmin⟩:=hf
     by_cases e:k=i
     · rw [e]
     · have:=hmin i (by omega)
       rw [(List.getElem?_eq_some_iff.1 hl).2] at this
       exact absurd (beqL_self l.name) (by simpa using this)
 · rename_i he;exact absurd hz he
variable {l:Ln}
end Go.Sim

namespace Go.Sim
open Go Go.Proofs
set_option maxRecDepth 100000
set_option maxHeartbeats 8000000
theorem Sw.row_iff (a b:Sw):a.row=b.row ↔ a=b:=⟨Sw.row_inj a b,fun h=>by rw [h]⟩
structure Br where
 sw:Sw
 at':Int
def Br.row (b:Br):List AV:=[.str b.sw.name,.str b.sw.line,i64 b.sw.metre,.str b.sw.other,.bool b.sw.last,i64 b.at']
theorem Br.row_inj (a b:Br) (h:a.row=b.row):a=b:=by
 obtain ⟨⟨a1,a2,a3,a4,a5⟩,a6⟩:=a
 obtain ⟨⟨b1,b2,b3,b4,b5⟩,b6⟩:=b
 simp only [Br.row,List.cons.injEq,AV.str.injEq,AV.int.injEq,AV.bool.injEq,true_and,and_true] at h
 obtain ⟨rfl,rfl,rfl,rfl,rfl,rfl⟩:=h;rfl
theorem Br.row_iff (a b:Br):a.row=b.row ↔ a=b:=⟨Br.row_inj a b,fun h=>by rw [h]⟩
theorem evalO_str0 {C:Cfg} {T:TT AV}:evalO C T (.const (.string { data:=#[] }))=some (.str []):=rfl
attribute [go_sem] evalO_str0
theorem ab259 (a c:List Nat) (b d:Int):abuild NC.P 33 [(0,.agg [.str a,.int .i64 b]),(1,.agg [.str c,.int .i64 d])]=some (.agg [.str a,.int .i64 b,.str c,.int .i64 d]):=by kernel_rfl
attribute [go_sem] ab259
def endM (n:Net) (s:Sw):Int:=if s.last then wrapq .i64 (Int.sub (sumW (lnOf n.lines s.other).ps 0) 1) else 0
noncomputable def PPF151:FuncId→Option (List AV→Option AV):=addPrim 67 p99 (addPrim 56 p98 (fun _=>none))
theorem primsF151:PrimsOk NC PPF151:=primsOk_add (primsOk_add (primsOk_none) (by kernel_rfl) (by kernel_rfl) pok98) (by kernel_rfl) (by kernel_rfl) pok99
theorem enF151_98:En PPF151 56 p98:=enter_prim (by rfl) (by kernel_rfl)
theorem enF151_99:En PPF151 67 p99:=enter_prim (by rfl) (by kernel_rfl)
attribute [go_sem ↓] enF151_98 enF151_99
theorem c151 (n:Net) (s:Sw) (hp:n.Ok):∀ lo H,CallOk NC lo 41 [.agg n.cells,.agg s.row] H (.agg [.str s.line,i64 s.metre,.str s.other,i64 (endM n s)]) H:=by
 refine contract saneNC primsF151 (fn:=Try.f41) (by kernel_rfl) Try.func41 rfl rfl (by rfl) rfl ?_
 have e98:p98 [.agg n.cells,.str s.other]=some (.tup [.agg (lnOf n.lines s.other).row,.bool (lnB n.lines s.other)]):=pe98 (n,s.other) hp.lines
 have e99:=pe99 (lnOf n.lines s.other) (lnOf_fits fun l hl=>(hp.line l hl).2)
 have hE:endM n s=if s.last then wrapq .i64 (Int.sub (sumW (lnOf n.lines s.other).ps 0) 1) else 0:=rfl
 rw [hE]
 simp only [Net.cells] at e98
 generalize lnOf n.lines s.other=l at e98 e99
 obtain ⟨a,b,c,d,e⟩:=s
 obtain ⟨ln,lp⟩:=l
 simp only [Ln.row] at e98 e99
 cases e<;>simp only [go_sem,reduceIte,reduceEqDiff,reduceAdd,reduceMul,reduceSub,reduceLeDiff,reduceLT,Nat.reduceBEq,reduceCtorEq,Net.cells,Sw.row,e98,e99]
noncomputable def p151:List AV→Option AV:=primOf (α:=(Net) × (Sw)) (fun x=>[.agg x.1.cells,.agg x.2.row]) (fun x=>x.1.Ok) (fun x=>.agg [.str x.2.line,i64 x.2.metre,.str x.2.other,i64 (endM x.1 x.2)])
theorem pok151:∀ args v,p151 args=some v → ∀ lo H,CallOk NC lo 41 args H v H:=by
 intro args v h
 obtain ⟨x,rfl,hp,rfl⟩:=primOf_inv h
 exact c151 x.1 x.2 hp
theorem pe151 (n:Net) (s:Sw) (hp:n.Ok):p151 [.agg n.cells,.agg s.row]=some (.agg [.str s.line,.int .i64 s.metre,.str s.other,.int .i64 (endM n s)]):=primOf_enc (by intro x y h;(simp only [List.cons.injEq,AV.agg.injEq,AV.str.injEq,AV.int.injEq,AV.ps.injEq,AV.bool.injEq,Net.cells_iff,Ln.row_iff,Pc.row_iff,Mv.row_iff,lns_iff,pcs_iff,mvs_iff,Sw.row_iff,Br.row_iff,true_and,and_true] at h;first | simpa only [Prod.ext_iff] using h | simpa only [Prod.ext_iff,and_assoc] using h)) (n,s) hp
end Go.Sim

namespace Go.Sim
open Go Go.Proofs
set_option maxRecDepth 100000
set_option maxHeartbeats 16000000
def Leg.row (l:Leg):List AV:=[.str l.line,i64 l.fr,i64 l.to]
theorem Leg.row_len (l:Leg):l.row.length=3:=rfl
theorem Leg.row_inj (a b:Leg) (h:a.row=b.row):a=b:=by
 cases a;cases b;simp [Leg.row] at h;obtain ⟨rfl,rfl,rfl⟩:=h;rfl
theorem Leg.row_iff (a b:Leg):a.row=b.row ↔ a=b:=⟨Leg.row_inj a b,fun h=>by rw [h]⟩
theorem lgs_iff (a b:List Leg):a.map Leg.row=b.map Leg.row ↔ a=b:=⟨fun h=>map_inj Leg.row_inj h,fun h=>by rw [h]⟩
def legW (l:Leg):Int:=maxI (wrapq .i64 (Int.sub l.fr l.to)) (wrapq .i64 (Int.sub l.to l.fr))
noncomputable def PPF146:FuncId→Option (List AV→Option AV):=fun _=>none
theorem primsF146:PrimsOk NC PPF146:=primsOk_none
theorem c146 (l:Leg):∀ lo H,CallOk NC lo 65 [.agg l.row] H (i64 (legW l)) H:=by
 refine contract saneNC primsF146 (fn:=Try.f65) (by kernel_rfl) Try.func65 rfl rfl (by rfl) (by first | rfl | (split<;>first | rfl | (split<;>rfl))) ?_
 obtain ⟨a,b,c⟩:=l
 simp only [go_sem,reduceIte,reduceEqDiff,reduceAdd,reduceMul,reduceSub,reduceLeDiff,reduceLT,Nat.reduceBEq,reduceCtorEq,Leg.row]
 rfl
noncomputable def p146:List AV→Option AV:=primOf (α:=(Leg)) (fun x=>[.agg x.row]) (fun x=>True) (fun x=>i64 (legW x))
theorem pok146:∀ args v,p146 args=some v → ∀ lo H,CallOk NC lo 65 args H v H:=by
 intro args v h
 obtain ⟨x,rfl,hp,rfl⟩:=primOf_inv h
 exact c146 x
theorem pe146 (l:Leg):p146 [.agg l.row]=some (.int .i64 (legW l)):=primOf_enc (by intro x y h;(simp only [List.cons.injEq,AV.agg.injEq,AV.str.injEq,AV.int.injEq,AV.ps.injEq,AV.bool.injEq,Net.cells_iff,Ln.row_iff,Pc.row_iff,Mv.row_iff,lns_iff,pcs_iff,mvs_iff,Leg.row_iff,lgs_iff,true_and,and_true] at h;first | simpa only [Prod.ext_iff] using h | simpa only [Prod.ext_iff,and_assoc] using h)) l trivial
def orL:List Int→Int
 | []=>0
 | x::r=>if x=0 then orL r else x
theorem c241L (l:List Int) (hl:l.length≤maxRows):∀ lo H,CallOk NC lo 59 [.ps .unk (intRows l)] H (i64 (orL l)) H:=by
 refine contract saneNC primsOk_none (fn:=Try.f59) (by kernel_rfl) Try.func59 rfl rfl (by rfl) (by rfl) ?_
 simp only [go_sem,reduceIte,reduceEqDiff,reduceAdd,reduceMul,reduceSub,reduceLeDiff,reduceLT,Nat.reduceBEq,reduceCtorEq]
 refine W_for (fun k T H M=>M=[]∧getT T 3=i64 0∧getT T 6=.ps .unk (intRows l)∧getT T 7=i64 (l.length:Nat)∧getT T 8=i64 k∧orL l=orL (l.drop k)) l.length ?_ ?_ ?_
 · simp only [go_sem,reduceIte,reduceEqDiff,reduceAdd,reduceMul,reduceSub,reduceLeDiff,reduceLT,Nat.reduceBEq,reduceCtorEq,intRows_len,List.drop_zero]
 · rintro k T H M hk ⟨rfl,g3,g6,g7,g8,hf⟩
   obtain ⟨e,he⟩:∃ e,l[k]? = some e:=⟨l[k],by simp⟩
   have hr:=intRows_at he
   have hw:=wrap_succ hk hl
   rw [drop_at he] at hf
   have hor:orL (e::l.drop (k+1))=if e=0 then orL (l.drop (k+1)) else e:=rfl
   rw [hor] at hf
   rcases Classical.propComplete (e=0) with z | z
   · rw [if_pos (of_eq_true z)] at hf
     simp only [go_sem,reduceIte,reduceEqDiff,reduceAdd,reduceMul,reduceSub,reduceLeDiff,reduceLT,Nat.reduceBEq,reduceCtorEq,g3,g6,g7,g8,intRows_len,hk,hr,hw,z]
     exact hf
   · rw [if_neg (of_eq_false z)] at hf
     simp only [go_sem,reduceIte,reduceEqDiff,reduceAdd,reduceMul,reduceSub,reduceLeDiff,reduceLT,Nat.reduceBEq,reduceCtorEq,g3,g6,g7,g8,intRows_len,hk,hr,hw,z]
     rw [hf]
 · rintro T H M ⟨rfl,g3,g6,g7,g8,hf⟩
   rw [List.drop_length] at hf
   simp only [go_sem,reduceIte,reduceEqDiff,reduceAdd,reduceMul,reduceSub,reduceLeDiff,reduceLT,Nat.reduceBEq,reduceCtorEq,g3,g6,g7,g8,intRows_len,Nat.lt_irrefl]
   rw [hf];rfl
noncomputable def p241L:List AV→Option AV:=primOf (α:=List Int) (fun x=>[.ps .unk (intRows x)]) (fun x=>x.length≤maxRows) (fun x=>i64 (orL x))
theorem pok241L:∀ args v,p241L args=some v → ∀ lo H,CallOk NC lo 59 args H v H:=by
 intro args v h
 obtain ⟨x,rfl,hp,rfl⟩:=primOf_inv h
 exact c241L x hp
theorem e241L3 (a b c:Int):p241L [.ps .unk [[.int .i64 a],[.int .i64 b],[.int .i64 c]]]=some (.int .i64 (orL [a,b,c])):=primOf_enc (by intro x y h;exact intRows_inj x y h) [a,b,c] (by show 3≤1073741824;decide)
variable {P:FuncId→Option (List AV→Option AV)}
theorem en273 {P:FuncId→Option (List AV→Option AV)} (hP:P 83=none) {lo:Nat} {args:List AV} {H:Heap} {K:AV→Heap→Prop}:VO (aenter (NC.withPrims P) (R (NC.withPrims P)) lo 83 args H) K=AO (R (NC.withPrims P) (.call H.n 83 args H)) fun o=>o.val.strip.pure=true∧K o.val.strip H:=by
 refine enter_pure rfl ?_ (by kernel_rfl) (by kernel_rfl) (by kernel_rfl)
 show (match NC.prim 83 with | some p=>some p | none=>P 83)=none
 rw [hP];kernel_rfl
theorem en244 {P:FuncId→Option (List AV→Option AV)} (hP:P 62=none) {lo:Nat} {args:List AV} {H:Heap} {K:AV→Heap→Prop}:VO (aenter (NC.withPrims P) (R (NC.withPrims P)) lo 62 args H) K=AO (R (NC.withPrims P) (.call H.n 62 args H)) fun o=>o.val.strip.pure=true∧K o.val.strip H:=by
 refine enter_pure rfl ?_ (by kernel_rfl) (by kernel_rfl) (by kernel_rfl)
 show (match NC.prim 62 with | some p=>some p | none=>P 62)=none
 rw [hP];kernel_rfl
theorem en243 {P:FuncId→Option (List AV→Option AV)} (hP:P 61=none) {lo:Nat} {args:List AV} {H:Heap} {K:AV→Heap→Prop}:VO (aenter (NC.withPrims P) (R (NC.withPrims P)) lo 61 args H) K=AO (R (NC.withPrims P) (.call H.n 61 args H)) fun o=>o.val.strip.pure=true∧K o.val.strip H:=by
 refine enter_pure rfl ?_ (by kernel_rfl) (by kernel_rfl) (by kernel_rfl)
 show (match NC.prim 61 with | some p=>some p | none=>P 61)=none
 rw [hP];kernel_rfl
theorem r273 (lo:Nat) (l:Ln) (s:List Nat) (c:Nat) (H:Heap) (hc:c < H.n) (hs:H.get c=.cells [.str s] 9):R (NC.withPrims P) (.call lo 83 [.agg l.row,.ptr c 0] H)=some (.ofVal (.bool (beqL l.name s)) (H.push (.cells l.row 87))):=by
 have hne:(c=H.n)=False:=by simp;omega
 obtain ⟨v,H',h1,h2,h3⟩:=R_of_body (C:=NC.withPrims P) (f:=83) (lo:=lo) (args:=[.agg l.row,.ptr c 0]) (H:=H) (fn:=Try.f83) (Q:=fun v H'=>v=.bool (beqL l.name s)∧H'=H.push (.cells l.row 87)) (by kernel_rfl) Try.func83 rfl rfl (by
  obtain ⟨a,b⟩:=l
  simp only [go_sem,reduceIte,reduceEqDiff,reduceAdd,reduceMul,reduceSub,reduceLeDiff,reduceLT,Nat.reduceBEq,reduceCtorEq,Ln.row,hs,hne])
 rw [h1,h2,h3]
theorem r174x (hP:P 83=none) (lo:Nat) (ls:List Ln) (s:List Nat) (c:Nat) (H:Heap) (hl:ls.length≤maxRows) (hc:c < H.n) (hs:H.get c=.cells [.str s] 9) :
 ∃ H',R (NC.withPrims P) (.call lo 80 [.ps .unk (ls.map Ln.row),.fn 83 [] [.ptr c 0]] H)=some (.ofVal (i64 (findI ls s)) H'):=by
 obtain ⟨v,H',h1,h2⟩:=R_of_body (C:=NC.withPrims P) (f:=80) (lo:=lo) (args:=[.ps .unk (ls.map Ln.row),.fn 83 [] [.ptr c 0]]) (H:=H) (fn:=Try.f80) (Q:=fun v H'=>v=i64 (findI ls s)) (by kernel_rfl) Try.func80 rfl rfl (by
  simp only [go_sem,reduceIte,reduceEqDiff,reduceAdd,reduceMul,reduceSub,reduceLeDiff,reduceLT,Nat.reduceBEq,reduceCtorEq]
  refine W_for (fun k T H' M=>M=[]∧getT T 0=.ps .unk (ls.map Ln.row)∧getT T 1=.fn 83 [] [.ptr c 0]∧getT T 7=i64 (ls.length:Nat)∧getT T 8=i64 k∧c < H'.n∧H'.get c=.cells [.str s] 9 ∧ ∀ (j:Nat) (l:Ln),j < k→ls[j]? = some l→beqL l.name s=false) ls.length ?_ ?_ ?_
  · simp only [go_sem,reduceIte,reduceEqDiff,reduceAdd,reduceMul,reduceSub,reduceLeDiff,reduceLT,Nat.reduceBEq,reduceCtorEq,List.length_map];exact ⟨hc,hs,fun j l hj=>absurd hj (by omega)⟩
  · rintro k T H' M hk ⟨rfl,g0,g1,g7,g8,gc,gs,hf⟩
    obtain ⟨l,hp⟩:∃ p,ls[k]? = some p:=⟨ls[k],by simp⟩
    have hr:=map_at (f:=Ln.row) hp
    have hw:=wrap_succ hk hl
    have hcall:=fun lo=>r273 (P:=P) lo l s c H' gc gs
    simp only [Ln.row] at hr hcall
    cases hb:beqL l.name s with
    | true =>
      simp only [hb] at hcall
      simp only [go_sem,reduceIte,reduceEqDiff,reduceAdd,reduceMul,reduceSub,reduceLeDiff,reduceLT,Nat.reduceBEq,reduceCtorEq,g0,g1,g7,g8,List.length_map,hk,hr,hw,en273 hP,hcall,ofVal_v,ofVal_H]
      simp [findI,findL_drop hf hp hb]
    | false =>
      simp only [hb] at hcall
      simp only [go_sem,reduceIte,reduceEqDiff,reduceAdd,reduceMul,reduceSub,reduceLeDiff,reduceLT,Nat.reduceBEq,reduceCtorEq,g0,g1,g7,g8,List.length_map,hk,hr,hw,en273 hP,hcall,ofVal_v,ofVal_H]
      refine ⟨gc,gs,fun j l' hj hl' => ?_⟩
      by_cases e:j=k
      · subst e;rw [hp] at hl';cases hl';exact hb
      · exact hf j l' (by omega) hl'
  · rintro T H' M ⟨rfl,g0,g1,g7,g8,gc,gs,hf⟩
    simp only [go_sem,reduceIte,reduceEqDiff,reduceAdd,reduceMul,reduceSub,reduceLeDiff,reduceLT,Nat.reduceBEq,reduceCtorEq,g0,g1,g7,g8,List.length_map,Nat.lt_irrefl]
    simp [findI,findL_none hf])
 exact ⟨H',by rw [h1,h2]⟩
noncomputable def PPF245:FuncId→Option (List AV→Option AV):=fun _=>none
theorem primsF245:PrimsOk NC PPF245:=primsOk_none
theorem c245 (n:Net) (s:List Nat) (hp:n.lines.length≤maxRows):∀ lo H,CallOk NC lo 63 [.agg n.cells,.str s] H (i64 (findI n.lines s)) H:=by
 refine contract saneNC primsF245 (fn:=Try.f63) (by kernel_rfl) Try.func63 rfl rfl (by rfl) (by first | rfl | (split<;>first | rfl | (split<;>rfl))) ?_
 obtain ⟨H',hr⟩:=r174x (P:=PPF245) rfl 2 n.lines s 1 ((Heap.empty.push (.cells n.cells 46)).push (.cells [.str s] 9)) hp (by rw [hn_push,hn_push];exact Nat.lt_succ_self _) (by rfl)
 simp only [Net.cells] at hr
 simp only [go_sem,reduceIte,reduceEqDiff,reduceAdd,reduceMul,reduceSub,reduceLeDiff,reduceLT,Nat.reduceBEq,reduceCtorEq,Net.cells,en174 (show PPF245 80=none from rfl),hr,ofVal_v,ofVal_H]
noncomputable def p245:List AV→Option AV:=primOf (α:=(Net) × (List Nat)) (fun x=>[.agg x.1.cells,.str x.2]) (fun x=>x.1.lines.length≤maxRows) (fun x=>i64 (findI x.1.lines x.2))
theorem pok245:∀ args v,p245 args=some v → ∀ lo H,CallOk NC lo 63 args H v H:=by
 intro args v h
 obtain ⟨x,rfl,hp,rfl⟩:=primOf_inv h
 exact c245 x.1 x.2 hp
theorem pe245 (n:Net) (s:List Nat) (hp:n.lines.length≤maxRows):p245 [.agg n.cells,.str s]=some (.int .i64 (findI n.lines s)):=primOf_enc (by intro x y h;(simp only [List.cons.injEq,AV.agg.injEq,AV.str.injEq,AV.int.injEq,AV.ps.injEq,AV.bool.injEq,Net.cells_iff,Ln.row_iff,Pc.row_iff,Mv.row_iff,lns_iff,pcs_iff,mvs_iff,Leg.row_iff,lgs_iff,true_and,and_true] at h;first | simpa only [Prod.ext_iff] using h | simpa only [Prod.ext_iff,and_assoc] using h)) (n,s) hp
def cmpLeg (n:Net) (x y:Leg):Int:=orL [cmpI (findI n.lines x.line) (findI n.lines y.line),cmpI x.fr y.fr,cmpI x.to y.to]
def cmpLegs (n:Net):List Leg→List Leg→Int
 | [],[]=>0
 | [],_::_=>-1
 | _::_,[]=>1
 | x::a,y::b=>if cmpLeg n x y=0 then cmpLegs n a b else cmpLeg n x y
theorem en245 (h:P 63=some p245) {lo:Nat} {rec:Rec} {args:List AV} {H:Heap} {K:AV→Heap→Prop}:VO (aenter (NC.withPrims P) rec lo 63 args H) K=AO (p245 args) fun v=>K v H:=by
 refine enter_prim (by rfl) ?_
 show (match NC.prim 63 with | some p=>some p | none=>P 63)=some p245
 have:NC.prim 63=none:=by kernel_rfl
 rw [this];exact h
theorem en119 (h:P 60=some p119) {lo:Nat} {rec:Rec} {args:List AV} {H:Heap} {K:AV→Heap→Prop}:VO (aenter (NC.withPrims P) rec lo 60 args H) K=AO (p119 args) fun v=>K v H:=by
 refine enter_prim (by rfl) ?_
 show (match NC.prim 60 with | some p=>some p | none=>P 60)=some p119
 have:NC.prim 60=none:=by kernel_rfl
 rw [this];exact h
theorem en241L (h:P 59=some p241L) {lo:Nat} {rec:Rec} {args:List AV} {H:Heap} {K:AV→Heap→Prop}:VO (aenter (NC.withPrims P) rec lo 59 args H) K=AO (p241L args) fun v=>K v H:=by
 refine enter_prim (by rfl) ?_
 show (match NC.prim 59 with | some p=>some p | none=>P 59)=some p241L
 have:NC.prim 59=none:=by kernel_rfl
 rw [this];exact h
theorem r244 (h245:P 63=some p245) (h119:P 60=some p119) (h241:P 59=some p241L) (n:Net) (hn:n.lines.length≤maxRows) (x y:Leg) (lo c:Nat) (H:Heap) (hc:c < H.n) (hs:H.get c=.cells n.cells 46) :
 ∃ H',R (NC.withPrims P) (.call lo 62 [.agg x.row,.agg y.row,.ptr c 0] H)=some (.ofVal (i64 (cmpLeg n x y)) H'):=by
 have hne:(c=H.n)=False:=by simp;omega
 have hne1:(c=H.n+1)=False:=by simp;omega
 have ex:=pe245 n x.line hn
 have ey:=pe245 n y.line hn
 have e119:∀ a b,p119 [.int .i64 a,.int .i64 b]=some (.int .i64 (cmpI a b)):=fun a b=>pe119 a b
 obtain ⟨v,H',h1,h2⟩:=R_of_body (C:=NC.withPrims P) (f:=62) (lo:=lo) (args:=[.agg x.row,.agg y.row,.ptr c 0]) (H:=H) (fn:=Try.f62) (Q:=fun v H'=>v=i64 (cmpLeg n x y)) (by kernel_rfl) Try.func62 rfl rfl (by
  unfold cmpLeg
  generalize findI n.lines x.line=X at ex ⊢
  generalize findI n.lines y.line=Y at ey ⊢
  obtain ⟨x1,x2,x3⟩:=x
  obtain ⟨y1,y2,y3⟩:=y
  simp only [Net.cells] at ex ey hs
  simp only [go_sem,reduceIte,reduceEqDiff,reduceAdd,reduceMul,reduceSub,reduceLeDiff,reduceLT,Nat.reduceBEq,reduceCtorEq,Leg.row,hs,hne,hne1,Net.cells,en245 h245,ex,ey,en119 h119,e119,en241L h241,e241L3])
 exact ⟨H',by rw [h1,h2]⟩
end Go.Sim

namespace Go.Sim
open Go Go.Proofs
set_option maxRecDepth 100000
set_option maxHeartbeats 16000000
variable {P:FuncId→Option (List AV→Option AV)}
theorem known {f:FuncId} {q:List AV→Option AV} (h:P f=some q) (h0:NC.prim f=none):(NC.withPrims P).prim f=some q:=by
 show (match NC.prim f with | some p=>some p | none=>P f)=_
 rw [h0,h]
end Go.Sim

namespace Go.Sim
open Go
variable {C:Cfg} {lo:Nat} {fid:FuncId} {rnd:Bool}
theorem W_while {b:Code} {Q:AExit→TT AV→Heap→List Nat→Prop} (I:Nat→TT AV→Heap→List Nat→Prop)
 (step:∀ k T H M,I k T H M→W C lo fid rnd b T H M fun e T H M=>next e (∃ m,m < k∧I m T H M) (Q e T H M)) :
 ∀ (n:Nat) (T:TT AV) (H:Heap) (M:List Nat),I n T H M→W C lo fid rnd (.loop b) T H M Q:=by
 intro n
 induction n using Nat.strongRecOn with
 | _ n ih =>
   intro T H M h0
   rw [W_loop]
   refine W_mono (step n T H M h0) fun e T H M h => ?_
   cases e with
   | nrm =>
     obtain ⟨m,hm,hI⟩:=h
     exact ih m hm T H M hI
   | _=>exact h
end Go.Sim

namespace Go.Sim
open Go Go.Proofs
set_option maxRecDepth 100000
set_option maxHeartbeats 16000000
variable {P:FuncId→Option (List AV→Option AV)}
theorem r243 (h245:P 63=some p245) (h119:P 60=some p119) (h241:P 59=some p241L) (h244:P 62=none) (n:Net) (hn:n.lines.length≤maxRows) (a b:List Leg) (ha:a.length≤maxRows) (hb:b.length≤maxRows) (lo c:Nat) (H:Heap) (hlo:lo≤H.n) (hc:c < H.n) (hs:H.get c=.cells n.cells 46) :
 ∃ H',R (NC.withPrims P) (.call lo 61 [.ps .unk (a.map Leg.row),.ps .unk (b.map Leg.row),.fn 62 [] [.ptr c 0]] H)=some (.ofVal (i64 (cmpLegs n a b)) H'):=by
 obtain ⟨v,H',h1,h2⟩:=R_of_body (C:=NC.withPrims P) (f:=61) (lo:=lo) (args:=[.ps .unk (a.map Leg.row),.ps .unk (b.map Leg.row),.fn 62 [] [.ptr c 0]]) (H:=H) (fn:=Try.f61) (Q:=fun v H'=>v=i64 (cmpLegs n a b)) (by kernel_rfl) Try.func61 rfl rfl (by
  simp only [go_sem,reduceIte,reduceEqDiff,reduceAdd,reduceMul,reduceSub,reduceLeDiff,reduceLT,Nat.reduceBEq,reduceCtorEq]
  refine W_for (fun k T H' M=>M=[]∧getT T 0=.ps .unk (a.map Leg.row)∧getT T 1=.ps .unk (b.map Leg.row)∧getT T 2=.fn 62 [] [.ptr c 0]∧getT T 11=.ps .unk (a.map Leg.row)∧getT T 12=i64 (a.length:Nat)∧getT T 13=i64 k∧lo≤H'.n∧c < H'.n∧H'.get c=.cells n.cells 46∧cmpLegs n a b=cmpLegs n (a.drop k) (b.drop k)) a.length ?_ ?_ ?_
  · simp only [go_sem,reduceIte,reduceEqDiff,reduceAdd,reduceMul,reduceSub,reduceLeDiff,reduceLT,Nat.reduceBEq,reduceCtorEq,List.length_map];exact ⟨hlo,hc,hs⟩
  · rintro k T H1 M hk ⟨rfl,g0,g1,g2,g11,g12,g13,gl,gc,gs,hf⟩
    have hl1:(lo≤H1.n)=True:=by simp [gl]
    have hl2:(lo≤H1.n+1)=True:=by simp only [eq_iff_iff,iff_true];omega
    obtain ⟨x,hx⟩:∃ p,a[k]? = some p:=⟨a[k],by simp⟩
    have hrx:=map_at (f:=Leg.row) hx
    have hw:=wrap_succ hk ha
    have hcn:(c=H1.n)=False:=by simp;omega
    have hcn1:(c=H1.n+1)=False:=by simp;omega
    rw [drop_at hx] at hf
    rcases Nat.lt_or_ge k b.length with hkb | hkb
    · obtain ⟨y,hy⟩:∃ p,b[k]? = some p:=⟨b[k],by simp⟩
      have hry:=map_at (f:=Leg.row) hy
      rw [drop_at hy] at hf
      obtain ⟨H2,hcall⟩:=r244 h245 h119 h241 n hn x y (((H1.push (.cells [.str [],.int .i64 0,.int .i64 0] 55)).set H1.n (.cells x.row 55)).push (.cells [.str [],.int .i64 0,.int .i64 0] 55) |>.set (H1.n+1) (.cells y.row 55)).n c (((H1.push (.cells [.str [],.int .i64 0,.int .i64 0] 55)).set H1.n (.cells x.row 55)).push (.cells [.str [],.int .i64 0,.int .i64 0] 55) |>.set (H1.n+1) (.cells y.row 55)) (by simp;omega) (by simp only [go_sem,reduceIte,reduceEqDiff,reduceAdd,reduceMul,reduceSub,reduceLeDiff,reduceLT,Nat.reduceBEq,reduceCtorEq,hcn,hcn1];exact gs)
      have hcl:cmpLegs n (x::a.drop (k+1)) (y::b.drop (k+1))=if cmpLeg n x y=0 then cmpLegs n (a.drop (k+1)) (b.drop (k+1)) else cmpLeg n x y:=rfl
      rw [hcl] at hf
      generalize cmpLeg n x y=C at hcall hf
      simp only [hn_set,hn_push] at hcall
      obtain ⟨x1,x2,x3⟩:=x
      obtain ⟨y1,y2,y3⟩:=y
      simp only [Leg.row] at hrx hry hcall
      rcases Classical.propComplete (C=0) with z | z
      · rw [if_pos (of_eq_true z)] at hf
        simp only [go_sem,reduceIte,reduceEqDiff,reduceAdd,reduceMul,reduceSub,reduceLeDiff,reduceLT,Nat.reduceBEq,reduceCtorEq,g0,g1,g2,g11,g12,g13,List.length_map,hk,hkb,hrx,hry,hw,en244 h244,hcall,ofVal_v,ofVal_H,z,hcn,hcn1,hl1,hl2]
        exact ⟨by omega,by omega,gs,hf⟩
      · rw [if_neg (of_eq_false z)] at hf
        simp only [go_sem,reduceIte,reduceEqDiff,reduceAdd,reduceMul,reduceSub,reduceLeDiff,reduceLT,Nat.reduceBEq,reduceCtorEq,g0,g1,g2,g11,g12,g13,List.length_map,hk,hkb,hrx,hry,hw,en244 h244,hcall,ofVal_v,ofVal_H,z,hcn,hcn1,hl1,hl2]
        rw [hf]
    · have hkb':(k < b.length)=False:=by simp only [eq_iff_iff,iff_false];omega
      rw [List.drop_of_length_le hkb] at hf
      have hcl:cmpLegs n (x::a.drop (k+1)) []=1:=rfl
      rw [hcl] at hf
      obtain ⟨x1,x2,x3⟩:=x
      simp only [Leg.row] at hrx
      simp only [go_sem,reduceIte,reduceEqDiff,reduceAdd,reduceMul,reduceSub,reduceLeDiff,reduceLT,Nat.reduceBEq,reduceCtorEq,g0,g1,g2,g11,g12,g13,List.length_map,hk,hkb',hrx,hf,hl1]
  · rintro T H1 M ⟨rfl,g0,g1,g2,g11,g12,g13,gl,gc,gs,hf⟩
    rw [List.drop_length] at hf
    rcases Nat.lt_or_ge a.length b.length with hab | hab
    · have:cmpLegs n [] (b.drop a.length) = -1:=by
       cases hd:b.drop a.length with
       | nil=>have:=congrArg List.length hd;simp at this;omega
       | cons y r=>rfl
      rw [this] at hf
      simp only [go_sem,reduceIte,reduceEqDiff,reduceAdd,reduceMul,reduceSub,reduceLeDiff,reduceLT,Nat.reduceBEq,reduceCtorEq,g0,g1,g2,g11,g12,g13,List.length_map,Nat.lt_irrefl,hab,hf]
    · have hab':(a.length < b.length)=False:=by simp only [eq_iff_iff,iff_false];omega
      rw [List.drop_of_length_le hab] at hf
      have:cmpLegs n [] []=0:=rfl
      rw [this] at hf
      simp only [go_sem,reduceIte,reduceEqDiff,reduceAdd,reduceMul,reduceSub,reduceLeDiff,reduceLT,Nat.reduceBEq,reduceCtorEq,g0,g1,g2,g11,g12,g13,List.length_map,Nat.lt_irrefl,hab',hf])
 exact ⟨H',by rw [h1,h2]⟩
def cmpRt (n:Net) (a:List Leg) (d:Int) (b:List Leg) (e:Int):Int:=orL [cmpI d e,cmpI (a.length:Nat) (b.length:Nat),cmpLegs n a b]
noncomputable def PPF203:FuncId→Option (List AV→Option AV):=addPrim 59 p241L (addPrim 60 p119 (addPrim 63 p245 (fun _=>none)))
theorem primsF203:PrimsOk NC PPF203:=primsOk_add (primsOk_add (primsOk_add (primsOk_none) (by kernel_rfl) (by kernel_rfl) pok245) (by kernel_rfl) (by kernel_rfl) pok119) (by kernel_rfl) (by kernel_rfl) pok241L
theorem enF203_119:En PPF203 60 p119:=enter_prim (by rfl) (by kernel_rfl)
theorem enF203_241 {rec:Rec} {lo:Nat} {args:List AV} {H:Heap} {K:AV→Heap→Prop}:VO (aenter (NC.withPrims PPF203) rec lo 59 args H) K=AO (p241L args) fun v=>K v H:=enter_prim (by rfl) (by kernel_rfl)
attribute [go_sem ↓] enF203_119 enF203_241
theorem c203 (n:Net) (a:List Leg) (d:Int) (b:List Leg) (e:Int) (hp:n.lines.length≤maxRows∧a.length≤maxRows∧b.length≤maxRows):∀ lo H,CallOk NC lo 38 [.agg n.cells,.agg [.ps .unk (a.map Leg.row),i64 d],.agg [.ps .unk (b.map Leg.row),i64 e]] H (i64 (cmpRt n a d b e)) H:=by
 refine contract saneNC primsF203 (fn:=Try.f38) (by kernel_rfl) Try.func38 rfl rfl (by rfl) (by first | rfl | (split<;>first | rfl | (split<;>rfl))) ?_
 obtain ⟨hn,ha,hb⟩:=hp
 have e119:∀ a b,p119 [.int .i64 a,.int .i64 b]=some (.int .i64 (cmpI a b)):=fun a b=>pe119 a b
 obtain ⟨H',hr⟩:=r243 (P:=PPF203) rfl rfl rfl rfl n hn a b ha hb 3 0 (((Heap.empty.push (.cells n.cells 46)).push (.cells [.ps .unk (a.map Leg.row),.int .i64 d] 82)).push (.cells [.ps .unk (b.map Leg.row),.int .i64 e] 82)) (by rw [hn_push,hn_push,hn_push];exact Nat.le_refl 3) (by rw [hn_push,hn_push,hn_push];exact Nat.succ_pos _) (by rfl)
 unfold cmpRt
 generalize cmpLegs n a b=C at hr ⊢
 simp only [Net.cells] at hr
 simp only [go_sem,reduceIte,reduceEqDiff,reduceAdd,reduceMul,reduceSub,reduceLeDiff,reduceLT,Nat.reduceBEq,reduceCtorEq,Net.cells,List.length_map,e119,en243 (show PPF203 61=none from rfl),hr,ofVal_v,ofVal_H,e241L3]
noncomputable def p203:List AV→Option AV:=primOf (α:=(Net) × (List Leg) × (Int) × (List Leg) × (Int)) (fun x=>[.agg x.1.cells,.agg [.ps .unk (x.2.1.map Leg.row),i64 x.2.2.1],.agg [.ps .unk (x.2.2.2.1.map Leg.row),i64 x.2.2.2.2]]) (fun x=>x.1.lines.length≤maxRows∧x.2.1.length≤maxRows∧x.2.2.2.1.length≤maxRows) (fun x=>i64 (cmpRt x.1 x.2.1 x.2.2.1 x.2.2.2.1 x.2.2.2.2))
theorem pok203:∀ args v,p203 args=some v → ∀ lo H,CallOk NC lo 38 args H v H:=by
 intro args v h
 obtain ⟨x,rfl,hp,rfl⟩:=primOf_inv h
 exact c203 x.1 x.2.1 x.2.2.1 x.2.2.2.1 x.2.2.2.2 hp
theorem pe203 (n:Net) (a:List Leg) (d:Int) (b:List Leg) (e:Int) (hp:n.lines.length≤maxRows∧a.length≤maxRows∧b.length≤maxRows):p203 [.agg n.cells,.agg [.ps .unk (a.map Leg.row),.int .i64 d],.agg [.ps .unk (b.map Leg.row),.int .i64 e]]=some (.int .i64 (cmpRt n a d b e)):=primOf_enc (by intro x y h;(simp only [List.cons.injEq,AV.agg.injEq,AV.str.injEq,AV.int.injEq,AV.ps.injEq,AV.bool.injEq,Net.cells_iff,Ln.row_iff,Pc.row_iff,Mv.row_iff,lns_iff,pcs_iff,mvs_iff,Leg.row_iff,lgs_iff,true_and,and_true] at h;first | simpa only [Prod.ext_iff] using h | simpa only [Prod.ext_iff,and_assoc] using h)) (n,a,d,b,e) hp
theorem r246 (x:Leg) (r:List Leg) (hl:(x::r).length≤maxRows) (lo:Nat) (H:Heap) :
 ∃ v H',R (NC.withPrims P) (.call lo 64 [.ps .unk ((x::r).map Leg.row)] H)=some (.ofVal v H')∧v=.ps (.tok H.n) ((x::r).map Leg.row)∧H'=H.push (.row [] 3 55):=by
 refine R_of_body (C:=NC.withPrims P) (f:=64) (lo:=lo) (args:=[.ps .unk ((x::r).map Leg.row)]) (H:=H) (fn:=Try.f64) (Q:=fun v H'=>v=.ps (.tok H.n) ((x::r).map Leg.row)∧H'=H.push (.row [] 3 55)) (by kernel_rfl) Try.func64 rfl rfl ?_
 have hap:∀ lo,appP lo H 3 55 (.ps .exact []) ((x::r).map Leg.row)=some (.ps (.tok H.n) ((x::r).map Leg.row),H.push (.row [] 3 55)):=by
  intro lo
  unfold appP
  have h1:([]:List (List AV)).length+((x::r).map Leg.row).length≤maxRows:=by simpa using hl
  have h2:((x::r).map Leg.row).all pureRow=true:=by
   rw [List.all_eq_true]
   intro w hw
   obtain ⟨q,_,rfl⟩:=List.mem_map.1 hw
   rfl
  have h4:((x::r).map Leg.row).map (List.map AV.strip0)=(x::r).map Leg.row:=by
   rw [List.map_map]
   exact List.map_congr_left fun q _=>rfl
  simp only [List.map_cons] at h1 h2 h4 ⊢
  simp only [h1,h2,h4,decide_true,Bool.and_self,Bool.true_and,if_true,List.all_nil]
  rfl
 have hri:rowsIn H 3 (.ps .unk ((x::r).map Leg.row))=some ((x::r).map Leg.row):=by
  show (if ((x::r).map Leg.row).all (fun r=>decide (r.length=3))=true then some ((x::r).map Leg.row) else none)=_
  rw [if_pos (rows_all Leg.row_len _)]
 simp only [List.map_cons] at hap hri
 have hnb:isNilB .unk (x.row::r.map Leg.row)=some false:=rfl
 have hra:=rows_all Leg.row_len (x::r)
 simp only [List.map_cons,List.all_cons] at hra
 simp only [go_sem,reduceIte,reduceEqDiff,reduceAdd,reduceMul,reduceSub,reduceLeDiff,reduceLT,Nat.reduceBEq,reduceCtorEq,hnb,appO,hra,hap,List.map_cons]
theorem en246 (hP:P 64=none) {lo:Nat} {args:List AV} {H:Heap} {K:AV→Heap→Prop} (hm:mayBeNil args=false) :
 VO (aenter (NC.withPrims P) (R (NC.withPrims P)) lo 64 args H) K=AO (R (NC.withPrims P) (.call H.n 64 args H)) fun o=>K o.val o.s.H:=by
 have h1:(NC.withPrims P).memo 64 args=none:=rfl
 have h2:(NC.withPrims P).prim 64=none:=by
  show (match NC.prim 64 with | some p=>some p | none=>P 64)=none
  rw [hP];kernel_rfl
 have h3:(NC.withPrims P).hprim 64=none:=by kernel_rfl
 have h4:(NC.withPrims P).mode 64=.fresh:=by kernel_rfl
 unfold aenter
 simp only [h1,h2,h3,h4,hm,Bool.and_false,Bool.false_eq_true,if_false]
 cases R (NC.withPrims P) (.call H.n 64 args H)<;>rfl
theorem en246n (hP:P 64=none) {lo:Nat} {H:Heap} {K:AV→Heap→Prop} :
 VO (aenter (NC.withPrims P) (R (NC.withPrims P)) lo 64 [.ps .unk []] H) K=K (.ps .exact []) H:=by
 have h1:(NC.withPrims P).memo 64 [.ps .unk []]=none:=rfl
 have h2:(NC.withPrims P).prim 64=none:=by
  show (match NC.prim 64 with | some p=>some p | none=>P 64)=none
  rw [hP];kernel_rfl
 have h3:(NC.withPrims P).hprim 64=none:=by kernel_rfl
 have h4:(NC.withPrims P).twice 64=true:=by kernel_rfl
 have h5:mayBeNil [.ps .unk []]=true:=rfl
 obtain ⟨v1,H1,r1,rfl⟩:∃ v H',R (NC.withPrims P) (.call H.n 64 [.ps .nil []] H)=some (.ofVal v H')∧v=.ps .nil []:=by
  refine R_of_body (C:=NC.withPrims P) (f:=64) (lo:=H.n) (args:=[.ps .nil []]) (H:=H) (fn:=Try.f64) (Q:=fun v H'=>v=.ps .nil []) (by kernel_rfl) Try.func64 rfl rfl ?_
  have hnb:isNilB .nil []=some true:=rfl
  simp only [go_sem,reduceIte,reduceEqDiff,reduceAdd,reduceMul,reduceSub,reduceLeDiff,reduceLT,Nat.reduceBEq,reduceCtorEq,hnb]
 obtain ⟨v2,H2,r2,rfl⟩:∃ v H',R (NC.withPrims P) (.call H.n 64 [.ps .nn []] H)=some (.ofVal v H')∧v=.ps .exact []:=by
  refine R_of_body (C:=NC.withPrims P) (f:=64) (lo:=H.n) (args:=[.ps .nn []]) (H:=H) (fn:=Try.f64) (Q:=fun v H'=>v=.ps .exact []) (by kernel_rfl) Try.func64 rfl rfl ?_
  have hnb:isNilB .nn []=some false:=rfl
  have hap:∀ lo,appP lo H 3 55 (.ps .exact []) []=some (.ps .exact [],H):=fun lo=>rfl
  simp only [go_sem,reduceIte,reduceEqDiff,reduceAdd,reduceMul,reduceSub,reduceLeDiff,reduceLT,Nat.reduceBEq,reduceCtorEq,hnb,appO,hap]
 unfold aenter
 simp only [h1,h2,h3,h4,h5,Bool.and_self,if_true,r1,r2,ofVal_v]
 rfl
noncomputable def PPF204:FuncId→Option (List AV→Option AV):=addPrim 65 p146 (fun _=>none)
theorem primsF204:PrimsOk NC PPF204:=primsOk_add (primsOk_none) (by kernel_rfl) (by kernel_rfl) pok146
theorem enF204_146:En PPF204 65 p146:=enter_prim (by rfl) (by kernel_rfl)
attribute [go_sem ↓] enF204_146
theorem c204 (w:List Leg) (d:Int) (l:Leg) (hp:w.length+1≤maxRows):∀ lo H,CallOk NC lo 39 [.agg [.ps .unk (w.map Leg.row),i64 d],.agg l.row] H (.agg [.ps .unk ((w++[l]).map Leg.row),i64 (wrapq .i64 (Int.add d (legW l)))]) H:=by
 refine contract saneNC primsF204 (fn:=Try.f39) (by kernel_rfl) Try.func39 rfl rfl (by rfl) rfl ?_
 have e146:=pe146 l
 generalize legW l=D at e146 ⊢
 cases w with
 | nil =>
   have hap:∀ H:Heap,appP 0 H 3 55 (.ps .exact []) [l.row]=some (.ps (.tok H.n) [l.row],H.push (.row [] 3 55)):=fun H=>rfl
   obtain ⟨l1,l2,l3⟩:=l
   simp only [Leg.row] at e146 hap
   simp only [go_sem,reduceIte,reduceEqDiff,reduceAdd,reduceMul,reduceSub,reduceLeDiff,reduceLT,Nat.reduceBEq,reduceCtorEq,Leg.row,en246n (show PPF204 64=none from rfl),e146,appO,hap]
 | cons x r =>
   have hap:∀ (H:Heap) (k:Nat),H.get k=.row [] 3 55→appP 0 H 3 55 (.ps (.tok k) ((x::r).map Leg.row)) [l.row]=some (.ps (.tok H.n) (((x::r)++[l]).map Leg.row),(H.set k .dead).push (.row [] 3 55)):=fun H k hk=>by
    rw [app_next (by simp) (by simpa using hp) (by rfl) (by decide) (rows_all Leg.row_len _) hk (Nat.zero_le _) (by simp)]
    rw [List.map_append];rfl
   have hm:mayBeNil [.ps .unk ((x::r).map Leg.row)]=false:=rfl
   obtain ⟨v1,H1,h1,rfl,rfl⟩:=r246 (P:=PPF204) x r (by simp at hp ⊢;omega) 3 (((Heap.empty.push (.cells [.ps .unk ((x::r).map Leg.row),.int .i64 d] 82)).push (.cells l.row 55)).push (.cells [.ps .nil [],.int .i64 0] 82))
   have hap2:=hap ((((Heap.empty.push (.cells [.ps .unk ((x::r).map Leg.row),.int .i64 d] 82)).push (.cells l.row 55)).push (.cells [.ps .nil [],.int .i64 0] 82)).push (.row [] 3 55)) 3 (by rw [Heap.get_push,if_pos (by simp only [hn_push,empty_n])])
   generalize hL:((x::r)++[l]).map Leg.row=L at hap2
   generalize (x::r).map Leg.row=W at h1 hap2 hm
   obtain ⟨l1,l2,l3⟩:=l
   simp only [Leg.row] at e146 h1 hap2
   simp only [go_sem,reduceIte,reduceEqDiff,reduceAdd,reduceMul,reduceSub,reduceLeDiff,reduceLT,Nat.reduceBEq,reduceCtorEq,Leg.row,en246 (show PPF204 64=none from rfl) hm,h1,ofVal_v,ofVal_H,e146,appO,hap2]
noncomputable def p204:List AV→Option AV:=primOf (α:=(List Leg) × (Int) × (Leg)) (fun x=>[.agg [.ps .unk (x.1.map Leg.row),i64 x.2.1],.agg x.2.2.row]) (fun x=>x.1.length+1≤maxRows) (fun x=>.agg [.ps .unk ((x.1++[x.2.2]).map Leg.row),i64 (wrapq .i64 (Int.add x.2.1 (legW x.2.2)))])
theorem pok204:∀ args v,p204 args=some v → ∀ lo H,CallOk NC lo 39 args H v H:=by
 intro args v h
 obtain ⟨x,rfl,hp,rfl⟩:=primOf_inv h
 exact c204 x.1 x.2.1 x.2.2 hp
theorem pe204 (w:List Leg) (d:Int) (l:Leg) (hp:w.length+1≤maxRows):p204 [.agg [.ps .unk (w.map Leg.row),.int .i64 d],.agg l.row]=some (.agg [.ps .unk ((w++[l]).map Leg.row),.int .i64 (wrapq .i64 (Int.add d (legW l)))]):=primOf_enc (by intro x y h;(simp only [List.cons.injEq,AV.agg.injEq,AV.str.injEq,AV.int.injEq,AV.ps.injEq,AV.bool.injEq,Net.cells_iff,Ln.row_iff,Pc.row_iff,Mv.row_iff,lns_iff,pcs_iff,mvs_iff,Leg.row_iff,lgs_iff,true_and,and_true] at h;first | simpa only [Prod.ext_iff] using h | simpa only [Prod.ext_iff,and_assoc] using h)) (w,d,l) hp
end Go.Sim

namespace Go.Sim
abbrev Labs:Type:=List (Pt × List Leg)
def lk:Labs→Pt→Option (List Leg)
 | [],_=>none
 | x::r,p=>if x.1=p then some x.2 else lk r p
def up:Labs→Pt→List Leg→Labs
 | [],p,w=>[(p,w)]
 | x::r,p,w=>if x.1=p then (p,w)::r else x::up r p w
theorem lk_up (L:Labs) (p q:Pt) (w:List Leg):lk (up L p w) q=if p=q then some w else lk L q:=by
 induction L with
 | nil=>unfold up lk;rfl
 | cons x r ih =>
   unfold up
   by_cases h:x.1=p
   · rw [if_pos h]
     unfold lk
     by_cases h2:p=q
     · rw [if_pos h2,if_pos h2]
     · rw [if_neg h2,if_neg h2,if_neg (by rw [h];exact h2)]
   · rw [if_neg h]
     unfold lk
     rw [ih]
     by_cases h2:x.1=q
     · rw [if_pos h2,if_pos h2,if_neg (by rw [← h2];exact fun e=>h e.symm)]
     · rw [if_neg h2,if_neg h2]
section
variable (E:Nat→Bool→Pt) (N:Nat) (ix:List Nat→Int)
def offer1 (f:Pt) (w:List Leg) (p:Pt) (s:Labs × Bool):Labs × Bool :=
 if p.1=f.1 then
  match lk s.1 p with
  | none=>(up s.1 p (w++[⟨p.1,f.2,p.2⟩]),true)
  | some old=>if wLt ix (w++[⟨p.1,f.2,p.2⟩]) old then (up s.1 p (w++[⟨p.1,f.2,p.2⟩]),true) else s
 else s
def ends:Nat→List Pt
 | 0=>[]
 | n+1=>ends n++[E n false,E n true]
theorem mem_ends {n:Nat} {p:Pt}:p ∈ ends E n ↔ ∃ i k,i < n∧p=E i k:=by
 induction n with
 | zero=>simp [ends]
 | succ n ih =>
   simp only [ends,List.mem_append,ih,List.mem_cons,List.not_mem_nil,or_false]
   constructor
   · rintro (⟨i,k,h,rfl⟩ | h | h)
     · exact ⟨i,k,by omega,rfl⟩
     · exact ⟨n,false,by omega,h⟩
     · exact ⟨n,true,by omega,h⟩
   · rintro ⟨i,k,h,rfl⟩
     by_cases e:i=n
     · subst e
       cases k
       · exact .inr (.inl rfl)
       · exact .inr (.inr rfl)
     · exact .inl ⟨i,k,by omega,rfl⟩
def offers (f:Pt) (w:List Leg) (l:List Pt) (s:Labs × Bool):Labs × Bool:=l.foldl (fun s p=>offer1 ix f w p s) s
def better (L M:Labs):Prop:=∀ p w,lk L p=some w → ∃ v,lk M p=some v∧(v=w∨wLt ix v w=true)
theorem better_refl (L:Labs):better ix L L:=fun p w h=>⟨w,h,.inl rfl⟩
theorem better_trans {L M K:Labs} (h1:better ix L M) (h2:better ix M K):better ix L K:=by
 intro p w h
 obtain ⟨v,a1,a2⟩:=h1 p w h
 obtain ⟨u,b1,b2⟩:=h2 p v a1
 refine ⟨u,b1, ?_⟩
 rcases a2 with rfl | a2
 · exact b2
 · rcases b2 with rfl | b2
   · exact .inr a2
   · exact .inr (wLt_trans ix b2 a2)
theorem offer1_cases (f:Pt) (w:List Leg) (p:Pt) (s:Labs × Bool) :
 (offer1 ix f w p s=s∧(p.1=f.1 → ∃ v,lk s.1 p=some v∧wLt ix (w++[⟨p.1,f.2,p.2⟩]) v=false)) ∨
   (offer1 ix f w p s=(up s.1 p (w++[⟨p.1,f.2,p.2⟩]),true)∧p.1=f.1∧(lk s.1 p=none ∨ ∃ v,lk s.1 p=some v∧wLt ix (w++[⟨p.1,f.2,p.2⟩]) v=true)):=by
 unfold offer1
 by_cases h:p.1=f.1
 · rw [if_pos h]
   cases hl:lk s.1 p with
   | none=>exact .inr ⟨rfl,h,.inl rfl⟩
   | some v =>
     simp only []
     cases hw:wLt ix (w++[⟨p.1,f.2,p.2⟩]) v with
     | true=>exact .inr ⟨by simp,h,.inr ⟨v,rfl,hw⟩⟩
     | false=>exact .inl ⟨by simp,fun _=>⟨v,rfl,hw⟩⟩
 · rw [if_neg h]
   exact .inl ⟨rfl,fun e=>absurd e h⟩
theorem offer1_better (f:Pt) (w:List Leg) (p:Pt) (s:Labs × Bool):better ix s.1 (offer1 ix f w p s).1:=by
 rcases offer1_cases ix f w p s with ⟨h,_⟩ | ⟨h,_,h2⟩
 · rw [h];exact better_refl ix _
 · rw [h]
   intro q u hq
   rw [lk_up]
   by_cases e:p=q
   · subst e
     rw [if_pos rfl]
     refine ⟨_,rfl, ?_⟩
     rcases h2 with h2 | ⟨v,h2,h3⟩
     · rw [h2] at hq;cases hq
     · rw [h2] at hq;cases hq;exact .inr h3
   · rw [if_neg e];exact ⟨u,hq,.inl rfl⟩
theorem offers_better (f:Pt) (w:List Leg):∀ (l:List Pt) (s:Labs × Bool),better ix s.1 (offers ix f w l s).1
 | [],s=>better_refl ix _
 | p::r,s=>better_trans ix (offer1_better ix f w p s) (offers_better f w r (offer1 ix f w p s))
theorem offers_false (f:Pt) (w:List Leg):∀ (l:List Pt) (s:Labs × Bool),(offers ix f w l s).2=false→offers ix f w l s=s∧s.2=false ∧ ∀ p ∈ l,p.1=f.1 → ∃ v,lk s.1 p=some v∧wLt ix (w++[⟨p.1,f.2,p.2⟩]) v=false
 | [],s,h=>⟨rfl,h,fun p hp=>by cases hp⟩
 | p::r,s,h=>by
   obtain ⟨h1,h2,h3⟩:=offers_false f w r (offer1 ix f w p s) h
   rcases offer1_cases ix f w p s with ⟨e,e2⟩ | ⟨e,_⟩
   · rw [e] at h1 h2 h3
     refine ⟨?_,h2, ?_⟩
     · show offers ix f w r (offer1 ix f w p s)=s
       rw [e];exact h1
     · intro q hq hl
       rcases List.mem_cons.1 hq with rfl | hq
       · exact e2 hl
       · exact h3 q hq hl
   · rw [e] at h2;cases h2
theorem offers_least (f:Pt) (w:List Leg):∀ (l:List Pt) (s:Labs × Bool) (p:Pt),p ∈ l→p.1=f.1 → ∃ v,lk (offers ix f w l s).1 p=some v∧(v=w++[⟨p.1,f.2,p.2⟩]∨wLt ix v (w++[⟨p.1,f.2,p.2⟩])=true∨wLt ix (w++[⟨p.1,f.2,p.2⟩]) v=false)
 | [],s,p,hp,_=>by cases hp
 | q::r,s,p,hp,hl=>by
   rcases List.mem_cons.1 hp with rfl | hp
   · have hb:=offers_better ix f w r (offer1 ix f w p s)
     show ∃ v,lk (offers ix f w r (offer1 ix f w p s)).1 p=some v∧_
     rcases offer1_cases ix f w p s with ⟨e,e2⟩ | ⟨e,_,_⟩
     · obtain ⟨v,v1,v2⟩:=e2 hl
       rw [e] at hb ⊢
       obtain ⟨u,u1,u2⟩:=hb p v v1
       refine ⟨u,u1,.inr (.inr ?_)⟩
       rcases u2 with rfl | u2
       · exact v2
       · cases c:wLt ix (w++[⟨p.1,f.2,p.2⟩]) u with
         | false=>rfl
         | true =>
           have:=wLt_trans ix c u2
           rw [this] at v2;cases v2
     · rw [e] at hb ⊢
       obtain ⟨u,u1,u2⟩:=hb p (w++[⟨p.1,f.2,p.2⟩]) (by rw [lk_up,if_pos rfl])
       refine ⟨u,u1, ?_⟩
       rcases u2 with u2 | u2
       · exact .inl u2
       · exact .inr (.inl u2)
   · exact offers_least f w r (offer1 ix f w q s) p hp hl
end
def allS (N:Nat):Nat→List (List Stp)
 | 0=>[[]]
 | n+1=>[]::(allS N n).flatMap fun σ=>(List.range N).flatMap fun i=>[(i,false)::σ,(i,true)::σ]
theorem mem_allS {N:Nat}:∀ {n:Nat} {σ:List Stp},σ.length≤n→(∀ s ∈ σ,s.1 < N)→σ ∈ allS N n
 | 0,[],_,_=>by simp [allS]
 | 0,_::_,h,_=>by simp at h
 | n+1,[],_,_=>by simp [allS]
 | n+1,(i,k)::σ,h,hs=>by
   have ih:=mem_allS (N:=N) (n:=n) (σ:=σ) (by simpa using h) fun s h=>hs s (by simp [h])
   have hi:=hs (i,k) (by simp)
   unfold allS
   refine List.mem_cons_of_mem _ (List.mem_flatMap.2 ⟨σ,ih,List.mem_flatMap.2 ⟨i,List.mem_range.2 hi, ?_⟩⟩)
   cases k<;>simp
theorem sum_lt {α : Type} {f g : α → Nat} : ∀ {l : List α}, (∀ x ∈ l, f x ≤ g x) → (∃ x ∈ l, f x < g x) → (l.map f).sum < (l.map g).sum
 | [], _, h => by obtain ⟨x, hx, _⟩ := h; cases hx
 | x :: r, h, he => by
   have hx := h x (by simp)
   have hle : (r.map f).sum ≤ (r.map g).sum := by
    have key : ∀ l : List α, (∀ x ∈ l, f x ≤ g x) → (l.map f).sum ≤ (l.map g).sum := by
     intro l
     induction l with
     | nil => intro _; simp
     | cons y s ih =>
       intro hh
       have := ih fun z hz => hh z (by simp [hz])
       have := hh y (by simp)
       simp only [List.map_cons, List.sum_cons]; omega
    exact key r fun y hy => h y (by simp [hy])
   obtain ⟨y, hy, hlt⟩ := he
   simp only [List.map_cons, List.sum_cons]
   rcases List.mem_cons.1 hy with rfl | hy
   · omega
   · have := sum_lt (l := r) (fun z hz => h z (by simp [hz])) ⟨y, hy, hlt⟩
     omega
theorem countP_lt {α:Type} {f g:α→Bool}:∀ {l:List α},(∀ x,f x=true→g x=true)→(∃ x ∈ l,f x=false∧g x=true)→l.countP f < l.countP g
 | [],_,h=>by obtain ⟨x,hx,_⟩:=h;cases hx
 | x::r,h,he=>by
   have hle:r.countP f≤r.countP g:=List.countP_mono_left fun y _=>h y
   obtain ⟨y,hy,h1,h2⟩:=he
   rw [List.countP_cons,List.countP_cons]
   rcases List.mem_cons.1 hy with rfl | hy
   · simp only [h1,h2,Bool.false_eq_true,if_false,if_true];omega
   · have:=countP_lt (l:=r) h ⟨y,hy,h1,h2⟩
     by_cases c:f x=true
     · simp only [c,h x c,if_true];omega
     · simp only [c];simp only [Bool.false_eq_true,if_false];split<;>omega
section
variable (E:Nat→Bool→Pt) (N:Nat) (ix:List Nat→Int) (a:Pt)
def cands (p:Pt):List (List Leg):=(allS N 15).map fun σ=>legsOf E a σ p
def rank (L:Labs) (p:Pt):Nat:=match lk L p with
 | none=>(cands E N a p).length+1
 | some w=>(cands E N a p).countP fun v=>wLt ix v w
def mu (L:Labs):Nat:=((ends E N).map (rank E N ix a L)).sum
def LabV (L:Labs):Prop:=∀ p w,lk L p=some w→(∃ j m,j < N∧p=E j m) ∧ ∃ σ,okS E N a σ p∧w=legsOf E a σ p∧σ.length≤15
def RtV (f:Pt) (w:List Leg):Prop:=∀ p,p.1=f.1 → ∃ σ,okS E N a σ p∧w++[⟨p.1,f.2,p.2⟩]=legsOf E a σ p∧σ.length≤15
variable {E N ix a}
theorem rt_first:RtV E N a a []:=fun p h=>⟨[],h.symm,by show [_]=[_];rw [h],by simp⟩
theorem rt_next {σ:List Stp} {i:Nat} {k:Bool} (hi:i < N) (h:okS E N a σ (E i k)) (hl:(legsOf E a σ (E i k)).length < 16):RtV E N a (E i (!k)) (legsOf E a σ (E i k)):=fun p hp=>by
 rw [legsOf_length] at hl
 refine ⟨σ++[(i,k)],(okS_snoc E N a σ (i,k) p).2 ⟨h,hi,hp.symm⟩, ?_,by rw [List.length_append];simp;omega⟩
 rw [legsOf_snoc]
 simp only [hp]
theorem offer1_valid {f:Pt} {w:List Leg} (hr:RtV E N a f w) {p:Pt} (hp:∃ j m,j < N∧p=E j m) {s:Labs × Bool} (hs:LabV E N a s.1):LabV E N a (offer1 ix f w p s).1:=by
 rcases offer1_cases ix f w p s with ⟨h,_⟩ | ⟨h,h2,_⟩
 · rw [h];exact hs
 · rw [h]
   intro q u hq
   rw [lk_up] at hq
   by_cases e:p=q
   · subst e
     rw [if_pos rfl] at hq
     cases hq
     exact ⟨hp,hr p h2⟩
   · rw [if_neg e] at hq
     exact hs q u hq
theorem offers_valid {f:Pt} {w:List Leg} (hr:RtV E N a f w):∀ (l:List Pt),(∀ p ∈ l,∃ j m,j < N∧p=E j m) → ∀ (s:Labs × Bool),LabV E N a s.1→LabV E N a (offers ix f w l s).1
 | [],_,s,hs=>hs
 | p::r,hl,s,hs=>offers_valid hr r (fun q hq=>hl q (by simp [hq])) _ (offer1_valid hr (hl p (by simp)) hs)
theorem cand_mem {p:Pt} {σ:List Stp} (h:okS E N a σ p) (hl:σ.length≤15):legsOf E a σ p ∈ cands E N a p :=
 List.mem_map.2 ⟨σ,mem_allS hl (okS_lt E N h),rfl⟩
theorem offer1_mu {f : Pt} {w : List Leg} (hr : RtV E N a f w) {p : Pt} (hp : ∃ j m, j < N ∧ p = E j m) (s : Labs × Bool) : offer1 ix f w p s = s ∨ mu E N ix a (offer1 ix f w p s).1 < mu E N ix a s.1 := by
 rcases offer1_cases ix f w p s with ⟨h, _⟩ | ⟨h, h2, h3⟩
 · exact .inl h
 · right
   rw [h]
   obtain ⟨σ, s1, s2, s3⟩ := hr p h2
   have hc := cand_mem s1 s3
   rw [← s2] at hc
   have hlt : rank E N ix a (up s.1 p (w ++ [⟨p.1, f.2, p.2⟩])) p < rank E N ix a s.1 p := by
    unfold rank
    rw [lk_up, if_pos rfl]
    rcases h3 with h3 | ⟨v, h3, h4⟩
    · rw [h3]
      have := List.countP_le_length (p := fun v => wLt ix v (w ++ [⟨p.1, f.2, p.2⟩])) (l := cands E N a p)
      show List.countP (fun v => wLt ix v (w ++ [⟨p.1, f.2, p.2⟩])) (cands E N a p) < (cands E N a p).length + 1
      omega
    · rw [h3]
      exact countP_lt (fun u hu => wLt_trans ix hu h4) ⟨_, hc, wLt_irrefl ix _, h4⟩
   refine sum_lt (fun q _ => ?_) ⟨p, (mem_ends E).2 (by obtain ⟨j, m, h1, h2⟩ := hp; exact ⟨j, m, h1, h2⟩), hlt⟩
   by_cases e : p = q
   · subst e; exact Nat.le_of_lt hlt
   · unfold rank
     rw [lk_up, if_neg e]
     exact Nat.le_refl _
theorem offers_mu {f:Pt} {w:List Leg} (hr:RtV E N a f w):∀ (l:List Pt),(∀ p ∈ l,∃ j m,j < N∧p=E j m) → ∀ (s:Labs × Bool),offers ix f w l s=s∨mu E N ix a (offers ix f w l s).1 < mu E N ix a s.1
 | [],_,s=>.inl rfl
 | p::r,hl,s=>by
   have h1:=offer1_mu (ix:=ix) hr (hl p (by simp)) s
   have h2:=offers_mu hr r (fun q hq=>hl q (by simp [hq])) (offer1 ix f w p s)
   show offers ix f w r (offer1 ix f w p s)=s∨mu E N ix a (offers ix f w r (offer1 ix f w p s)).1 < _
   rcases h1 with h1 | h1
   · rw [h1] at h2 ⊢;exact h2
   · rcases h2 with h2 | h2
     · rw [h2];exact .inr h1
     · exact .inr (by omega)
variable (E N ix)
def rstep (i:Nat) (k:Bool) (s:Labs × Bool):Labs × Bool:=match lk s.1 (E i k) with
 | none=>s
 | some r=>if r.length < 16 then ((offers ix (E i (!k)) r (ends E N) (s.1,false)).1,s.2 || (offers ix (E i (!k)) r (ends E N) (s.1,false)).2) else s
def rounds:Nat→Labs × Bool→Labs × Bool
 | 0,s=>s
 | n+1,s=>rstep E N ix n true (rstep E N ix n false (rounds n s))
variable {E N ix}
theorem ends_all:∀ p ∈ ends E N,∃ j m,j < N∧p=E j m:=fun p hp=>(mem_ends E).1 hp
structure RS (E:Nat→Bool→Pt) (N:Nat) (ix:List Nat→Int) (a:Pt) (s t:Labs × Bool):Prop where
 valid:LabV E N a t.1
 better:better ix s.1 t.1
 mono:s.2=true→t.2=true
 less:t.1=s.1∧t.2=s.2∨t.2=true∧mu E N ix a t.1 < mu E N ix a s.1
theorem RS.refl {s:Labs × Bool} (h:LabV E N a s.1):RS E N ix a s s:=⟨h,better_refl ix _,id,.inl ⟨rfl,rfl⟩⟩
theorem RS.trans {s t u:Labs × Bool} (h1:RS E N ix a s t) (h2:RS E N ix a t u):RS E N ix a s u:=by
 refine ⟨h2.valid,better_trans ix h1.better h2.better,fun h=>h2.mono (h1.mono h), ?_⟩
 rcases h1.less with ⟨a1,a2⟩ | ⟨a1,a2⟩<;>rcases h2.less with ⟨b1,b2⟩ | ⟨b1,b2⟩
 · exact .inl ⟨b1.trans a1,b2.trans a2⟩
 · exact .inr ⟨b1,by rw [← a1];exact b2⟩
 · exact .inr ⟨b2.trans a1,by rw [b1];exact a2⟩
 · exact .inr ⟨b1,by omega⟩
theorem rstep_rs {i:Nat} (hi:i < N) (k:Bool) {s:Labs × Bool} (h:LabV E N a s.1):RS E N ix a s (rstep E N ix i k s):=by
 unfold rstep
 cases hl:lk s.1 (E i k) with
 | none=>exact RS.refl h
 | some r =>
   simp only []
   by_cases hr:r.length < 16
   · rw [if_pos hr]
     obtain ⟨_,σ,s1,rfl,s3⟩:=h _ _ hl
     have hv:=rt_next hi s1 hr
     have hm:=offers_mu (ix:=ix) hv (ends E N) ends_all (s.1,false)
     refine ⟨offers_valid hv _ ends_all _ h,offers_better ix _ _ _ (s.1,false),fun hs=>by simp [hs], ?_⟩
     rcases hm with hm | hm
     · rw [hm];exact .inl ⟨rfl,by simp⟩
     · right
       refine ⟨?_,hm⟩
       cases hb:(offers ix (E i (!k)) (legsOf E a σ (E i k)) (ends E N) (s.1,false)).2 with
       | true=>simp
       | false =>
         have:=(offers_false ix _ _ _ _ hb).1
         rw [this] at hm
         exact absurd hm (Nat.lt_irrefl _)
   · rw [if_neg hr];exact RS.refl h
theorem rounds_rs:∀ {n:Nat} (_:n≤N) {s:Labs × Bool} (_:LabV E N a s.1),RS E N ix a s (rounds E N ix n s)
 | 0,_,s,h=>RS.refl h
 | n+1,hn,s,h=>by
   have h1:=rounds_rs (n:=n) (by omega) h
   have h2:=rstep_rs (ix:=ix) (i:=n) (by omega) false h1.valid
   exact (h1.trans h2).trans (rstep_rs (ix:=ix) (i:=n) (by omega) true h2.valid)
theorem rstep_false {i:Nat} {k:Bool} {s:Labs × Bool} (h:(rstep E N ix i k s).2=false):rstep E N ix i k s=s ∧ ∀ r,lk s.1 (E i k)=some r→r.length < 16 → ∀ p ∈ ends E N,p.1=(E i (!k)).1 → ∃ v,lk s.1 p=some v∧wLt ix (r++[⟨p.1,(E i (!k)).2,p.2⟩]) v=false:=by
 unfold rstep at h ⊢
 cases hl:lk s.1 (E i k) with
 | none=>exact ⟨rfl,fun r hr=>by cases hr⟩
 | some r =>
   rw [hl] at h
   simp only [] at h ⊢
   by_cases hr:r.length < 16
   · rw [if_pos hr] at h ⊢
     simp only [Bool.or_eq_false_iff] at h
     obtain ⟨h1,_,h3⟩:=offers_false ix _ _ _ _ h.2
     rw [h1]
     refine ⟨by simp,fun r' hr' _ => ?_⟩
     cases hr'
     exact h3
   · rw [if_neg hr]
     refine ⟨rfl,fun r' hr' hlt => ?_⟩
     cases hr'
     exact absurd hlt hr
theorem rounds_false:∀ {n:Nat} {s:Labs × Bool},(rounds E N ix n s).2=false→rounds E N ix n s=s ∧ ∀ i k,i < n → ∀ r,lk s.1 (E i k)=some r→r.length < 16 → ∀ p ∈ ends E N,p.1=(E i (!k)).1 → ∃ v,lk s.1 p=some v∧wLt ix (r++[⟨p.1,(E i (!k)).2,p.2⟩]) v=false
 | 0,s,_=>⟨rfl,fun i k h=>by omega⟩
 | n+1,s,h=>by
   obtain ⟨h1,h2⟩:=rstep_false (i:=n) (k:=true) (s:=rstep E N ix n false (rounds E N ix n s)) h
   have e0:rounds E N ix (n+1) s=rstep E N ix n true (rstep E N ix n false (rounds E N ix n s)):=rfl
   rw [e0] at h ⊢
   rw [h1] at h ⊢
   obtain ⟨h3,h4⟩:=rstep_false (i:=n) (k:=false) (s:=rounds E N ix n s) h
   rw [h3] at h h2 ⊢
   obtain ⟨h5,h6⟩:=rounds_false (n:=n) (s:=s) h
   rw [h5] at h2 h4 ⊢
   refine ⟨rfl,fun i k hi => ?_⟩
   by_cases e:i=n
   · subst e
     cases k
     · exact h4
     · exact h2
   · exact h6 i k (by omega)
theorem lab_of {L:Labs} (hv:LabV E N a L) (hf:∀ p ∈ ends E N,p.1=a.1 → ∃ w,lk L p=some w∧(w=legsOf E a [] p∨wLt ix w (legsOf E a [] p)=true∨wLt ix (legsOf E a [] p) w=false)) (hr:(rounds E N ix N (L,false)).2=false):Lab E N ix a (lk L) where
 valid:=fun p w h=>by
  obtain ⟨_,σ,s1,s2,_⟩:=hv p w h
  exact ⟨σ,s1,s2⟩
 first:=fun j m hj h=>by
  obtain ⟨w,w1,w2⟩:=hf _ ((mem_ends E).2 ⟨j,m,hj,rfl⟩) h
  refine ⟨w,w1, ?_⟩
  rcases w2 with rfl | w2 | w2
  · exact wLe_refl ix _
  · exact wLt_le ix w2
  · exact w2
 next:=fun i k w hi h hl j m hj hjm=>by
  obtain ⟨v,v1,v2⟩:=(rounds_false hr).2 i k hi w h hl _ ((mem_ends E).2 ⟨j,m,hj,rfl⟩) hjm
  refine ⟨v,v1, ?_⟩
  rw [hjm] at v2
  exact v2
end
end Go.Sim

namespace Go.Sim
open Go Go.Proofs
set_option maxRecDepth 100000
set_option maxHeartbeats 32000000
variable {P:FuncId→Option (List AV→Option AV)}
def ptC (p:Pt):AV:=.agg [.str p.1,.int .i64 p.2]
def rtC (w:List Leg):AV:=.agg [.ps .unk (w.map Leg.row),.int .i64 (wSum w)]
def lmap (L:Labs):List (AV × AV):=L.map fun x=>(ptC x.1,rtC x.2)
theorem aeq45p (p q:Pt):aeqT NC.P 100 32 (ptC p) (ptC q)=some (decide (p=q)):=by
 obtain ⟨a,i⟩:=p
 obtain ⟨b,j⟩:=q
 have h:aeqT NC.P 100 32 (.agg [.str a,.int .i64 i]) (.agg [.str b,.int .i64 j]) =
  (match some (beqL a b) with
  | some true=>(match some (eqI i j) with
    | some true=>some true
    | some false=>some false
    | none=>none)
  | some false=>some false
  | none=>none):=by kernel_rfl
 unfold ptC
 rw [h,eqI_iff]
 have hd:decide ((a,i)=(b,j))=(beqL a b && decide (i=j)):=by
  rw [Bool.eq_iff_iff]
  simp only [decide_eq_true_eq,Bool.and_eq_true,beqL_iff,Prod.mk.injEq]
 rw [hd]
 cases beqL a b<;>cases decide (i=j)<;>rfl
theorem ety45p:eqType NC.P 100 32=true:=by kernel_rfl
theorem keyOk45 (p:Pt):keyOk NC.P 32 (ptC p)=true:=by
 unfold keyOk
 rw [aeq45p,ety45p];simp
theorem afind45 (p:Pt):∀ (L:Labs) (i:Nat),(lk L p=none→afind NC.P 32 (ptC p) (lmap L) i=some none ∧ ∀ w,lmap L++[(ptC p,rtC w)]=lmap (up L p w)) ∧
 ∀ w,lk L p=some w → ∃ j,afind NC.P 32 (ptC p) (lmap L) i=some (some (i+j,ptC p,rtC w)) ∧ ∀ w',(lmap L).set j (ptC p,rtC w')=lmap (up L p w')
 | [],i=>⟨fun _=>⟨rfl,fun w=>rfl⟩,fun w h=>by cases h⟩
 | x::r,i=>by
   have ih:=afind45 p r (i+1)
   have hu:afind NC.P 32 (ptC p) (lmap (x::r)) i=match aeqT NC.P 100 32 (ptC p) (ptC x.1) with
    | some true=>some (some (i,ptC x.1,rtC x.2))
    | some false=>afind NC.P 32 (ptC p) (lmap r) (i+1)
    | none=>none:=rfl
   rw [hu,aeq45p]
   unfold lk up
   by_cases h:x.1=p
   · rw [if_pos h]
     have hd:decide (p=x.1)=true:=by simp [h]
     rw [hd]
     refine ⟨fun c=>(by cases c),fun w c => ?_⟩
     cases c
     refine ⟨0,by rw [h];rfl,fun w' => ?_⟩
     rw [if_pos h];rfl
   · rw [if_neg h]
     have hd:decide (p=x.1)=false:=by simp;exact fun e=>h e.symm
     rw [hd]
     refine ⟨fun c=>⟨(ih.1 c).1,fun w => ?_⟩,fun w c => ?_⟩
     · rw [if_neg h]
       show (ptC x.1,rtC x.2)::(lmap r++[(ptC p,rtC w)])=_
       rw [(ih.1 c).2 w];rfl
     · obtain ⟨j,h1,h2⟩:=ih.2 w c
       refine ⟨j+1,by rw [h1,show i+1+j=i+(j+1) from by omega],fun w' => ?_⟩
       rw [if_neg h]
       show (ptC x.1,rtC x.2)::(lmap r).set j (ptC p,rtC w')=_
       rw [h2 w'];rfl
theorem lookL {H:Heap} {id:Nat} {L:Labs} (h:H.get id=.map (lmap L)) (p:Pt):alookup NC.P H 120 (.map id) (.agg [.str p.1,.int .i64 p.2]) true=some (match lk L p with
 | some w=>.tup [rtC w,.bool true]
 | none=>.tup [.agg [.ps .nil [],.int .i64 0],.bool false]):=by
 show alookup NC.P H 120 (.map id) (ptC p) true=_
 unfold alookup
 have hu:NC.P.underlying 120=some (.map 32 82):=by kernel_rfl
 have hz:zeroOf NC.P 82=some (.agg [.ps .nil [],.int .i64 0]):=by kernel_rfl
 simp only [hu,keyOk45,if_true,hz,mapEntries,h]
 obtain ⟨h1,h2⟩:=afind45 p L 0
 cases hb:lk L p with
 | none=>rw [(h1 hb).1]
 | some w =>
   obtain ⟨j,h3,_⟩:=h2 w hb
   rw [h3]
theorem flat_pt (p:Pt):flatEq (ptC p) (ptC p)=true:=by
 show (flatEq1 (.str p.1) (.str p.1) && (flatEq1 (.int .i64 p.2) (.int .i64 p.2) && true))=true
 simp only [flatEq1,beqL_self,eqI_self,Bool.and_true,Bool.true_and]
 rfl
theorem updL {lo:Nat} {H:Heap} {id:Nat} {L:Labs} (h:H.get id=.map (lmap L)) (hlo:lo≤id) (p:Pt) (w:List Leg) {v:AV} (hv:v.strip=rtC w):amapUpdate NC.P lo H 120 (.map id) (.agg [.str p.1,.int .i64 p.2]) v=some (H.set id (.map (lmap (up L p w)))):=by
 show amapUpdate NC.P lo H 120 (.map id) (ptC p) v=_
 unfold amapUpdate
 have hu:NC.P.underlying 120=some (.map 32 82):=by kernel_rfl
 simp only [hu,keyOk45,hlo,decide_true,Bool.and_self,if_true,h]
 obtain ⟨h1,h2⟩:=afind45 p L 0
 cases hb:lk L p with
 | none =>
   obtain ⟨h3,h4⟩:=h1 hb
   rw [h3,hv]
   simp only []
   rw [h4]
 | some u =>
   obtain ⟨j,h3,h4⟩:=h2 u hb
   rw [h3,hv]
   simp only [flat_pt,if_true,Nat.zero_add]
   rw [h4]
theorem cmpI_lt (a b:Int):(cmpI a b < 0) ↔ a < b:=by unfold cmpI;split<;>(try split)<;>omega
theorem cmpI_zero (a b:Int):(cmpI a b=0) ↔ a=b:=by unfold cmpI;split<;>(try split)<;>omega
theorem orL_lt3 (a b c:Int):orL [a,b,c] < 0 ↔ a < 0∨(a=0∧(b < 0∨(b=0∧c < 0))):=by
 unfold orL
 by_cases h1:a=0
 · rw [if_pos h1]
   unfold orL
   by_cases h2:b=0
   · rw [if_pos h2]
     unfold orL
     by_cases h3:c=0
     · rw [if_pos h3];unfold orL;omega
     · rw [if_neg h3];omega
   · rw [if_neg h2];omega
 · rw [if_neg h1];omega
theorem orL_zero3 (a b c:Int):orL [a,b,c]=0 ↔ a=0∧b=0∧c=0:=by
 unfold orL
 by_cases h1:a=0
 · rw [if_pos h1]
   unfold orL
   by_cases h2:b=0
   · rw [if_pos h2]
     unfold orL
     by_cases h3:c=0
     · rw [if_pos h3];unfold orL;omega
     · rw [if_neg h3];omega
   · rw [if_neg h2];omega
 · rw [if_neg h1];omega
theorem cmpLeg_lt (n:Net) (x y:Leg):cmpLeg n x y < 0 ↔ legLt (findI n.lines) x y=true:=by
 unfold cmpLeg
 rw [orL_lt3,legLt_iff,cmpI_lt,cmpI_zero,cmpI_lt,cmpI_zero,cmpI_lt]
theorem cmpLeg_zero (n:Net) (x y:Leg):cmpLeg n x y=0 ↔ legSame (findI n.lines) x y=true:=by
 unfold cmpLeg
 rw [orL_zero3,legSame_iff,cmpI_zero,cmpI_zero,cmpI_zero]
theorem cmpLegs_lt (n:Net):∀ {a b:List Leg},a.length=b.length→(cmpLegs n a b < 0 ↔ lexLt (findI n.lines) a b=true)
 | [],[],_=>by simp [cmpLegs,lexLt]
 | [],_::_,h=>by cases h
 | _::_,[],h=>by cases h
 | x::a,y::b,h=>by
   have ih:=cmpLegs_lt n (a:=a) (b:=b) (by simpa using h)
   rw [lexLt_cons,← cmpLeg_lt,← cmpLeg_zero,← ih]
   show (if cmpLeg n x y=0 then cmpLegs n a b else cmpLeg n x y) < 0 ↔ _
   split<;>omega
theorem cmpRt_lt (n:Net) (a b:List Leg):decide (cmpRt n a (wSum a) b (wSum b) < 0)=wLt (findI n.lines) a b:=by
 rw [Bool.eq_iff_iff,decide_eq_true_eq,wLt_iff]
 unfold cmpRt
 rw [orL_lt3,cmpI_lt,cmpI_zero,cmpI_lt,cmpI_zero]
 by_cases h:a.length=b.length
 · rw [cmpLegs_lt n h]
   constructor
   · rintro (c | ⟨c1,c2 | ⟨c2,c3⟩⟩)
     · exact .inl c
     · exact .inr ⟨c1,.inl (by omega)⟩
     · exact .inr ⟨c1,.inr ⟨h,c3⟩⟩
   · rintro (c | ⟨c1,c2 | ⟨c2,c3⟩⟩)
     · exact .inl c
     · exact .inr ⟨c1,.inl (by omega)⟩
     · exact .inr ⟨c1,.inr ⟨by omega,c3⟩⟩
 · constructor
   · rintro (c | ⟨c1,c2 | ⟨c2,c3⟩⟩)
     · exact .inl c
     · exact .inr ⟨c1,.inl (by omega)⟩
     · exact absurd (by omega) h
   · rintro (c | ⟨c1,c2 | ⟨c2,c3⟩⟩)
     · exact .inl c
     · exact .inr ⟨c1,.inl (by omega)⟩
     · exact absurd c2 h
def endE (n:Net) (i:Nat) (k:Bool):Pt:=match n.sws[i]? with
 | none=>([],0)
 | some s=>if k then (s.other,endM n s) else (s.line,s.metre)
theorem en151 (h:P 41=some p151) {lo:Nat} {rec:Rec} {args:List AV} {H:Heap} {K:AV→Heap→Prop}:VO (aenter (NC.withPrims P) rec lo 41 args H) K=AO (p151 args) fun v=>K v H:=enter_prim (by rfl) (known h (by kernel_rfl))
theorem en203 (h:P 38=some p203) {lo:Nat} {rec:Rec} {args:List AV} {H:Heap} {K:AV→Heap→Prop}:VO (aenter (NC.withPrims P) rec lo 38 args H) K=AO (p203 args) fun v=>K v H:=enter_prim (by rfl) (known h (by kernel_rfl))
theorem en204 (h:P 39=some p204) {lo:Nat} {rec:Rec} {args:List AV} {H:Heap} {K:AV→Heap→Prop}:VO (aenter (NC.withPrims P) rec lo 39 args H) K=AO (p204 args) fun v=>K v H:=enter_prim (by rfl) (known h (by kernel_rfl))
theorem en229 {P:FuncId→Option (List AV→Option AV)} (hP:P 66=none) {lo:Nat} {args:List AV} {H:Heap} {K:AV→Heap→Prop}:VO (aenter (NC.withPrims P) (R (NC.withPrims P)) lo 66 args H) K=AO (R (NC.withPrims P) (.call lo 66 args H)) fun o=>K o.val o.s.H:=by
 refine enter_free rfl ?_ (by kernel_rfl) (by kernel_rfl) (by kernel_rfl)
 show (match NC.prim 66 with | some p=>some p | none=>P 66)=none
 rw [hP];kernel_rfl
end Go.Sim

namespace Go.Sim
open Go Go.Proofs
set_option maxRecDepth 100000
set_option maxHeartbeats 64000000
variable {P:FuncId→Option (List AV→Option AV)}
theorem r229 (h151 : P 41 = some p151) (h203 : P 38 = some p203) (h204 : P 39 = some p204) (n : Net) (hn : n.Ok) (hsw : n.sws.length ≤ maxRows) (f : Pt) (w : List Leg) (L : Labs) (hw : w.length ≤ 16)
 (hsum : ∀ p, p ∈ ends (endE n) n.sws.length → wrapq .i64 (Int.add (wSum w) (legW ⟨p.1, f.2, p.2⟩)) = wSum (w ++ [⟨p.1, f.2, p.2⟩])) (hL : ∀ p v, lk L p = some v → v.length ≤ 17)
 (lo b0 b1 id : Nat) (H : Heap) (hlo : lo ≤ id) (hloH : lo ≤ H.n) (c0 : b0 < H.n) (c1 : b1 < H.n) (ci : id < H.n) (ne0 : b0 ≠ id) (ne1 : b1 ≠ id) (s0 : H.get b0 = .cells n.cells 46) (s1 : H.get b1 = .cells [.map id] 120) (si : H.get id = .map (lmap L)) :
 ∃ v H', R (NC.withPrims P) (.call lo 66 [.agg [.str f.1, .int .i64 f.2], .agg [.ps .unk (w.map Leg.row), .int .i64 (wSum w)], .ptr b0 0, .ptr b1 0] H) = some (.ofVal v H') ∧ v = .bool (offers (findI n.lines) f w (ends (endE n) n.sws.length) (L, false)).2 ∧
   H'.get id = .map (lmap (offers (findI n.lines) f w (ends (endE n) n.sws.length) (L, false)).1) ∧ H.n ≤ H'.n ∧ (∀ j, j < H.n → j ≠ id → H'.get j = H.get j) ∧ ∀ p v, lk (offers (findI n.lines) f w (ends (endE n) n.sws.length) (L, false)).1 p = some v → v.length ≤ 17 := by
 refine R_of_body (C := NC.withPrims P) (f := 66) (lo := lo) (args := [.agg [.str f.1, .int .i64 f.2], .agg [.ps .unk (w.map Leg.row), .int .i64 (wSum w)], .ptr b0 0, .ptr b1 0]) (H := H) (fn := Try.f66) (Q := fun v H' => v = .bool (offers (findI n.lines) f w (ends (endE n) n.sws.length) (L, false)).2 ∧
  H'.get id = .map (lmap (offers (findI n.lines) f w (ends (endE n) n.sws.length) (L, false)).1) ∧ H.n ≤ H'.n ∧ (∀ j, j < H.n → j ≠ id → H'.get j = H.get j) ∧ ∀ p v, lk (offers (findI n.lines) f w (ends (endE n) n.sws.length) (L, false)).1 p = some v → v.length ≤ 17) (by kernel_rfl) Try.func66 rfl rfl ?_
 have x1 : (b0 = H.n) = False := by simp only [eq_iff_iff, iff_false]; omega
 have x2 : (b0 = H.n + 1) = False := by simp only [eq_iff_iff, iff_false]; omega
 have x3 : (id = H.n) = False := by simp only [eq_iff_iff, iff_false]; omega
 have x4 : (id = H.n + 1) = False := by simp only [eq_iff_iff, iff_false]; omega
 simp only [Net.cells] at s0
 simp only [go_sem, reduceIte, reduceEqDiff, reduceAdd, reduceMul, reduceSub, reduceLeDiff, reduceLT, Nat.reduceBEq, reduceCtorEq, s0, x1, x2]
 refine W_for (fun i T H' M => M = [] ∧ getT T 2 = .ptr b0 0 ∧ getT T 3 = .ptr b1 0 ∧ getT T 4 = .ptr H.n 0 ∧ getT T 5 = .ptr (H.n + 1) 0 ∧ getT T 7 = .bool (offers (findI n.lines) f w (ends (endE n) i) (L, false)).2 ∧ getT T 16 = .ps .unk (n.sws.map Sw.row) ∧ getT T 17 = i64 (n.sws.length : Nat) ∧ getT T 18 = i64 (i : Nat) ∧ H.n + 1 < H'.n ∧ H'.get H.n = .cells [.str f.1, .int .i64 f.2] 32 ∧ H'.get (H.n + 1) = .cells [.ps .unk (w.map Leg.row), .int .i64 (wSum w)] 82 ∧
  H'.get id = .map (lmap (offers (findI n.lines) f w (ends (endE n) i) (L, false)).1) ∧ (∀ j, j < H.n → j ≠ id → H'.get j = H.get j) ∧ ∀ p v, lk (offers (findI n.lines) f w (ends (endE n) i) (L, false)).1 p = some v → v.length ≤ 17) n.sws.length ?_ ?_ ?_
 · simp only [go_sem, reduceIte, reduceEqDiff, reduceAdd, reduceMul, reduceSub, reduceLeDiff, reduceLT, Nat.reduceBEq, reduceCtorEq, List.length_map, x3, x4]
   refine ⟨rfl, si, fun j h1 h2 => ?_, hL⟩
   rw [if_neg (by omega), if_neg (by omega)]
 · rintro i T H1 M hk ⟨rfl, g2, g3, g4, g5, g7, g16, g17, g18, pn, p4, p5, pi, pO, pL⟩
   obtain ⟨sw, hsx⟩ : ∃ p, n.sws[i]? = some p := ⟨n.sws[i], by simp⟩
   have hr := map_at (f := Sw.row) hsx
   have hw18 := wrap_succ hk hsw
   have hE : endE n i = fun k => if k then (sw.other, endM n sw) else (sw.line, sw.metre) := by funext k; unfold endE; rw [hsx]
   have e151 := pe151 n sw hn
   have hb0 : H1.get b0 = .cells n.cells 46 := by rw [pO b0 c0 ne0]; exact s0
   have hend : ends (endE n) (i + 1) = ends (endE n) i ++ [endE n i false, endE n i true] := rfl
   have hend2 : offers (findI n.lines) f w (ends (endE n) (i + 1)) (L, false) = offers (findI n.lines) f w (([endE n i false, endE n i true] : List Pt).take 2) (offers (findI n.lines) f w (ends (endE n) i) (L, false)) := by
    rw [hend]
    unfold offers
    rw [List.foldl_append]; rfl
   have y1 : (b0 = H1.n) = False := by simp only [eq_iff_iff, iff_false]; omega
   have y2 : (id = H1.n) = False := by simp only [eq_iff_iff, iff_false]; omega
   have y3 : (H.n = H1.n) = False := by simp only [eq_iff_iff, iff_false]; omega
   have y4 : (H.n + 1 = H1.n) = False := by simp only [eq_iff_iff, iff_false]; omega
   have hlo1 : (lo ≤ H1.n) = True := by simp only [eq_iff_iff, iff_true]; omega
   generalize endM n sw = EM at e151 hE
   obtain ⟨w1, w2, w3, w4, w5⟩ := sw
   simp only at hE
   simp only [Sw.row, Net.cells] at hr e151 hb0
   simp only [go_sem, reduceIte, reduceEqDiff, reduceAdd, reduceMul, reduceSub, reduceLeDiff, reduceLT, Nat.reduceBEq, reduceCtorEq, g2, g3, g4, g5, g7, g16, g17, g18, List.length_map, hk, hr, hb0, y1, hlo1, en151 h151, Net.cells, e151]
   refine W_for (fun k T' H2 M => M = [] ∧ getT T' 2 = .ptr b0 0 ∧ getT T' 3 = .ptr b1 0 ∧ getT T' 4 = .ptr H.n 0 ∧ getT T' 5 = .ptr (H.n + 1) 0 ∧ getT T' 7 = .bool (offers (findI n.lines) f w (([endE n i false, endE n i true] : List Pt).take k) (offers (findI n.lines) f w (ends (endE n) i) (L, false))).2 ∧ getT T' 16 = .ps .unk (n.sws.map Sw.row) ∧ getT T' 17 = i64 (n.sws.length : Nat) ∧ getT T' 18 = i64 (i : Nat) ∧ getT T' 24 = .agg [.str w2, .int .i64 w3, .str w4, .int .i64 EM] ∧ getT T' 25 = i64 (k : Nat) ∧ H.n + 1 < H2.n ∧ H2.get H.n = .cells [.str f.1, .int .i64 f.2] 32 ∧ H2.get (H.n + 1) = .cells [.ps .unk (w.map Leg.row), .int .i64 (wSum w)] 82 ∧
    H2.get id = .map (lmap (offers (findI n.lines) f w (([endE n i false, endE n i true] : List Pt).take k) (offers (findI n.lines) f w (ends (endE n) i) (L, false))).1) ∧ (∀ j, j < H.n → j ≠ id → H2.get j = H.get j) ∧ ∀ p v, lk (offers (findI n.lines) f w (([endE n i false, endE n i true] : List Pt).take k) (offers (findI n.lines) f w (ends (endE n) i) (L, false))).1 p = some v → v.length ≤ 17) 2 ?_ ?_ ?_
   · simp only [go_sem, reduceIte, reduceEqDiff, reduceAdd, reduceMul, reduceSub, reduceLeDiff, reduceLT, Nat.reduceBEq, reduceCtorEq, g2, g3, g4, g5, g7, g16, g17, g18, y2, y3, y4, List.take_zero]
     refine ⟨rfl, by omega, p4, p5, pi, fun j h1 h2 => ?_, pL⟩
     rw [if_neg (by omega), if_neg (by omega)]; exact pO j h1 h2
   rintro k T' H2 M hk2 ⟨rfl, i2, i3, i4, i5, i7, i16, i17, i18, i24, i25, qn, q4, q5, qi, qO, qL⟩
   have qb0 : H2.get b0 = .cells [.ps .unk (n.lines.map Ln.row), .ps .unk (n.sws.map Sw.row), .ps .unk (n.sts.map Stc.row)] 46 := by rw [qO b0 c0 ne0]; exact s0
   have qb1 : H2.get b1 = .cells [.map id] 120 := by rw [qO b1 c1 ne1]; exact s1
   have d0 : (b0 = H2.n) = False := by simp only [eq_iff_iff, iff_false]; omega
   have d1 : (b0 = H2.n + 1) = False := by simp only [eq_iff_iff, iff_false]; omega
   have d2 : (b0 = H2.n + 1 + 1) = False := by simp only [eq_iff_iff, iff_false]; omega
   have d3 : (b1 = H2.n) = False ∧ (b1 = H2.n + 1) = False ∧ (b1 = H2.n + 1 + 1) = False := by simp only [eq_iff_iff, iff_false]; omega
   have d4 : (id = H2.n) = False := by simp only [eq_iff_iff, iff_false]; omega
   have d5 : (id = H2.n + 1) = False := by simp only [eq_iff_iff, iff_false]; omega
   have d6 : (id = H2.n + 1 + 1) = False := by simp only [eq_iff_iff, iff_false]; omega
   have d7 : (H.n = H2.n) = False ∧ (H.n = H2.n + 1) = False ∧ (H.n = H2.n + 1 + 1) = False := by simp only [eq_iff_iff, iff_false]; omega
   have d8 : (H.n + 1 = H2.n) = False ∧ (H.n + 1 = H2.n + 1) = False ∧ (H.n + 1 = H2.n + 1 + 1) = False := by simp only [eq_iff_iff, iff_false]; omega
   have d9 : (H.n = id) = False ∧ (H.n + 1 = id) = False := by simp only [eq_iff_iff, iff_false]; omega
   have da : (b0 = id) = False := by simp [ne0]
   have db : (b1 = id) = False := by simp [ne1]
   have dc : (H2.n = id) = False ∧ (H2.n + 1 = id) = False ∧ (H2.n + 1 + 1 = id) = False := by simp only [eq_iff_iff, iff_false]; omega
   have hjn : ∀ j, j < H.n → (j = H2.n) = False ∧ (j = H2.n + 1) = False ∧ (j = H2.n + 1 + 1) = False := fun j h => by simp only [eq_iff_iff, iff_false]; omega
   have hlo1 : (lo ≤ H2.n) = True := by simp only [eq_iff_iff, iff_true]; omega
   have hlo2' : (lo ≤ H2.n + 1) = True := by simp only [eq_iff_iff, iff_true]; omega
   have hlo3 : (lo ≤ H2.n + 1 + 1) = True := by simp only [eq_iff_iff, iff_true]; omega
   have hloi : (lo ≤ id) = True := by simp [hlo]
   rcases (show k = 0 ∨ k = 1 by omega) with rfl | rfl
   · -- end 0
     have hpt : (w2, w3) = endE n i false := by rw [hE]; rfl
     have hmem : (w2, w3) ∈ ends (endE n) n.sws.length := (mem_ends _).2 ⟨i, false, hk, hpt⟩
     have hs0 := hsum _ hmem
     have hw25 : wrapq .i64 (Int.add ((0 : Nat) : Int) 1) = ((0 + 1 : Nat) : Int) := rfl
     have hstep : offers (findI n.lines) f w (([endE n i false, endE n i true] : List Pt).take (0 + 1)) (offers (findI n.lines) f w (ends (endE n) i) (L, false)) = offer1 (findI n.lines) f w (w2, w3) (offers (findI n.lines) f w (([endE n i false, endE n i true] : List Pt).take 0) (offers (findI n.lines) f w (ends (endE n) i) (L, false))) := by rw [hpt]; rfl
     rw [hstep]
     generalize offers (findI n.lines) f w (([endE n i false, endE n i true] : List Pt).take 0) (offers (findI n.lines) f w (ends (endE n) i) (L, false)) = s at i7 qi qL ⊢
     obtain ⟨LL, bb⟩ := s
     simp only at i7 qi qL
     have hlook := lookL (H := ((((H2.push (.cells [.str [], .int .i64 0] 32)).set H2.n (.cells [.str w2, .int .i64 w3] 32)).push (.cells [.ps .nil [], .int .i64 0] 82)).set (H2.n + 1) (.cells [.ps .unk ((w ++ [(⟨w2, f.2, w3⟩ : Leg)]).map Leg.row), .int .i64 (wSum (w ++ [(⟨w2, f.2, w3⟩ : Leg)]))] 82))) (id := id) (L := LL) (by simp only [go_sem, reduceIte, reduceEqDiff, reduceAdd, reduceMul, reduceSub, reduceLeDiff, reduceLT, Nat.reduceBEq, reduceCtorEq, d4, d5, d6]; exact qi) (w2, w3)
     have hup : ∀ old, amapUpdate NC.P lo ((((((H2.push (.cells [.str [], .int .i64 0] 32)).set H2.n (.cells [.str w2, .int .i64 w3] 32)).push (.cells [.ps .nil [], .int .i64 0] 82)).set (H2.n + 1) (.cells [.ps .unk ((w ++ [(⟨w2, f.2, w3⟩ : Leg)]).map Leg.row), .int .i64 (wSum (w ++ [(⟨w2, f.2, w3⟩ : Leg)]))] 82)).push (.cells [.ps .nil [], .int .i64 0] 82)).set (H2.n + 1 + 1) (.cells old 82)) 120 (.map id) (.agg [.str w2, .int .i64 w3]) (.agg [.ps .unk ((w ++ [(⟨w2, f.2, w3⟩ : Leg)]).map Leg.row), .int .i64 (wSum (w ++ [(⟨w2, f.2, w3⟩ : Leg)]))]) = some (((((((H2.push (.cells [.str [], .int .i64 0] 32)).set H2.n (.cells [.str w2, .int .i64 w3] 32)).push (.cells [.ps .nil [], .int .i64 0] 82)).set (H2.n + 1) (.cells [.ps .unk ((w ++ [(⟨w2, f.2, w3⟩ : Leg)]).map Leg.row), .int .i64 (wSum (w ++ [(⟨w2, f.2, w3⟩ : Leg)]))] 82)).push (.cells [.ps .nil [], .int .i64 0] 82)).set (H2.n + 1 + 1) (.cells old 82)).set id (.map (lmap (up LL (w2, w3) (w ++ [(⟨w2, f.2, w3⟩ : Leg)]))))) := fun old => updL (L := LL) (by simp only [go_sem, reduceIte, reduceEqDiff, reduceAdd, reduceMul, reduceSub, reduceLeDiff, reduceLT, Nat.reduceBEq, reduceCtorEq, d4, d5, d6]; exact qi) hlo (w2, w3) (w ++ [(⟨w2, f.2, w3⟩ : Leg)]) rfl
     have e204 := pe204 w (wSum w) ⟨w2, f.2, w3⟩ (by unfold maxRows; omega)
     rw [hs0] at e204
     have ho : offer1 (findI n.lines) f w (w2, w3) (LL, bb) = if w2 = f.1 then (match lk LL (w2, w3) with
      | none => (up LL (w2, w3) (w ++ [(⟨w2, f.2, w3⟩ : Leg)]), true)
      | some old => if wLt (findI n.lines) (w ++ [(⟨w2, f.2, w3⟩ : Leg)]) old then (up LL (w2, w3) (w ++ [(⟨w2, f.2, w3⟩ : Leg)]), true) else (LL, bb)) else (LL, bb) := rfl
     rw [ho]
     have hup17 : ∀ q v, lk (up LL (w2, w3) (w ++ [(⟨w2, f.2, w3⟩ : Leg)])) q = some v → v.length ≤ 17 := by
      intro q v hq
      rw [lk_up] at hq
      split at hq
      · cases hq; rw [List.length_append]; simp; omega
      · exact qL q v hq
     have hol : ∀ j, j < H.n → j ≠ id → ∀ (A : ABlk), H2.get j = H.get j := fun j h1 h2 _ => qO j h1 h2
     clear hstep hpt hmem hs0 ho
     simp only [Leg.row] at e204
     cases hB : beqL w2 f.1 with
     | false =>
       have hne : ¬ (w2 = f.1) := fun e => by rw [e, beqL_self] at hB; cases hB
       rw [if_neg hne]
       simp only [go_sem, reduceIte, reduceEqDiff, reduceAdd, reduceMul, reduceSub, reduceLeDiff, reduceLT, Nat.reduceBEq, reduceCtorEq, i2, i3, i4, i5, i7, i16, i17, i18, i24, i25, q4, q5, qb0, qb1, List.length_map, hk, d0, d1, d2, d3, d4, d5, d6, d7, d8, d9, da, db, dc, hlo1, hlo2', hlo3, hloi, hw25, i02, i12, cast1, cast2, wl01, wl12, hB]
       exact ⟨by omega, qi, fun j h1 h2 => by obtain ⟨z1, z2, z3⟩ := hjn j h1; simp only [z1, z2, z3, h2, if_false]; exact qO j h1 h2, qL⟩
     | true =>
       have heq : w2 = f.1 := (beqL_iff _ _).1 hB
       rw [if_pos heq]
       cases hl : lk LL (w2, w3) with
       | none =>
         rw [hl] at hlook
         simp only [] at hlook ⊢
         have hup := hup [.ps .nil [], .int .i64 0]
         generalize (w ++ [(⟨w2, f.2, w3⟩ : Leg)]).map Leg.row = NR at e204 hlook hup
         generalize wSum (w ++ [(⟨w2, f.2, w3⟩ : Leg)]) = NS at e204 hlook hup
         simp only [go_sem, reduceIte, reduceEqDiff, reduceAdd, reduceMul, reduceSub, reduceLeDiff, reduceLT, Nat.reduceBEq, reduceCtorEq, i2, i3, i4, i5, i7, i16, i17, i18, i24, i25, q4, q5, qb0, qb1, List.length_map, hk, d0, d1, d2, d3, d4, d5, d6, d7, d8, d9, da, db, dc, hlo1, hlo2', hlo3, hloi, hw25, i02, i12, cast1, cast2, wl01, wl12, hB, en204 h204, e204, hlook, hup]
         exact ⟨by omega, fun j h1 h2 => by obtain ⟨z1, z2, z3⟩ := hjn j h1; simp only [z1, z2, z3, h2, if_false]; exact qO j h1 h2, hup17⟩
       | some old =>
         rw [hl] at hlook
         have hol17 := qL _ _ hl
         have e203 := pe203 n (w ++ [(⟨w2, f.2, w3⟩ : Leg)]) (wSum (w ++ [(⟨w2, f.2, w3⟩ : Leg)])) old (wSum old) ⟨hn.lines, by rw [List.length_append]; unfold maxRows; simp; omega, by unfold maxRows; omega⟩
         have hcmp := cmpRt_lt n (w ++ [(⟨w2, f.2, w3⟩ : Leg)]) old
         generalize cmpRt n (w ++ [(⟨w2, f.2, w3⟩ : Leg)]) (wSum (w ++ [(⟨w2, f.2, w3⟩ : Leg)])) old (wSum old) = C at e203 hcmp
         simp only [rtC] at hlook
         have hup := hup [.ps .unk (old.map Leg.row), .int .i64 (wSum old)]
         simp only [Net.cells] at e203
         generalize old.map Leg.row = OR at e203 hlook hup
         generalize wSum old = OS at e203 hlook hup
         simp only []
         cases hlt : wLt (findI n.lines) (w ++ [(⟨w2, f.2, w3⟩ : Leg)]) old with
         | true =>
           have hC : (C < 0) = True := by rw [hlt] at hcmp; simpa using hcmp
           rw [if_pos rfl]
           generalize (w ++ [(⟨w2, f.2, w3⟩ : Leg)]).map Leg.row = NR at e203 e204 hlook hup
           generalize wSum (w ++ [(⟨w2, f.2, w3⟩ : Leg)]) = NS at e203 e204 hlook hup
           simp only [go_sem, reduceIte, reduceEqDiff, reduceAdd, reduceMul, reduceSub, reduceLeDiff, reduceLT, Nat.reduceBEq, reduceCtorEq, i2, i3, i4, i5, i7, i16, i17, i18, i24, i25, q4, q5, qb0, qb1, List.length_map, hk, d0, d1, d2, d3, d4, d5, d6, d7, d8, d9, da, db, dc, hlo1, hlo2', hlo3, hloi, hw25, i02, i12, cast1, cast2, wl01, wl12, hB, en204 h204, e204, hlook, Net.cells, en203 h203, e203, hC, hup]
           exact ⟨by omega, fun j h1 h2 => by obtain ⟨z1, z2, z3⟩ := hjn j h1; simp only [z1, z2, z3, h2, if_false]; exact qO j h1 h2, hup17⟩
         | false =>
           have hC : (C < 0) = False := by rw [hlt] at hcmp; simpa using hcmp
           rw [if_neg (by simp)]
           generalize (w ++ [(⟨w2, f.2, w3⟩ : Leg)]).map Leg.row = NR at e203 e204 hlook hup
           generalize wSum (w ++ [(⟨w2, f.2, w3⟩ : Leg)]) = NS at e203 e204 hlook hup
           simp only [go_sem, reduceIte, reduceEqDiff, reduceAdd, reduceMul, reduceSub, reduceLeDiff, reduceLT, Nat.reduceBEq, reduceCtorEq, i2, i3, i4, i5, i7, i16, i17, i18, i24, i25, q4, q5, qb0, qb1, List.length_map, hk, d0, d1, d2, d3, d4, d5, d6, d7, d8, d9, da, db, dc, hlo1, hlo2', hlo3, hloi, hw25, i02, i12, cast1, cast2, wl01, wl12, hB, en204 h204, e204, hlook, Net.cells, en203 h203, e203, hC]
           exact ⟨by omega, qi, fun j h1 h2 => by obtain ⟨z1, z2, z3⟩ := hjn j h1; simp only [z1, z2, z3, h2, if_false]; exact qO j h1 h2, qL⟩
   · -- end 1
     have hpt : (w4, EM) = endE n i true := by rw [hE]; rfl
     have hmem : (w4, EM) ∈ ends (endE n) n.sws.length := (mem_ends _).2 ⟨i, true, hk, hpt⟩
     have hs0 := hsum _ hmem
     have hw25 : wrapq .i64 (Int.add ((1 : Nat) : Int) 1) = ((1 + 1 : Nat) : Int) := rfl
     have hstep : offers (findI n.lines) f w (([endE n i false, endE n i true] : List Pt).take (1 + 1)) (offers (findI n.lines) f w (ends (endE n) i) (L, false)) = offer1 (findI n.lines) f w (w4, EM) (offers (findI n.lines) f w (([endE n i false, endE n i true] : List Pt).take 1) (offers (findI n.lines) f w (ends (endE n) i) (L, false))) := by rw [hpt]; rfl
     rw [hstep]
     generalize offers (findI n.lines) f w (([endE n i false, endE n i true] : List Pt).take 1) (offers (findI n.lines) f w (ends (endE n) i) (L, false)) = s at i7 qi qL ⊢
     obtain ⟨LL, bb⟩ := s
     simp only at i7 qi qL
     have hlook := lookL (H := ((((H2.push (.cells [.str [], .int .i64 0] 32)).set H2.n (.cells [.str w4, .int .i64 EM] 32)).push (.cells [.ps .nil [], .int .i64 0] 82)).set (H2.n + 1) (.cells [.ps .unk ((w ++ [(⟨w4, f.2, EM⟩ : Leg)]).map Leg.row), .int .i64 (wSum (w ++ [(⟨w4, f.2, EM⟩ : Leg)]))] 82))) (id := id) (L := LL) (by simp only [go_sem, reduceIte, reduceEqDiff, reduceAdd, reduceMul, reduceSub, reduceLeDiff, reduceLT, Nat.reduceBEq, reduceCtorEq, d4, d5, d6]; exact qi) (w4, EM)
     have hup : ∀ old, amapUpdate NC.P lo ((((((H2.push (.cells [.str [], .int .i64 0] 32)).set H2.n (.cells [.str w4, .int .i64 EM] 32)).push (.cells [.ps .nil [], .int .i64 0] 82)).set (H2.n + 1) (.cells [.ps .unk ((w ++ [(⟨w4, f.2, EM⟩ : Leg)]).map Leg.row), .int .i64 (wSum (w ++ [(⟨w4, f.2, EM⟩ : Leg)]))] 82)).push (.cells [.ps .nil [], .int .i64 0] 82)).set (H2.n + 1 + 1) (.cells old 82)) 120 (.map id) (.agg [.str w4, .int .i64 EM]) (.agg [.ps .unk ((w ++ [(⟨w4, f.2, EM⟩ : Leg)]).map Leg.row), .int .i64 (wSum (w ++ [(⟨w4, f.2, EM⟩ : Leg)]))]) = some (((((((H2.push (.cells [.str [], .int .i64 0] 32)).set H2.n (.cells [.str w4, .int .i64 EM] 32)).push (.cells [.ps .nil [], .int .i64 0] 82)).set (H2.n + 1) (.cells [.ps .unk ((w ++ [(⟨w4, f.2, EM⟩ : Leg)]).map Leg.row), .int .i64 (wSum (w ++ [(⟨w4, f.2, EM⟩ : Leg)]))] 82)).push (.cells [.ps .nil [], .int .i64 0] 82)).set (H2.n + 1 + 1) (.cells old 82)).set id (.map (lmap (up LL (w4, EM) (w ++ [(⟨w4, f.2, EM⟩ : Leg)]))))) := fun old => updL (L := LL) (by simp only [go_sem, reduceIte, reduceEqDiff, reduceAdd, reduceMul, reduceSub, reduceLeDiff, reduceLT, Nat.reduceBEq, reduceCtorEq, d4, d5, d6]; exact qi) hlo (w4, EM) (w ++ [(⟨w4, f.2, EM⟩ : Leg)]) rfl
     have e204 := pe204 w (wSum w) ⟨w4, f.2, EM⟩ (by unfold maxRows; omega)
     rw [hs0] at e204
     have ho : offer1 (findI n.lines) f w (w4, EM) (LL, bb) = if w4 = f.1 then (match lk LL (w4, EM) with
      | none => (up LL (w4, EM) (w ++ [(⟨w4, f.2, EM⟩ : Leg)]), true)
      | some old => if wLt (findI n.lines) (w ++ [(⟨w4, f.2, EM⟩ : Leg)]) old then (up LL (w4, EM) (w ++ [(⟨w4, f.2, EM⟩ : Leg)]), true) else (LL, bb)) else (LL, bb) := rfl
     rw [ho]
     have hup17 : ∀ q v, lk (up LL (w4, EM) (w ++ [(⟨w4, f.2, EM⟩ : Leg)])) q = some v → v.length ≤ 17 := by
      intro q v hq
      rw [lk_up] at hq
      split at hq
      · cases hq; rw [List.length_append]; simp; omega
      · exact qL q v hq
     have hol : ∀ j, j < H.n → j ≠ id → ∀ (A : ABlk), H2.get j = H.get j := fun j h1 h2 _ => qO j h1 h2
     clear hstep hpt hmem hs0 ho
     simp only [Leg.row] at e204
     cases hB : beqL w4 f.1 with
     | false =>
       have hne : ¬ (w4 = f.1) := fun e => by rw [e, beqL_self] at hB; cases hB
       rw [if_neg hne]
       simp only [go_sem, reduceIte, reduceEqDiff, reduceAdd, reduceMul, reduceSub, reduceLeDiff, reduceLT, Nat.reduceBEq, reduceCtorEq, i2, i3, i4, i5, i7, i16, i17, i18, i24, i25, q4, q5, qb0, qb1, List.length_map, hk, d0, d1, d2, d3, d4, d5, d6, d7, d8, d9, da, db, dc, hlo1, hlo2', hlo3, hloi, hw25, i02, i12, cast1, cast2, wl01, wl12, hB]
       exact ⟨by omega, qi, fun j h1 h2 => by obtain ⟨z1, z2, z3⟩ := hjn j h1; simp only [z1, z2, z3, h2, if_false]; exact qO j h1 h2, qL⟩
     | true =>
       have heq : w4 = f.1 := (beqL_iff _ _).1 hB
       rw [if_pos heq]
       cases hl : lk LL (w4, EM) with
       | none =>
         rw [hl] at hlook
         simp only [] at hlook ⊢
         have hup := hup [.ps .nil [], .int .i64 0]
         generalize (w ++ [(⟨w4, f.2, EM⟩ : Leg)]).map Leg.row = NR at e204 hlook hup
         generalize wSum (w ++ [(⟨w4, f.2, EM⟩ : Leg)]) = NS at e204 hlook hup
         simp only [go_sem, reduceIte, reduceEqDiff, reduceAdd, reduceMul, reduceSub, reduceLeDiff, reduceLT, Nat.reduceBEq, reduceCtorEq, i2, i3, i4, i5, i7, i16, i17, i18, i24, i25, q4, q5, qb0, qb1, List.length_map, hk, d0, d1, d2, d3, d4, d5, d6, d7, d8, d9, da, db, dc, hlo1, hlo2', hlo3, hloi, hw25, i02, i12, cast1, cast2, wl01, wl12, hB, en204 h204, e204, hlook, hup]
         exact ⟨by omega, fun j h1 h2 => by obtain ⟨z1, z2, z3⟩ := hjn j h1; simp only [z1, z2, z3, h2, if_false]; exact qO j h1 h2, hup17⟩
       | some old =>
         rw [hl] at hlook
         have hol17 := qL _ _ hl
         have e203 := pe203 n (w ++ [(⟨w4, f.2, EM⟩ : Leg)]) (wSum (w ++ [(⟨w4, f.2, EM⟩ : Leg)])) old (wSum old) ⟨hn.lines, by rw [List.length_append]; unfold maxRows; simp; omega, by unfold maxRows; omega⟩
         have hcmp := cmpRt_lt n (w ++ [(⟨w4, f.2, EM⟩ : Leg)]) old
         generalize cmpRt n (w ++ [(⟨w4, f.2, EM⟩ : Leg)]) (wSum (w ++ [(⟨w4, f.2, EM⟩ : Leg)])) old (wSum old) = C at e203 hcmp
         simp only [rtC] at hlook
         have hup := hup [.ps .unk (old.map Leg.row), .int .i64 (wSum old)]
         simp only [Net.cells] at e203
         generalize old.map Leg.row = OR at e203 hlook hup
         generalize wSum old = OS at e203 hlook hup
         simp only []
         cases hlt : wLt (findI n.lines) (w ++ [(⟨w4, f.2, EM⟩ : Leg)]) old with
         | true =>
           have hC : (C < 0) = True := by rw [hlt] at hcmp; simpa using hcmp
           rw [if_pos rfl]
           generalize (w ++ [(⟨w4, f.2, EM⟩ : Leg)]).map Leg.row = NR at e203 e204 hlook hup
           generalize wSum (w ++ [(⟨w4, f.2, EM⟩ : Leg)]) = NS at e203 e204 hlook hup
           simp only [go_sem, reduceIte, reduceEqDiff, reduceAdd, reduceMul, reduceSub, reduceLeDiff, reduceLT, Nat.reduceBEq, reduceCtorEq, i2, i3, i4, i5, i7, i16, i17, i18, i24, i25, q4, q5, qb0, qb1, List.length_map, hk, d0, d1, d2, d3, d4, d5, d6, d7, d8, d9, da, db, dc, hlo1, hlo2', hlo3, hloi, hw25, i02, i12, cast1, cast2, wl01, wl12, hB, en204 h204, e204, hlook, Net.cells, en203 h203, e203, hC, hup]
           exact ⟨by omega, fun j h1 h2 => by obtain ⟨z1, z2, z3⟩ := hjn j h1; simp only [z1, z2, z3, h2, if_false]; exact qO j h1 h2, hup17⟩
         | false =>
           have hC : (C < 0) = False := by rw [hlt] at hcmp; simpa using hcmp
           rw [if_neg (by simp)]
           generalize (w ++ [(⟨w4, f.2, EM⟩ : Leg)]).map Leg.row = NR at e203 e204 hlook hup
           generalize wSum (w ++ [(⟨w4, f.2, EM⟩ : Leg)]) = NS at e203 e204 hlook hup
           simp only [go_sem, reduceIte, reduceEqDiff, reduceAdd, reduceMul, reduceSub, reduceLeDiff, reduceLT, Nat.reduceBEq, reduceCtorEq, i2, i3, i4, i5, i7, i16, i17, i18, i24, i25, q4, q5, qb0, qb1, List.length_map, hk, d0, d1, d2, d3, d4, d5, d6, d7, d8, d9, da, db, dc, hlo1, hlo2', hlo3, hloi, hw25, i02, i12, cast1, cast2, wl01, wl12, hB, en204 h204, e204, hlook, Net.cells, en203 h203, e203, hC]
           exact ⟨by omega, qi, fun j h1 h2 => by obtain ⟨z1, z2, z3⟩ := hjn j h1; simp only [z1, z2, z3, h2, if_false]; exact qO j h1 h2, qL⟩
   rintro T' H2 M ⟨rfl, i2, i3, i4, i5, i7, i16, i17, i18, i24, i25, qn, q4, q5, qi, qO, qL⟩
   rw [← hend2] at i7 qi qL
   have h22 : (((2 : Nat) : Int) < 2) = False := by simp
   simp only [go_sem, reduceIte, reduceEqDiff, reduceAdd, reduceMul, reduceSub, reduceLeDiff, reduceLT, Nat.reduceBEq, reduceCtorEq, i2, i3, i4, i5, i7, i16, i17, i18, i25, h22, hw18]
   exact ⟨qn, q4, q5, qi, qO, qL⟩
 · rintro T H1 M ⟨rfl, g2, g3, g4, g5, g7, g16, g17, g18, pn, p4, p5, pi, pO, pL⟩
   simp only [go_sem, reduceIte, reduceEqDiff, reduceAdd, reduceMul, reduceSub, reduceLeDiff, reduceLT, Nat.reduceBEq, reduceCtorEq, g2, g3, g4, g5, g7, g16, g17, g18, Nat.lt_irrefl]
   exact ⟨pi, by omega, pO, pL⟩
end Go.Sim

namespace Go.Sim
open Go Go.Proofs
set_option maxRecDepth 100000
set_option maxHeartbeats 64000000
variable {P:FuncId→Option (List AV→Option AV)}
def inR (x:Int):Prop:=0≤x∧x≤800000
theorem legW_len {l:Leg} (h1:inR l.fr) (h2:inR l.to):legW l=l.len∧0≤l.len∧l.len≤800000:=by
 obtain ⟨a1,a2⟩:=h1
 obtain ⟨b1,b2⟩:=h2
 have e1:Int.sub l.fr l.to=l.fr - l.to:=rfl
 have e2:Int.sub l.to l.fr=l.to - l.fr:=rfl
 unfold legW Leg.len
 rw [e1,e2,wrap_small (x:=l.fr - l.to) (by omega) (by omega),wrap_small (x:=l.to - l.fr) (by omega) (by omega)]
 unfold maxI dI
 (repeat' split)<;>omega
theorem wSum_small:∀ {w:List Leg},(∀ l ∈ w,inR l.fr∧inR l.to)→wSum w≤800000 * w.length
 | [],_=>by simp [wSum]
 | l::r,h=>by
   have ih:=wSum_small (w:=r) fun x hx=>h x (by simp [hx])
   obtain ⟨h1,h2⟩:=h l (by simp)
   have:=(legW_len h1 h2).2.2
   simp only [wSum,List.length_cons];omega
theorem legsOf_in {E:Nat→Bool→Pt} {N:Nat} (hE:∀ i k,i < N→inR (E i k).2):∀ {a:Pt} {σ:List Stp} {b:Pt},inR a.2→inR b.2→okS E N a σ b → ∀ l ∈ legsOf E a σ b,inR l.fr∧inR l.to
 | a,[],b,ha,hb,_=>by
   intro l hl
   rw [List.mem_singleton.1 hl];exact ⟨ha,hb⟩
 | a,s::r,b,ha,hb,h=>by
   intro l hl
   rcases List.mem_cons.1 hl with rfl | hl
   · exact ⟨ha,hE _ _ h.1⟩
   · exact legsOf_in hE (hE _ _ h.1) hb h.2.2 l hl
theorem sum_one {w:List Leg} {l:Leg} (hw:∀ l ∈ w,inR l.fr∧inR l.to) (hn:w.length≤16) (h1:inR l.fr) (h2:inR l.to):wrapq .i64 (Int.add (wSum w) (legW l))=wSum (w++[l]):=by
 obtain ⟨e1,e2,e3⟩:=legW_len h1 h2
 have hs:=wSum_small hw
 have h0:=wSum_nonneg w
 have e:Int.add (wSum w) l.len=wSum w+l.len:=rfl
 rw [e1,e,wSum_append]
 have:wSum [l]=l.len:=by simp [wSum]
 rw [this]
 exact wrapq_i64 (by omega) (by omega)
theorem sum_ok {n:Net} {a:Pt} {σ:List Stp} {fr:Int} (ha:inR a.2) (hE:∀ i k,i < n.sws.length→inR (endE n i k).2) {q:Pt} (h:okS (endE n) n.sws.length a σ q) (hl:σ.length≤15) (hf:inR fr) :
 inR q.2 → ∀ p ∈ ends (endE n) n.sws.length,wrapq .i64 (Int.add (wSum (legsOf (endE n) a σ q)) (legW ⟨p.1,fr,p.2⟩))=wSum (legsOf (endE n) a σ q++[⟨p.1,fr,p.2⟩]):=by
 intro hq p hp
 obtain ⟨j,m,hj,rfl⟩:=(mem_ends _).1 hp
 exact sum_one (legsOf_in hE ha hq h) (by rw [legsOf_length];omega) hf (hE j m hj)
theorem first_better {ix:List Nat→Int} {o L:Labs} (hb:better ix o L) {p:Pt} {x:List Leg} (h:∃ v,lk o p=some v∧(v=x∨wLt ix v x=true∨wLt ix x v=false)):∃ w,lk L p=some w∧(w=x∨wLt ix w x=true∨wLt ix x w=false):=by
 obtain ⟨v,h1,h2⟩:=h
 obtain ⟨u,h3,h4⟩:=hb p v h1
 refine ⟨u,h3, ?_⟩
 rcases h4 with rfl | h4
 · exact h2
 · rcases h2 with rfl | h2 | h2
   · exact .inr (.inl h4)
   · exact .inr (.inl (wLt_trans ix h4 h2))
   · right;right
     cases c:wLt ix x u with
     | false=>rfl
     | true =>
       have:=wLt_trans ix c h4
       rw [this] at h2;cases h2
def rsD (E:Nat→Bool→Pt) (N:Nat) (ix:List Nat→Int) (L:Labs) (i:Nat):Nat→Labs × Bool
 | 0=>rounds E N ix i (L,false)
 | 1=>rstep E N ix i false (rounds E N ix i (L,false))
 | _=>rstep E N ix i true (rstep E N ix i false (rounds E N ix i (L,false)))
theorem rsD_valid {E:Nat→Bool→Pt} {N:Nat} {ix:List Nat→Int} {a:Pt} {L:Labs} (h:LabV E N a L) {i:Nat} (hi:i < N):∀ k,k≤2→LabV E N a (rsD E N ix L i k).1
 | 0,_=>(rounds_rs (ix:=ix) (by omega) h).valid
 | 1,_=>(rstep_rs (ix:=ix) hi false (rounds_rs (ix:=ix) (by omega) h).valid).valid
 | 2,_=>(rstep_rs (ix:=ix) hi true (rstep_rs (ix:=ix) hi false (rounds_rs (ix:=ix) (by omega) h).valid).valid).valid
 | n+3,h=>absurd h (by omega)
theorem ab334 (a c a' c':List Nat) (b d b' d':Int):abuild NC.P 123 [(0,.agg [.str a,.int .i64 b,.str c,.int .i64 d]),(1,.agg [.str a',.int .i64 b',.str c',.int .i64 d'])]=some (.agg [.str a,.int .i64 b,.str c,.int .i64 d,.str a',.int .i64 b',.str c',.int .i64 d']):=by kernel_rfl
theorem evalO_nilm {C:Cfg} {T:TT AV}:evalO C T (.const (.map none))=some .nilm:=rfl
theorem r185 (h151:P 41=some p151) (h203:P 38=some p203) (h204:P 39=some p204) (h229:P 66=none) (n:Net) (hn:n.Ok) (hsw:n.sws.length≤maxRows) (a:Pt) (hRa:inR a.2) (hRE:∀ i k,i < n.sws.length→inR (endE n i k).2) (lo:Nat) (H:Heap) (hlo:lo≤H.n) :
 ∃ v H',R (NC.withPrims P) (.call lo 40 [.agg n.cells,.agg [.str a.1,.int .i64 a.2]] H)=some (.ofVal v H') ∧ ∃ L,v=.map (H.n+2)∧H.n+2 < H'.n∧H'.get (H.n+2)=.map (lmap L)∧Lab (endE n) n.sws.length (findI n.lines) a (lk L)∧LabV (endE n) n.sws.length a L ∧ ∀ j,j < H.n→H'.get j=H.get j:=by
 refine R_of_body (C:=NC.withPrims P) (f:=40) (lo:=lo) (args:=[.agg n.cells,.agg [.str a.1,.int .i64 a.2]]) (H:=H) (fn:=Try.f40) (Q:=fun v H'=>∃ L,v=.map (H.n+2)∧H.n+2 < H'.n∧H'.get (H.n+2)=.map (lmap L)∧Lab (endE n) n.sws.length (findI n.lines) a (lk L)∧LabV (endE n) n.sws.length a L ∧ ∀ j,j < H.n→H'.get j=H.get j) (by kernel_rfl) Try.func40 rfl rfl ?_
 have hend1:∀ s,(rounds (endE n) n.sws.length (findI n.lines) 0 s)=s:=fun s=>rfl
 obtain ⟨v1,H1,r1,rfl,r2,r3,r4,r5⟩:=r229 (P:=P) h151 h203 h204 n hn hsw a [] [] (by simp) (by
  intro p hp
  obtain ⟨j,m,hj,rfl⟩:=(mem_ends _).1 hp
  exact sum_one (w:=[]) (fun l hl=>by cases hl) (by simp) hRa (hRE j m hj)) (fun p v h=>by cases h)
  lo H.n (H.n+3) (H.n+2) (((((H.push (.cells n.cells 46)).push (.cells [.str a.1,.int .i64 a.2] 32)).push (.map [])).push (.cells [.nilm] 120)).set (H.n+3) (.cells [.map (H.n+2)] 120)) (by omega) (by simp;omega) (by simp;omega) (by simp) (by simp) (by omega) (by omega) (by simp only [go_sem,reduceIte,reduceEqDiff,reduceAdd,reduceMul,reduceSub,reduceLeDiff,reduceLT,Nat.reduceBEq,reduceCtorEq]) (by simp only [go_sem,reduceIte,reduceEqDiff,reduceAdd,reduceMul,reduceSub,reduceLeDiff,reduceLT,Nat.reduceBEq,reduceCtorEq]) (by simp only [go_sem,reduceIte,reduceEqDiff,reduceAdd,reduceMul,reduceSub,reduceLeDiff,reduceLT,Nat.reduceBEq,reduceCtorEq];rfl)
 have hv0:=offers_valid (ix:=findI n.lines) (rt_first (E:=endE n) (N:=n.sws.length) (a:=a)) (ends (endE n) n.sws.length) ends_all ([],false) (fun p w h=>by cases h)
 have hf0:=offers_least (findI n.lines) a [] (ends (endE n) n.sws.length) ([],false)
 generalize offers (findI n.lines) a [] (ends (endE n) n.sws.length) ([],false)=o at r1 r2 r5 hv0 hf0
 obtain ⟨o1,o2⟩:=o
 simp only at r1 r2 r5 hv0 hf0
 have hlo3:(lo≤H.n+1+1+1)=True:=by simp only [eq_iff_iff,iff_true];omega
 have r1':=r1
 simp only [Net.cells,List.map_nil,wSum] at r1'
 simp only [go_sem,reduceIte,reduceEqDiff,reduceAdd,reduceMul,reduceSub,reduceLeDiff,reduceLT,Nat.reduceBEq,reduceCtorEq,evalO_nilm,hlo3,Net.cells,en229 h229,r1',ofVal_v,ofVal_H]
 have z0:=r4 H.n (by simp;omega) (by omega)
 have z3:=r4 (H.n+3) (by simp) (by omega)
 have zO:∀ j,j < H.n→H1.get j=H.get j:=fun j h=>by
  rw [r4 j (by simp;omega) (by omega)]
  simp only [go_sem,reduceIte,reduceEqDiff,reduceAdd,reduceMul,reduceSub,reduceLeDiff,reduceLT,Nat.reduceBEq,reduceCtorEq]
  rw [if_neg (by omega),if_neg (by omega),if_neg (by omega),if_neg (by omega),if_neg (by omega)]
 have z0:H1.get H.n=.cells n.cells 46:=by rw [z0];simp only [go_sem,reduceIte,reduceEqDiff,reduceAdd,reduceMul,reduceSub,reduceLeDiff,reduceLT,Nat.reduceBEq,reduceCtorEq]
 have z3:H1.get (H.n+3)=.cells [.map (H.n+2)] 120:=by rw [z3];simp only [go_sem,reduceIte,reduceEqDiff,reduceAdd,reduceMul,reduceSub,reduceLeDiff,reduceLT,Nat.reduceBEq,reduceCtorEq]
 have zn:H.n+3 < H1.n:=by simp at r3;omega
 clear r1 r1' r3 r4 hlo3
 refine W_while (fun m T H' M=>M=[]∧getT T 2=.ptr H.n 0∧getT T 5=.ptr (H.n+3) 0∧getT T 6=.fn 66 [] [.ptr H.n 0,.ptr (H.n+3) 0]∧H.n+3 < H'.n∧H'.get H.n=.cells n.cells 46∧H'.get (H.n+3)=.cells [.map (H.n+2)] 120∧(∀ j,j < H.n→H'.get j=H.get j) ∧ ∃ (L:Labs) (ag:Bool),getT T 7=.bool ag∧H'.get (H.n+2)=.map (lmap L)∧LabV (endE n) n.sws.length a L∧better (findI n.lines) o1 L∧(ag=false→(rounds (endE n) n.sws.length (findI n.lines) n.sws.length (L,false)).2=false)∧m=if ag then mu (endE n) n.sws.length (findI n.lines) a L+1 else 0) ?_ (mu (endE n) n.sws.length (findI n.lines) a o1+1) _ _ _ ?_
 case refine_2 =>
  simp only [go_sem,reduceIte,reduceEqDiff,reduceAdd,reduceMul,reduceSub,reduceLeDiff,reduceLT,Nat.reduceBEq,reduceCtorEq]
  exact ⟨zn,z0,z3,zO,o1,true,rfl,r2,hv0,better_refl _ _,fun h=>(by cases h),rfl⟩
 case refine_1 =>
 clear z0 z3 zO zn r2 r5 hv0
 rintro m T H' M ⟨rfl,t2,t5,t6,hn',g0,g3,gO,L,ag,t7,gL,hLv,hb,hfin,rfl⟩
 cases ag with
 | false =>
   have hr:=hfin rfl
   simp only [go_sem,reduceIte,reduceEqDiff,reduceAdd,reduceMul,reduceSub,reduceLeDiff,reduceLT,Nat.reduceBEq,reduceCtorEq,t7,t5,g3]
   refine ⟨L,by omega,gL,lab_of hLv ?_ hr,hLv,gO⟩
   intro p hp hl
   have:=first_better hb (hf0 p hp hl)
   rw [List.nil_append,hl] at this
   exact this
 | true =>
 clear hfin
 obtain ⟨rsK,hrsK⟩:∃ r:Nat→Nat→Labs × Bool,r=fun i k=>rsD (endE n) n.sws.length (findI n.lines) L i k:=⟨_,rfl⟩
 have hval:∀ i k,i < n.sws.length→k≤2→LabV (endE n) n.sws.length a (rsK i k).1:=fun i k hi hk=>by rw [hrsK];exact rsD_valid hLv hi k hk
 have hall:=rounds_rs (ix:=findI n.lines) (Nat.le_refl n.sws.length) (s:=(L,false)) hLv
 have hre:rounds (endE n) n.sws.length (findI n.lines) n.sws.length (L,false)=rsK n.sws.length 0:=by rw [hrsK];rfl
 have hrf:=fun h=>rounds_false (E:=endE n) (N:=n.sws.length) (ix:=findI n.lines) (n:=n.sws.length) (s:=(L,false)) h
 rw [hre] at hall hrf
 have hr0:rsK 0 0=(L,false):=by rw [hrsK];rfl
 have hrS:∀ i,rsK (i+1) 0=rsK i 2:=fun i=>by rw [hrsK];rfl
 have g0':=g0
 simp only [Net.cells] at g0'
 simp only [go_sem,reduceIte,reduceEqDiff,reduceAdd,reduceMul,reduceSub,reduceLeDiff,reduceLT,Nat.reduceBEq,reduceCtorEq,t7,t5,t2,t6,g0']
 refine W_for (fun i T H' M=>M=[]∧getT T 2=.ptr H.n 0∧getT T 5=.ptr (H.n+3) 0∧getT T 6=.fn 66 [] [.ptr H.n 0,.ptr (H.n+3) 0]∧getT T 7=.bool (rsK i 0).2∧getT T 23=.ps .unk (n.sws.map Sw.row)∧getT T 24=i64 (n.sws.length:Nat)∧getT T 25=i64 (i:Nat)∧H.n+3 < H'.n∧H'.get H.n=.cells n.cells 46∧H'.get (H.n+3)=.cells [.map (H.n+2)] 120∧(∀ j,j < H.n→H'.get j=H.get j)∧H'.get (H.n+2)=.map (lmap (rsK i 0).1)) n.sws.length ?_ ?_ ?_
 · simp only [go_sem,reduceIte,reduceEqDiff,reduceAdd,reduceMul,reduceSub,reduceLeDiff,reduceLT,Nat.reduceBEq,reduceCtorEq,t2,t5,t6,List.length_map,hr0]
   exact ⟨hn',g0,g3,gO,gL⟩
 · rintro i T H1 M hk ⟨rfl,t2,t5,t6,t7,t23,t24,t25,pn,p0,p3,pO,pL⟩
   obtain ⟨sw,hsx⟩:∃ p,n.sws[i]? = some p:=⟨n.sws[i],by simp⟩
   have hr:=map_at (f:=Sw.row) hsx
   have hw25:=wrap_succ hk hsw
   have hE:endE n i=fun k=>if k then (sw.other,endM n sw) else (sw.line,sw.metre):=by funext k;unfold endE;rw [hsx]
   have e151:=pe151 n sw hn
   have y1:(H.n=H1.n)=False:=by simp only [eq_iff_iff,iff_false];omega
   have y2:(H.n=H1.n+1)=False:=by simp only [eq_iff_iff,iff_false];omega
   have y3:(H.n+3=H1.n)=False:=by simp only [eq_iff_iff,iff_false];omega
   have y4:(H.n+3=H1.n+1)=False:=by simp only [eq_iff_iff,iff_false];omega
   have y5:(H.n+2=H1.n)=False:=by simp only [eq_iff_iff,iff_false];omega
   have y6:(H.n+2=H1.n+1)=False:=by simp only [eq_iff_iff,iff_false];omega
   have hlo1:(lo≤H1.n)=True:=by simp only [eq_iff_iff,iff_true];omega
   have hlo2:(lo≤H1.n+1)=True:=by simp only [eq_iff_iff,iff_true];omega
   rw [hrS]
   generalize endM n sw=EM at e151 hE
   obtain ⟨w1,w2,w3,w4,w5⟩:=sw
   simp only at hE
   have p0':=p0
   simp only [Sw.row,Net.cells] at hr e151 p0'
   simp only [go_sem,reduceIte,reduceEqDiff,reduceAdd,reduceMul,reduceSub,reduceLeDiff,reduceLT,Nat.reduceBEq,reduceCtorEq,t2,t5,t6,t7,t23,t24,t25,List.length_map,hk,hr,p0',y1,y2,hlo1,hlo2,en151 h151,Net.cells,e151,ab259,ab334]
   refine W_for (fun k T H2 M=>M=[]∧getT T 2=.ptr H.n 0∧getT T 5=.ptr (H.n+3) 0∧getT T 6=.fn 66 [] [.ptr H.n 0,.ptr (H.n+3) 0]∧getT T 7=.bool (rsK i k).2∧getT T 23=.ps .unk (n.sws.map Sw.row)∧getT T 24=i64 (n.sws.length:Nat)∧getT T 25=i64 (i:Nat)∧getT T 38=.agg [.str w2,.int .i64 w3,.str w4,.int .i64 EM,.str w4,.int .i64 EM,.str w2,.int .i64 w3]∧getT T 39=i64 (k:Nat)∧H.n+3 < H2.n∧H2.get H.n=.cells n.cells 46∧H2.get (H.n+3)=.cells [.map (H.n+2)] 120∧(∀ j,j < H.n→H2.get j=H.get j)∧H2.get (H.n+2)=.map (lmap (rsK i k).1)) 2 ?_ ?_ ?_
   · simp only [go_sem,reduceIte,reduceEqDiff,reduceAdd,reduceMul,reduceSub,reduceLeDiff,reduceLT,Nat.reduceBEq,reduceCtorEq,t2,t5,t6,t7,t23,t24,t25,y1,y2,y3,y4,y5,y6]
     refine ⟨by omega,p0,p3,fun j h => ?_,pL⟩
     rw [if_neg (by omega),if_neg (by omega),if_neg (by omega),if_neg (by omega)];exact pO j h
   rintro k T H2 M hk2 ⟨rfl,i2,i5,i6,i7,i23,i24,i25,i38,i39,qn,qs0,qs1,qO,qi⟩
   have d0:(H.n=H2.n)=False:=by simp only [eq_iff_iff,iff_false];omega
   have d1:(H.n=H2.n+1)=False:=by simp only [eq_iff_iff,iff_false];omega
   have d2:(H.n+3=H2.n)=False:=by simp only [eq_iff_iff,iff_false];omega
   have d3:(H.n+3=H2.n+1)=False:=by simp only [eq_iff_iff,iff_false];omega
   have d4:(H.n+2=H2.n)=False:=by simp only [eq_iff_iff,iff_false];omega
   have d5:(H.n+2=H2.n+1)=False:=by simp only [eq_iff_iff,iff_false];omega
   have hlo1:(lo≤H2.n)=True:=by simp only [eq_iff_iff,iff_true];omega
   have hlo2:(lo≤H2.n+1)=True:=by simp only [eq_iff_iff,iff_true];omega
   clear hall hrf hre hr0 hrS e151 y1 y2 y3 y4 y5 y6 pO pL p0 p3 hf0
   rcases (show k=0∨k=1 by omega) with rfl | rfl
   · -- entered at end 0
     have hpt:endE n i false=(w2,w3):=by rw [hE];rfl
     have hqt:endE n i (!false)=(w4,EM):=by rw [hE];rfl
     have hrs:rsK i (0+1)=rstep (endE n) n.sws.length (findI n.lines) i false (rsK i 0):=by rw [hrsK];rfl
     have hsv:=hval i 0 (by omega) (by omega)
     rw [hrs]
     generalize rsK i 0=s at i7 qi hsv ⊢
     obtain ⟨LL,bb⟩:=s
     simp only at i7 qi hsv
     have hlook:=lookL (H:=((H2.push (.cells [.str [],.int .i64 0,.str [],.int .i64 0] 33)).set H2.n (.cells [.str w2,.int .i64 w3,.str w4,.int .i64 EM] 33))) (id:=H.n+2) (L:=LL) (by simp only [go_sem,reduceIte,reduceEqDiff,reduceAdd,reduceMul,reduceSub,reduceLeDiff,reduceLT,Nat.reduceBEq,reduceCtorEq,d4,d5];exact qi) (w2,w3)
     have hst:rstep (endE n) n.sws.length (findI n.lines) i false (LL,bb)=match lk LL (w2,w3) with
      | none=>(LL,bb)
      | some r=>if r.length < 16 then ((offers (findI n.lines) (w4,EM) r (ends (endE n) n.sws.length) (LL,false)).1,bb || (offers (findI n.lines) (w4,EM) r (ends (endE n) n.sws.length) (LL,false)).2) else (LL,bb):=by
      unfold rstep
      rw [hpt,hqt]
      all_goals (show (match lk LL (w2,w3) with | none=>_ | some r=>_)=_;cases lk LL (w2,w3)<;>rfl)
     rw [hst]
     cases hl:lk LL (w2,w3) with
     | none =>
       rw [hl] at hlook
       simp only [] at hlook ⊢
       simp only [go_sem,reduceIte,reduceEqDiff,reduceAdd,reduceMul,reduceSub,reduceLeDiff,reduceLT,Nat.reduceBEq,reduceCtorEq,i2,i5,i6,i7,i23,i24,i25,i38,i39,qs1,qi,i02,i12,cast1,cast2,wl01,wl12,d0,d1,d2,d3,d4,d5,hlo1,hlo2,hlook]
       refine ⟨by omega,qs0,fun j h => ?_⟩
       rw [if_neg (by omega),if_neg (by omega),if_neg (by omega),if_neg (by omega)];exact qO j h
     | some r =>
       rw [hl] at hlook
       obtain ⟨_,σ,s1,s2,s3⟩:=hsv _ _ hl
       have hrl:r.length≤16:=by rw [s2,legsOf_length];omega
       simp only [rtC] at hlook
       simp only []
       rcases Nat.lt_or_ge r.length 16 with h16 | h16
       case inr =>
        have h16':((r.length:Int) < 16)=False:=by simp only [eq_iff_iff,iff_false];omega
        rw [if_neg (by omega)]
        simp only [go_sem,reduceIte,reduceEqDiff,reduceAdd,reduceMul,reduceSub,reduceLeDiff,reduceLT,Nat.reduceBEq,reduceCtorEq,i2,i5,i6,i7,i23,i24,i25,i38,i39,qs1,qi,i02,i12,cast1,cast2,wl01,wl12,d0,d1,d2,d3,d4,d5,hlo1,hlo2,hlook,List.length_map,h16']
        refine ⟨by omega,qs0,fun j h => ?_⟩
        rw [if_neg (by omega),if_neg (by omega),if_neg (by omega),if_neg (by omega)];exact qO j h
       have h16':((r.length:Int) < 16)=True:=by simp only [eq_iff_iff,iff_true];omega
       rw [if_pos h16]
       have hrt:∀ p ∈ ends (endE n) n.sws.length,wrapq .i64 (Int.add (wSum r) (legW ⟨p.1,EM,p.2⟩))=wSum (r++[⟨p.1,EM,p.2⟩]):=by
        rw [s2]
        exact sum_ok hRa hRE s1 (by omega) (by have:=hRE i (!false) (by omega);rw [hqt] at this;exact this) (by have:=hRE i false (by omega);rw [hpt] at this;exact this)
       obtain ⟨v3,H3,r1,rfl,r2,r3,r4,r5⟩:=r229 (P:=P) h151 h203 h204 n hn hsw (w4,EM) r LL hrl hrt (fun p v h=>by obtain ⟨_,τ,t1,t2,t3⟩:=hsv p v h;rw [t2,legsOf_length];omega)
        lo H.n (H.n+3) (H.n+2) (((((H2.push (.cells [.str [],.int .i64 0,.str [],.int .i64 0] 33)).set H2.n (.cells [.str w2,.int .i64 w3,.str w4,.int .i64 EM] 33)).push (.cells [.ps .nil [],.int .i64 0] 82)).set (H2.n+1) (.cells [.ps .unk (r.map Leg.row),.int .i64 (wSum r)] 82))) (by omega) (by simp;omega) (by simp;omega) (by simp;omega) (by simp;omega) (by omega) (by omega) (by simp only [go_sem,reduceIte,reduceEqDiff,reduceAdd,reduceMul,reduceSub,reduceLeDiff,reduceLT,Nat.reduceBEq,reduceCtorEq,d0,d1];exact qs0) (by simp only [go_sem,reduceIte,reduceEqDiff,reduceAdd,reduceMul,reduceSub,reduceLeDiff,reduceLT,Nat.reduceBEq,reduceCtorEq,d2,d3];exact qs1) (by simp only [go_sem,reduceIte,reduceEqDiff,reduceAdd,reduceMul,reduceSub,reduceLeDiff,reduceLT,Nat.reduceBEq,reduceCtorEq,d4,d5];exact qi)
       generalize offers (findI n.lines) (w4,EM) r (ends (endE n) n.sws.length) (LL,false)=o at r1 r2 r5 ⊢
       obtain ⟨o1,o2⟩:=o
       simp only at r1 r2 r5
       have r6:H2.n < H3.n:=by simp at r3;omega
       have r7:=r4 H.n (by simp;omega) (by omega)
       have r8:=r4 (H.n+3) (by simp;omega) (by omega)
       have r9:∀ j,j < H.n→H3.get j=H.get j:=fun j h=>by
        rw [r4 j (by simp;omega) (by omega)]
        simp only [go_sem,reduceIte,reduceEqDiff,reduceAdd,reduceMul,reduceSub,reduceLeDiff,reduceLT,Nat.reduceBEq,reduceCtorEq]
        rw [if_neg (by omega),if_neg (by omega),if_neg (by omega),if_neg (by omega)];exact qO j h
       have r7:H3.get H.n=.cells n.cells 46:=by rw [r7];simp only [go_sem,reduceIte,reduceEqDiff,reduceAdd,reduceMul,reduceSub,reduceLeDiff,reduceLT,Nat.reduceBEq,reduceCtorEq,d0,d1];exact qs0
       have r8:H3.get (H.n+3)=.cells [.map (H.n+2)] 120:=by rw [r8];simp only [go_sem,reduceIte,reduceEqDiff,reduceAdd,reduceMul,reduceSub,reduceLeDiff,reduceLT,Nat.reduceBEq,reduceCtorEq,d2,d3];exact qs1
       cases o2<;>simp only [go_sem,reduceIte,reduceEqDiff,reduceAdd,reduceMul,reduceSub,reduceLeDiff,reduceLT,Nat.reduceBEq,reduceCtorEq,i2,i5,i6,i7,i23,i24,i25,i38,i39,qs1,qi,i02,i12,cast1,cast2,wl01,wl12,d0,d1,d2,d3,d4,d5,hlo1,hlo2,hlook,List.length_map,h16',en229 h229,r1,ofVal_v,ofVal_H,Bool.or_true,Bool.or_false]
       · exact ⟨by omega,r7,r8,r9,r2⟩
       · exact ⟨by omega,r7,r8,r9,r2⟩
   · -- entered at end 1
     have hpt:endE n i true=(w4,EM):=by rw [hE];rfl
     have hqt:endE n i (!true)=(w2,w3):=by rw [hE];rfl
     have hrs:rsK i (1+1)=rstep (endE n) n.sws.length (findI n.lines) i true (rsK i 1):=by rw [hrsK];rfl
     have hsv:=hval i 1 (by omega) (by omega)
     rw [hrs]
     generalize rsK i 1=s at i7 qi hsv ⊢
     obtain ⟨LL,bb⟩:=s
     simp only at i7 qi hsv
     have hlook:=lookL (H:=((H2.push (.cells [.str [],.int .i64 0,.str [],.int .i64 0] 33)).set H2.n (.cells [.str w4,.int .i64 EM,.str w2,.int .i64 w3] 33))) (id:=H.n+2) (L:=LL) (by simp only [go_sem,reduceIte,reduceEqDiff,reduceAdd,reduceMul,reduceSub,reduceLeDiff,reduceLT,Nat.reduceBEq,reduceCtorEq,d4,d5];exact qi) (w4,EM)
     have hst:rstep (endE n) n.sws.length (findI n.lines) i true (LL,bb)=match lk LL (w4,EM) with
      | none=>(LL,bb)
      | some r=>if r.length < 16 then ((offers (findI n.lines) (w2,w3) r (ends (endE n) n.sws.length) (LL,false)).1,bb || (offers (findI n.lines) (w2,w3) r (ends (endE n) n.sws.length) (LL,false)).2) else (LL,bb):=by
      unfold rstep
      rw [hpt,hqt]
      all_goals (show (match lk LL (w4,EM) with | none=>_ | some r=>_)=_;cases lk LL (w4,EM)<;>rfl)
     rw [hst]
     cases hl:lk LL (w4,EM) with
     | none =>
       rw [hl] at hlook
       simp only [] at hlook ⊢
       simp only [go_sem,reduceIte,reduceEqDiff,reduceAdd,reduceMul,reduceSub,reduceLeDiff,reduceLT,Nat.reduceBEq,reduceCtorEq,i2,i5,i6,i7,i23,i24,i25,i38,i39,qs1,qi,i02,i12,cast1,cast2,wl01,wl12,d0,d1,d2,d3,d4,d5,hlo1,hlo2,hlook]
       refine ⟨by omega,qs0,fun j h => ?_⟩
       rw [if_neg (by omega),if_neg (by omega),if_neg (by omega),if_neg (by omega)];exact qO j h
     | some r =>
       rw [hl] at hlook
       obtain ⟨_,σ,s1,s2,s3⟩:=hsv _ _ hl
       have hrl:r.length≤16:=by rw [s2,legsOf_length];omega
       simp only [rtC] at hlook
       simp only []
       rcases Nat.lt_or_ge r.length 16 with h16 | h16
       case inr =>
        have h16':((r.length:Int) < 16)=False:=by simp only [eq_iff_iff,iff_false];omega
        rw [if_neg (by omega)]
        simp only [go_sem,reduceIte,reduceEqDiff,reduceAdd,reduceMul,reduceSub,reduceLeDiff,reduceLT,Nat.reduceBEq,reduceCtorEq,i2,i5,i6,i7,i23,i24,i25,i38,i39,qs1,qi,i02,i12,cast1,cast2,wl01,wl12,d0,d1,d2,d3,d4,d5,hlo1,hlo2,hlook,List.length_map,h16']
        refine ⟨by omega,qs0,fun j h => ?_⟩
        rw [if_neg (by omega),if_neg (by omega),if_neg (by omega),if_neg (by omega)];exact qO j h
       have h16':((r.length:Int) < 16)=True:=by simp only [eq_iff_iff,iff_true];omega
       rw [if_pos h16]
       have hrt:∀ p ∈ ends (endE n) n.sws.length,wrapq .i64 (Int.add (wSum r) (legW ⟨p.1,w3,p.2⟩))=wSum (r++[⟨p.1,w3,p.2⟩]):=by
        rw [s2]
        exact sum_ok hRa hRE s1 (by omega) (by have:=hRE i (!true) (by omega);rw [hqt] at this;exact this) (by have:=hRE i true (by omega);rw [hpt] at this;exact this)
       obtain ⟨v3,H3,r1,rfl,r2,r3,r4,r5⟩:=r229 (P:=P) h151 h203 h204 n hn hsw (w2,w3) r LL hrl hrt (fun p v h=>by obtain ⟨_,τ,t1,t2,t3⟩:=hsv p v h;rw [t2,legsOf_length];omega)
        lo H.n (H.n+3) (H.n+2) (((((H2.push (.cells [.str [],.int .i64 0,.str [],.int .i64 0] 33)).set H2.n (.cells [.str w4,.int .i64 EM,.str w2,.int .i64 w3] 33)).push (.cells [.ps .nil [],.int .i64 0] 82)).set (H2.n+1) (.cells [.ps .unk (r.map Leg.row),.int .i64 (wSum r)] 82))) (by omega) (by simp;omega) (by simp;omega) (by simp;omega) (by simp;omega) (by omega) (by omega) (by simp only [go_sem,reduceIte,reduceEqDiff,reduceAdd,reduceMul,reduceSub,reduceLeDiff,reduceLT,Nat.reduceBEq,reduceCtorEq,d0,d1];exact qs0) (by simp only [go_sem,reduceIte,reduceEqDiff,reduceAdd,reduceMul,reduceSub,reduceLeDiff,reduceLT,Nat.reduceBEq,reduceCtorEq,d2,d3];exact qs1) (by simp only [go_sem,reduceIte,reduceEqDiff,reduceAdd,reduceMul,reduceSub,reduceLeDiff,reduceLT,Nat.reduceBEq,reduceCtorEq,d4,d5];exact qi)
       generalize offers (findI n.lines) (w2,w3) r (ends (endE n) n.sws.length) (LL,false)=o at r1 r2 r5 ⊢
       obtain ⟨o1,o2⟩:=o
       simp only at r1 r2 r5
       have r6:H2.n < H3.n:=by simp at r3;omega
       have r7:=r4 H.n (by simp;omega) (by omega)
       have r8:=r4 (H.n+3) (by simp;omega) (by omega)
       have r9:∀ j,j < H.n→H3.get j=H.get j:=fun j h=>by
        rw [r4 j (by simp;omega) (by omega)]
        simp only [go_sem,reduceIte,reduceEqDiff,reduceAdd,reduceMul,reduceSub,reduceLeDiff,reduceLT,Nat.reduceBEq,reduceCtorEq]
        rw [if_neg (by omega),if_neg (by omega),if_neg (by omega),if_neg (by omega)];exact qO j h
       have r7:H3.get H.n=.cells n.cells 46:=by rw [r7];simp only [go_sem,reduceIte,reduceEqDiff,reduceAdd,reduceMul,reduceSub,reduceLeDiff,reduceLT,Nat.reduceBEq,reduceCtorEq,d0,d1];exact qs0
       have r8:H3.get (H.n+3)=.cells [.map (H.n+2)] 120:=by rw [r8];simp only [go_sem,reduceIte,reduceEqDiff,reduceAdd,reduceMul,reduceSub,reduceLeDiff,reduceLT,Nat.reduceBEq,reduceCtorEq,d2,d3];exact qs1
       cases o2<;>simp only [go_sem,reduceIte,reduceEqDiff,reduceAdd,reduceMul,reduceSub,reduceLeDiff,reduceLT,Nat.reduceBEq,reduceCtorEq,i2,i5,i6,i7,i23,i24,i25,i38,i39,qs1,qi,i02,i12,cast1,cast2,wl01,wl12,d0,d1,d2,d3,d4,d5,hlo1,hlo2,hlook,List.length_map,h16',en229 h229,r1,ofVal_v,ofVal_H,Bool.or_true,Bool.or_false]
       · exact ⟨by omega,r7,r8,r9,r2⟩
       · exact ⟨by omega,r7,r8,r9,r2⟩
   rintro T H2 M ⟨rfl,i2,i5,i6,i7,i23,i24,i25,i38,i39,qn,qs0,qs1,qO,qi⟩
   have h22:(((2:Nat):Int) < 2)=False:=by simp
   simp only [go_sem,reduceIte,reduceEqDiff,reduceAdd,reduceMul,reduceSub,reduceLeDiff,reduceLT,Nat.reduceBEq,reduceCtorEq,i2,i5,i6,i7,i23,i24,i25,i39,h22,hw25]
   exact ⟨qn,qs0,qs1,qO,qi⟩
 · rintro T H1 M ⟨rfl,t2,t5,t6,t7,t23,t24,t25,pn,p0,p3,pO,pL⟩
   simp only [go_sem,reduceIte,reduceEqDiff,reduceAdd,reduceMul,reduceSub,reduceLeDiff,reduceLT,Nat.reduceBEq,reduceCtorEq,t2,t5,t6,t7,t23,t24,t25,Nat.lt_irrefl]
   refine ⟨_, ?_,pn,p0,p3,pO,(rsK n.sws.length 0).1,(rsK n.sws.length 0).2,rfl,pL,hall.valid,better_trans _ hb hall.better,fun h => ?_,rfl⟩
   · cases hbb:(rsK n.sws.length 0).2 with
     | false=>simp
     | true =>
       simp only [if_true]
       rcases hall.less with ⟨_,c⟩ | ⟨_,c⟩
       · exact Bool.noConfusion (hbb.symm.trans c)
       · have c':mu (endE n) n.sws.length (findI n.lines) a (rsK n.sws.length 0).1 < mu (endE n) n.sws.length (findI n.lines) a L:=c
         omega
   · obtain ⟨e,_⟩:=hrf h
     rw [e,hre];exact h
end Go.Sim

namespace Go.Sim
open Go Go.Proofs
set_option maxRecDepth 100000
set_option maxHeartbeats 64000000
variable {P:FuncId→Option (List AV→Option AV)}
def takeW (ix:List Nat→Int) (s:Option (List Leg)) (w:List Leg):Option (List Leg):=match s with
 | none=>some w
 | some v=>if wLt ix w v=true then some w else some v
def wayStep (E:Nat→Bool→Pt) (ix:List Nat→Int) (b:Pt) (L:Labs) (i:Nat) (k:Bool) (s:Option (List Leg)):Option (List Leg):=match lk L (E i k) with
 | none=>s
 | some r=>if (E i (!k)).1=b.1∧r.length < 16 then takeW ix s (r++[⟨b.1,(E i (!k)).2,b.2⟩]) else s
def wayD (E:Nat→Bool→Pt) (ix:List Nat→Int) (b:Pt) (L:Labs) (i:Nat) (s:Option (List Leg)):Nat→Option (List Leg)
 | 0=>s
 | 1=>wayStep E ix b L i false s
 | _=>wayStep E ix b L i true (wayStep E ix b L i false s)
def wayR (E:Nat→Bool→Pt) (ix:List Nat→Int) (b:Pt) (L:Labs) (s:Option (List Leg)):Nat→Option (List Leg)
 | 0=>s
 | n+1=>wayD E ix b L n (wayR E ix b L s n) 2
def wayS (E:Nat→Bool→Pt) (N:Nat) (ix:List Nat→Int) (a b:Pt) (L:Labs):Option (List Leg) :=
 wayR E ix b L (if a.1=b.1 then some [⟨a.1,a.2,b.2⟩] else none) N
def InvW (ix:List Nat→Int) (Q:List Leg→Prop):Option (List Leg)→Prop
 | none=>∀ v,¬ Q v
 | some w=>Q w ∧ ∀ v,Q v→wLe ix w v
theorem InvW.congr {ix:List Nat→Int} {Q R:List Leg→Prop} {s:Option (List Leg)} (h:InvW ix Q s) (e:∀ v,Q v ↔ R v):InvW ix R s:=by
 cases s with
 | none=>exact fun v hv=>h v ((e v).2 hv)
 | some w=>exact ⟨(e w).1 h.1,fun v hv=>h.2 v ((e v).2 hv)⟩
theorem takeW_inv {ix:List Nat→Int} {Q:List Leg→Prop} {s:Option (List Leg)} (h:InvW ix Q s) (w:List Leg):InvW ix (fun v=>Q v∨v=w) (takeW ix s w):=by
 cases s with
 | none =>
   refine ⟨.inr rfl,fun v hv => ?_⟩
   rcases hv with hv | rfl
   · exact absurd hv (h v)
   · exact wLe_refl ix _
 | some u =>
   unfold takeW
   simp only []
   cases hc:wLt ix w u with
   | true =>
     rw [if_pos rfl]
     refine ⟨.inr rfl,fun v hv => ?_⟩
     rcases hv with hv | rfl
     · have h1:wLt ix v u=false:=h.2 v hv
       show wLt ix v w=false
       cases hd:wLt ix v w with
       | false=>rfl
       | true=>rw [wLt_trans ix hd hc] at h1;cases h1
     · exact wLe_refl ix _
   | false =>
     rw [if_neg (by simp)]
     refine ⟨.inl h.1,fun v hv => ?_⟩
     rcases hv with hv | rfl
     · exact h.2 v hv
     · exact hc
theorem wayStep_inv {E:Nat→Bool→Pt} {ix:List Nat→Int} {b:Pt} {L:Labs} {Q:List Leg→Prop} {s:Option (List Leg)} (i:Nat) (k:Bool) (h:InvW ix Q s) :
 InvW ix (fun v=>Q v ∨ ∃ r,lk L (E i k)=some r∧(E i (!k)).1=b.1∧r.length < 16∧v=r++[⟨(E i (!k)).1,(E i (!k)).2,b.2⟩]) (wayStep E ix b L i k s):=by
 unfold wayStep
 cases hl:lk L (E i k) with
 | none=>exact h.congr fun v=>⟨.inl,fun x=>x.elim id fun ⟨r,h1,_⟩=>by cases h1⟩
 | some r =>
   simp only []
   rcases Classical.em ((E i (!k)).1=b.1∧r.length < 16) with hc | hc
   · rw [if_pos hc]
     refine (takeW_inv h _).congr fun v=>or_congr Iff.rfl ⟨fun e=>⟨r,rfl,hc.1,hc.2,by rw [hc.1];exact e⟩, ?_⟩
     rintro ⟨r',h1,h2,_,h3⟩
     cases h1
     rw [h3,h2]
   · rw [if_neg hc]
     refine h.congr fun v=>⟨.inl,fun x=>x.elim id ?_⟩
     rintro ⟨r',h1,h2,h3,_⟩
     cases h1
     exact absurd ⟨h2,h3⟩ hc
theorem wayR_inv {E:Nat→Bool→Pt} {ix:List Nat→Int} {b:Pt} {L:Labs} {Q:List Leg→Prop} {s:Option (List Leg)} (h:InvW ix Q s):∀ n,
 InvW ix (fun v=>Q v ∨ ∃ i k r,i < n∧lk L (E i k)=some r∧(E i (!k)).1=b.1∧r.length < 16∧v=r++[⟨(E i (!k)).1,(E i (!k)).2,b.2⟩]) (wayR E ix b L s n)
 | 0=>h.congr fun v=>⟨.inl,fun x=>x.elim id fun ⟨i,k,r,h0,_⟩=>absurd h0 (Nat.not_lt_zero _)⟩
 | n+1=>by
   refine (wayStep_inv (E:=E) (L:=L) (b:=b) n true (wayStep_inv (E:=E) (L:=L) (b:=b) n false (wayR_inv h n))).congr fun v=>⟨?_, ?_⟩
   · rintro (((h | ⟨i,k,r,h0,h1⟩) | ⟨r,h1⟩) | ⟨r,h1⟩)
     · exact .inl h
     · exact .inr ⟨i,k,r,by omega,h1⟩
     · exact .inr ⟨n,false,r,by omega,h1⟩
     · exact .inr ⟨n,true,r,by omega,h1⟩
   · rintro (h | ⟨i,k,r,h0,h1⟩)
     · exact .inl (.inl (.inl h))
     · rcases Nat.lt_or_ge i n with hi | hi
       · exact .inl (.inl (.inr ⟨i,k,r,hi,h1⟩))
       · have:i=n:=by omega
         subst this
         cases k with
         | false=>exact .inl (.inr ⟨r,h1⟩)
         | true=>exact .inr ⟨r,h1⟩
theorem wayS_inv (E:Nat→Bool→Pt) (N:Nat) (ix:List Nat→Int) (a b:Pt) (L:Labs):InvW ix (candW (E:=E) (N:=N) (lk L) a b) (wayS E N ix a b L):=by
 have h0:InvW ix (fun v=>a.1=b.1∧v=legsOf E a [] b) (if a.1=b.1 then some [⟨a.1,a.2,b.2⟩] else none):=by
  rcases Classical.em (a.1=b.1) with h | h
  · rw [if_pos h]
    have e:legsOf E a [] b=[⟨a.1,a.2,b.2⟩]:=by show [_]=[_];rw [h]
    exact ⟨⟨h,e.symm⟩,fun v hv=>by rw [hv.2,e];exact wLe_refl ix _⟩
  · rw [if_neg h]
    exact fun v hv=>h hv.1
 exact (wayR_inv h0 N).congr fun v=>by unfold candW;exact Iff.rfl
theorem wayS_best {E:Nat→Bool→Pt} {N:Nat} {ix:List Nat→Int} {S:List Nat→Prop} (inj:∀ a b,S a→S b→ix a=ix b→a=b) (hS:∀ i k,i < N→S (E i k).1) {a b:Pt} {L:Labs} (h:Lab E N ix a (lk L)) (hN:N≤14) (ha:S a.1) :
 match wayS E N ix a b L with
 | none=>∀ w,¬ isWay E N a b w
 | some w=>Best E N ix a b w:=by
 have hi:=wayS_inv E N ix a b L
 cases hw:wayS E N ix a b L with
 | none =>
   rw [hw] at hi
   rintro w ⟨σ,s1,_⟩
   obtain ⟨v,v1,_⟩:=cand_least inj hS h hN ha s1
   exact hi v v1
 | some w =>
   rw [hw] at hi
   exact cand_best inj hS h hN ha hi.1 hi.2
def optC (s:Option (List Leg)):List AV:=match s with
 | none=>[.ps .nil [],.int .i64 0]
 | some v=>[.ps .unk (v.map Leg.row),.int .i64 (wSum v)]
theorem r202 (h203 : P 38 = some p203) (n : Net) (hn : n.Ok) (w : List Leg) (hw : w.length ≤ maxRows) (s : Option (List Leg)) (hs : ∀ v, s = some v → v.length ≤ maxRows)
 (lo bf bn bb : Nat) (H : Heap) (hlf : lo ≤ bf) (hlb : lo ≤ bb) (hloH : lo ≤ H.n) (cf : bf < H.n) (cn : bn < H.n) (cb : bb < H.n) (nfb : bf ≠ bb) (nfn : bf ≠ bn) (nbn : bb ≠ bn) (sf : H.get bf = .cells [.bool s.isSome] 4) (sn : H.get bn = .cells n.cells 46) (sb : H.get bb = .cells (optC s) 82) :
 ∃ v H', R (NC.withPrims P) (.call lo 37 [.agg [.ps .unk (w.map Leg.row), .int .i64 (wSum w)], .ptr bf 0, .ptr bn 0, .ptr bb 0] H) = some (.ofVal v H') ∧ v = .tup [] ∧ H.n ≤ H'.n ∧ H'.get bf = .cells [.bool true] 4 ∧ H'.get bb = .cells (optC (takeW (findI n.lines) s w)) 82 ∧ ∀ j, j < H.n → j ≠ bf → j ≠ bb → H'.get j = H.get j := by
 refine R_of_body (C := NC.withPrims P) (f := 37) (lo := lo) (args := [.agg [.ps .unk (w.map Leg.row), .int .i64 (wSum w)], .ptr bf 0, .ptr bn 0, .ptr bb 0]) (H := H) (fn := Try.f37) (Q := fun v H' => v = .tup [] ∧ H.n ≤ H'.n ∧ H'.get bf = .cells [.bool true] 4 ∧ H'.get bb = .cells (optC (takeW (findI n.lines) s w)) 82 ∧ ∀ j, j < H.n → j ≠ bf → j ≠ bb → H'.get j = H.get j) (by kernel_rfl) Try.func37 rfl rfl ?_
 have x1 : (bf = H.n) = False := by simp only [eq_iff_iff, iff_false]; omega
 have x2 : (bn = H.n) = False := by simp only [eq_iff_iff, iff_false]; omega
 have x3 : (bb = H.n) = False := by simp only [eq_iff_iff, iff_false]; omega
 have x4 : (bf = bb) = False := by simp [nfb]
 have x5 : (bf = bn) = False := by simp [nfn]
 have x6 : (bb = bn) = False := by simp [nbn]
 have x7 : (bb = bf) = False := by simp [Ne.symm nfb]
 have x8 : (H.n = bf) = False := by simp only [eq_iff_iff, iff_false]; omega
 have x9 : (H.n = bb) = False := by simp only [eq_iff_iff, iff_false]; omega
 have hlo1 : (lo ≤ bf) = True := by simp [hlf]
 have hlo2 : (lo ≤ bb) = True := by simp [hlb]
 have hjn : ∀ j, j < H.n → (j = H.n) = False := fun j h => by simp only [eq_iff_iff, iff_false]; omega
 have hlo3 : (lo ≤ H.n) = True := by simp [hloH]
 cases s with
 | none =>
   simp only [optC, Option.isSome_none] at sf sb
   simp only [takeW, optC]
   generalize w.map Leg.row = WR at *
   generalize wSum w = WS at *
   simp only [go_sem, reduceIte, reduceEqDiff, reduceAdd, reduceMul, reduceSub, reduceLeDiff, reduceLT, Nat.reduceBEq, reduceCtorEq, sf, sb, x1, x2, x3, x4, x5, x6, x7, x8, x9, hlo1, hlo2, hlo3]
   refine ⟨by omega, fun j h1 h2 h3 => ?_⟩
   simp only [hjn j h1, h2, h3, if_false]
 | some v =>
   have e203 := pe203 n w (wSum w) v (wSum v) ⟨hn.lines, hw, hs v rfl⟩
   have hcmp := cmpRt_lt n w v
   generalize cmpRt n w (wSum w) v (wSum v) = C at e203 hcmp
   simp only [optC, Option.isSome_some] at sf sb
   simp only [takeW]
   simp only [Net.cells] at e203 sn
   cases hlt : wLt (findI n.lines) w v with
   | true =>
     have hC : (C < 0) = True := by rw [hlt] at hcmp; simpa using hcmp
     rw [if_pos rfl]
     simp only [optC]
     generalize w.map Leg.row = WR at *
     generalize wSum w = WS at *
     generalize v.map Leg.row = VR at *
     generalize wSum v = VS at *
     simp only [go_sem, reduceIte, reduceEqDiff, reduceAdd, reduceMul, reduceSub, reduceLeDiff, reduceLT, Nat.reduceBEq, reduceCtorEq, sf, sb, sn, x1, x2, x3, x4, x5, x6, x7, x8, x9, hlo1, hlo2, hlo3, Net.cells, en203 h203, e203, hC]
     refine ⟨by omega, fun j h1 h2 h3 => ?_⟩
     simp only [hjn j h1, h2, h3, if_false]
   | false =>
     have hC : (C < 0) = False := by rw [hlt] at hcmp; simpa using hcmp
     rw [if_neg (by simp)]
     simp only [optC]
     generalize w.map Leg.row = WR at *
     generalize wSum w = WS at *
     generalize v.map Leg.row = VR at *
     generalize wSum v = VS at *
     simp only [go_sem, reduceIte, reduceEqDiff, reduceAdd, reduceMul, reduceSub, reduceLeDiff, reduceLT, Nat.reduceBEq, reduceCtorEq, sf, sb, sn, x1, x2, x3, x4, x5, x6, x7, x8, x9, hlo1, hlo2, hlo3, Net.cells, en203 h203, e203, hC]
     refine ⟨by omega, fun j h1 h2 h3 => ?_⟩
     simp only [hjn j h1, if_false]
end Go.Sim

namespace Go.Sim
open Go Go.Proofs
set_option maxRecDepth 100000
set_option maxHeartbeats 64000000
variable {P:FuncId→Option (List AV→Option AV)}
theorem en185 {P:FuncId→Option (List AV→Option AV)} (hP:P 40=none) {lo:Nat} {args:List AV} {H:Heap} {K:AV→Heap→Prop}:VO (aenter (NC.withPrims P) (R (NC.withPrims P)) lo 40 args H) K=AO (R (NC.withPrims P) (.call H.n 40 args H)) fun o=>K o.val o.s.H:=by
 refine enter_fresh rfl ?_ (by kernel_rfl) (by kernel_rfl) (by kernel_rfl)
 show (match NC.prim 40 with | some p=>some p | none=>P 40)=none
 rw [hP];kernel_rfl
theorem en202 {P:FuncId→Option (List AV→Option AV)} (hP:P 37=none) {lo:Nat} {args:List AV} {H:Heap} {K:AV→Heap→Prop}:VO (aenter (NC.withPrims P) (R (NC.withPrims P)) lo 37 args H) K=AO (R (NC.withPrims P) (.call lo 37 args H)) fun o=>K o.val o.s.H:=by
 refine enter_free rfl ?_ (by kernel_rfl) (by kernel_rfl) (by kernel_rfl)
 show (match NC.prim 37 with | some p=>some p | none=>P 37)=none
 rw [hP];kernel_rfl
theorem W_assoc {C:Cfg} {lo:Nat} {fid:FuncId} {rnd:Bool} {T:TT AV} {H:Heap} {M:List Nat} {Q:AExit→TT AV→Heap→List Nat→Prop} (a b c:Code):W C lo fid rnd (.seq a (.seq b c)) T H M Q=W C lo fid rnd (.seq (.seq a b) c) T H M Q:=by
 simp only [W_seq]
 refine congrArg (fun q=>W C lo fid rnd a T H M q) ?_
 funext e T H M
 cases e<;>first | rfl | (show W C lo fid rnd (.seq b c) T H M Q=_;rw [W_seq];rfl)
theorem W_cut {C:Cfg} {lo:Nat} {fid:FuncId} {rnd:Bool} {T:TT AV} {H:Heap} {M:List Nat} {Q:AExit→TT AV→Heap→List Nat→Prop} {a b:Code} (I:TT AV→Heap→List Nat→Prop) (h:W C lo fid rnd a T H M fun e T H M=>e=.nrm∧I T H M) (h2:∀ T H M,I T H M→W C lo fid rnd b T H M Q):W C lo fid rnd (.seq a b) T H M Q:=by
 rw [W_seq]
 refine W_mono h fun e T H M hi => ?_
 rw [hi.1]
 exact h2 T H M hi.2
theorem takeW_len (ix:List Nat→Int) {s:Option (List Leg)} (h:∀ v,s=some v→v.length≤17) {w:List Leg} (hw:w.length≤17):∀ v,takeW ix s w=some v→v.length≤17:=by
 intro v hv
 cases s with
 | none=>cases hv;exact hw
 | some u =>
   unfold takeW at hv
   simp only [] at hv
   split at hv
   · cases hv;exact hw
   · cases hv;exact h _ rfl
theorem takeW_some (ix:List Nat→Int) (s:Option (List Leg)) (w:List Leg):(takeW ix s w).isSome=true:=by
 cases s with
 | none=>rfl
 | some u =>
   unfold takeW
   simp only []
   split<;>rfl
theorem r142 (h151 : P 41 = some p151) (h203 : P 38 = some p203) (h204 : P 39 = some p204) (h229 : P 66 = none) (h185 : P 40 = none) (h202 : P 37 = none) (n : Net) (hn : n.Ok) (hsw : n.sws.length ≤ maxRows) (a b : Pt) (hRa : inR a.2) (hRb : inR b.2) (hRE : ∀ i k, i < n.sws.length → inR (endE n i k).2) (lo : Nat) (H : Heap) (hlo : lo ≤ H.n) :
 ∃ v H', R (NC.withPrims P) (.call lo 18 [.agg n.cells, .agg [.str a.1, .int .i64 a.2], .agg [.str b.1, .int .i64 b.2]] H) = some (.ofVal v H') ∧ ∃ L, Lab (endE n) n.sws.length (findI n.lines) a (lk L) ∧ v = .tup [.agg (optC (wayS (endE n) n.sws.length (findI n.lines) a b L)), .bool (wayS (endE n) n.sws.length (findI n.lines) a b L).isSome] ∧ (∀ v, wayS (endE n) n.sws.length (findI n.lines) a b L = some v → v.length ≤ 17) ∧ ∀ j, j < H.n → H'.get j = H.get j := by
 refine R_of_body (C := NC.withPrims P) (f := 18) (lo := lo) (args := [.agg n.cells, .agg [.str a.1, .int .i64 a.2], .agg [.str b.1, .int .i64 b.2]]) (H := H) (fn := Try.f18) (Q := fun v H' => ∃ L, Lab (endE n) n.sws.length (findI n.lines) a (lk L) ∧ v = .tup [.agg (optC (wayS (endE n) n.sws.length (findI n.lines) a b L)), .bool (wayS (endE n) n.sws.length (findI n.lines) a b L).isSome] ∧ (∀ v, wayS (endE n) n.sws.length (findI n.lines) a b L = some v → v.length ≤ 17) ∧ ∀ j, j < H.n → H'.get j = H.get j) (by kernel_rfl) Try.func18 rfl rfl ?_
 obtain ⟨s0, hs0⟩ : ∃ s : Option (List Leg), s = if a.1 = b.1 then some [⟨a.1, a.2, b.2⟩] else none := ⟨_, rfl⟩
 have hs1 : ∀ v, s0 = some v → v.length ≤ 17 := by
  intro v hv
  rw [hs0] at hv
  split at hv
  · cases hv; simp
  · cases hv
 have hwS : ∀ L, wayS (endE n) n.sws.length (findI n.lines) a b L = wayR (endE n) (findI n.lines) b L s0 n.sws.length := fun L => by rw [hs0]; rfl
 rw [W_assoc, W_assoc, W_assoc, W_assoc]
 refine W_cut (fun T Ha M => M = [] ∧ getT T 3 = .ptr H.n 0 ∧ getT T 4 = .ptr (H.n + 1) 0 ∧ getT T 5 = .ptr (H.n + 2) 0 ∧ getT T 6 = .ptr (H.n + 3) 0 ∧ getT T 8 = .ptr (H.n + 4) 0 ∧ getT T 9 = .ptr (H.n + 5) 0 ∧ getT T 10 = .fn 37 [] [.ptr (H.n + 5) 0, .ptr H.n 0, .ptr (H.n + 4) 0] ∧ H.n + 5 < Ha.n ∧ Ha.get H.n = .cells n.cells 46 ∧ Ha.get (H.n + 1) = .cells [.str a.1, .int .i64 a.2] 32 ∧ Ha.get (H.n + 2) = .cells [.str b.1, .int .i64 b.2] 32 ∧ Ha.get (H.n + 4) = .cells (optC s0) 82 ∧ Ha.get (H.n + 5) = .cells [.bool s0.isSome] 4 ∧ Ha.get (H.n + 3) = .cells [.ps .nil [], .int .i64 0] 82 ∧ ∀ j, j < H.n → Ha.get j = H.get j) ?_ ?_
 · have hlo0 : (lo ≤ H.n + 1 + 1 + 1 + 1 + 1) = True := by simp only [eq_iff_iff, iff_true]; omega
   cases hB : beqL a.1 b.1 with
   | false =>
     have hne : ¬ (a.1 = b.1) := fun e => by rw [e, beqL_self] at hB; cases hB
     rw [hs0, if_neg hne]
     simp only [go_sem, reduceIte, reduceEqDiff, reduceAdd, reduceMul, reduceSub, reduceLeDiff, reduceLT, Nat.reduceBEq, reduceCtorEq, hB, hlo0, optC, Net.cells]
     refine ⟨?_, rfl, fun j h => ?_⟩
     · rw [if_neg (by omega), if_neg (by omega)]
     (repeat' rw [if_neg (by omega)])
   | true =>
     have heq : a.1 = b.1 := (beqL_iff _ _).1 hB
     rw [hs0, if_pos heq]
     have e204 := pe204 [] 0 ⟨a.1, a.2, b.2⟩ (by unfold maxRows; simp)
     have h1 : wrapq .i64 (Int.add 0 (legW ⟨a.1, a.2, b.2⟩)) = wSum [⟨a.1, a.2, b.2⟩] := sum_one (w := []) (fun l hl => by cases hl) (by simp) hRa hRb
     rw [h1] at e204
     obtain ⟨v3, H3, r1, rfl, r3, r4, r5, r6⟩ := r202 (P := P) h203 n hn [⟨a.1, a.2, b.2⟩] (by unfold maxRows; simp) none (fun v h => by cases h)
      lo (H.n + 5) H.n (H.n + 4) (((((((H.push (.cells n.cells 46)).push (.cells [.str a.1, .int .i64 a.2] 32)).push (.cells [.str b.1, .int .i64 b.2] 32)).push (.cells [.ps .nil [], .int .i64 0] 82)).push (.cells [.ps .nil [], .int .i64 0] 82)).push (.cells [.bool false] 4)).set (H.n + 5) (.cells [.bool false] 4)) (by omega) (by omega) (by simp; omega) (by simp) (by simp; omega) (by simp) (by omega) (by omega) (by omega) (by simp only [go_sem, reduceIte, reduceEqDiff, reduceAdd, reduceMul, reduceSub, reduceLeDiff, reduceLT, Nat.reduceBEq, reduceCtorEq]; rfl) (by simp only [go_sem, reduceIte, reduceEqDiff, reduceAdd, reduceMul, reduceSub, reduceLeDiff, reduceLT, Nat.reduceBEq, reduceCtorEq]; exact if_neg (by omega)) (by simp only [go_sem, reduceIte, reduceEqDiff, reduceAdd, reduceMul, reduceSub, reduceLeDiff, reduceLT, Nat.reduceBEq, reduceCtorEq]; rfl)
     have h2 : takeW (findI n.lines) none [⟨a.1, a.2, b.2⟩] = some [⟨a.1, a.2, b.2⟩] := rfl
     rw [h2] at r5
     simp only [optC] at r5 ⊢
     generalize wSum [⟨a.1, a.2, b.2⟩] = WS at *
     simp only [Net.cells, List.map_nil, List.map_cons, List.nil_append, Leg.row] at e204 r1 r5 ⊢
     have r7 : ∀ j, j < H.n + 4 → H3.get j = ((((H.push (.cells n.cells 46)).push (.cells [.str a.1, .int .i64 a.2] 32)).push (.cells [.str b.1, .int .i64 b.2] 32)).push (.cells [.ps .nil [], .int .i64 0] 82)).get j := fun j h => by
      rw [r6 j (by simp; omega) (by omega) (by omega)]
      simp only [go_sem, reduceIte, reduceEqDiff, reduceAdd, reduceMul, reduceSub, reduceLeDiff, reduceLT, Nat.reduceBEq, reduceCtorEq]
      rw [if_neg (by omega), if_neg (by omega), if_neg (by omega)]
     have u0 := r7 H.n (by omega)
     have u1 := r7 (H.n + 1) (by omega)
     have u2 := r7 (H.n + 2) (by omega)
     have u4 := r7 (H.n + 3) (by omega)
     have u3 : ∀ j, j < H.n → H3.get j = H.get j := fun j h => (r7 j (by omega)).trans (by simp only [go_sem, reduceIte, reduceEqDiff, reduceAdd, reduceMul, reduceSub, reduceLeDiff, reduceLT, Nat.reduceBEq, reduceCtorEq]; rw [if_neg (by omega), if_neg (by omega), if_neg (by omega), if_neg (by omega)])
     simp only [go_sem, reduceIte, reduceEqDiff, reduceAdd, reduceMul, reduceSub, reduceLeDiff, reduceLT, Nat.reduceBEq, reduceCtorEq, Net.cells] at u0 u1 u2 u4
     simp only [go_sem, reduceIte, reduceEqDiff, reduceAdd, reduceMul, reduceSub, reduceLeDiff, reduceLT, Nat.reduceBEq, reduceCtorEq, hB, hlo0, en204 h204, e204, en202 h202, Net.cells, r1, ofVal_v, ofVal_H]
     exact ⟨by simp at r3; omega, u0, u1, u2, r5, r4, u4, u3⟩
 rintro T Ha M ⟨rfl, t3, t4, t5, t6, t8, t9, t10, hnA, g0, g1, g2, g4, g5, gs3, gA⟩
 obtain ⟨v1, H1, q1, ⟨L, rfl, q2, q3, hLab, hLv, q4⟩⟩ := r185 (P := P) h151 h203 h204 h229 n hn hsw a hRa hRE Ha.n Ha (Nat.le_refl _)
 have hx : H.n + 5 < H1.n := by omega
 have g0 := (q4 H.n (by omega)).trans g0
 have g1' := g1
 have g2 := (q4 (H.n + 2) (by omega)).trans g2
 have g4 := (q4 (H.n + 4) (by omega)).trans g4
 have g5 := (q4 (H.n + 5) (by omega)).trans g5
 have gO : ∀ j, (j < H.n ∨ j = H.n + 3) → H1.get j = Ha.get j := fun j h => q4 j (by omega)
 obtain ⟨id, hid⟩ : ∃ id, id = Ha.n + 2 := ⟨_, rfl⟩
 rw [← hid] at q1 q2 q3
 have hid5 : H.n + 5 < id := by omega
 have g0h : Ha.get H.n = .cells n.cells 46 := by rw [← q4 H.n (by omega)]; exact g0
 have g0' := g0
 simp only [Net.cells] at g0h q1 g0'
 obtain ⟨rsK, hrsK⟩ : ∃ r : Nat → Nat → Option (List Leg), r = fun i k => wayD (endE n) (findI n.lines) b L i (wayR (endE n) (findI n.lines) b L s0 i) k := ⟨_, rfl⟩
 have hr0 : rsK 0 0 = s0 := by rw [hrsK]; rfl
 have hrS : ∀ i, rsK (i + 1) 0 = rsK i 2 := fun i => by rw [hrsK]; rfl
 have hrN : wayR (endE n) (findI n.lines) b L s0 n.sws.length = rsK n.sws.length 0 := by rw [hrsK]; rfl
 clear q4 g1'
 simp only [go_sem, reduceIte, reduceEqDiff, reduceAdd, reduceMul, reduceSub, reduceLeDiff, reduceLT, Nat.reduceBEq, reduceCtorEq, t3, t4, g0h, g1, en185 h185, q1, ofVal_v, ofVal_H, g0']
 refine W_for (fun i T H' M => M = [] ∧ getT T 3 = .ptr H.n 0 ∧ getT T 5 = .ptr (H.n + 2) 0 ∧ getT T 6 = .ptr (H.n + 3) 0 ∧ getT T 8 = .ptr (H.n + 4) 0 ∧ getT T 9 = .ptr (H.n + 5) 0 ∧ getT T 10 = .fn 37 [] [.ptr (H.n + 5) 0, .ptr H.n 0, .ptr (H.n + 4) 0] ∧ getT T 11 = .map id ∧ getT T 40 = .ps .unk (n.sws.map Sw.row) ∧ getT T 41 = i64 (n.sws.length : Nat) ∧ getT T 42 = i64 (i : Nat) ∧ (∀ v, rsK i 0 = some v → v.length ≤ 17) ∧ id < H'.n ∧ H'.get H.n = .cells n.cells 46 ∧ H'.get (H.n + 2) = .cells [.str b.1, .int .i64 b.2] 32 ∧ H'.get (H.n + 4) = .cells (optC (rsK i 0)) 82 ∧ H'.get (H.n + 5) = .cells [.bool (rsK i 0).isSome] 4 ∧ (∀ j, (j < H.n ∨ j = H.n + 3) → H'.get j = Ha.get j) ∧ H'.get id = .map (lmap L)) n.sws.length ?_ ?_ ?_
 · simp only [go_sem, reduceIte, reduceEqDiff, reduceAdd, reduceMul, reduceSub, reduceLeDiff, reduceLT, Nat.reduceBEq, reduceCtorEq, t3, t5, t6, t8, t9, t10, List.length_map, hr0]
   exact ⟨hs1, q2, g0, g2, g4, g5, gO, q3⟩
 · rintro i T H1 M hk ⟨rfl, t3, t5, t6, t8, t9, t10, t11, t40, t41, t42, hsl, pn, p0, p2, p4, p5, pO, pL⟩
   obtain ⟨sw, hsx⟩ : ∃ p, n.sws[i]? = some p := ⟨n.sws[i], by simp⟩
   have hr := map_at (f := Sw.row) hsx
   have hw42 := wrap_succ hk hsw
   have hE : endE n i = fun k => if k then (sw.other, endM n sw) else (sw.line, sw.metre) := by funext k; unfold endE; rw [hsx]
   have e151 := pe151 n sw hn
   have y1 : (H.n = H1.n) = False ∧ (H.n = H1.n + 1) = False := by simp only [eq_iff_iff, iff_false]; omega
   have y2 : (H.n + 2 = H1.n) = False ∧ (H.n + 2 = H1.n + 1) = False := by simp only [eq_iff_iff, iff_false]; omega
   have y3 : (H.n + 4 = H1.n) = False ∧ (H.n + 4 = H1.n + 1) = False := by simp only [eq_iff_iff, iff_false]; omega
   have y4 : (H.n + 5 = H1.n) = False ∧ (H.n + 5 = H1.n + 1) = False := by simp only [eq_iff_iff, iff_false]; omega
   have y5 : (id = H1.n) = False ∧ (id = H1.n + 1) = False := by simp only [eq_iff_iff, iff_false]; omega
   have hlo1 : (lo ≤ H1.n) = True := by simp only [eq_iff_iff, iff_true]; omega
   have hlo2 : (lo ≤ H1.n + 1) = True := by simp only [eq_iff_iff, iff_true]; omega
   rw [hrS]
   generalize endM n sw = EM at e151 hE
   obtain ⟨w1, w2, w3, w4, w5⟩ := sw
   simp only at hE
   have p0' := p0
   simp only [Sw.row, Net.cells] at hr e151 p0'
   simp only [go_sem, reduceIte, reduceEqDiff, reduceAdd, reduceMul, reduceSub, reduceLeDiff, reduceLT, Nat.reduceBEq, reduceCtorEq, t3, t5, t6, t8, t9, t10, t11, t40, t41, t42, List.length_map, hk, hr, p0', y1, y2, hlo1, hlo2, en151 h151, Net.cells, e151, ab259, ab334]
   refine W_for (fun k T H2 M => M = [] ∧ getT T 3 = .ptr H.n 0 ∧ getT T 5 = .ptr (H.n + 2) 0 ∧ getT T 6 = .ptr (H.n + 3) 0 ∧ getT T 8 = .ptr (H.n + 4) 0 ∧ getT T 9 = .ptr (H.n + 5) 0 ∧ getT T 10 = .fn 37 [] [.ptr (H.n + 5) 0, .ptr H.n 0, .ptr (H.n + 4) 0] ∧ getT T 11 = .map id ∧ getT T 40 = .ps .unk (n.sws.map Sw.row) ∧ getT T 41 = i64 (n.sws.length : Nat) ∧ getT T 42 = i64 (i : Nat) ∧ getT T 55 = .agg [.str w2, .int .i64 w3, .str w4, .int .i64 EM, .str w4, .int .i64 EM, .str w2, .int .i64 w3] ∧ getT T 56 = i64 (k : Nat) ∧ (∀ v, rsK i k = some v → v.length ≤ 17) ∧ id < H2.n ∧ H2.get H.n = .cells n.cells 46 ∧ H2.get (H.n + 2) = .cells [.str b.1, .int .i64 b.2] 32 ∧ H2.get (H.n + 4) = .cells (optC (rsK i k)) 82 ∧ H2.get (H.n + 5) = .cells [.bool (rsK i k).isSome] 4 ∧ (∀ j, (j < H.n ∨ j = H.n + 3) → H2.get j = Ha.get j) ∧ H2.get id = .map (lmap L)) 2 ?_ ?_ ?_
   · simp only [go_sem, reduceIte, reduceEqDiff, reduceAdd, reduceMul, reduceSub, reduceLeDiff, reduceLT, Nat.reduceBEq, reduceCtorEq, t3, t5, t6, t8, t9, t10, t11, t40, t41, t42, y1, y2, y3, y4, y5]
     refine ⟨hsl, by omega, p0, p2, p4, p5, fun j h => ?_, pL⟩
     (repeat' rw [if_neg (by omega)]); exact pO j h
   rintro k T H2 M hk2 ⟨rfl, i3, i5, i6, i8, i9, i10, i11, i40, i41, i42, i55, i56, hsl, qn, qs0, qs2, q4, q5, qO, qi⟩
   have d0 : (H.n = H2.n) = False := by simp only [eq_iff_iff, iff_false]; omega
   have d1 : (H.n = H2.n + 1) = False := by simp only [eq_iff_iff, iff_false]; omega
   have d2 : (H.n + 2 = H2.n) = False := by simp only [eq_iff_iff, iff_false]; omega
   have d3 : (H.n + 2 = H2.n + 1) = False := by simp only [eq_iff_iff, iff_false]; omega
   have d4 : (id = H2.n) = False := by simp only [eq_iff_iff, iff_false]; omega
   have d5 : (id = H2.n + 1) = False := by simp only [eq_iff_iff, iff_false]; omega
   have d6 : (H.n + 5 = H2.n) = False := by simp only [eq_iff_iff, iff_false]; omega
   have d7 : (H.n + 5 = H2.n + 1) = False := by simp only [eq_iff_iff, iff_false]; omega
   have d8 : (H.n + 4 = H2.n) = False := by simp only [eq_iff_iff, iff_false]; omega
   have d9 : (H.n + 4 = H2.n + 1) = False := by simp only [eq_iff_iff, iff_false]; omega
   have hlo1 : (lo ≤ H2.n) = True := by simp only [eq_iff_iff, iff_true]; omega
   have hlo2 : (lo ≤ H2.n + 1) = True := by simp only [eq_iff_iff, iff_true]; omega
   have qm := qi
   clear hr0 hrS hrN e151 y1 y2 y3 y4 y5 pO pL p0 p2 p4 p5 hs1
   rcases (show k = 0 ∨ k = 1 by omega) with rfl | rfl
   · -- entered at end 0
     have hw25 : wrapq .i64 (Int.add ((0 : Nat) : Int) 1) = ((0 + 1 : Nat) : Int) := rfl
     have hpt : endE n i false = (w2, w3) := by rw [hE]; rfl
     have hqt : endE n i (!false) = (w4, EM) := by rw [hE]; rfl
     have hrs : rsK i (0 + 1) = wayStep (endE n) (findI n.lines) b L i false (rsK i 0) := by rw [hrsK]; rfl
     rw [hrs]
     generalize rsK i 0 = s at hsl q4 q5 ⊢
     have hlook := lookL (H := ((H2.push (.cells [.str [], .int .i64 0, .str [], .int .i64 0] 33)).set H2.n (.cells [.str w2, .int .i64 w3, .str w4, .int .i64 EM] 33))) (id := id) (L := L) (by simp only [go_sem, reduceIte, reduceEqDiff, reduceAdd, reduceMul, reduceSub, reduceLeDiff, reduceLT, Nat.reduceBEq, reduceCtorEq, d4, d5]; exact qi) (w2, w3)
     have hst : wayStep (endE n) (findI n.lines) b L i false s = match lk L (w2, w3) with
      | none => s
      | some r => if w4 = b.1 ∧ r.length < 16 then takeW (findI n.lines) s (r ++ [⟨b.1, EM, b.2⟩]) else s := by
      unfold wayStep
      rw [hpt, hqt]
      try rfl
     rw [hst]
     cases hl : lk L (w2, w3) with
     | none =>
       rw [hl] at hlook
       simp only [] at hlook ⊢
       simp only [go_sem, reduceIte, reduceEqDiff, reduceAdd, reduceMul, reduceSub, reduceLeDiff, reduceLT, Nat.reduceBEq, reduceCtorEq, i3, i5, i6, i8, i9, i10, i11, i40, i41, i42, i55, i56, qm, qs2, qi, i02, i12, cast1, cast2, wl01, wl12, d0, d1, d2, d3, d4, d5, d6, d7, d8, d9, hlo1, hlo2, hw25, hlook]
       refine ⟨hsl, by omega, qs0, q4, q5, fun j h => ?_⟩
       rw [if_neg (by omega), if_neg (by omega), if_neg (by omega), if_neg (by omega)]; exact qO j h
     | some r =>
       rw [hl] at hlook
       obtain ⟨_, σ, s1, s2, s3⟩ := hLv _ _ hl
       have hrl : r.length ≤ 16 := by rw [s2, legsOf_length]; omega
       simp only [rtC] at hlook
       simp only []
       cases hB : beqL w4 b.1 with
       | false =>
         have hne : ¬ (w4 = b.1) := fun e => by rw [e, beqL_self] at hB; cases hB
         rw [if_neg fun h => hne h.1]
         simp only [go_sem, reduceIte, reduceEqDiff, reduceAdd, reduceMul, reduceSub, reduceLeDiff, reduceLT, Nat.reduceBEq, reduceCtorEq, i3, i5, i6, i8, i9, i10, i11, i40, i41, i42, i55, i56, qm, qs2, qi, i02, i12, cast1, cast2, wl01, wl12, d0, d1, d2, d3, d4, d5, d6, d7, d8, d9, hlo1, hlo2, hw25, hlook, hB]
         refine ⟨hsl, by omega, qs0, q4, q5, fun j h => ?_⟩
         rw [if_neg (by omega), if_neg (by omega), if_neg (by omega), if_neg (by omega)]; exact qO j h
       | true =>
       have heq : w4 = b.1 := (beqL_iff _ _).1 hB
       rcases Nat.lt_or_ge r.length 16 with h16 | h16
       case inr =>
        have h16' : ((r.length : Int) < 16) = False := by simp only [eq_iff_iff, iff_false]; omega
        rw [if_neg fun h => by omega]
        simp only [go_sem, reduceIte, reduceEqDiff, reduceAdd, reduceMul, reduceSub, reduceLeDiff, reduceLT, Nat.reduceBEq, reduceCtorEq, i3, i5, i6, i8, i9, i10, i11, i40, i41, i42, i55, i56, qm, qs2, qi, i02, i12, cast1, cast2, wl01, wl12, d0, d1, d2, d3, d4, d5, d6, d7, d8, d9, hlo1, hlo2, hw25, hlook, List.length_map, h16', hB]
        refine ⟨hsl, by omega, qs0, q4, q5, fun j h => ?_⟩
        rw [if_neg (by omega), if_neg (by omega), if_neg (by omega), if_neg (by omega)]; exact qO j h
       have h16' : ((r.length : Int) < 16) = True := by simp only [eq_iff_iff, iff_true]; omega
       rw [if_pos ⟨heq, h16⟩]
       have hrt : wrapq .i64 (Int.add (wSum r) (legW ⟨b.1, EM, b.2⟩)) = wSum (r ++ [⟨b.1, EM, b.2⟩]) := by
        rw [s2]
        refine sum_one (legsOf_in hRE hRa (by have := hRE i false (by omega); rw [hpt] at this; exact this) s1) (by rw [legsOf_length]; omega) ?_ hRb
        have := hRE i (!false) (by omega)
        rw [hqt] at this; exact this
       have e204 := pe204 r (wSum r) ⟨b.1, EM, b.2⟩ (by unfold maxRows; omega)
       rw [hrt] at e204
       obtain ⟨v3, H3, r1, rfl, r3, r4, r5, r6⟩ := r202 (P := P) h203 n hn (r ++ [⟨b.1, EM, b.2⟩]) (by rw [List.length_append]; unfold maxRows; simp; omega) s (fun v h => by have := hsl v h; unfold maxRows; omega)
        lo (H.n + 5) H.n (H.n + 4) ((((H2.push (.cells [.str [], .int .i64 0, .str [], .int .i64 0] 33)).set H2.n (.cells [.str w2, .int .i64 w3, .str w4, .int .i64 EM] 33)).push (.cells [.ps .nil [], .int .i64 0] 82)).set (H2.n + 1) (.cells [.ps .unk (r.map Leg.row), .int .i64 (wSum r)] 82)) (by omega) (by omega) (by simp; omega) (by simp; omega) (by simp; omega) (by simp; omega) (by omega) (by omega) (by omega) (by simp only [go_sem, reduceIte, reduceEqDiff, reduceAdd, reduceMul, reduceSub, reduceLeDiff, reduceLT, Nat.reduceBEq, reduceCtorEq, d6, d7]; exact q5) (by simp only [go_sem, reduceIte, reduceEqDiff, reduceAdd, reduceMul, reduceSub, reduceLeDiff, reduceLT, Nat.reduceBEq, reduceCtorEq, d0, d1]; exact qs0) (by simp only [go_sem, reduceIte, reduceEqDiff, reduceAdd, reduceMul, reduceSub, reduceLeDiff, reduceLT, Nat.reduceBEq, reduceCtorEq, d8, d9]; exact q4)
       have hol := takeW_len (findI n.lines) hsl (w := r ++ [⟨b.1, EM, b.2⟩]) (by rw [List.length_append]; simp; omega)
       have hom := takeW_some (findI n.lines) s (r ++ [⟨b.1, EM, b.2⟩])
       generalize takeW (findI n.lines) s (r ++ [⟨b.1, EM, b.2⟩]) = o at r5 hol hom ⊢
       generalize (r ++ [(⟨b.1, EM, b.2⟩ : Leg)]).map Leg.row = NR at e204 r1
       generalize wSum (r ++ [⟨b.1, EM, b.2⟩]) = NS at e204 r1
       have r7 : ∀ j, j < H2.n → j ≠ H.n + 4 → j ≠ H.n + 5 → H3.get j = H2.get j := fun j h1 h2 h3 => by
        rw [r6 j (by simp; omega) h3 h2]
        simp only [go_sem, reduceIte, reduceEqDiff, reduceAdd, reduceMul, reduceSub, reduceLeDiff, reduceLT, Nat.reduceBEq, reduceCtorEq]
        rw [if_neg (by omega), if_neg (by omega), if_neg (by omega), if_neg (by omega)]
       have r8 : H2.n < H3.n := by simp at r3; omega
       have u0 := (r7 H.n (by omega) (by omega) (by omega)).trans qs0
       have u1 := (r7 (H.n + 2) (by omega) (by omega) (by omega)).trans qs2
       have u2 := (r7 id (by omega) (by omega) (by omega)).trans qi
       have u3 : ∀ j, (j < H.n ∨ j = H.n + 3) → H3.get j = Ha.get j := fun j h => (r7 j (by omega) (by omega) (by omega)).trans (qO j h)
       clear r7 r6 r3
       simp only [Leg.row] at e204
       simp only [go_sem, reduceIte, reduceEqDiff, reduceAdd, reduceMul, reduceSub, reduceLeDiff, reduceLT, Nat.reduceBEq, reduceCtorEq, i3, i5, i6, i8, i9, i10, i11, i40, i41, i42, i55, i56, qm, qs2, qi, i02, i12, cast1, cast2, wl01, wl12, d0, d1, d2, d3, d4, d5, d6, d7, d8, d9, hlo1, hlo2, hw25, hlook, List.length_map, h16', hB, en204 h204, e204, en202 h202, r1, ofVal_v, ofVal_H]
       exact ⟨hol, by omega, u0, u1, r5, by rw [r4, hom], u3, u2⟩
   · -- entered at end 1
     have hw25 : wrapq .i64 (Int.add ((1 : Nat) : Int) 1) = ((1 + 1 : Nat) : Int) := rfl
     have hpt : endE n i true = (w4, EM) := by rw [hE]; rfl
     have hqt : endE n i (!true) = (w2, w3) := by rw [hE]; rfl
     have hrs : rsK i (1 + 1) = wayStep (endE n) (findI n.lines) b L i true (rsK i 1) := by rw [hrsK]; rfl
     rw [hrs]
     generalize rsK i 1 = s at hsl q4 q5 ⊢
     have hlook := lookL (H := ((H2.push (.cells [.str [], .int .i64 0, .str [], .int .i64 0] 33)).set H2.n (.cells [.str w4, .int .i64 EM, .str w2, .int .i64 w3] 33))) (id := id) (L := L) (by simp only [go_sem, reduceIte, reduceEqDiff, reduceAdd, reduceMul, reduceSub, reduceLeDiff, reduceLT, Nat.reduceBEq, reduceCtorEq, d4, d5]; exact qi) (w4, EM)
     have hst : wayStep (endE n) (findI n.lines) b L i true s = match lk L (w4, EM) with
      | none => s
      | some r => if w2 = b.1 ∧ r.length < 16 then takeW (findI n.lines) s (r ++ [⟨b.1, w3, b.2⟩]) else s := by
      unfold wayStep
      rw [hpt, hqt]
      try rfl
     rw [hst]
     cases hl : lk L (w4, EM) with
     | none =>
       rw [hl] at hlook
       simp only [] at hlook ⊢
       simp only [go_sem, reduceIte, reduceEqDiff, reduceAdd, reduceMul, reduceSub, reduceLeDiff, reduceLT, Nat.reduceBEq, reduceCtorEq, i3, i5, i6, i8, i9, i10, i11, i40, i41, i42, i55, i56, qm, qs2, qi, i02, i12, cast1, cast2, wl01, wl12, d0, d1, d2, d3, d4, d5, d6, d7, d8, d9, hlo1, hlo2, hw25, hlook]
       refine ⟨hsl, by omega, qs0, q4, q5, fun j h => ?_⟩
       rw [if_neg (by omega), if_neg (by omega), if_neg (by omega), if_neg (by omega)]; exact qO j h
     | some r =>
       rw [hl] at hlook
       obtain ⟨_, σ, s1, s2, s3⟩ := hLv _ _ hl
       have hrl : r.length ≤ 16 := by rw [s2, legsOf_length]; omega
       simp only [rtC] at hlook
       simp only []
       cases hB : beqL w2 b.1 with
       | false =>
         have hne : ¬ (w2 = b.1) := fun e => by rw [e, beqL_self] at hB; cases hB
         rw [if_neg fun h => hne h.1]
         simp only [go_sem, reduceIte, reduceEqDiff, reduceAdd, reduceMul, reduceSub, reduceLeDiff, reduceLT, Nat.reduceBEq, reduceCtorEq, i3, i5, i6, i8, i9, i10, i11, i40, i41, i42, i55, i56, qm, qs2, qi, i02, i12, cast1, cast2, wl01, wl12, d0, d1, d2, d3, d4, d5, d6, d7, d8, d9, hlo1, hlo2, hw25, hlook, hB]
         refine ⟨hsl, by omega, qs0, q4, q5, fun j h => ?_⟩
         rw [if_neg (by omega), if_neg (by omega), if_neg (by omega), if_neg (by omega)]; exact qO j h
       | true =>
       have heq : w2 = b.1 := (beqL_iff _ _).1 hB
       rcases Nat.lt_or_ge r.length 16 with h16 | h16
       case inr =>
        have h16' : ((r.length : Int) < 16) = False := by simp only [eq_iff_iff, iff_false]; omega
        rw [if_neg fun h => by omega]
        simp only [go_sem, reduceIte, reduceEqDiff, reduceAdd, reduceMul, reduceSub, reduceLeDiff, reduceLT, Nat.reduceBEq, reduceCtorEq, i3, i5, i6, i8, i9, i10, i11, i40, i41, i42, i55, i56, qm, qs2, qi, i02, i12, cast1, cast2, wl01, wl12, d0, d1, d2, d3, d4, d5, d6, d7, d8, d9, hlo1, hlo2, hw25, hlook, List.length_map, h16', hB]
        refine ⟨hsl, by omega, qs0, q4, q5, fun j h => ?_⟩
        rw [if_neg (by omega), if_neg (by omega), if_neg (by omega), if_neg (by omega)]; exact qO j h
       have h16' : ((r.length : Int) < 16) = True := by simp only [eq_iff_iff, iff_true]; omega
       rw [if_pos ⟨heq, h16⟩]
       have hrt : wrapq .i64 (Int.add (wSum r) (legW ⟨b.1, w3, b.2⟩)) = wSum (r ++ [⟨b.1, w3, b.2⟩]) := by
        rw [s2]
        refine sum_one (legsOf_in hRE hRa (by have := hRE i true (by omega); rw [hpt] at this; exact this) s1) (by rw [legsOf_length]; omega) ?_ hRb
        have := hRE i (!true) (by omega)
        rw [hqt] at this; exact this
       have e204 := pe204 r (wSum r) ⟨b.1, w3, b.2⟩ (by unfold maxRows; omega)
       rw [hrt] at e204
       obtain ⟨v3, H3, r1, rfl, r3, r4, r5, r6⟩ := r202 (P := P) h203 n hn (r ++ [⟨b.1, w3, b.2⟩]) (by rw [List.length_append]; unfold maxRows; simp; omega) s (fun v h => by have := hsl v h; unfold maxRows; omega)
        lo (H.n + 5) H.n (H.n + 4) ((((H2.push (.cells [.str [], .int .i64 0, .str [], .int .i64 0] 33)).set H2.n (.cells [.str w4, .int .i64 EM, .str w2, .int .i64 w3] 33)).push (.cells [.ps .nil [], .int .i64 0] 82)).set (H2.n + 1) (.cells [.ps .unk (r.map Leg.row), .int .i64 (wSum r)] 82)) (by omega) (by omega) (by simp; omega) (by simp; omega) (by simp; omega) (by simp; omega) (by omega) (by omega) (by omega) (by simp only [go_sem, reduceIte, reduceEqDiff, reduceAdd, reduceMul, reduceSub, reduceLeDiff, reduceLT, Nat.reduceBEq, reduceCtorEq, d6, d7]; exact q5) (by simp only [go_sem, reduceIte, reduceEqDiff, reduceAdd, reduceMul, reduceSub, reduceLeDiff, reduceLT, Nat.reduceBEq, reduceCtorEq, d0, d1]; exact qs0) (by simp only [go_sem, reduceIte, reduceEqDiff, reduceAdd, reduceMul, reduceSub, reduceLeDiff, reduceLT, Nat.reduceBEq, reduceCtorEq, d8, d9]; exact q4)
       have hol := takeW_len (findI n.lines) hsl (w := r ++ [⟨b.1, w3, b.2⟩]) (by rw [List.length_append]; simp; omega)
       have hom := takeW_some (findI n.lines) s (r ++ [⟨b.1, w3, b.2⟩])
       generalize takeW (findI n.lines) s (r ++ [⟨b.1, w3, b.2⟩]) = o at r5 hol hom ⊢
       generalize (r ++ [(⟨b.1, w3, b.2⟩ : Leg)]).map Leg.row = NR at e204 r1
       generalize wSum (r ++ [⟨b.1, w3, b.2⟩]) = NS at e204 r1
       have r7 : ∀ j, j < H2.n → j ≠ H.n + 4 → j ≠ H.n + 5 → H3.get j = H2.get j := fun j h1 h2 h3 => by
        rw [r6 j (by simp; omega) h3 h2]
        simp only [go_sem, reduceIte, reduceEqDiff, reduceAdd, reduceMul, reduceSub, reduceLeDiff, reduceLT, Nat.reduceBEq, reduceCtorEq]
        rw [if_neg (by omega), if_neg (by omega), if_neg (by omega), if_neg (by omega)]
       have r8 : H2.n < H3.n := by simp at r3; omega
       have u0 := (r7 H.n (by omega) (by omega) (by omega)).trans qs0
       have u1 := (r7 (H.n + 2) (by omega) (by omega) (by omega)).trans qs2
       have u2 := (r7 id (by omega) (by omega) (by omega)).trans qi
       have u3 : ∀ j, (j < H.n ∨ j = H.n + 3) → H3.get j = Ha.get j := fun j h => (r7 j (by omega) (by omega) (by omega)).trans (qO j h)
       clear r7 r6 r3
       simp only [Leg.row] at e204
       simp only [go_sem, reduceIte, reduceEqDiff, reduceAdd, reduceMul, reduceSub, reduceLeDiff, reduceLT, Nat.reduceBEq, reduceCtorEq, i3, i5, i6, i8, i9, i10, i11, i40, i41, i42, i55, i56, qm, qs2, qi, i02, i12, cast1, cast2, wl01, wl12, d0, d1, d2, d3, d4, d5, d6, d7, d8, d9, hlo1, hlo2, hw25, hlook, List.length_map, h16', hB, en204 h204, e204, en202 h202, r1, ofVal_v, ofVal_H]
       exact ⟨hol, by omega, u0, u1, r5, by rw [r4, hom], u3, u2⟩
   rintro T H2 M ⟨rfl, i3, i5, i6, i8, i9, i10, i11, i40, i41, i42, i55, i56, hsl, qn, qs0, qs2, q4, q5, qO, qi⟩
   have h22 : (((2 : Nat) : Int) < 2) = False := by simp
   simp only [go_sem, reduceIte, reduceEqDiff, reduceAdd, reduceMul, reduceSub, reduceLeDiff, reduceLT, Nat.reduceBEq, reduceCtorEq, i3, i5, i6, i8, i9, i10, i11, i40, i41, i42, i56, h22, hw42]
   exact ⟨hsl, qn, qs0, qs2, q4, q5, qO, qi⟩
 · rintro T H1 M ⟨rfl, t3, t5, t6, t8, t9, t10, t11, t40, t41, t42, hsl, pn, p0, p2, p4, p5, pO, pL⟩
   have hlo3 : (lo ≤ H.n + 3) = True := by simp only [eq_iff_iff, iff_true]; omega
   rw [← hrN] at hsl p4 p5
   generalize hw : wayR (endE n) (findI n.lines) b L s0 n.sws.length = o at hsl p4 p5
   have p3 := (pO (H.n + 3) (.inr rfl)).trans gs3
   have z1 : (H.n + 3 = H.n + 4) = False := by simp only [eq_iff_iff, iff_false]; omega
   have hfin : ∃ L', Lab (endE n) n.sws.length (findI n.lines) a (lk L') ∧ wayS (endE n) n.sws.length (findI n.lines) a b L' = o := ⟨L, hLab, by rw [hwS, hw]⟩
   clear hw hwS hrN hrS hr0 hLab hLv hrsK q1 q2 q3 pL
   obtain ⟨L', k1, k2⟩ := hfin
   have hO : ∀ j, j < H.n → (j = H.n + 3) = False := fun j h => by simp only [eq_iff_iff, iff_false]; omega
   cases o <;> simp only [optC, Option.isSome_some, Option.isSome_none] at p4 p5 <;> simp only [go_sem, reduceIte, reduceEqDiff, reduceAdd, reduceMul, reduceSub, reduceLeDiff, reduceLT, Nat.reduceBEq, reduceCtorEq, t3, t5, t6, t8, t9, t10, t11, t40, t41, t42, Nat.lt_irrefl, p3, p4, p5, hlo3, z1]
   · refine ⟨L', k1, by rw [k2]; rfl, fun v hv => hsl v (by rw [← hv, k2]), fun j h => ?_⟩
     simp only [hO j h, if_false]; exact (pO j (.inl h)).trans (gA j h)
   · refine ⟨L', k1, by rw [k2]; rfl, fun v hv => hsl v (by rw [← hv, k2]), fun j h => ?_⟩
     simp only [hO j h, if_false]; exact (pO j (.inl h)).trans (gA j h)
end Go.Sim

namespace Go.Sim
open Go Go.Proofs
set_option maxRecDepth 100000
set_option maxHeartbeats 64000000
variable {P:FuncId→Option (List AV→Option AV)}
def ptRow (p:Pt):List AV:=[.str p.1,.int .i64 p.2]
theorem ptRow_inj (p q:Pt) (h:ptRow p=ptRow q):p=q:=by
 obtain ⟨a,b⟩:=p
 obtain ⟨c,d⟩:=q
 simp only [ptRow,List.cons.injEq,AV.str.injEq,AV.int.injEq,true_and,and_true] at h
 rw [h.1,h.2]
theorem pts_iff (p q:List Pt):p.map ptRow=q.map ptRow ↔ p=q:=⟨fun h=>map_inj ptRow_inj h,fun h=>by rw [h]⟩
theorem en184 {P:FuncId→Option (List AV→Option AV)} (hP:P 35=none) {lo:Nat} {args:List AV} {H:Heap} {K:AV→Heap→Prop}:VO (aenter (NC.withPrims P) (R (NC.withPrims P)) lo 35 args H) K=AO (R (NC.withPrims P) (.call H.n 35 args H)) fun o=>o.val.strip.pure=true∧K o.val.strip H:=by
 refine enter_pure rfl ?_ (by kernel_rfl) (by kernel_rfl) (by kernel_rfl)
 show (match NC.prim 35 with | some p=>some p | none=>P 35)=none
 rw [hP];kernel_rfl
theorem r184 (h100:P 36=some p100) (n:Net) (hn:n.Ok) (m:List Pt) (lo:Nat) (H:Heap) (hlo:lo≤H.n) (hl:m.length≤maxRows) :
 ∃ t H',R (NC.withPrims P) (.call lo 35 [.ps .unk (m.map ptRow),.fn 36 [.agg n.cells] []] H)=some (.ofVal (.ps t (intRows (m.map fun p=>placeP n p.1 p.2))) H'):=by
 suffices hh:∃ v H',R (NC.withPrims P) (.call lo 35 [.ps .unk (m.map ptRow),.fn 36 [.agg n.cells] []] H)=some (.ofVal v H') ∧ ∃ t,v=.ps t (intRows (m.map fun p=>placeP n p.1 p.2)) by
  obtain ⟨v,H',h1,t,rfl⟩:=hh;exact ⟨t,H',h1⟩
 refine R_of_body (C:=NC.withPrims P) (f:=35) (lo:=lo) (args:=[.ps .unk (m.map ptRow),.fn 36 [.agg n.cells] []]) (H:=H) (fn:=Try.f35) (Q:=fun v H'=>∃ t,v=.ps t (intRows (m.map fun p=>placeP n p.1 p.2))) (by kernel_rfl) Try.func35 rfl rfl ?_
 have en100:∀ {rec lo args H K},VO (aenter (NC.withPrims P) rec lo 36 args H) K=AO (p100 args) fun v=>K v H:=enter_prim rfl (by show (match NC.prim 36 with | some p=>some p | none=>P 36)=_;rw [h100];kernel_rfl)
 simp only [go_sem,reduceIte,reduceEqDiff,reduceAdd,reduceMul,reduceSub,reduceLeDiff,reduceLT,Nat.reduceBEq,reduceCtorEq]
 refine W_for (fun k T H' M=>M=[]∧getT T 1=.fn 36 [.agg n.cells] []∧getT T 8=.ps .unk (m.map ptRow)∧getT T 9=i64 (m.length:Nat)∧getT T 10=i64 k∧Old H.n H H' ∧ ∃ t,getT T 5=.ps t (intRows ((m.take k).map fun p=>placeP n p.1 p.2))∧AppB H.n H' t (intRows ((m.take k).map fun p=>placeP n p.1 p.2)) 1 39) m.length ?_ ?_ ?_
 · simp only [go_sem,reduceIte,reduceEqDiff,reduceAdd,reduceMul,reduceSub,reduceLeDiff,reduceLT,Nat.reduceBEq,reduceCtorEq,List.length_map];exact ⟨Old.refl H,.nil,rfl,.inl ⟨rfl,rfl⟩⟩
 · rintro k T H' M hk ⟨rfl,g1,g8,g9,g10,hO,t,g5,hA⟩
   obtain ⟨x,hx⟩:∃ p,m[k]? = some p:=⟨m[k],by simp⟩
   have hr:=map_at (f:=ptRow) hx
   have hw:=wrap_succ hk hl
   have htk:intRows ((m.take (k+1)).map fun p=>placeP n p.1 p.2)=intRows ((m.take k).map fun p=>placeP n p.1 p.2)++[[i64 (placeP n x.1 x.2)]]:=by rw [take_map hx];simp [intRows]
   have e100:=pe100 (n,x.1,x.2) hn
   have hlo':lo≤H'.n:=Nat.le_trans hlo hO.1
   obtain ⟨t',H2,ha,hA2,hn2,hO2,_⟩:=app_b (lo:=lo) (hA.new (.cells [.str [],.int .i64 0] 32) (.cells (ptRow x) 32)) (by have:=hO.1;simp;omega) hlo (r:=[i64 (placeP n x.1 x.2)]) (by simp [intRows];omega) rfl (by decide) (intRows_all _)
   have hO1:=hO.new (.cells [.str [],.int .i64 0] 32) (.cells (ptRow x) 32)
   obtain ⟨a,b⟩:=x
   simp only [ptRow] at hr ha hO1
   simp only [Net.cells,i64] at e100
   generalize placeP n a b=E at e100 ha htk hA2
   simp only [go_sem,reduceIte,reduceEqDiff,reduceAdd,reduceMul,reduceSub,reduceLeDiff,reduceLT,Nat.reduceBEq,reduceCtorEq,Net.cells,g1,g8,g9,g10,g5,hk,hr,hw,en100,e100,hO1,hlo',appO,isIntT_slice,rowsIn,ha]
   rw [htk]
   exact ⟨(hO.new _ _).trans hO2 |> fun h=>⟨h.1,h.2⟩,t',rfl,hA2⟩
 · rintro T H' M ⟨rfl,g1,g8,g9,g10,hO,t,g5,hA⟩
   simp only [go_sem,reduceIte,reduceEqDiff,reduceAdd,reduceMul,reduceSub,reduceLeDiff,reduceLT,Nat.reduceBEq,reduceCtorEq,g1,g8,g9,g10,g5,Nat.lt_irrefl,List.take_length]
   exact ⟨t,rfl⟩
def placesP (n:Net) (m:List Pt):Int:=if netP n=0 then firstI (m.map fun p=>placeP n p.1 p.2) else netP n
noncomputable def PPF114:FuncId→Option (List AV→Option AV):=addPrim 34 p111 (addPrim 36 p100 (addPrim 33 p29 (fun _=>none)))
theorem primsF114:PrimsOk NC PPF114:=primsOk_add (primsOk_add (primsOk_add (primsOk_none) (by kernel_rfl) (by kernel_rfl) pok29) (by kernel_rfl) (by kernel_rfl) pok100) (by kernel_rfl) (by kernel_rfl) pok111
theorem enF114_29:En PPF114 33 p29:=enter_prim (by rfl) (by kernel_rfl)
theorem enF114_111:En PPF114 34 p111:=enter_prim (by rfl) (by kernel_rfl)
attribute [go_sem ↓] enF114_29 enF114_111
theorem c114 (n:Net) (m:List Pt) (hp:n.Ok∧m.length≤maxRows):∀ lo H,CallOk NC lo 17 [.agg n.cells,.ps .unk (m.map ptRow)] H (i64 (placesP n m)) H:=by
 refine contract saneNC primsF114 (fn:=Try.f17) (by kernel_rfl) Try.func17 rfl rfl (by rfl) (by first | rfl | (split<;>first | rfl | (split<;>rfl))) ?_
 obtain ⟨hn,hl⟩:=hp
 have e29:=pe29 n hn
 have e111:=pe111 (m.map fun p=>placeP n p.1 p.2) (by simpa using hl)
 obtain ⟨tk,H',hr⟩:=r184 (P:=PPF114) rfl n hn m 1 (Heap.empty.push (.cells n.cells 46)) (by simp [empty_n]) hl
 have hsp:placesP n m=if netP n=0 then firstI (m.map fun p=>placeP n p.1 p.2) else netP n:=rfl
 rw [hsp]
 simp only [Net.cells,i64] at e29 hr e111
 rcases Classical.propComplete (netP n=0) with z | z
 case inr=>simp only [go_sem,reduceIte,reduceEqDiff,reduceAdd,reduceMul,reduceSub,reduceLeDiff,reduceLT,Nat.reduceBEq,reduceCtorEq,Net.cells,e29,z]
 simp only [go_sem,reduceIte,reduceEqDiff,reduceAdd,reduceMul,reduceSub,reduceLeDiff,reduceLT,Nat.reduceBEq,reduceCtorEq,Net.cells,e29,z,en184 (show PPF114 35=none from rfl),hr,e111]
noncomputable def p114:List AV→Option AV:=primOf (α:=(Net) × (List Pt)) (fun x=>[.agg x.1.cells,.ps .unk (x.2.map ptRow)]) (fun x=>x.1.Ok∧x.2.length≤maxRows) (fun x=>i64 (placesP x.1 x.2))
theorem pok114:∀ args v,p114 args=some v → ∀ lo H,CallOk NC lo 17 args H v H:=by
 intro args v h
 obtain ⟨x,rfl,hp,rfl⟩:=primOf_inv h
 exact c114 x.1 x.2 hp
theorem pe114 (n:Net) (m:List Pt) (hp:n.Ok∧m.length≤maxRows):p114 [.agg n.cells,.ps .unk (m.map ptRow)]=some (.int .i64 (placesP n m)):=primOf_enc (by intro x y h;(simp only [List.cons.injEq,AV.agg.injEq,AV.str.injEq,AV.int.injEq,AV.ps.injEq,AV.bool.injEq,Net.cells_iff,Ln.row_iff,Pc.row_iff,Mv.row_iff,lns_iff,pcs_iff,mvs_iff,Leg.row_iff,lgs_iff,pts_iff,true_and,and_true] at h;first | simpa only [Prod.ext_iff] using h | simpa only [Prod.ext_iff,and_assoc] using h)) (n,m) hp
end Go.Sim

namespace Go.Sim
open Go Go.Proofs
set_option maxRecDepth 100000
set_option maxHeartbeats 16000000
variable {P:FuncId→Option (List AV→Option AV)}
theorem net_sws {n:Net} (h:netP n=0):n.sws.length≤8:=by
 rw [net_same] at h
 unfold netR at h
 by_cases h1:(8:Int) < n.lines.length
 · simp [h1] at h
 · simp only [h1,if_false] at h
   split at h
   · by_cases h2:(8:Int) < n.sws.length
     · simp [h2] at h
     · omega
   · rename_i h3;exact absurd h h3
end Go.Sim

namespace Go.Sim
open Go Go.Proofs
set_option maxRecDepth 100000
set_option maxHeartbeats 4000000
theorem firstI_mem0:∀ {es:List Int},firstI es=0 → ∀ e ∈ es,e=0
 | [],_,e,he=>by cases he
 | x::r,h,e,he=>by
   have h':(if x=0 then firstI r else x)=0:=h
   by_cases hx:x=0
   · rw [if_pos hx] at h'
     rcases List.mem_cons.1 he with rfl | he
     · exact hx
     · exact firstI_mem0 h' e he
   · rw [if_neg hx] at h';exact absurd h' hx
theorem allR_mem0 {f:Nat→Int} {n:Nat} (h:allR f n=0):∀ i,i < n→f i=0:=fun i hi=>firstI_mem0 h _ (List.mem_map.2 ⟨i,List.mem_range.2 hi,rfl⟩)
theorem when_zero {b:Bool} {e:Int} (he:e ≠ 0) (h:whenI b e=0):b=false:=by
 cases b with
 | false=>rfl
 | true=>exact absurd h he
theorem netP_parts {n:Net} (h:netP n=0):linesP n.lines=0∧switchesP n=0:=by
 unfold netP at h
 by_cases hl:linesP n.lines=0
 · rw [if_pos hl] at h
   exact ⟨hl,firstI_mem0 h _ (by simp)⟩
 · rw [if_neg hl] at h;exact absurd h hl
theorem line_zero {ls:List Ln} (h:linesP ls=0):∀ i l,ls[i]? = some l→dupP ((ls.take i).map Ln.name) l.name=false∧0 < l.ps.length∧l.ps.length≤8 ∧ ∀ p ∈ l.ps,1≤p.len∧p.len≤100000:=by
 intro i l hl
 unfold linesP at h
 split at h
 · cases h
 have hi:=(List.getElem?_eq_some_iff.1 hl).1
 have h1:=allR_mem0 h i hi
 unfold lineP at h1
 rw [hl] at h1
 simp only [] at h1
 split at h1
 · rename_i h2
   have z:=firstI_mem0 h2
   have z1:=when_zero (by decide) (z _ (List.mem_cons_of_mem _ (List.mem_cons_self ..)))
   have z2:=when_zero (by decide) (z _ (List.mem_cons_of_mem _ (List.mem_cons_of_mem _ (List.mem_cons_self ..))))
   have z3:=when_zero (by decide) (z _ (List.mem_cons_of_mem _ (List.mem_cons_of_mem _ (List.mem_cons_of_mem _ (List.mem_cons_self ..)))))
   simp only [decide_eq_false_iff_not] at z2 z3
   refine ⟨z1,by omega,by omega,fun p hp => ?_⟩
   have z4:=firstI_mem0 (firstI_mem0 h1 _ (List.mem_map.2 ⟨p,hp,rfl⟩)) (rangeI p.len 1 100000) (by simp)
   have z5:=when_zero (by decide) z4
   simp only [Bool.or_eq_false_iff,decide_eq_false_iff_not] at z5
   omega
 · rename_i h2;exact absurd h1 h2
theorem sumW_le:∀ {ps:List Pc} {s:Int},(∀ p ∈ ps,1≤p.len∧p.len≤100000)→0≤s→s+100000 * ps.length≤800000→s+ps.length≤sumW ps s∧sumW ps s≤800000
 | [],s,_,_,_=>by simp [sumW];omega
 | p::r,s,h,h0,h8=>by
   have hp:=h p (by simp)
   have hc:((p::r).length:Int)=(r.length:Int)+1:=by simp
   rw [hc] at h8 ⊢
   have e:wrapq .i64 (Int.add s p.len)=s+p.len:=wrapq_i64 (by show _≤s+p.len;omega) (by show s+p.len≤_;omega)
   show _≤sumW r (wrapq .i64 (Int.add s p.len))∧sumW r (wrapq .i64 (Int.add s p.len))≤_
   rw [e]
   have:=sumW_le (ps:=r) (s:=s+p.len) (fun q hq=>h q (by simp [hq])) (by omega) (by omega)
   omega
theorem lnB_some {ls:List Ln} {s:List Nat} (h:lnB ls s=true):∃ i l,findL ls s=some i∧ls[i]? = some l∧l ∈ ls∧lnOf ls s=l:=by
 unfold lnB at h
 cases hf:findL ls s with
 | none=>rw [hf] at h;cases h
 | some i =>
   obtain ⟨l,h1,h2,h3⟩:=findL_at hf
   refine ⟨i,l,rfl,h1,h3, ?_⟩
   unfold lnOf
   rw [hf]
   simp [h1]
theorem len_in {n:Net} (h:netP n=0) {s:List Nat} (hb:lnB n.lines s=true):1≤sumW (lnOf n.lines s).ps 0∧sumW (lnOf n.lines s).ps 0≤800000:=by
 obtain ⟨i,l,h1,h2,h3,h4⟩:=lnB_some hb
 rw [h4]
 obtain ⟨_,z2,z3,z4⟩:=line_zero (netP_parts h).1 i l h2
 have:=sumW_le (ps:=l.ps) (s:=0) z4 (by omega) (by omega)
 omega
theorem has_in {n:Net} (h:netP n=0) {s:List Nat} {m:Int} (hb:lnB n.lines s=true) (hm:hasB (lnOf n.lines s) m=true):inR m:=by
 have:=len_in h hb
 unfold hasB at hm
 simp only [Bool.and_eq_true,Bool.not_eq_true',decide_eq_false_iff_not,decide_eq_true_eq] at hm
 exact ⟨by omega,by omega⟩
theorem place_in {n:Net} (h:netP n=0) {s:List Nat} {m:Int} (hp:placeP n s m=0):lnB n.lines s=true∧inR m:=by
 unfold placeP at hp
 have z1:=when_zero (by decide) (firstI_mem0 hp _ (List.mem_cons_self ..))
 have z2:=when_zero (by decide) (firstI_mem0 hp _ (List.mem_cons_of_mem _ (List.mem_cons_self ..)))
 simp only [Bool.not_eq_false'] at z1 z2
 exact ⟨z1,has_in h z1 z2⟩
theorem sw_zero {n:Net} (h:netP n=0):∀ s ∈ n.sws,lnB n.lines s.line=true∧hasB (lnOf n.lines s.line) s.metre=true∧lnB n.lines s.other=true∧beqL s.line s.other=false:=by
 intro s hs
 obtain ⟨i,hi⟩:=List.getElem?_of_mem hs
 have h2:=(netP_parts h).2
 unfold switchesP at h2
 split at h2
 · cases h2
 have h1:=allR_mem0 h2 i (List.getElem?_eq_some_iff.1 hi).1
 unfold switchP at h1
 rw [hi] at h1
 simp only [] at h1
 have z:=firstI_mem0 h1
 have z1:=when_zero (by decide) (z (whenI (!lnB n.lines s.line) 10) (by simp))
 have z2:=when_zero (by decide) (z (whenI (!hasB (lnOf n.lines s.line) s.metre) 14) (by simp))
 have z3:=when_zero (by decide) (z (whenI (!lnB n.lines s.other) 10) (by simp))
 have z4:=when_zero (by decide) (z (whenI (beqL s.line s.other) 24) (by simp))
 simp only [Bool.not_eq_false'] at z1 z2 z3
 exact ⟨z1,z2,z3,z4⟩
theorem ends_in {n:Net} (h:netP n=0):∀ i k,i < n.sws.length→lnB n.lines (endE n i k).1=true∧inR (endE n i k).2:=by
 intro i k hi
 obtain ⟨z1,z2,z3,_⟩:=sw_zero h _ (List.getElem_mem hi)
 have e:endE n i k=if k then (n.sws[i].other,endM n n.sws[i]) else (n.sws[i].line,n.sws[i].metre):=by
  unfold endE
  rw [List.getElem?_eq_getElem hi]
 rw [e]
 cases k with
 | false=>exact ⟨z1,has_in h z1 z2⟩
 | true =>
   refine ⟨z3, ?_⟩
   have hl:=len_in h z3
   show inR (endM n n.sws[i])
   unfold endM
   split
   · have e1:Int.sub (sumW (lnOf n.lines n.sws[i].other).ps 0) 1=sumW (lnOf n.lines n.sws[i].other).ps 0 - 1:=rfl
     have e2:wrapq .i64 (Int.sub (sumW (lnOf n.lines n.sws[i].other).ps 0) 1)=sumW (lnOf n.lines n.sws[i].other).ps 0 - 1:=wrapq_i64 (by rw [e1];omega) (by rw [e1];omega)
     rw [e2];exact ⟨by omega,by omega⟩
   · exact ⟨by omega,by omega⟩
theorem findI_inj {n:Net} (_:netP n=0):∀ a b,lnB n.lines a=true→lnB n.lines b=true→findI n.lines a=findI n.lines b→a=b:=by
 intro a b ha hb h
 obtain ⟨i,l,h1,h2,h3,h4⟩:=lnB_some ha
 obtain ⟨j,m,g1,g2,g3,g4⟩:=lnB_some hb
 unfold findI at h
 rw [h1,g1] at h
 have hij:i=j:=by simp only [] at h;omega
 subst hij
 rw [h2] at g2;cases g2
 have e1:beqL l.name a=true:=by
  unfold findL at h1
  rw [List.findIdx?_eq_some_iff_getElem] at h1
  obtain ⟨hlt,h5,_⟩:=h1
  rw [(List.getElem?_eq_some_iff.1 h2).2] at h5;exact h5
 have e2:beqL l.name b=true:=by
  unfold findL at g1
  rw [List.findIdx?_eq_some_iff_getElem] at g1
  obtain ⟨hlt,h5,_⟩:=g1
  rw [(List.getElem?_eq_some_iff.1 h2).2] at h5;exact h5
 rw [← (beqL_iff _ _).1 e1,(beqL_iff _ _).1 e2]
noncomputable def bestO (n:Net) (a b:Pt):Option (List Leg):=open Classical in if h:∃ w,Best (endE n) n.sws.length (findI n.lines) a b w then some h.choose else none
theorem bestO_of {n:Net} (h:netP n=0) {a b:Pt} (ha:lnB n.lines a.1=true) {s:Option (List Leg)} (hs:match s with
 | none=>∀ w,¬ isWay (endE n) n.sws.length a b w
 | some w=>Best (endE n) n.sws.length (findI n.lines) a b w):s=bestO n a b:=by
 unfold bestO
 cases s with
 | none =>
   rw [dif_neg]
   rintro ⟨w,hw⟩
   exact hs w hw.way
 | some w =>
   have hex:∃ w,Best (endE n) n.sws.length (findI n.lines) a b w:=⟨w,hs⟩
   rw [dif_pos hex]
   exact congrArg some (Best.uniq (S:=fun s=>lnB n.lines s=true) (findI_inj h) (fun i k hi=>(ends_in h i k hi).1) ha hs hex.choose_spec)
theorem wayS_bestO {n:Net} (h:netP n=0) {a b:Pt} (ha:lnB n.lines a.1=true) {L:Labs} (hL:Lab (endE n) n.sws.length (findI n.lines) a (lk L)):wayS (endE n) n.sws.length (findI n.lines) a b L=bestO n a b :=
 bestO_of h ha (wayS_best (S:=fun s=>lnB n.lines s=true) (findI_inj h) (fun i k hi=>(ends_in h i k hi).1) hL (by have:=net_sws h;omega) ha)
end Go.Sim

namespace Go.Sim
open Go Go.Proofs
set_option maxRecDepth 100000
set_option maxHeartbeats 64000000
variable {P:FuncId→Option (List AV→Option AV)}
theorem ptr_iff (p q:Pt):ptRow p=ptRow q ↔ p=q:=⟨ptRow_inj p q,fun h=>by rw [h]⟩
theorem en142 {P:FuncId→Option (List AV→Option AV)} (hP:P 18=none) {lo:Nat} {args:List AV} {H:Heap} {K:AV→Heap→Prop}:VO (aenter (NC.withPrims P) (R (NC.withPrims P)) lo 18 args H) K=AO (R (NC.withPrims P) (.call H.n 18 args H)) fun o=>o.val.strip.pure=true∧K o.val.strip H:=by
 refine enter_pure rfl ?_ (by kernel_rfl) (by kernel_rfl) (by kernel_rfl)
 show (match NC.prim 18 with | some p=>some p | none=>P 18)=none
 rw [hP];kernel_rfl
noncomputable def wayP (n:Net) (a b:Pt):List AV:=if placesP n [a,b]=0 then (match bestO n a b with
 | none=>[.ps .unk [],i64 0,i64 18]
 | some w=>[.ps .unk (w.map Leg.row),i64 (wSum w),i64 0]) else [.ps .unk [],i64 0,i64 (placesP n [a,b])]
theorem wayP_pure (n:Net) (a b:Pt):(AV.tup (wayP n a b)).pure=true:=by
 unfold wayP
 repeat' split
 all_goals rfl
theorem places_zero {n:Net} {m:List Pt} (h:placesP n m=0):netP n=0 ∧ ∀ p ∈ m,placeP n p.1 p.2=0:=by
 unfold placesP at h
 by_cases hn:netP n=0
 · rw [if_pos hn] at h
   exact ⟨hn,fun p hp=>firstI_mem0 h _ (List.mem_map.2 ⟨p,hp,rfl⟩)⟩
 · rw [if_neg hn] at h;exact absurd h hn
noncomputable def PPF71:FuncId→Option (List AV→Option AV):=addPrim 39 p204 (addPrim 38 p203 (addPrim 41 p151 (addPrim 17 p114 (fun _=>none))))
theorem primsF71:PrimsOk NC PPF71:=primsOk_add (primsOk_add (primsOk_add (primsOk_add (primsOk_none) (by kernel_rfl) (by kernel_rfl) pok114) (by kernel_rfl) (by kernel_rfl) pok151) (by kernel_rfl) (by kernel_rfl) pok203) (by kernel_rfl) (by kernel_rfl) pok204
theorem enF71_114:En PPF71 17 p114:=enter_prim (by rfl) (by kernel_rfl)
attribute [go_sem ↓] enF71_114
theorem c71 (n : Net) (a b : Pt) (hp : n.Ok) : ∀ lo H, CallOk NC lo 7 [.agg n.cells, .agg (ptRow a), .agg (ptRow b)] H (.tup (wayP n a b)) H := by
 refine contract saneNC primsF71 (fn := Try.f7) (by kernel_rfl) Try.func7 rfl rfl (by rfl) (wayP_pure n a b) ?_
 have e114 := pe114 n [a, b] ⟨hp, by unfold maxRows; simp⟩
 unfold wayP
 obtain ⟨a1, a2⟩ := a
 obtain ⟨b1, b2⟩ := b
 simp only [Net.cells, i64, ptRow, List.map_cons, List.map_nil] at e114
 rcases Classical.propComplete (placesP n [(a1, a2), (b1, b2)] = 0) with z | z
 case inr =>
  generalize placesP n [(a1, a2), (b1, b2)] = E at e114 z ⊢
  simp only [go_sem, reduceIte, reduceEqDiff, reduceAdd, reduceMul, reduceSub, reduceLeDiff, reduceLT, Nat.reduceBEq, reduceCtorEq, Net.cells, ptRow, e114, z]
 have hz := places_zero (of_eq_true z)
 have hA := place_in hz.1 (hz.2 (a1, a2) (by simp))
 have hB := place_in hz.1 (hz.2 (b1, b2) (by simp))
 obtain ⟨v, H', hr, L, hL, rfl, hlen, _⟩ := r142 (P := PPF71) rfl rfl rfl rfl rfl rfl n hp (by have := net_sws hz.1; unfold maxRows; omega) (a1, a2) (b1, b2) hA.2 hB.2 (fun i k hi => (ends_in hz.1 i k hi).2) 3 (((Heap.empty.push (.cells n.cells 46)).push (.cells [.str a1, .int .i64 a2] 32)).push (.cells [.str b1, .int .i64 b2] 32)) (by rw [hn_push, hn_push, hn_push]; exact Nat.le_refl 3)
 rw [wayS_bestO hz.1 hA.1 hL] at hr hlen
 generalize placesP n [(a1, a2), (b1, b2)] = E at e114 z ⊢
 generalize bestO n (a1, a2) (b1, b2) = o at hr hlen ⊢
 simp only [Net.cells] at hr
 cases o with
 | none =>
   simp only [optC, Option.isSome_none] at hr
   simp only [go_sem, reduceIte, reduceEqDiff, reduceAdd, reduceMul, reduceSub, reduceLeDiff, reduceLT, Nat.reduceBEq, reduceCtorEq, Net.cells, ptRow, e114, z, en142 (show PPF71 18 = none from rfl), hr]
   rfl
 | some w =>
   simp only [optC, Option.isSome_some] at hr
   simp only [go_sem, reduceIte, reduceEqDiff, reduceAdd, reduceMul, reduceSub, reduceLeDiff, reduceLT, Nat.reduceBEq, reduceCtorEq, Net.cells, ptRow, e114, z, en142 (show PPF71 18 = none from rfl), hr]
   rfl
noncomputable def p71:List AV→Option AV:=primOf (α:=(Net) × (Pt) × (Pt)) (fun x=>[.agg x.1.cells,.agg (ptRow x.2.1),.agg (ptRow x.2.2)]) (fun x=>x.1.Ok) (fun x=>.tup (wayP x.1 x.2.1 x.2.2))
theorem pok71:∀ args v,p71 args=some v → ∀ lo H,CallOk NC lo 7 args H v H:=by
 intro args v h
 obtain ⟨x,rfl,hp,rfl⟩:=primOf_inv h
 exact c71 x.1 x.2.1 x.2.2 hp
theorem pe71 (n:Net) (a b:Pt) (hp:n.Ok):p71 [.agg n.cells,.agg (ptRow a),.agg (ptRow b)]=some (.tup (wayP n a b)):=primOf_enc (by intro x y h;(simp only [List.cons.injEq,AV.agg.injEq,AV.str.injEq,AV.int.injEq,AV.ps.injEq,AV.bool.injEq,Net.cells_iff,Ln.row_iff,Pc.row_iff,Mv.row_iff,lns_iff,pcs_iff,mvs_iff,Leg.row_iff,lgs_iff,pts_iff,ptr_iff,true_and,and_true] at h;first | simpa only [Prod.ext_iff] using h | simpa only [Prod.ext_iff,and_assoc] using h)) (n,a,b) hp
end Go.Sim

namespace Go.Sim
open Go Go.Proofs
set_option maxRecDepth 100000
set_option maxHeartbeats 8000000
variable {P:FuncId→Option (List AV→Option AV)}
theorem ir_iff (x y:List Int):intRows x=intRows y ↔ x=y:=⟨fun h=>intRows_inj x y (by rw [h]),fun h=>by rw [h]⟩
theorem quo_t {a b:Int} (h0:0≤a) (h1:0 < b) (h2:a≤9223372036854775807):aint (pureOf (Go.binOp .quo 0 (.int .i64 a) (.int .i64 b)))=some (.int .i64 (a / b)):=by
 have e:Go.binOp .quo 0 (.int .i64 a) (.int .i64 b)=Op.intDiv .quo .i64 a b:=rfl
 have hb:¬ (b=0):=by omega
 have hd0:0≤a / b:=Int.ediv_nonneg h0 (by omega)
 have hd1:a / b≤a:=Int.ediv_le_self b h0
 rw [e]
 unfold Op.intDiv
 rw [if_neg hb]
 show some (AV.int .i64 (IntKind.wrap .i64 (a.tdiv b)))=_
 rw [Int.tdiv_eq_ediv_of_nonneg h0,wrap_in hd0 (by omega)]
theorem two_iff (x y:Int):(2 * x=2 * y) ↔ x=y:=by omega
def dbl (m:Pt):Pt:=(m.1,2 * m.2)
def rideRow (ms:List Pt):List AV:=[.ps .unk (ms.map ptRow),.ps .unk ((ms.map dbl).map ptRow)]
theorem ride_iff (a b:List Pt):rideRow a=rideRow b ↔ a=b:=by
 constructor
 · intro h
   simp only [rideRow,List.cons.injEq,AV.ps.injEq,true_and] at h
   exact (pts_iff a b).1 h.1
 · intro h;rw [h]
def prRow (i:Nat):List AV:=[.int .i64 (i:Int),.int .i64 (i:Int)]
def diag (n:Nat):List (List AV):=(List.range n).map prRow
theorem diag_len (n:Nat):(diag n).length=n:=by simp [diag]
theorem diag_at {n k:Nat} (h:k < n):(diag n)[k]? = some (prRow k):=by simp [diag,h]
theorem diag_inj {a b:Nat} (h:diag a=diag b):a=b:=by rw [← diag_len a,← diag_len b,h]
structure ThOk (l:List Pt):Prop where
 few:l.length≤64
 name:∀ x ∈ l,nameB x.1=true∧x.1.length≤maxRows∧0≤x.2∧x.2≤1000
 asc:∀ i x y,l[i]? = some x→l[i+1]? = some y→x.2 < y.2
noncomputable def PPFL22:FuncId→Option (List AV→Option AV):=fun _=>none
theorem primsFL22:PrimsOk NC PPFL22:=primsOk_none
theorem cL22 (b:Bool) (e:Int):∀ lo H,CallOk NC lo 22 [.bool b,i64 e] H (i64 (whenI b e)) H:=by
 refine contract saneNC primsFL22 (fn:=Try.f22) (by kernel_rfl) Try.func22 rfl rfl (by rfl) (by first | rfl | (split<;>first | rfl | (split<;>rfl))) ?_
 cases b<;>simp only [go_sem,reduceIte,reduceEqDiff,reduceAdd,reduceMul,reduceSub,reduceLeDiff,reduceLT,Nat.reduceBEq,reduceCtorEq]<;>simp [whenI]
noncomputable def pL22:List AV→Option AV:=primOf (α:=(Bool) × (Int)) (fun x=>[.bool x.1,i64 x.2]) (fun x=>True) (fun x=>i64 (whenI x.1 x.2))
theorem pokL22:∀ args v,pL22 args=some v → ∀ lo H,CallOk NC lo 22 args H v H:=by
 intro args v h
 obtain ⟨x,rfl,hp,rfl⟩:=primOf_inv h
 exact cL22 x.1 x.2
theorem peL22 (b:Bool) (e:Int):pL22 [.bool b,.int .i64 e]=some (.int .i64 (whenI b e)):=primOf_enc (by intro x y h;(simp only [List.cons.injEq,AV.agg.injEq,AV.str.injEq,AV.int.injEq,AV.ps.injEq,AV.bool.injEq,Net.cells_iff,Ln.row_iff,Pc.row_iff,Mv.row_iff,lns_iff,pcs_iff,mvs_iff,ir_iff,pts_iff,ride_iff,ptr_iff,two_iff,true_and,and_true] at h;first | simpa only [Prod.ext_iff] using h | simpa only [Prod.ext_iff,and_assoc] using h)) (b,e) trivial
attribute [go_sem] peL22
noncomputable def PPFL19:FuncId→Option (List AV→Option AV):=fun _=>none
theorem primsFL19:PrimsOk NC PPFL19:=primsOk_none
theorem cL19 (es:List Int) (hp:es.length≤maxRows):∀ lo H,CallOk NC lo 19 [.ps .unk (intRows es)] H (i64 (firstI es)) H:=by
 refine contract saneNC primsFL19 (fn:=Try.f19) (by kernel_rfl) Try.func19 rfl rfl (by rfl) (by first | rfl | (split<;>first | rfl | (split<;>rfl))) ?_
 simp only [go_sem,reduceIte,reduceEqDiff,reduceAdd,reduceMul,reduceSub,reduceLeDiff,reduceLT,Nat.reduceBEq,reduceCtorEq]
 refine W_for (fun k T H M=>M=[]∧getT T 5=.ps .unk (intRows es)∧getT T 6=i64 (es.length:Nat)∧getT T 7=i64 k∧firstI es=firstI (es.drop k)) es.length ?_ ?_ ?_
 · simp only [go_sem,reduceIte,reduceEqDiff,reduceAdd,reduceMul,reduceSub,reduceLeDiff,reduceLT,Nat.reduceBEq,reduceCtorEq,intRows_len,List.drop_zero]
 · rintro k T H M hk ⟨rfl,h0,h1,h3,hf⟩
   obtain ⟨e,he⟩:∃ e,es[k]? = some e:=⟨es[k],by simp⟩
   have hr:=intRows_at he
   have hw:=wrap_succ hk hp
   have hfd:=firstI_drop he
   by_cases hz:e=0
   · simp only [go_sem,reduceIte,reduceEqDiff,reduceAdd,reduceMul,reduceSub,reduceLeDiff,reduceLT,Nat.reduceBEq,reduceCtorEq,h0,h1,h3,hr,intRows_len,hk,hw,hz]
     simp [hf,hfd,hz]
   · simp only [go_sem,reduceIte,reduceEqDiff,reduceAdd,reduceMul,reduceSub,reduceLeDiff,reduceLT,Nat.reduceBEq,reduceCtorEq,h0,h1,h3,hr,intRows_len,hk,hw,hz]
     simp [hf,hfd,hz]
 · rintro T H M ⟨rfl,h0,h1,h3,hf⟩
   simp only [go_sem,reduceIte,reduceEqDiff,reduceAdd,reduceMul,reduceSub,reduceLeDiff,reduceLT,Nat.reduceBEq,reduceCtorEq,h0,h1,h3,intRows_len,Nat.lt_irrefl]
   simp [hf,firstI]
noncomputable def pL19:List AV→Option AV:=primOf (α:=(List Int)) (fun x=>[.ps .unk (intRows x)]) (fun x=>x.length≤maxRows) (fun x=>i64 (firstI x))
theorem pokL19:∀ args v,pL19 args=some v → ∀ lo H,CallOk NC lo 19 args H v H:=by
 intro args v h
 obtain ⟨x,rfl,hp,rfl⟩:=primOf_inv h
 exact cL19 x hp
theorem peL19 (es:List Int) (hp:es.length≤maxRows):pL19 [.ps .unk (intRows es)]=some (.int .i64 (firstI es)):=primOf_enc (by intro x y h;(simp only [List.cons.injEq,AV.agg.injEq,AV.str.injEq,AV.int.injEq,AV.ps.injEq,AV.bool.injEq,Net.cells_iff,Ln.row_iff,Pc.row_iff,Mv.row_iff,lns_iff,pcs_iff,mvs_iff,ir_iff,pts_iff,ride_iff,ptr_iff,two_iff,true_and,and_true] at h;first | simpa only [Prod.ext_iff] using h | simpa only [Prod.ext_iff,and_assoc] using h)) es hp
theorem lfirst_2 (a b:Int):pL19 [.ps .unk [[.int .i64 a],[.int .i64 b]]]=some (.int .i64 (firstI [a,b])):=peL19 [a,b] (by show 2≤1073741824;decide)
theorem lfirst_3 (a b c:Int):pL19 [.ps .unk [[.int .i64 a],[.int .i64 b],[.int .i64 c]]]=some (.int .i64 (firstI [a,b,c])):=peL19 [a,b,c] (by show 3≤1073741824;decide)
theorem lfirst_4 (a b c d:Int):pL19 [.ps .unk [[.int .i64 a],[.int .i64 b],[.int .i64 c],[.int .i64 d]]]=some (.int .i64 (firstI [a,b,c,d])):=peL19 [a,b,c,d] (by show 4≤1073741824;decide)
attribute [go_sem] lfirst_2 lfirst_3 lfirst_4
noncomputable def PPFL44:FuncId→Option (List AV→Option AV):=addPrim 22 pL22 (fun _=>none)
theorem primsFL44:PrimsOk NC PPFL44:=primsOk_add (primsOk_none) (by kernel_rfl) (by kernel_rfl) pokL22
theorem enFL44_22 {rec:Rec} {lo:Nat} {args:List AV} {H:Heap} {K:AV→Heap→Prop}:VO (aenter (NC.withPrims PPFL44) rec lo 22 args H) K=AO (pL22 args) fun v=>K v H:=enter_prim (by rfl) (by kernel_rfl)
attribute [go_sem ↓] enFL44_22
theorem cL44 (n a b:Int):∀ lo H,CallOk NC lo 44 [i64 n,i64 a,i64 b] H (i64 (rangeI n a b)) H:=by
 refine contract saneNC primsFL44 (fn:=Try.f44) (by kernel_rfl) Try.func44 rfl rfl (by rfl) (by first | rfl | (split<;>first | rfl | (split<;>rfl))) ?_
 rcases Classical.propComplete (n < a) with h1 | h1<;>rcases Classical.propComplete (b < n) with h2 | h2<;>simp only [go_sem,reduceIte,reduceEqDiff,reduceAdd,reduceMul,reduceSub,reduceLeDiff,reduceLT,Nat.reduceBEq,reduceCtorEq,h1,h2]<;>simp [rangeI,h1,h2]
noncomputable def pL44:List AV→Option AV:=primOf (α:=(Int) × (Int) × (Int)) (fun x=>[i64 x.1,i64 x.2.1,i64 x.2.2]) (fun x=>True) (fun x=>i64 (rangeI x.1 x.2.1 x.2.2))
theorem pokL44:∀ args v,pL44 args=some v → ∀ lo H,CallOk NC lo 44 args H v H:=by
 intro args v h
 obtain ⟨x,rfl,hp,rfl⟩:=primOf_inv h
 exact cL44 x.1 x.2.1 x.2.2
theorem peL44 (n a b:Int):pL44 [.int .i64 n,.int .i64 a,.int .i64 b]=some (.int .i64 (rangeI n a b)):=primOf_enc (by intro x y h;(simp only [List.cons.injEq,AV.agg.injEq,AV.str.injEq,AV.int.injEq,AV.ps.injEq,AV.bool.injEq,Net.cells_iff,Ln.row_iff,Pc.row_iff,Mv.row_iff,lns_iff,pcs_iff,mvs_iff,ir_iff,pts_iff,ride_iff,ptr_iff,two_iff,true_and,and_true] at h;first | simpa only [Prod.ext_iff] using h | simpa only [Prod.ext_iff,and_assoc] using h)) (n,a,b) trivial
attribute [go_sem] peL44
theorem lrange_in {n a b:Int} (h1:a≤n) (h2:n≤b):rangeI n a b=0:=by
 have e1:decide (n < a)=false:=by rw [decide_eq_false_iff_not];omega
 have e2:decide (b < n)=false:=by rw [decide_eq_false_iff_not];omega
 unfold rangeI;rw [e1,e2];rfl
noncomputable def PPFL21:FuncId→Option (List AV→Option AV):=addPrim 44 pL44 (fun _=>none)
theorem primsFL21:PrimsOk NC PPFL21:=primsOk_add (primsOk_none) (by kernel_rfl) (by kernel_rfl) pokL44
theorem enFL21_44 {rec:Rec} {lo:Nat} {args:List AV} {H:Heap} {K:AV→Heap→Prop}:VO (aenter (NC.withPrims PPFL21) rec lo 44 args H) K=AO (pL44 args) fun v=>K v H:=enter_prim (by rfl) (by kernel_rfl)
attribute [go_sem ↓] enFL21_44
theorem cL21 (n:Int):∀ lo H,CallOk NC lo 21 [i64 n] H (i64 (rangeI n 0 100000000)) H:=by
 refine contract saneNC primsFL21 (fn:=Try.f21) (by kernel_rfl) Try.func21 rfl rfl (by rfl) (by first | rfl | (split<;>first | rfl | (split<;>rfl))) ?_
 simp only [go_sem,reduceIte,reduceEqDiff,reduceAdd,reduceMul,reduceSub,reduceLeDiff,reduceLT,Nat.reduceBEq,reduceCtorEq]
noncomputable def pL21:List AV→Option AV:=primOf (α:=(Int)) (fun x=>[i64 x]) (fun x=>True) (fun x=>i64 (rangeI x 0 100000000))
theorem pokL21:∀ args v,pL21 args=some v → ∀ lo H,CallOk NC lo 21 args H v H:=by
 intro args v h
 obtain ⟨x,rfl,hp,rfl⟩:=primOf_inv h
 exact cL21 x
theorem peL21 (n:Int):pL21 [.int .i64 n]=some (.int .i64 (rangeI n 0 100000000)):=primOf_enc (by intro x y h;(simp only [List.cons.injEq,AV.agg.injEq,AV.str.injEq,AV.int.injEq,AV.ps.injEq,AV.bool.injEq,Net.cells_iff,Ln.row_iff,Pc.row_iff,Mv.row_iff,lns_iff,pcs_iff,mvs_iff,ir_iff,pts_iff,ride_iff,ptr_iff,two_iff,true_and,and_true] at h;first | simpa only [Prod.ext_iff] using h | simpa only [Prod.ext_iff,and_assoc] using h)) n trivial
attribute [go_sem] peL21
noncomputable def PPFL46:FuncId→Option (List AV→Option AV):=fun _=>none
theorem primsFL46:PrimsOk NC PPFL46:=primsOk_none
theorem cL46 (a b:Int) (hp:0≤a∧a≤b∧b≤100000):∀ lo H,CallOk NC lo 46 [i64 a,i64 b] H (i64 (b - a)) H:=by
 refine contract saneNC primsFL46 (fn:=Try.f46) (by kernel_rfl) Try.func46 rfl rfl (by rfl) (by first | rfl | (split<;>first | rfl | (split<;>rfl))) ?_
 obtain ⟨p0,p1,p2⟩:=hp
 have h1:wrapq .i64 (Int.sub a b)=a - b:=wrapq_i64 (by show _≤a - b;omega) (by show a - b≤_;omega)
 have h2:wrapq .i64 (Int.sub b a)=b - a:=wrapq_i64 (by show _≤b - a;omega) (by show b - a≤_;omega)
 have hm:maxI (a - b) (b - a)=b - a:=by unfold maxI;split<;>omega
 simp only [go_sem,reduceIte,reduceEqDiff,reduceAdd,reduceMul,reduceSub,reduceLeDiff,reduceLT,Nat.reduceBEq,reduceCtorEq,h1,h2,hm]
noncomputable def pL46:List AV→Option AV:=primOf (α:=(Int) × (Int)) (fun x=>[i64 x.1,i64 x.2]) (fun x=>0≤x.1∧x.1≤x.2∧x.2≤100000) (fun x=>i64 (x.2 - x.1))
theorem pokL46:∀ args v,pL46 args=some v → ∀ lo H,CallOk NC lo 46 args H v H:=by
 intro args v h
 obtain ⟨x,rfl,hp,rfl⟩:=primOf_inv h
 exact cL46 x.1 x.2 hp
theorem peL46 (a b:Int) (hp:0≤a∧a≤b∧b≤100000):pL46 [.int .i64 a,.int .i64 b]=some (.int .i64 (b - a)):=primOf_enc (by intro x y h;(simp only [List.cons.injEq,AV.agg.injEq,AV.str.injEq,AV.int.injEq,AV.ps.injEq,AV.bool.injEq,Net.cells_iff,Ln.row_iff,Pc.row_iff,Mv.row_iff,lns_iff,pcs_iff,mvs_iff,ir_iff,pts_iff,ride_iff,ptr_iff,two_iff,true_and,and_true] at h;first | simpa only [Prod.ext_iff] using h | simpa only [Prod.ext_iff,and_assoc] using h)) (a,b) hp
noncomputable def PPFL45:FuncId→Option (List AV→Option AV):=fun _=>none
theorem primsFL45:PrimsOk NC PPFL45:=primsOk_none
theorem cL45 (a b:Int) (hp:0≤a∧a≤10000000∧0 < b∧b≤10000000):∀ lo H,CallOk NC lo 45 [i64 a,i64 b] H (i64 ((2 * a+b) / (2 * b))) H:=by
 refine contract saneNC primsFL45 (fn:=Try.f45) (by kernel_rfl) Try.func45 rfl rfl (by rfl) (by first | rfl | (split<;>first | rfl | (split<;>rfl))) ?_
 obtain ⟨p0,p1,p2,p3⟩:=hp
 have h1:wrapq .i64 (Int.mul 2 a)=2 * a:=wrapq_i64 (by show _≤2 * a;omega) (by show 2 * a≤_;omega)
 have h2:wrapq .i64 (Int.mul 2 b)=2 * b:=wrapq_i64 (by show _≤2 * b;omega) (by show 2 * b≤_;omega)
 have h3:wrapq .i64 (Int.add (2 * a) b)=2 * a+b:=wrapq_i64 (by show _≤2 * a+b;omega) (by show 2 * a+b≤_;omega)
 have hq:=quo_t (a:=2 * a+b) (b:=2 * b) (by omega) (by omega) (by omega)
 have hz:(2 * b=0)=False:=by simp only [eq_iff_iff,iff_false];omega
 simp only [go_sem,hz,if_false] at hq
 simp only [go_sem,reduceIte,reduceEqDiff,reduceAdd,reduceMul,reduceSub,reduceLeDiff,reduceLT,Nat.reduceBEq,reduceCtorEq,h1,h2,h3,hq,hz]
noncomputable def pL45:List AV→Option AV:=primOf (α:=(Int) × (Int)) (fun x=>[i64 x.1,i64 x.2]) (fun x=>0≤x.1∧x.1≤10000000∧0 < x.2∧x.2≤10000000) (fun x=>i64 ((2 * x.1+x.2) / (2 * x.2)))
theorem pokL45:∀ args v,pL45 args=some v → ∀ lo H,CallOk NC lo 45 args H v H:=by
 intro args v h
 obtain ⟨x,rfl,hp,rfl⟩:=primOf_inv h
 exact cL45 x.1 x.2 hp
theorem peL45 (a b:Int) (hp:0≤a∧a≤10000000∧0 < b∧b≤10000000):pL45 [.int .i64 a,.int .i64 b]=some (.int .i64 ((2 * a+b) / (2 * b))):=primOf_enc (by intro x y h;(simp only [List.cons.injEq,AV.agg.injEq,AV.str.injEq,AV.int.injEq,AV.ps.injEq,AV.bool.injEq,Net.cells_iff,Ln.row_iff,Pc.row_iff,Mv.row_iff,lns_iff,pcs_iff,mvs_iff,ir_iff,pts_iff,ride_iff,ptr_iff,two_iff,true_and,and_true] at h;first | simpa only [Prod.ext_iff] using h | simpa only [Prod.ext_iff,and_assoc] using h)) (a,b) hp
noncomputable def PPFL24:FuncId→Option (List AV→Option AV):=addPrim 19 pL19 (addPrim 44 pL44 (fun _=>none))
theorem primsFL24:PrimsOk NC PPFL24:=primsOk_add (primsOk_add (primsOk_none) (by kernel_rfl) (by kernel_rfl) pokL44) (by kernel_rfl) (by kernel_rfl) pokL19
theorem enFL24_44 {rec:Rec} {lo:Nat} {args:List AV} {H:Heap} {K:AV→Heap→Prop}:VO (aenter (NC.withPrims PPFL24) rec lo 44 args H) K=AO (pL44 args) fun v=>K v H:=enter_prim (by rfl) (by kernel_rfl)
theorem enFL24_19 {rec:Rec} {lo:Nat} {args:List AV} {H:Heap} {K:AV→Heap→Prop}:VO (aenter (NC.withPrims PPFL24) rec lo 19 args H) K=AO (pL19 args) fun v=>K v H:=enter_prim (by rfl) (by kernel_rfl)
attribute [go_sem ↓] enFL24_44 enFL24_19
theorem cL24 (r b:Int):∀ lo H,CallOk NC lo 24 [.agg [i64 r,i64 b]] H (i64 (firstI [rangeI r 0 500,rangeI b 0 10000])) H:=by
 refine contract saneNC primsFL24 (fn:=Try.f24) (by kernel_rfl) Try.func24 rfl rfl (by rfl) (by first | rfl | (split<;>first | rfl | (split<;>rfl))) ?_
 simp only [go_sem,reduceIte,reduceEqDiff,reduceAdd,reduceMul,reduceSub,reduceLeDiff,reduceLT,Nat.reduceBEq,reduceCtorEq]
noncomputable def pL24:List AV→Option AV:=primOf (α:=(Int) × (Int)) (fun x=>[.agg [i64 x.1,i64 x.2]]) (fun x=>True) (fun x=>i64 (firstI [rangeI x.1 0 500,rangeI x.2 0 10000]))
theorem pokL24:∀ args v,pL24 args=some v → ∀ lo H,CallOk NC lo 24 args H v H:=by
 intro args v h
 obtain ⟨x,rfl,hp,rfl⟩:=primOf_inv h
 exact cL24 x.1 x.2
theorem peL24 (r b:Int):pL24 [.agg [.int .i64 r,.int .i64 b]]=some (.int .i64 (firstI [rangeI r 0 500,rangeI b 0 10000])):=primOf_enc (by intro x y h;(simp only [List.cons.injEq,AV.agg.injEq,AV.str.injEq,AV.int.injEq,AV.ps.injEq,AV.bool.injEq,Net.cells_iff,Ln.row_iff,Pc.row_iff,Mv.row_iff,lns_iff,pcs_iff,mvs_iff,ir_iff,pts_iff,ride_iff,ptr_iff,two_iff,true_and,and_true] at h;first | simpa only [Prod.ext_iff] using h | simpa only [Prod.ext_iff,and_assoc] using h)) (r,b) trivial
attribute [go_sem] peL24
noncomputable def PPFL25:FuncId→Option (List AV→Option AV):=fun _=>none
theorem primsFL25:PrimsOk NC PPFL25:=primsOk_none
theorem cL25 (e:Int) (hp:0≤e∧e≤100000):∀ lo H,CallOk NC lo 25 [.agg [i64 500,i64 0],i64 (2 * e)] H (i64 e) H:=by
 refine contract saneNC primsFL25 (fn:=Try.f25) (by kernel_rfl) Try.func25 rfl rfl (by rfl) (by first | rfl | (split<;>first | rfl | (split<;>rfl))) ?_
 obtain ⟨p0,p1⟩:=hp
 have h1:wrapq .i64 (Int.mul (2 * e) 500)=1000 * e:=by
  have q:Int.mul (2 * e) 500=1000 * e:=by show 2 * e * 500=_;omega
  rw [q];exact wrapq_i64 (by omega) (by omega)
 have h2:wrapq .i64 (Int.add (1000 * e) 999)=1000 * e+999:=wrapq_i64 (by show _≤1000 * e+999;omega) (by show 1000 * e+999≤_;omega)
 have hq:=quo_t (a:=1000 * e+999) (b:=1000) (by omega) (by omega) (by omega)
 have hd:(1000 * e+999) / 1000=e:=by omega
 rw [hd] at hq
 have hz:((1000:Int)=0)=False:=by simp
 simp only [go_sem,hz,if_false] at hq
 simp only [go_sem,reduceIte,reduceEqDiff,reduceAdd,reduceMul,reduceSub,reduceLeDiff,reduceLT,Nat.reduceBEq,reduceCtorEq,h1,h2,hq,hz]
noncomputable def pL25:List AV→Option AV:=primOf (α:=(Int)) (fun x=>[.agg [i64 500,i64 0],i64 (2 * x)]) (fun x=>0≤x∧x≤100000) (fun x=>i64 x)
theorem pokL25:∀ args v,pL25 args=some v → ∀ lo H,CallOk NC lo 25 args H v H:=by
 intro args v h
 obtain ⟨x,rfl,hp,rfl⟩:=primOf_inv h
 exact cL25 x hp
theorem peL25 (e:Int) (hp:0≤e∧e≤100000):pL25 [.agg [.int .i64 500,.int .i64 0],.int .i64 (2 * e)]=some (.int .i64 e):=primOf_enc (by intro x y h;(simp only [List.cons.injEq,AV.agg.injEq,AV.str.injEq,AV.int.injEq,AV.ps.injEq,AV.bool.injEq,Net.cells_iff,Ln.row_iff,Pc.row_iff,Mv.row_iff,lns_iff,pcs_iff,mvs_iff,ir_iff,pts_iff,ride_iff,ptr_iff,two_iff,true_and,and_true] at h;first | simpa only [Prod.ext_iff] using h | simpa only [Prod.ext_iff,and_assoc] using h)) e hp
noncomputable def PPFL70:FuncId→Option (List AV→Option AV):=fun _=>none
theorem primsFL70:PrimsOk NC PPFL70:=primsOk_none
theorem cL70 (m:Pt):∀ lo H,CallOk NC lo 70 [.agg (ptRow m)] H (.agg (ptRow m)) H:=by
 refine contract saneNC primsFL70 (fn:=Try.f70) (by kernel_rfl) Try.func70 rfl rfl (by rfl) (by first | rfl | (split<;>first | rfl | (split<;>rfl))) ?_
 simp only [go_sem,reduceIte,reduceEqDiff,reduceAdd,reduceMul,reduceSub,reduceLeDiff,reduceLT,Nat.reduceBEq,reduceCtorEq,ptRow]
noncomputable def pL70:List AV→Option AV:=primOf (α:=(Pt)) (fun x=>[.agg (ptRow x)]) (fun x=>True) (fun x=>.agg (ptRow x))
theorem pokL70:∀ args v,pL70 args=some v → ∀ lo H,CallOk NC lo 70 args H v H:=by
 intro args v h
 obtain ⟨x,rfl,hp,rfl⟩:=primOf_inv h
 exact cL70 x
theorem peL70 (m:Pt):pL70 [.agg (ptRow m)]=some (.agg (ptRow m)):=primOf_enc (by intro x y h;(simp only [List.cons.injEq,AV.agg.injEq,AV.str.injEq,AV.int.injEq,AV.ps.injEq,AV.bool.injEq,Net.cells_iff,Ln.row_iff,Pc.row_iff,Mv.row_iff,lns_iff,pcs_iff,mvs_iff,ir_iff,pts_iff,ride_iff,ptr_iff,two_iff,true_and,and_true] at h;first | simpa only [Prod.ext_iff] using h | simpa only [Prod.ext_iff,and_assoc] using h)) m trivial
noncomputable def PPFL72:FuncId→Option (List AV→Option AV):=fun _=>none
theorem primsFL72:PrimsOk NC PPFL72:=primsOk_none
theorem cL72 (m:Pt):∀ lo H,CallOk NC lo 72 [.agg (ptRow m)] H (.agg (ptRow m)) H:=by
 refine contract saneNC primsFL72 (fn:=Try.f72) (by kernel_rfl) Try.func72 rfl rfl (by rfl) (by first | rfl | (split<;>first | rfl | (split<;>rfl))) ?_
 simp only [go_sem,reduceIte,reduceEqDiff,reduceAdd,reduceMul,reduceSub,reduceLeDiff,reduceLT,Nat.reduceBEq,reduceCtorEq,ptRow]
noncomputable def pL72:List AV→Option AV:=primOf (α:=(Pt)) (fun x=>[.agg (ptRow x)]) (fun x=>True) (fun x=>.agg (ptRow x))
theorem pokL72:∀ args v,pL72 args=some v → ∀ lo H,CallOk NC lo 72 args H v H:=by
 intro args v h
 obtain ⟨x,rfl,hp,rfl⟩:=primOf_inv h
 exact cL72 x
theorem peL72 (m:Pt):pL72 [.agg (ptRow m)]=some (.agg (ptRow m)):=primOf_enc (by intro x y h;(simp only [List.cons.injEq,AV.agg.injEq,AV.str.injEq,AV.int.injEq,AV.ps.injEq,AV.bool.injEq,Net.cells_iff,Ln.row_iff,Pc.row_iff,Mv.row_iff,lns_iff,pcs_iff,mvs_iff,ir_iff,pts_iff,ride_iff,ptr_iff,two_iff,true_and,and_true] at h;first | simpa only [Prod.ext_iff] using h | simpa only [Prod.ext_iff,and_assoc] using h)) m trivial
theorem take_ptr {m:List Pt} {k:Nat} {x:Pt} (hx:m[k]? = some x):(m.take (k+1)).map ptRow=(m.take k).map ptRow++[ptRow x]:=take_map hx
theorem ptr_all (m:List Pt):(m.map ptRow).all (fun r=>decide (r.length=2))=true:=by
 rw [List.all_eq_true]
 intro r hr
 obtain ⟨x,_,rfl⟩:=List.mem_map.1 hr
 rfl
end Go.Sim

namespace Go.Sim
open Go Go.Proofs
set_option maxRecDepth 100000
set_option maxHeartbeats 16000000
theorem pr_iff (a b:Nat):prRow a=prRow b ↔ a=b:=by
 constructor
 · intro h;simp only [prRow,List.cons.injEq,AV.int.injEq,true_and,and_true] at h;omega
 · intro h;rw [h]
theorem dg_iff (a b:Nat):diag a=diag b ↔ a=b:=⟨diag_inj,fun h=>by rw [h]⟩
theorem when_f (e:Int):whenI false e=0:=rfl
theorem f00:firstI [0,0]=0:=rfl
theorem f000:firstI [0,0,0]=0:=rfl
theorem f0000:firstI [0,0,0,0]=0:=rfl
attribute [go_sem] when_f f00 f000 f0000
noncomputable def PPFL69:FuncId→Option (List AV→Option AV):=addPrim 70 pL70 (fun _=>none)
theorem primsFL69:PrimsOk NC PPFL69:=primsOk_add (primsOk_none) (by kernel_rfl) (by kernel_rfl) pokL70
theorem enFL69_70 {rec:Rec} {lo:Nat} {args:List AV} {H:Heap} {K:AV→Heap→Prop}:VO (aenter (NC.withPrims PPFL69) rec lo 70 args H) K=AO (pL70 args) fun v=>K v H:=enter_prim (by rfl) (by kernel_rfl)
attribute [go_sem ↓] enFL69_70
theorem cL69 (l:List Pt) (hp:l.length≤maxRows):∀ lo H,CallOk NC lo 69 [.ps .unk (l.map ptRow),.fn 70 [] []] H (.ps .unk (l.map ptRow)) H:=by
 refine contract saneNC primsFL69 (fn:=Try.f69) (by kernel_rfl) Try.func69 rfl rfl (by rfl) (by first | rfl | (split<;>first | rfl | (split<;>rfl))) ?_
 simp only [go_sem,reduceIte,reduceEqDiff,reduceAdd,reduceMul,reduceSub,reduceLeDiff,reduceLT,Nat.reduceBEq,reduceCtorEq]
 refine W_for (fun k T H M=>M=[]∧getT T 1=.fn 70 [] []∧getT T 8=.ps .unk (l.map ptRow)∧getT T 9=i64 (l.length:Nat)∧getT T 10=i64 k ∧ ∃ t,getT T 5=.ps t ((l.take k).map ptRow)∧AppB 0 H t ((l.take k).map ptRow) 2 148) l.length ?_ ?_ ?_
 · simp only [go_sem,reduceIte,reduceEqDiff,reduceAdd,reduceMul,reduceSub,reduceLeDiff,reduceLT,Nat.reduceBEq,reduceCtorEq,List.length_map];exact ⟨.nil,rfl,.inl ⟨rfl,rfl⟩⟩
 · rintro k T H M hk ⟨rfl,g1,g8,g9,g10,t,g5,hA⟩
   obtain ⟨x,hx⟩:∃ p,l[k]? = some p:=⟨l[k],by simp⟩
   have hr:=map_at (f:=ptRow) hx
   have hw:=wrap_succ hk hp
   obtain ⟨t',H2,ha,hA2,hn2,hO2,_⟩:=app_b (lo:=0) (hA.new (.cells [.str [],.int .i64 0] 49) (.cells (ptRow x) 49)) (Nat.zero_le _) (Nat.le_refl _) (r:=ptRow x) (by rw [List.length_map,List.length_take];omega) rfl (by decide) (ptr_all _)
   have e1:(ptRow x).map AV.strip0=ptRow x:=rfl
   rw [e1,← take_ptr hx] at ha hA2
   have e70:=peL70 x
   obtain ⟨a,b⟩:=x
   simp only [ptRow] at hr ha e70
   simp only [go_sem,reduceIte,reduceEqDiff,reduceAdd,reduceMul,reduceSub,reduceLeDiff,reduceLT,Nat.reduceBEq,reduceCtorEq,g1,g8,g9,g10,g5,hk,hr,hw,e70,appO,isIntT_slice,rowsIn,ha]
   exact ⟨t',rfl,hA2⟩
 · rintro T H M ⟨rfl,g1,g8,g9,g10,t,g5,hA⟩
   simp only [go_sem,reduceIte,reduceEqDiff,reduceAdd,reduceMul,reduceSub,reduceLeDiff,reduceLT,Nat.reduceBEq,reduceCtorEq,g1,g8,g9,g10,g5,Nat.lt_irrefl,List.take_length]
noncomputable def pL69:List AV→Option AV:=primOf (α:=(List Pt)) (fun x=>[.ps .unk (x.map ptRow),.fn 70 [] []]) (fun x=>x.length≤maxRows) (fun x=>.ps .unk (x.map ptRow))
theorem pokL69:∀ args v,pL69 args=some v → ∀ lo H,CallOk NC lo 69 args H v H:=by
 intro args v h
 obtain ⟨x,rfl,hp,rfl⟩:=primOf_inv h
 exact cL69 x hp
theorem peL69 (l:List Pt) (hp:l.length≤maxRows):pL69 [.ps .unk (l.map ptRow),.fn 70 [] []]=some (.ps .unk (l.map ptRow)):=primOf_enc (by intro x y h;(simp only [List.cons.injEq,AV.agg.injEq,AV.str.injEq,AV.int.injEq,AV.ps.injEq,AV.bool.injEq,Net.cells_iff,Ln.row_iff,Pc.row_iff,Mv.row_iff,lns_iff,pcs_iff,mvs_iff,ir_iff,pts_iff,ride_iff,ptr_iff,two_iff,pr_iff,dg_iff,true_and,and_true] at h;first | simpa only [Prod.ext_iff] using h | simpa only [Prod.ext_iff,and_assoc] using h)) l hp
noncomputable def PPFL71:FuncId→Option (List AV→Option AV):=addPrim 72 pL72 (fun _=>none)
theorem primsFL71:PrimsOk NC PPFL71:=primsOk_add (primsOk_none) (by kernel_rfl) (by kernel_rfl) pokL72
theorem enFL71_72 {rec:Rec} {lo:Nat} {args:List AV} {H:Heap} {K:AV→Heap→Prop}:VO (aenter (NC.withPrims PPFL71) rec lo 72 args H) K=AO (pL72 args) fun v=>K v H:=enter_prim (by rfl) (by kernel_rfl)
attribute [go_sem ↓] enFL71_72
theorem cL71 (l:List Pt) (hp:l.length≤maxRows):∀ lo H,CallOk NC lo 71 [.ps .unk (l.map ptRow),.fn 72 [] []] H (.ps .unk (l.map ptRow)) H:=by
 refine contract saneNC primsFL71 (fn:=Try.f71) (by kernel_rfl) Try.func71 rfl rfl (by rfl) (by first | rfl | (split<;>first | rfl | (split<;>rfl))) ?_
 simp only [go_sem,reduceIte,reduceEqDiff,reduceAdd,reduceMul,reduceSub,reduceLeDiff,reduceLT,Nat.reduceBEq,reduceCtorEq]
 refine W_for (fun k T H M=>M=[]∧getT T 1=.fn 72 [] []∧getT T 8=.ps .unk (l.map ptRow)∧getT T 9=i64 (l.length:Nat)∧getT T 10=i64 k ∧ ∃ t,getT T 5=.ps t ((l.take k).map ptRow)∧AppB 0 H t ((l.take k).map ptRow) 2 148) l.length ?_ ?_ ?_
 · simp only [go_sem,reduceIte,reduceEqDiff,reduceAdd,reduceMul,reduceSub,reduceLeDiff,reduceLT,Nat.reduceBEq,reduceCtorEq,List.length_map];exact ⟨.nil,rfl,.inl ⟨rfl,rfl⟩⟩
 · rintro k T H M hk ⟨rfl,g1,g8,g9,g10,t,g5,hA⟩
   obtain ⟨x,hx⟩:∃ p,l[k]? = some p:=⟨l[k],by simp⟩
   have hr:=map_at (f:=ptRow) hx
   have hw:=wrap_succ hk hp
   obtain ⟨t',H2,ha,hA2,hn2,hO2,_⟩:=app_b (lo:=0) (hA.new (.cells [.str [],.int .i64 0] 57) (.cells (ptRow x) 57)) (Nat.zero_le _) (Nat.le_refl _) (r:=ptRow x) (by rw [List.length_map,List.length_take];omega) rfl (by decide) (ptr_all _)
   have e1:(ptRow x).map AV.strip0=ptRow x:=rfl
   rw [e1,← take_ptr hx] at ha hA2
   have e70:=peL72 x
   obtain ⟨a,b⟩:=x
   simp only [ptRow] at hr ha e70
   simp only [go_sem,reduceIte,reduceEqDiff,reduceAdd,reduceMul,reduceSub,reduceLeDiff,reduceLT,Nat.reduceBEq,reduceCtorEq,g1,g8,g9,g10,g5,hk,hr,hw,e70,appO,isIntT_slice,rowsIn,ha]
   exact ⟨t',rfl,hA2⟩
 · rintro T H M ⟨rfl,g1,g8,g9,g10,t,g5,hA⟩
   simp only [go_sem,reduceIte,reduceEqDiff,reduceAdd,reduceMul,reduceSub,reduceLeDiff,reduceLT,Nat.reduceBEq,reduceCtorEq,g1,g8,g9,g10,g5,Nat.lt_irrefl,List.take_length]
noncomputable def pL71:List AV→Option AV:=primOf (α:=(List Pt)) (fun x=>[.ps .unk (x.map ptRow),.fn 72 [] []]) (fun x=>x.length≤maxRows) (fun x=>.ps .unk (x.map ptRow))
theorem pokL71:∀ args v,pL71 args=some v → ∀ lo H,CallOk NC lo 71 args H v H:=by
 intro args v h
 obtain ⟨x,rfl,hp,rfl⟩:=primOf_inv h
 exact cL71 x hp
theorem peL71 (l:List Pt) (hp:l.length≤maxRows):pL71 [.ps .unk (l.map ptRow),.fn 72 [] []]=some (.ps .unk (l.map ptRow)):=primOf_enc (by intro x y h;(simp only [List.cons.injEq,AV.agg.injEq,AV.str.injEq,AV.int.injEq,AV.ps.injEq,AV.bool.injEq,Net.cells_iff,Ln.row_iff,Pc.row_iff,Mv.row_iff,lns_iff,pcs_iff,mvs_iff,ir_iff,pts_iff,ride_iff,ptr_iff,two_iff,pr_iff,dg_iff,true_and,and_true] at h;first | simpa only [Prod.ext_iff] using h | simpa only [Prod.ext_iff,and_assoc] using h)) l hp
noncomputable def PPFL68:FuncId→Option (List AV→Option AV):=addPrim 19 pL19 (addPrim 44 pL44 (addPrim 22 pL22 (addPrim 78 p182 (fun _=>none))))
theorem primsFL68:PrimsOk NC PPFL68:=primsOk_add (primsOk_add (primsOk_add (primsOk_add (primsOk_none) (by kernel_rfl) (by kernel_rfl) pok182) (by kernel_rfl) (by kernel_rfl) pokL22) (by kernel_rfl) (by kernel_rfl) pokL44) (by kernel_rfl) (by kernel_rfl) pokL19
theorem enFL68_78:En PPFL68 78 p182:=enter_prim (by rfl) (by kernel_rfl)
theorem enFL68_22 {rec:Rec} {lo:Nat} {args:List AV} {H:Heap} {K:AV→Heap→Prop}:VO (aenter (NC.withPrims PPFL68) rec lo 22 args H) K=AO (pL22 args) fun v=>K v H:=enter_prim (by rfl) (by kernel_rfl)
theorem enFL68_44 {rec:Rec} {lo:Nat} {args:List AV} {H:Heap} {K:AV→Heap→Prop}:VO (aenter (NC.withPrims PPFL68) rec lo 44 args H) K=AO (pL44 args) fun v=>K v H:=enter_prim (by rfl) (by kernel_rfl)
theorem enFL68_19 {rec:Rec} {lo:Nat} {args:List AV} {H:Heap} {K:AV→Heap→Prop}:VO (aenter (NC.withPrims PPFL68) rec lo 19 args H) K=AO (pL19 args) fun v=>K v H:=enter_prim (by rfl) (by kernel_rfl)
attribute [go_sem ↓] enFL68_78 enFL68_22 enFL68_44 enFL68_19
theorem cL68 (l:List Pt) (hp:ThOk l):∀ lo H,CallOk NC lo 68 [.ps .unk (l.map ptRow),i64 64] H (i64 0) H:=by
 refine contract saneNC primsFL68 (fn:=Try.f68) (by kernel_rfl) Try.func68 rfl rfl (by rfl) (by first | rfl | (split<;>first | rfl | (split<;>rfl))) ?_
 have h64:((64:Int) < l.length)=False:=eq_false (by have:=hp.few;omega)
 have hl:l.length≤maxRows:=by have:=hp.few;unfold maxRows;omega
 simp only [go_sem,reduceIte,reduceEqDiff,reduceAdd,reduceMul,reduceSub,reduceLeDiff,reduceLT,Nat.reduceBEq,reduceCtorEq,List.length_map,h64]
 refine W_for (fun k T H M=>M=[]∧getT T 13=.ps .unk (l.map ptRow)∧getT T 14=i64 (l.length:Nat)∧getT T 15=i64 k ∧ ∃ q,getT T 5=i64 q ∧ ∀ x,l[k]? = some x→q < x.2) l.length ?_ ?_ ?_
 · simp only [go_sem,reduceIte,reduceEqDiff,reduceAdd,reduceMul,reduceSub,reduceLeDiff,reduceLT,Nat.reduceBEq,reduceCtorEq,List.length_map]
   exact ⟨-1,rfl,fun x hx=>by have:=(hp.name x (List.mem_of_getElem? hx)).2.2.1;omega⟩
 · rintro k T H M hk ⟨rfl,g13,g14,g15,q,g5,hq⟩
   obtain ⟨x,hx⟩:∃ p,l[k]? = some p:=⟨l[k],by simp⟩
   have hr:=map_at (f:=ptRow) hx
   have hw:=wrap_succ hk hl
   have hlt:=hq x hx
   have hasc:=hp.asc k x
   obtain ⟨n1,n2,n3,n4⟩:=hp.name x (List.mem_of_getElem? hx)
   obtain ⟨a,b⟩:=x
   simp only at n1 n2 n3 n4 hlt hasc
   have e182:=e182 a n2
   rw [n1] at e182
   have hlt':=eq_true hlt
   have hrg:=lrange_in (n:=b) (a:=0) (b:=100000000) n3 (by omega)
   simp only [ptRow] at hr
   simp only [go_sem,reduceIte,reduceEqDiff,reduceAdd,reduceMul,reduceSub,reduceLeDiff,reduceLT,Nat.reduceBEq,reduceCtorEq,g13,g14,g15,g5,hk,hr,hw,e182,hlt',hrg]
   exact ⟨b,rfl,fun y hy=>hasc y hx hy⟩
 · rintro T H M ⟨rfl,g13,g14,g15,q,g5,hq⟩
   simp only [go_sem,reduceIte,reduceEqDiff,reduceAdd,reduceMul,reduceSub,reduceLeDiff,reduceLT,Nat.reduceBEq,reduceCtorEq,g13,g14,g15,g5,Nat.lt_irrefl]
noncomputable def pL68:List AV→Option AV:=primOf (α:=(List Pt)) (fun x=>[.ps .unk (x.map ptRow),i64 64]) (fun x=>ThOk x) (fun x=>i64 0)
theorem pokL68:∀ args v,pL68 args=some v → ∀ lo H,CallOk NC lo 68 args H v H:=by
 intro args v h
 obtain ⟨x,rfl,hp,rfl⟩:=primOf_inv h
 exact cL68 x hp
theorem peL68 (l:List Pt) (hp:ThOk l):pL68 [.ps .unk (l.map ptRow),.int .i64 64]=some (.int .i64 0):=primOf_enc (by intro x y h;(simp only [List.cons.injEq,AV.agg.injEq,AV.str.injEq,AV.int.injEq,AV.ps.injEq,AV.bool.injEq,Net.cells_iff,Ln.row_iff,Pc.row_iff,Mv.row_iff,lns_iff,pcs_iff,mvs_iff,ir_iff,pts_iff,ride_iff,ptr_iff,two_iff,pr_iff,dg_iff,true_and,and_true] at h;first | simpa only [Prod.ext_iff] using h | simpa only [Prod.ext_iff,and_assoc] using h)) l hp
structure RdOk (ms:List Pt):Prop where
 th:ThOk ms
 few:∀ x ∈ ms,x.2≤500
theorem RdOk.dbl {ms:List Pt} (h:RdOk ms):ThOk (ms.map dbl) where
 few:=by rw [List.length_map];exact h.th.few
 name:=fun x hx=>by
  obtain ⟨y,hy,rfl⟩:=List.mem_map.1 hx
  have:=h.th.name y hy
  have:=h.few y hy
  exact ⟨(h.th.name y hy).1,(h.th.name y hy).2.1,by show 0≤2 * y.2;omega,by show 2 * y.2≤1000;omega⟩
 asc:=fun i x y hx hy=>by
  rw [List.getElem?_map] at hx hy
  obtain ⟨x',h1,rfl⟩:=Option.map_eq_some_iff.1 hx
  obtain ⟨y',h2,rfl⟩:=Option.map_eq_some_iff.1 hy
  have:=h.th.asc i x' y' h1 h2
  show 2 * x'.2 < 2 * y'.2;omega
theorem RdOk.len {ms:List Pt} (h:RdOk ms):ms.length≤maxRows:=by have:=h.th.few;unfold maxRows;omega
noncomputable def PPFL42:FuncId→Option (List AV→Option AV):=addPrim 19 pL19 (addPrim 68 pL68 (addPrim 71 pL71 (addPrim 69 pL69 (fun _=>none))))
theorem primsFL42:PrimsOk NC PPFL42:=primsOk_add (primsOk_add (primsOk_add (primsOk_add (primsOk_none) (by kernel_rfl) (by kernel_rfl) pokL69) (by kernel_rfl) (by kernel_rfl) pokL71) (by kernel_rfl) (by kernel_rfl) pokL68) (by kernel_rfl) (by kernel_rfl) pokL19
theorem enFL42_69 {rec:Rec} {lo:Nat} {args:List AV} {H:Heap} {K:AV→Heap→Prop}:VO (aenter (NC.withPrims PPFL42) rec lo 69 args H) K=AO (pL69 args) fun v=>K v H:=enter_prim (by rfl) (by kernel_rfl)
theorem enFL42_71 {rec:Rec} {lo:Nat} {args:List AV} {H:Heap} {K:AV→Heap→Prop}:VO (aenter (NC.withPrims PPFL42) rec lo 71 args H) K=AO (pL71 args) fun v=>K v H:=enter_prim (by rfl) (by kernel_rfl)
theorem enFL42_68 {rec:Rec} {lo:Nat} {args:List AV} {H:Heap} {K:AV→Heap→Prop}:VO (aenter (NC.withPrims PPFL42) rec lo 68 args H) K=AO (pL68 args) fun v=>K v H:=enter_prim (by rfl) (by kernel_rfl)
theorem enFL42_19 {rec:Rec} {lo:Nat} {args:List AV} {H:Heap} {K:AV→Heap→Prop}:VO (aenter (NC.withPrims PPFL42) rec lo 19 args H) K=AO (pL19 args) fun v=>K v H:=enter_prim (by rfl) (by kernel_rfl)
attribute [go_sem ↓] enFL42_69 enFL42_71 enFL42_68 enFL42_19
theorem cL42 (ms:List Pt) (hp:RdOk ms):∀ lo H,CallOk NC lo 42 [.agg (rideRow ms)] H (i64 0) H:=by
 refine contract saneNC primsFL42 (fn:=Try.f42) (by kernel_rfl) Try.func42 rfl rfl (by rfl) (by first | rfl | (split<;>first | rfl | (split<;>rfl))) ?_
 have e1:=peL69 ms hp.len
 have e2:=peL71 (ms.map dbl) (by rw [List.length_map];exact hp.len)
 have e3:=peL68 ms hp.th
 have e4:=peL68 (ms.map dbl) hp.dbl
 simp only [go_sem,reduceIte,reduceEqDiff,reduceAdd,reduceMul,reduceSub,reduceLeDiff,reduceLT,Nat.reduceBEq,reduceCtorEq,rideRow,e1,e2,e3,e4]
noncomputable def pL42:List AV→Option AV:=primOf (α:=(List Pt)) (fun x=>[.agg (rideRow x)]) (fun x=>RdOk x) (fun x=>i64 0)
theorem pokL42:∀ args v,pL42 args=some v → ∀ lo H,CallOk NC lo 42 args H v H:=by
 intro args v h
 obtain ⟨x,rfl,hp,rfl⟩:=primOf_inv h
 exact cL42 x hp
theorem peL42 (ms:List Pt) (hp:RdOk ms):pL42 [.agg (rideRow ms)]=some (.int .i64 0):=primOf_enc (by intro x y h;(simp only [List.cons.injEq,AV.agg.injEq,AV.str.injEq,AV.int.injEq,AV.ps.injEq,AV.bool.injEq,Net.cells_iff,Ln.row_iff,Pc.row_iff,Mv.row_iff,lns_iff,pcs_iff,mvs_iff,ir_iff,pts_iff,ride_iff,ptr_iff,two_iff,pr_iff,dg_iff,true_and,and_true] at h;first | simpa only [Prod.ext_iff] using h | simpa only [Prod.ext_iff,and_assoc] using h)) ms hp
noncomputable def PPFL43:FuncId→Option (List AV→Option AV):=fun _=>none
theorem primsFL43:PrimsOk NC PPFL43:=primsOk_none
theorem cL43 (ms:List Pt) (i:Nat) (hp:i < ms.length∧ms.length≤maxRows):∀ lo H,CallOk NC lo 43 [.agg (rideRow ms),.agg (prRow i)] H (.bool true) H:=by
 refine contract saneNC primsFL43 (fn:=Try.f43) (by kernel_rfl) Try.func43 rfl rfl (by rfl) (by first | rfl | (split<;>first | rfl | (split<;>rfl))) ?_
 obtain ⟨hi,hl⟩:=hp
 obtain ⟨x,hx⟩:∃ p,ms[i]? = some p:=⟨ms[i],by simp⟩
 have h1:=map_at (f:=ptRow) hx
 have h2:=map_at (f:=ptRow) (map_at (f:=dbl) hx)
 have hb:beqL x.1 x.1=true:=(beqL_iff _ _).2 rfl
 obtain ⟨a,b⟩:=x
 simp only [ptRow,dbl] at h1 h2
 simp only at hb
 simp only [go_sem,reduceIte,reduceEqDiff,reduceAdd,reduceMul,reduceSub,reduceLeDiff,reduceLT,Nat.reduceBEq,reduceCtorEq,rideRow,prRow,List.length_map,hi,h1,h2,hb]
noncomputable def pL43:List AV→Option AV:=primOf (α:=(List Pt) × (Nat)) (fun x=>[.agg (rideRow x.1),.agg (prRow x.2)]) (fun x=>x.2 < x.1.length∧x.1.length≤maxRows) (fun x=>.bool true)
theorem pokL43:∀ args v,pL43 args=some v → ∀ lo H,CallOk NC lo 43 args H v H:=by
 intro args v h
 obtain ⟨x,rfl,hp,rfl⟩:=primOf_inv h
 exact cL43 x.1 x.2 hp
theorem peL43 (ms:List Pt) (i:Nat) (hp:i < ms.length∧ms.length≤maxRows):pL43 [.agg (rideRow ms),.agg (prRow i)]=some (.bool true):=primOf_enc (by intro x y h;(simp only [List.cons.injEq,AV.agg.injEq,AV.str.injEq,AV.int.injEq,AV.ps.injEq,AV.bool.injEq,Net.cells_iff,Ln.row_iff,Pc.row_iff,Mv.row_iff,lns_iff,pcs_iff,mvs_iff,ir_iff,pts_iff,ride_iff,ptr_iff,two_iff,pr_iff,dg_iff,true_and,and_true] at h;first | simpa only [Prod.ext_iff] using h | simpa only [Prod.ext_iff,and_assoc] using h)) (ms,i) hp
theorem aeq68' (a b c d:Int):aeqT NC.P 100 68 (.agg [.int .i64 a,.int .i64 b]) (.agg [.int .i64 c,.int .i64 d]) =
 (match some (eqI a c) with
   | some true=>(match some (eqI b d) with
     | some true=>some true
     | some false=>some false
     | none=>none)
   | some false=>some false
   | none=>none):=by kernel_rfl
theorem aeq68 (a b c d:Int):aeqT NC.P 100 68 (.agg [.int .i64 a,.int .i64 b]) (.agg [.int .i64 c,.int .i64 d])=some (eqI a c && eqI b d):=by
 rw [aeq68']
 cases eqI a c<;>cases eqI b d<;>rfl
noncomputable def PPFL20:FuncId→Option (List AV→Option AV):=addPrim 43 pL43 (addPrim 19 pL19 (addPrim 22 pL22 (addPrim 42 pL42 (fun _=>none))))
theorem primsFL20:PrimsOk NC PPFL20:=primsOk_add (primsOk_add (primsOk_add (primsOk_add (primsOk_none) (by kernel_rfl) (by kernel_rfl) pokL42) (by kernel_rfl) (by kernel_rfl) pokL22) (by kernel_rfl) (by kernel_rfl) pokL19) (by kernel_rfl) (by kernel_rfl) pokL43
theorem enFL20_42 {rec:Rec} {lo:Nat} {args:List AV} {H:Heap} {K:AV→Heap→Prop}:VO (aenter (NC.withPrims PPFL20) rec lo 42 args H) K=AO (pL42 args) fun v=>K v H:=enter_prim (by rfl) (by kernel_rfl)
theorem enFL20_22 {rec:Rec} {lo:Nat} {args:List AV} {H:Heap} {K:AV→Heap→Prop}:VO (aenter (NC.withPrims PPFL20) rec lo 22 args H) K=AO (pL22 args) fun v=>K v H:=enter_prim (by rfl) (by kernel_rfl)
theorem enFL20_19 {rec:Rec} {lo:Nat} {args:List AV} {H:Heap} {K:AV→Heap→Prop}:VO (aenter (NC.withPrims PPFL20) rec lo 19 args H) K=AO (pL19 args) fun v=>K v H:=enter_prim (by rfl) (by kernel_rfl)
theorem enFL20_43 {rec:Rec} {lo:Nat} {args:List AV} {H:Heap} {K:AV→Heap→Prop}:VO (aenter (NC.withPrims PPFL20) rec lo 43 args H) K=AO (pL43 args) fun v=>K v H:=enter_prim (by rfl) (by kernel_rfl)
attribute [go_sem ↓] enFL20_42 enFL20_22 enFL20_19 enFL20_43
theorem cL20 (ms:List Pt) (m:Nat) (hp:RdOk ms∧m≤ms.length):∀ lo H,CallOk NC lo 20 [.agg (rideRow ms),.ps .unk (diag m)] H (i64 0) H:=by
 refine contract saneNC primsFL20 (fn:=Try.f20) (by kernel_rfl) Try.func20 rfl rfl (by rfl) (by first | rfl | (split<;>first | rfl | (split<;>rfl))) ?_
 obtain ⟨hR,hm⟩:=hp
 have hl:=hR.len
 have hml:m≤maxRows:=Nat.le_trans hm hl
 have e42:=peL42 ms hR
 have h64:((64:Int) < m)=False:=eq_false (by have:=hR.th.few;omega)
 simp only [rideRow] at e42
 simp only [go_sem,reduceIte,reduceEqDiff,reduceAdd,reduceMul,reduceSub,reduceLeDiff,reduceLT,Nat.reduceBEq,reduceCtorEq,rideRow,diag_len,h64,e42]
 refine W_for (fun k T H M=>M=[]∧getT T 2=.ptr 0 0∧getT T 6=.ptr 1 0∧getT T 22=.ps .unk (diag m)∧getT T 23=i64 (m:Nat)∧getT T 24=i64 k∧1 < H.n∧H.get 0=.cells (rideRow ms) 53 ∧ ∃ q,H.get 1=.cells [.int .i64 q,.int .i64 q] 68∧q < k) m ?_ ?_ ?_
 · simp only [go_sem,reduceIte,reduceEqDiff,reduceAdd,reduceMul,reduceSub,reduceLeDiff,reduceLT,Nat.reduceBEq,reduceCtorEq,rideRow,diag_len]
   exact ⟨-1,rfl,by decide⟩
 · rintro k T H M hk ⟨rfl,g2,g6,g22,g23,g24,hn,h0,q,h1,hq⟩
   have hr:=diag_at hk
   have hw:=wrap_succ hk hml
   have hkm:k < ms.length:=by omega
   have e43:=peL43 ms k ⟨hkm,hl⟩
   have y0:(0=H.n)=False∧(1=H.n)=False∧(H.n=0)=False∧(H.n=1)=False:=by simp only [eq_iff_iff,iff_false];omega
   have y1:(1 < H.n+1)=True:=eq_true (by omega)
   have k0:((k:Int) < 0)=False:=eq_false (by omega)
   have hq':=eq_true hq
   simp only [prRow,rideRow] at hr e43 h0
   simp only [go_sem,reduceIte,reduceEqDiff,reduceAdd,reduceMul,reduceSub,reduceLeDiff,reduceLT,Nat.reduceBEq,reduceCtorEq,g2,g6,g22,g23,g24,h0,h1,hk,hr,hw,diag_len,List.length_map,rideRow,y0,y1,k0,hkm,e43,hq']
   exact ⟨_,rfl,by omega⟩
 · rintro T H M ⟨rfl,g2,g6,g22,g23,g24,hn,h0,q,h1,hq⟩
   simp only [go_sem,reduceIte,reduceEqDiff,reduceAdd,reduceMul,reduceSub,reduceLeDiff,reduceLT,Nat.reduceBEq,reduceCtorEq,g2,g6,g22,g23,g24,Nat.lt_irrefl]
noncomputable def pL20:List AV→Option AV:=primOf (α:=(List Pt) × (Nat)) (fun x=>[.agg (rideRow x.1),.ps .unk (diag x.2)]) (fun x=>RdOk x.1∧x.2≤x.1.length) (fun x=>i64 0)
theorem pokL20:∀ args v,pL20 args=some v → ∀ lo H,CallOk NC lo 20 args H v H:=by
 intro args v h
 obtain ⟨x,rfl,hp,rfl⟩:=primOf_inv h
 exact cL20 x.1 x.2 hp
theorem peL20 (ms:List Pt) (m:Nat) (hp:RdOk ms∧m≤ms.length):pL20 [.agg (rideRow ms),.ps .unk (diag m)]=some (.int .i64 0):=primOf_enc (by intro x y h;(simp only [List.cons.injEq,AV.agg.injEq,AV.str.injEq,AV.int.injEq,AV.ps.injEq,AV.bool.injEq,Net.cells_iff,Ln.row_iff,Pc.row_iff,Mv.row_iff,lns_iff,pcs_iff,mvs_iff,ir_iff,pts_iff,ride_iff,ptr_iff,two_iff,pr_iff,dg_iff,true_and,and_true] at h;first | simpa only [Prod.ext_iff] using h | simpa only [Prod.ext_iff,and_assoc] using h)) (ms,m) hp
end Go.Sim
