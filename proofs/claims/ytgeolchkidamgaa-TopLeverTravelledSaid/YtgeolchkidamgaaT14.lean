/-
Lemmas of one proof, the texts LtC to LtF joined.
-/
import Derived.Test.YtgeolchkidamgaaT13
set_option linter.unusedSimpArgs false
set_option linter.unusedVariables false
open Nat (reduceEqDiff reduceAdd reduceMul reduceSub reduceLeDiff reduceLT)

namespace Go.Sim
open Go Go.Proofs
set_option maxRecDepth 100000
set_option maxHeartbeats 16000000
def pr2 (i j:Nat):List AV:=[.int .i64 (i:Int),.int .i64 (i:Int),.int .i64 (j:Int),.int .i64 (j:Int)]
theorem prj_iff (a b c d:Nat):pr2 a b=pr2 c d ↔ a=c∧b=d:=by
 constructor
 · intro h;simp only [pr2,List.cons.injEq,AV.int.injEq,true_and,and_true] at h;omega
 · rintro ⟨rfl,rfl⟩;rfl
theorem ety68:eqType NC.P 100 68=true:=by kernel_rfl
theorem ThOk.mono {l:List Pt} (h:ThOk l):∀ {j i:Nat} {x y:Pt},i < j→l[i]? = some x→l[j]? = some y→x.2 < y.2
 | 0,i,x,y,hij,_,_=>absurd hij (Nat.not_lt_zero _)
 | j+1,i,x,y,hij,hx,hy=>by
   by_cases e:i=j
   · subst e;exact h.asc i x y hx hy
   · obtain ⟨z,hz⟩:∃ z,l[j]? = some z:=⟨l[j]'(by have:=(List.getElem?_eq_some_iff.1 hy).1;omega),by simp⟩
     have h1:=h.mono (j:=j) (i:=i) (by omega) hx hz
     have h2:=h.asc j z y hz hy
     omega
theorem sub_in {a b:Int} (h1:0≤b) (h2:b≤a) (h3:a≤100000):wrapq .i64 (Int.sub a b)=a - b:=wrapq_i64 (by show _≤a - b;omega) (by show a - b≤_;omega)
theorem add_in {a b:Int} (h1:-100000≤a) (h2:a≤100000) (h3:-100000≤b) (h4:b≤100000):wrapq .i64 (Int.add a b)=a+b:=wrapq_i64 (by show _≤a+b;omega) (by show a+b≤_;omega)
noncomputable def PPFL26:FuncId→Option (List AV→Option AV):=addPrim 25 pL25 (addPrim 46 pL46 (fun _=>none))
theorem primsFL26:PrimsOk NC PPFL26:=primsOk_add (primsOk_add (primsOk_none) (by kernel_rfl) (by kernel_rfl) pokL46) (by kernel_rfl) (by kernel_rfl) pokL25
theorem enFL26_46 {rec:Rec} {lo:Nat} {args:List AV} {H:Heap} {K:AV→Heap→Prop}:VO (aenter (NC.withPrims PPFL26) rec lo 46 args H) K=AO (pL46 args) fun v=>K v H:=enter_prim (by rfl) (by kernel_rfl)
theorem enFL26_25 {rec:Rec} {lo:Nat} {args:List AV} {H:Heap} {K:AV→Heap→Prop}:VO (aenter (NC.withPrims PPFL26) rec lo 25 args H) K=AO (pL25 args) fun v=>K v H:=enter_prim (by rfl) (by kernel_rfl)
attribute [go_sem ↓] enFL26_46 enFL26_25
theorem cL26 (ms:List Pt) (i j:Nat) (hp:RdOk ms∧i < j∧j < ms.length):∀ lo H,CallOk NC lo 26 [.agg (rideRow ms),.agg (pr2 i j),.agg [i64 500,i64 0]] H (.bool false) H:=by
 refine contract saneNC primsFL26 (fn:=Try.f26) (by kernel_rfl) Try.func26 rfl rfl (by rfl) (by first | rfl | (split<;>first | rfl | (split<;>rfl))) ?_
 obtain ⟨hR,hij,hj⟩:=hp
 have hi:i < ms.length:=by omega
 obtain ⟨x,hx⟩:∃ p,ms[i]? = some p:=⟨ms[i],by simp⟩
 obtain ⟨y,hy⟩:∃ p,ms[j]? = some p:=⟨ms[j],by simp⟩
 have hlt:=hR.th.mono hij hx hy
 have nx:=hR.th.name x (List.mem_of_getElem? hx)
 have ny:=hR.few y (List.mem_of_getElem? hy)
 have h1:=map_at (f:=ptRow) hx
 have h2:=map_at (f:=ptRow) (map_at (f:=dbl) hx)
 have h3:=map_at (f:=ptRow) hy
 have h4:=map_at (f:=ptRow) (map_at (f:=dbl) hy)
 obtain ⟨xs,x⟩:=x
 obtain ⟨ys,y⟩:=y
 simp only at hlt nx ny
 have s1:=sub_in (a:=y) (b:=x) (by omega) (by omega) (by omega)
 have s2:wrapq .i64 (Int.sub (2 * y) (2 * x))=2 * (y - x):=by rw [sub_in (by omega) (by omega) (by omega)];omega
 generalize hE:y - x=e at s1 s2
 have e46:=peL46 e (2 * e) (by omega)
 have e25:=peL25 e (by omega)
 have w1:wrapq .i64 (Int.mul 2 0)=0:=rfl
 have w2:wrapq .i64 (Int.add 0 e)=e:=by rw [add_in (by omega) (by omega) (by omega) (by omega)];omega
 have w3:(e < 2 * e - e)=False:=eq_false (by omega)
 simp only [ptRow,dbl] at h1 h2 h3 h4
 simp only [go_sem,reduceIte,reduceEqDiff,reduceAdd,reduceMul,reduceSub,reduceLeDiff,reduceLT,Nat.reduceBEq,reduceCtorEq,rideRow,pr2,List.length_map,hi,hj,h1,h2,h3,h4,s1,s2,e46,e25,w1,w2,w3,natOf_2]
noncomputable def pL26:List AV→Option AV:=primOf (α:=(List Pt) × (Nat) × (Nat)) (fun x=>[.agg (rideRow x.1),.agg (pr2 x.2.1 x.2.2),.agg [i64 500,i64 0]]) (fun x=>RdOk x.1∧x.2.1 < x.2.2∧x.2.2 < x.1.length) (fun x=>.bool false)
theorem pokL26:∀ args v,pL26 args=some v → ∀ lo H,CallOk NC lo 26 args H v H:=by
 intro args v h
 obtain ⟨x,rfl,hp,rfl⟩:=primOf_inv h
 exact cL26 x.1 x.2.1 x.2.2 hp
theorem peL26 (ms:List Pt) (i j:Nat) (hp:RdOk ms∧i < j∧j < ms.length):pL26 [.agg (rideRow ms),.agg (pr2 i j),.agg [.int .i64 500,.int .i64 0]]=some (.bool false):=primOf_enc (by intro x y h;(simp only [List.cons.injEq,AV.agg.injEq,AV.str.injEq,AV.int.injEq,AV.ps.injEq,AV.bool.injEq,Net.cells_iff,Ln.row_iff,Pc.row_iff,Mv.row_iff,lns_iff,pcs_iff,mvs_iff,ir_iff,pts_iff,ride_iff,ptr_iff,two_iff,pr_iff,dg_iff,prj_iff,true_and,and_true] at h;first | simpa only [Prod.ext_iff] using h | simpa only [Prod.ext_iff,and_assoc] using h | exact Prod.ext h.1 h.2.2 | omega | exact h.1)) (ms,i,j) hp
theorem first_mark {ms:List Pt} {s:List Nat} (h:ms[0]? = some (s,0)):0 < ms.length:=(List.getElem?_eq_some_iff.1 h).1
theorem quarter {c q:Int} (h0:0≤c) (h1:c < q):(2 * (2 * c * q)+2 * q) / (2 * (2 * q))=c:=by
 have e:2 * (2 * c * q)+2 * q=2 * q+2 * (2 * q) * c:=by
  have:2 * c * q=2 * q * c:=by rw [Int.mul_assoc,Int.mul_comm c q,← Int.mul_assoc]
  rw [this]
  have:2 * (2 * q) * c=2 * (2 * q * c):=by rw [Int.mul_assoc]
  rw [this,Int.add_comm]
 rw [e,Int.add_mul_ediv_left _ _ (by omega),Int.ediv_eq_zero_of_lt (by omega) (by omega)]
 omega
noncomputable def PPFL23:FuncId→Option (List AV→Option AV):=addPrim 45 pL45 (fun _=>none)
theorem primsFL23:PrimsOk NC PPFL23:=primsOk_add (primsOk_none) (by kernel_rfl) (by kernel_rfl) pokL45
theorem enFL23_45 {rec:Rec} {lo:Nat} {args:List AV} {H:Heap} {K:AV→Heap→Prop}:VO (aenter (NC.withPrims PPFL23) rec lo 45 args H) K=AO (pL45 args) fun v=>K v H:=enter_prim (by rfl) (by kernel_rfl)
attribute [go_sem ↓] enFL23_45
theorem cL23 (ms:List Pt) (d:Int) (hp:RdOk ms∧(∃ s,ms[0]? = some (s,0))∧0≤d ∧ ∃ y,ms[ms.length - 1]? = some y∧d≤y.2):∀ lo H,CallOk NC lo 23 [.agg (rideRow ms),.ps .unk (diag ms.length),i64 (2 * d)] H (i64 d) H:=by
 refine contract saneNC primsFL23 (fn:=Try.f23) (by kernel_rfl) Try.func23 rfl rfl (by rfl) (by first | rfl | (split<;>first | rfl | (split<;>rfl))) ?_
 obtain ⟨hR,⟨s0,hs0⟩,hd0,y,hy,hdy⟩:=hp
 have hl:=hR.len
 have hpos:=first_mark hs0
 have hd5:d≤500:=by have:=hR.few y (List.mem_of_getElem? hy);omega
 simp only [go_sem,reduceIte,reduceEqDiff,reduceAdd,reduceMul,reduceSub,reduceLeDiff,reduceLT,Nat.reduceBEq,reduceCtorEq,rideRow,diag_len]
 refine W_for (fun k T H M=>M=[]∧getT T 2=.int .i64 (2 * d)∧getT T 3=.ptr 0 0∧getT T 7=.ptr 1 0∧getT T 15=.ps .unk (diag ms.length)∧getT T 16=i64 (ms.length:Nat)∧getT T 17=i64 k∧1 < H.n∧H.get 0=.cells (rideRow ms) 53 ∧ ∃ q:Int,H.get 1=.cells [.int .i64 q,.int .i64 q] 68∧q=(k:Int) - 1 ∧ ∀ x,0 < k→ms[k - 1]? = some x→x.2 < d) ms.length ?_ ?_ ?_
 · simp only [go_sem,reduceIte,reduceEqDiff,reduceAdd,reduceMul,reduceSub,reduceLeDiff,reduceLT,Nat.reduceBEq,reduceCtorEq,rideRow,diag_len]
   exact ⟨-1,rfl,by decide,by intro x hx;simp at hx⟩
 · rintro k T H M hk ⟨rfl,g2,g3,g7,g15,g16,g17,hn,h0,q,h1,hq,hall⟩
   have hr:=diag_at hk
   have hw:=wrap_succ hk hl
   obtain ⟨x,hx⟩:∃ p,ms[k]? = some p:=⟨ms[k],by simp⟩
   have nx:=hR.th.name x (List.mem_of_getElem? hx)
   have nx5:=hR.few x (List.mem_of_getElem? hx)
   have q1:=map_at (f:=ptRow) hx
   have q2:=map_at (f:=ptRow) (map_at (f:=dbl) hx)
   have y0:(0=H.n)=False∧(1=H.n)=False∧(H.n=0)=False∧(H.n=1)=False:=by simp only [eq_iff_iff,iff_false];omega
   have y1:(1 < H.n+1)=True:=eq_true (by omega)
   simp only [prRow,rideRow] at hr h0
   rcases Int.lt_trichotomy x.2 d with c | c | c
   · -- behind it
     have c1:(2 * x.2 < 2 * d)=True:=eq_true (by omega)
     obtain ⟨xs,x⟩:=x
     simp only [ptRow,dbl] at q1 q2
     simp only at c c1
     simp only [go_sem,reduceIte,reduceEqDiff,reduceAdd,reduceMul,reduceSub,reduceLeDiff,reduceLT,Nat.reduceBEq,reduceCtorEq,g2,g3,g7,g15,g16,g17,h0,h1,hk,hr,hw,diag_len,List.length_map,rideRow,y0,y1,q1,q2,c1]
     exact ⟨_,rfl,by omega,fun z _ hz=>by rw [Nat.add_sub_cancel,hx] at hz;cases hz;exact c⟩
   · -- at it
     have c1:(2 * x.2 < 2 * d)=False:=eq_false (by omega)
     have c2:(2 * d=2 * x.2)=True:=eq_true (by omega)
     have w1:=add_in (a:=x.2) (b:=2 * d) (by omega) (by omega) (by omega) (by omega)
     have w2:wrapq .i64 (Int.sub (x.2+2 * d) (2 * x.2))=d:=by rw [sub_in (by omega) (by omega) (by omega)];omega
     obtain ⟨xs,x⟩:=x
     simp only [ptRow,dbl] at q1 q2
     simp only at c c1 c2 w1 w2
     simp only [go_sem,reduceIte,reduceEqDiff,reduceAdd,reduceMul,reduceSub,reduceLeDiff,reduceLT,Nat.reduceBEq,reduceCtorEq,g2,g3,g7,g15,g16,g17,h0,h1,hk,hr,hw,diag_len,List.length_map,rideRow,y0,y1,q1,q2,c1,c2,w1,w2]
   · -- before it: between the last one and it
     have c1:(2 * x.2 < 2 * d)=False:=eq_false (by omega)
     have c2:(2 * d=2 * x.2)=False:=eq_false (by omega)
     have hk0:0 < k:=by
      rcases Nat.eq_zero_or_pos k with h | h
      · subst h;rw [hs0] at hx;cases hx;simp only at c;omega
      · exact h
     obtain ⟨j,rfl⟩:∃ j,k=j+1:=⟨k - 1,by omega⟩
     have hqj:q=(j:Int):=by omega
     subst hqj
     have hj:j < ms.length:=by omega
     obtain ⟨z,hz⟩:∃ p,ms[j]? = some p:=⟨ms[j],by simp⟩
     have nz:=hR.th.name z (List.mem_of_getElem? hz)
     have hzd:=hall z hk0 hz
     have r1:=map_at (f:=ptRow) hz
     have r2:=map_at (f:=ptRow) (map_at (f:=dbl) hz)
     have hj1:((j:Int) = -1)=False:=eq_false (by omega)
     have ae:=aeq68 (j:Int) (j:Int) (-1) (-1)
     have ei:eqI (j:Int) (-1)=false:=by rw [Bool.eq_false_iff];intro h;rw [eqI_iff,decide_eq_true_eq] at h;omega
     rw [ei] at ae
     have s1:wrapq .i64 (Int.sub (2 * d) (2 * z.2))=2 * (d - z.2):=by rw [sub_in (by omega) (by omega) (by omega)];omega
     have s2:=sub_in (a:=x.2) (b:=z.2) (by omega) (by omega) (by omega)
     have s3:wrapq .i64 (Int.sub (2 * x.2) (2 * z.2))=2 * (x.2 - z.2):=by rw [sub_in (by omega) (by omega) (by omega)];omega
     have hcq:0≤d - z.2∧d - z.2 < x.2 - z.2∧x.2 - z.2≤500:=by omega
     have w4:wrapq .i64 (Int.add z.2 (d - z.2))=d:=by rw [add_in (by omega) (by omega) (by omega) (by omega)];omega
     obtain ⟨xs,x⟩:=x
     obtain ⟨zs,z⟩:=z
     simp only at c c1 c2 s1 s2 s3 hcq w4
     generalize d - z=cc at s1 hcq w4
     generalize x - z=qq at s2 s3 hcq
     have hb:2 * cc * qq≤2 * 500 * 500:=Int.mul_le_mul (by omega) (by omega) (by omega) (by omega)
     have hb0:0≤2 * cc * qq:=Int.mul_nonneg (by omega) (by omega)
     have s4:wrapq .i64 (Int.mul (2 * cc) qq)=2 * cc * qq:=wrapq_i64 (by show _≤2 * cc * qq;omega) (by show 2 * cc * qq≤_;omega)
     have e45:=peL45 (2 * cc * qq) (2 * qq) (by omega)
     rw [quarter hcq.1 hcq.2.1] at e45
     simp only [ptRow,dbl] at q1 q2 r1 r2
     simp only [go_sem,reduceIte,reduceEqDiff,reduceAdd,reduceMul,reduceSub,reduceLeDiff,reduceLT,Nat.reduceBEq,reduceCtorEq,g2,g3,g7,g15,g16,g17,h0,h1,hk,hr,hw,diag_len,List.length_map,rideRow,y0,y1,q1,q2,r1,r2,hj,c1,c2,hj1,ety68,ae,s1,s2,s3,s4,e45,w4]
 · rintro T H M ⟨rfl,g2,g3,g7,g15,g16,g17,hn,h0,q,h1,hq,hall⟩
   have:=hall y hpos hy
   omega
noncomputable def pL23:List AV→Option AV:=primOf (α:=(List Pt) × (Int)) (fun x=>[.agg (rideRow x.1),.ps .unk (diag x.1.length),i64 (2 * x.2)]) (fun x=>RdOk x.1∧(∃ s,x.1[0]? = some (s,0))∧0≤x.2 ∧ ∃ y,x.1[x.1.length - 1]? = some y∧x.2≤y.2) (fun x=>i64 x.2)
theorem pokL23:∀ args v,pL23 args=some v → ∀ lo H,CallOk NC lo 23 args H v H:=by
 intro args v h
 obtain ⟨x,rfl,hp,rfl⟩:=primOf_inv h
 exact cL23 x.1 x.2 hp
theorem peL23 (ms:List Pt) (d:Int) (hp:RdOk ms∧(∃ s,ms[0]? = some (s,0))∧0≤d ∧ ∃ y,ms[ms.length - 1]? = some y∧d≤y.2):pL23 [.agg (rideRow ms),.ps .unk (diag ms.length),.int .i64 (2 * d)]=some (.int .i64 d):=primOf_enc (by intro x y h;(simp only [List.cons.injEq,AV.agg.injEq,AV.str.injEq,AV.int.injEq,AV.ps.injEq,AV.bool.injEq,Net.cells_iff,Ln.row_iff,Pc.row_iff,Mv.row_iff,lns_iff,pcs_iff,mvs_iff,ir_iff,pts_iff,ride_iff,ptr_iff,two_iff,pr_iff,dg_iff,prj_iff,true_and,and_true] at h;first | simpa only [Prod.ext_iff] using h | simpa only [Prod.ext_iff,and_assoc] using h | exact Prod.ext h.1 h.2.2 | omega | exact h.1)) (ms,d) hp
noncomputable def PPFL10:FuncId→Option (List AV→Option AV):=addPrim 23 pL23 (addPrim 19 pL19 (addPrim 22 pL22 (addPrim 21 pL21 (addPrim 20 pL20 (fun _=>none)))))
theorem primsFL10:PrimsOk NC PPFL10:=primsOk_add (primsOk_add (primsOk_add (primsOk_add (primsOk_add (primsOk_none) (by kernel_rfl) (by kernel_rfl) pokL20) (by kernel_rfl) (by kernel_rfl) pokL21) (by kernel_rfl) (by kernel_rfl) pokL22) (by kernel_rfl) (by kernel_rfl) pokL19) (by kernel_rfl) (by kernel_rfl) pokL23
theorem enFL10_20 {rec:Rec} {lo:Nat} {args:List AV} {H:Heap} {K:AV→Heap→Prop}:VO (aenter (NC.withPrims PPFL10) rec lo 20 args H) K=AO (pL20 args) fun v=>K v H:=enter_prim (by rfl) (by kernel_rfl)
theorem enFL10_21 {rec:Rec} {lo:Nat} {args:List AV} {H:Heap} {K:AV→Heap→Prop}:VO (aenter (NC.withPrims PPFL10) rec lo 21 args H) K=AO (pL21 args) fun v=>K v H:=enter_prim (by rfl) (by kernel_rfl)
theorem enFL10_22 {rec:Rec} {lo:Nat} {args:List AV} {H:Heap} {K:AV→Heap→Prop}:VO (aenter (NC.withPrims PPFL10) rec lo 22 args H) K=AO (pL22 args) fun v=>K v H:=enter_prim (by rfl) (by kernel_rfl)
theorem enFL10_19 {rec:Rec} {lo:Nat} {args:List AV} {H:Heap} {K:AV→Heap→Prop}:VO (aenter (NC.withPrims PPFL10) rec lo 19 args H) K=AO (pL19 args) fun v=>K v H:=enter_prim (by rfl) (by kernel_rfl)
theorem enFL10_23 {rec:Rec} {lo:Nat} {args:List AV} {H:Heap} {K:AV→Heap→Prop}:VO (aenter (NC.withPrims PPFL10) rec lo 23 args H) K=AO (pL23 args) fun v=>K v H:=enter_prim (by rfl) (by kernel_rfl)
attribute [go_sem ↓] enFL10_20 enFL10_21 enFL10_22 enFL10_19 enFL10_23
theorem cL10 (ms:List Pt) (d:Int) (hp:RdOk ms∧(∃ s,ms[0]? = some (s,0))∧0≤d ∧ ∃ y,ms[ms.length - 1]? = some y∧d≤y.2):∀ lo H,CallOk NC lo 10 [.agg (rideRow ms),.ps .unk (diag ms.length),i64 (2 * d)] H (.tup [i64 d,i64 0]) H:=by
 refine contract saneNC primsFL10 (fn:=Try.f10) (by kernel_rfl) Try.func10 rfl rfl (by rfl) (by first | rfl | (split<;>first | rfl | (split<;>rfl))) ?_
 have e23:=peL23 ms d hp
 obtain ⟨hR,⟨s0,hs0⟩,hd0,y,hy,hdy⟩:=hp
 have hpos:=first_mark hs0
 have hd5:d≤500:=by have:=hR.few y (List.mem_of_getElem? hy);omega
 have e20:=peL20 ms ms.length ⟨hR,Nat.le_refl _⟩
 have hrg:=lrange_in (n:=2 * d) (a:=0) (b:=100000000) (by omega) (by omega)
 have hn0:((ms.length:Int)=0)=False:=eq_false (by omega)
 simp only [rideRow] at e20 e23
 simp only [go_sem,reduceIte,reduceEqDiff,reduceAdd,reduceMul,reduceSub,reduceLeDiff,reduceLT,Nat.reduceBEq,reduceCtorEq,rideRow,diag_len,e20,e23,hrg,hn0]
noncomputable def pL10:List AV→Option AV:=primOf (α:=(List Pt) × (Int)) (fun x=>[.agg (rideRow x.1),.ps .unk (diag x.1.length),i64 (2 * x.2)]) (fun x=>RdOk x.1∧(∃ s,x.1[0]? = some (s,0))∧0≤x.2 ∧ ∃ y,x.1[x.1.length - 1]? = some y∧x.2≤y.2) (fun x=>.tup [i64 x.2,i64 0])
theorem pokL10:∀ args v,pL10 args=some v → ∀ lo H,CallOk NC lo 10 args H v H:=by
 intro args v h
 obtain ⟨x,rfl,hp,rfl⟩:=primOf_inv h
 exact cL10 x.1 x.2 hp
theorem peL10 (ms:List Pt) (d:Int) (hp:RdOk ms∧(∃ s,ms[0]? = some (s,0))∧0≤d ∧ ∃ y,ms[ms.length - 1]? = some y∧d≤y.2):pL10 [.agg (rideRow ms),.ps .unk (diag ms.length),.int .i64 (2 * d)]=some (.tup [.int .i64 d,.int .i64 0]):=primOf_enc (by intro x y h;(simp only [List.cons.injEq,AV.agg.injEq,AV.str.injEq,AV.int.injEq,AV.ps.injEq,AV.bool.injEq,Net.cells_iff,Ln.row_iff,Pc.row_iff,Mv.row_iff,lns_iff,pcs_iff,mvs_iff,ir_iff,pts_iff,ride_iff,ptr_iff,two_iff,pr_iff,dg_iff,prj_iff,true_and,and_true] at h;first | simpa only [Prod.ext_iff] using h | simpa only [Prod.ext_iff,and_assoc] using h | exact Prod.ext h.1 h.2.2 | omega | exact h.1)) (ms,d) hp
theorem diag1:diag 1=[[.int .i64 0,.int .i64 0]]:=rfl
theorem neg_in {a:Int} (h0:0≤a) (h1:a≤100000):aun .neg (.int .i64 a)=some (.int .i64 (-a)):=by
 have e:aun .neg (.int .i64 a)=some (.int .i64 (IntKind.wrap .i64 (0 - a))):=rfl
 have h64:((2:Int) ^ (IntKind.bits .i64))=18446744073709551616:=by decide
 have h63:((2:Int) ^ (IntKind.bits .i64 - 1))=9223372036854775808:=by decide
 rw [e,Int.zero_sub]
 unfold IntKind.wrap
 simp only [h64,h63]
 congr 2
 by_cases h:a=0
 · subst h;rfl
 · have e1:(-a) % 18446744073709551616=18446744073709551616 - a:=by omega
   rw [e1]
   have e2:(IntKind.signed .i64 && decide (18446744073709551616 - a ≥ 9223372036854775808))=true:=by
    rw [Bool.and_eq_true,decide_eq_true_eq]
    exact ⟨rfl,by omega⟩
   rw [e2]
   simp only [if_true]
   omega
noncomputable def PPFL12:FuncId→Option (List AV→Option AV):=addPrim 25 pL25 (addPrim 24 pL24 (addPrim 19 pL19 (addPrim 22 pL22 (addPrim 21 pL21 (addPrim 20 pL20 (fun _=>none))))))
theorem primsFL12:PrimsOk NC PPFL12:=primsOk_add (primsOk_add (primsOk_add (primsOk_add (primsOk_add (primsOk_add (primsOk_none) (by kernel_rfl) (by kernel_rfl) pokL20) (by kernel_rfl) (by kernel_rfl) pokL21) (by kernel_rfl) (by kernel_rfl) pokL22) (by kernel_rfl) (by kernel_rfl) pokL19) (by kernel_rfl) (by kernel_rfl) pokL24) (by kernel_rfl) (by kernel_rfl) pokL25
theorem enFL12_20 {rec:Rec} {lo:Nat} {args:List AV} {H:Heap} {K:AV→Heap→Prop}:VO (aenter (NC.withPrims PPFL12) rec lo 20 args H) K=AO (pL20 args) fun v=>K v H:=enter_prim (by rfl) (by kernel_rfl)
theorem enFL12_21 {rec:Rec} {lo:Nat} {args:List AV} {H:Heap} {K:AV→Heap→Prop}:VO (aenter (NC.withPrims PPFL12) rec lo 21 args H) K=AO (pL21 args) fun v=>K v H:=enter_prim (by rfl) (by kernel_rfl)
theorem enFL12_22 {rec:Rec} {lo:Nat} {args:List AV} {H:Heap} {K:AV→Heap→Prop}:VO (aenter (NC.withPrims PPFL12) rec lo 22 args H) K=AO (pL22 args) fun v=>K v H:=enter_prim (by rfl) (by kernel_rfl)
theorem enFL12_19 {rec:Rec} {lo:Nat} {args:List AV} {H:Heap} {K:AV→Heap→Prop}:VO (aenter (NC.withPrims PPFL12) rec lo 19 args H) K=AO (pL19 args) fun v=>K v H:=enter_prim (by rfl) (by kernel_rfl)
theorem enFL12_24 {rec:Rec} {lo:Nat} {args:List AV} {H:Heap} {K:AV→Heap→Prop}:VO (aenter (NC.withPrims PPFL12) rec lo 24 args H) K=AO (pL24 args) fun v=>K v H:=enter_prim (by rfl) (by kernel_rfl)
theorem enFL12_25 {rec:Rec} {lo:Nat} {args:List AV} {H:Heap} {K:AV→Heap→Prop}:VO (aenter (NC.withPrims PPFL12) rec lo 25 args H) K=AO (pL25 args) fun v=>K v H:=enter_prim (by rfl) (by kernel_rfl)
attribute [go_sem ↓] enFL12_20 enFL12_21 enFL12_22 enFL12_19 enFL12_24 enFL12_25
theorem cL12 (ms:List Pt) (d:Int) (hp:RdOk ms∧(∃ s,ms[0]? = some (s,0))∧0≤d∧d≤500):∀ lo H,CallOk NC lo 12 [.agg (rideRow ms),.ps .unk [[i64 0,i64 0]],.agg [i64 500,i64 0],i64 (2 * d)] H (.tup [.agg [i64 d,i64 (3 * d)],i64 0]) H:=by
 refine contract saneNC primsFL12 (fn:=Try.f12) (by kernel_rfl) Try.func12 rfl rfl (by rfl) (by first | rfl | (split<;>first | rfl | (split<;>rfl))) ?_
 obtain ⟨hR,⟨s0,hs0⟩,hd0,hd5⟩:=hp
 have hpos:=first_mark hs0
 have hpos':(0 < ms.length)=True:=eq_true hpos
 have e20:=peL20 ms 1 ⟨hR,hpos⟩
 rw [diag1] at e20
 have hrg:=lrange_in (n:=2 * d) (a:=0) (b:=100000000) (by omega) (by omega)
 have hr1:rangeI 500 0 500=0:=rfl
 have hr2:rangeI 0 0 10000=0:=rfl
 have q1:=map_at (f:=ptRow) hs0
 have q2:=map_at (f:=ptRow) (map_at (f:=dbl) hs0)
 have z0:(2:Int) * 0=0:=rfl
 simp only [ptRow,dbl,z0] at q1 q2
 have w1:wrapq .i64 (Int.sub (2 * d) 0)=2 * d:=by rw [sub_in (by omega) (by omega) (by omega)];omega
 have w2:wrapq .i64 (Int.add 0 (2 * d))=2 * d:=by rw [add_in (by omega) (by omega) (by omega) (by omega)];omega
 have w3:=neg_in (a:=2 * d) (by omega) (by omega)
 have w4:maxI (2 * d) (-(2 * d))=2 * d:=by unfold maxI;split<;>omega
 have e25:=peL25 d (by omega)
 have w5:wrapq .i64 (Int.add 0 d)=d:=by rw [add_in (by omega) (by omega) (by omega) (by omega)];omega
 have w6:wrapq .i64 (Int.sub (2 * d) d)=d:=by rw [sub_in (by omega) (by omega) (by omega)];omega
 have w7:wrapq .i64 (Int.add (2 * d) d)=3 * d:=by rw [add_in (by omega) (by omega) (by omega) (by omega)];omega
 have i10:((1:Int)=0)=False:=by simp
 have w8:(3 * d < d)=False:=eq_false (by omega)
 simp only [rideRow] at e20
 simp only [go_sem,reduceIte,reduceEqDiff,reduceAdd,reduceMul,reduceSub,reduceLeDiff,reduceLT,Nat.reduceBEq,reduceCtorEq,rideRow,e20,hrg,hr1,hr2,cast1,i10]
 refine W_for (fun k T H M=>M=[]∧getT T 3=.int .i64 (2 * d)∧getT T 4=.ptr 0 0∧getT T 6=.ptr 1 0∧getT T 8=.ptr 2 0∧getT T 11=.ptr 3 0∧getT T 34=.ps .unk [[.int .i64 0,.int .i64 0]]∧getT T 35=i64 1∧getT T 36=i64 k∧3 < H.n∧H.get 0=.cells (rideRow ms) 53∧H.get 1=.cells [.int .i64 500,.int .i64 0] 70∧(∃ u,H.get 2=.cells [.int .i64 u,.int .i64 u] 64)∧H.get 3=.cells (if k=0 then [.int .i64 0,.int .i64 0] else [.int .i64 d,.int .i64 (3 * d)]) 64) 1 ?_ ?_ ?_
 · simp only [go_sem,reduceIte,reduceEqDiff,reduceAdd,reduceMul,reduceSub,reduceLeDiff,reduceLT,Nat.reduceBEq,reduceCtorEq,rideRow]
   exact ⟨0,rfl⟩
 · rintro k T H M hk ⟨rfl,g3,g4,g6,g8,g11,g34,g35,g36,hn,h0,h1,⟨u,h2⟩,h3⟩
   obtain rfl:k=0:=by omega
   have y0:(0=H.n)=False∧(1=H.n)=False∧(2=H.n)=False∧(3=H.n)=False∧(H.n=0)=False∧(H.n=1)=False∧(H.n=3)=False:=by simp only [eq_iff_iff,iff_false];omega
   have y1:(3 < H.n+1)=True:=eq_true (by omega)
   have g36:getT T 36=.int .i64 0:=g36
   have i01:((0:Int) < 1)=True:=by simp
   simp only [rideRow,if_true] at h0 h3
   simp only [go_sem,reduceIte,reduceEqDiff,reduceAdd,reduceMul,reduceSub,reduceLeDiff,reduceLT,Nat.reduceBEq,reduceCtorEq,rideRow,g3,g4,g6,g8,g11,g34,g35,g36,h0,h1,h2,h3,y0,y1,i01,q1,q2,hpos',List.length_map,w1,w2,w3,w4,w5,w6,w7,e25]
   exact ⟨rfl,u,rfl⟩
 · rintro T H M ⟨rfl,g3,g4,g6,g8,g11,g34,g35,g36,hn,h0,h1,⟨u,h2⟩,h3⟩
   have g36:getT T 36=.int .i64 1:=g36
   have i11:((1:Int) < 1)=False:=by simp
   have e10:(1:Nat)=0 ↔ False:=by simp
   simp only [e10,if_false] at h3
   simp only [go_sem,reduceIte,reduceEqDiff,reduceAdd,reduceMul,reduceSub,reduceLeDiff,reduceLT,Nat.reduceBEq,reduceCtorEq,g3,g4,g6,g8,g11,g34,g35,g36,h0,h1,h2,h3,i11,w8]
noncomputable def pL12:List AV→Option AV:=primOf (α:=(List Pt) × (Int)) (fun x=>[.agg (rideRow x.1),.ps .unk [[i64 0,i64 0]],.agg [i64 500,i64 0],i64 (2 * x.2)]) (fun x=>RdOk x.1∧(∃ s,x.1[0]? = some (s,0))∧0≤x.2∧x.2≤500) (fun x=>.tup [.agg [i64 x.2,i64 (3 * x.2)],i64 0])
theorem pokL12:∀ args v,pL12 args=some v → ∀ lo H,CallOk NC lo 12 args H v H:=by
 intro args v h
 obtain ⟨x,rfl,hp,rfl⟩:=primOf_inv h
 exact cL12 x.1 x.2 hp
theorem peL12 (ms:List Pt) (d:Int) (hp:RdOk ms∧(∃ s,ms[0]? = some (s,0))∧0≤d∧d≤500):pL12 [.agg (rideRow ms),.ps .unk [[.int .i64 0,.int .i64 0]],.agg [.int .i64 500,.int .i64 0],.int .i64 (2 * d)]=some (.tup [.agg [.int .i64 d,.int .i64 (3 * d)],.int .i64 0]):=primOf_enc (by intro x y h;(simp only [List.cons.injEq,AV.agg.injEq,AV.str.injEq,AV.int.injEq,AV.ps.injEq,AV.bool.injEq,Net.cells_iff,Ln.row_iff,Pc.row_iff,Mv.row_iff,lns_iff,pcs_iff,mvs_iff,ir_iff,pts_iff,ride_iff,ptr_iff,two_iff,pr_iff,dg_iff,prj_iff,true_and,and_true] at h;first | simpa only [Prod.ext_iff] using h | simpa only [Prod.ext_iff,and_assoc] using h | exact Prod.ext h.1 h.2.2 | omega | exact h.1)) (ms,d) hp
theorem aeq104' (a b c d a' b' c' d':Int):aeqT NC.P 100 104 (.agg [.int .i64 a,.int .i64 b,.int .i64 c,.int .i64 d]) (.agg [.int .i64 a',.int .i64 b',.int .i64 c',.int .i64 d']) =
 (match (match some (eqI a a') with
   | some true=>(match some (eqI b b') with
     | some true=>some true
     | some false=>some false
     | none=>none)
   | some false=>some false
   | none=>none) with
   | some true=>(match (match some (eqI c c') with
     | some true=>(match some (eqI d d') with
       | some true=>some true
       | some false=>some false
       | none=>none)
     | some false=>some false
     | none=>none) with
     | some true=>some true
     | some false=>some false
     | none=>none)
   | some false=>some false
   | none=>none):=by kernel_rfl
theorem aeq104 (a b c d a' b' c' d':Int):aeqT NC.P 100 104 (.agg [.int .i64 a,.int .i64 b,.int .i64 c,.int .i64 d]) (.agg [.int .i64 a',.int .i64 b',.int .i64 c',.int .i64 d'])=some ((eqI a a' && eqI b b') && (eqI c c' && eqI d d')):=by
 rw [aeq104']
 cases eqI a a'<;>cases eqI b b'<;>cases eqI c c'<;>cases eqI d d'<;>rfl
theorem ab104 (a b c d:Int):abuild NC.P 104 [(0,.agg [.int .i64 a,.int .i64 b]),(1,.agg [.int .i64 c,.int .i64 d])]=some (.agg [.int .i64 a,.int .i64 b,.int .i64 c,.int .i64 d]):=by kernel_rfl
theorem ety104:eqType NC.P 100 104=true:=by kernel_rfl
theorem diag_all (n:Nat):(diag n).all (fun r=>decide (r.length=2))=true:=by
 rw [List.all_eq_true]
 intro r hr
 obtain ⟨x,_,rfl⟩:=List.mem_map.1 hr
 rfl
noncomputable def PPFL13:FuncId→Option (List AV→Option AV):=addPrim 26 pL26 (addPrim 19 pL19 (addPrim 24 pL24 (addPrim 20 pL20 (fun _=>none))))
theorem primsFL13:PrimsOk NC PPFL13:=primsOk_add (primsOk_add (primsOk_add (primsOk_add (primsOk_none) (by kernel_rfl) (by kernel_rfl) pokL20) (by kernel_rfl) (by kernel_rfl) pokL24) (by kernel_rfl) (by kernel_rfl) pokL19) (by kernel_rfl) (by kernel_rfl) pokL26
theorem enFL13_20 {rec:Rec} {lo:Nat} {args:List AV} {H:Heap} {K:AV→Heap→Prop}:VO (aenter (NC.withPrims PPFL13) rec lo 20 args H) K=AO (pL20 args) fun v=>K v H:=enter_prim (by rfl) (by kernel_rfl)
theorem enFL13_24 {rec:Rec} {lo:Nat} {args:List AV} {H:Heap} {K:AV→Heap→Prop}:VO (aenter (NC.withPrims PPFL13) rec lo 24 args H) K=AO (pL24 args) fun v=>K v H:=enter_prim (by rfl) (by kernel_rfl)
theorem enFL13_19 {rec:Rec} {lo:Nat} {args:List AV} {H:Heap} {K:AV→Heap→Prop}:VO (aenter (NC.withPrims PPFL13) rec lo 19 args H) K=AO (pL19 args) fun v=>K v H:=enter_prim (by rfl) (by kernel_rfl)
theorem enFL13_26 {rec:Rec} {lo:Nat} {args:List AV} {H:Heap} {K:AV→Heap→Prop}:VO (aenter (NC.withPrims PPFL13) rec lo 26 args H) K=AO (pL26 args) fun v=>K v H:=enter_prim (by rfl) (by kernel_rfl)
attribute [go_sem ↓] enFL13_20 enFL13_24 enFL13_19 enFL13_26
theorem cL13 (ms : List Pt) (hp : RdOk ms) : ∀ lo H, CallOk NC lo 13 [.agg (rideRow ms), .ps .unk (diag ms.length), .agg [i64 500, i64 0]] H (.tup [.ps .unk [], i64 0]) H := by
 refine contract saneNC primsFL13 (fn := Try.f13) (by kernel_rfl) Try.func13 rfl rfl (by rfl) (by first | rfl | (split <;> first | rfl | (split <;> rfl))) ?_
 have hl := hp.len
 have e20 := peL20 ms ms.length ⟨hp, Nat.le_refl _⟩
 have hr1 : rangeI 500 0 500 = 0 := rfl
 have hr2 : rangeI 0 0 10000 = 0 := rfl
 simp only [rideRow] at e20
 simp only [go_sem, reduceIte, reduceEqDiff, reduceAdd, reduceMul, reduceSub, reduceLeDiff, reduceLT, Nat.reduceBEq, reduceCtorEq, rideRow, e20, hr1, hr2, diag_len]
 refine W_for (fun k T H M => M = [] ∧ getT T 1 = .ps .unk (diag ms.length) ∧ getT T 3 = .ptr 0 0 ∧ getT T 5 = .ptr 1 0 ∧ getT T 9 = .ps .nil [] ∧ getT T 25 = .ps .unk (diag ms.length) ∧ getT T 26 = i64 (ms.length : Nat) ∧ getT T 27 = i64 k ∧ 1 < H.n ∧ H.get 0 = .cells (rideRow ms) 53 ∧ H.get 1 = .cells [.int .i64 500, .int .i64 0] 70) ms.length ?_ ?_ ?_
 · simp only [go_sem, reduceIte, reduceEqDiff, reduceAdd, reduceMul, reduceSub, reduceLeDiff, reduceLT, Nat.reduceBEq, reduceCtorEq, rideRow, diag_len]
 · rintro i T H M hi ⟨rfl, g1, g3, g5, g9, g25, g26, g27, hn, h0, h1⟩
   have hr := diag_at hi
   have hw := wrap_succ hi hl
   have y0 : (0 = H.n) = False ∧ (1 = H.n) = False ∧ (H.n = 0) = False ∧ (H.n = 1) = False := by simp only [eq_iff_iff, iff_false]; omega
   have hsl : aslice NC.P 58 (.ps .unk (diag ms.length)) (some (.int .i64 ((i : Nat) : Int))) none none = some (.ps .unk ((diag ms.length).drop i)) := aslice_drop (P := NC.P) (t := 58) (e := 68) (sz := 2) (by kernel_rfl) (by kernel_rfl) (diag_all _) (by rw [diag_len]; omega)
   have hdl : ((diag ms.length).drop i).length = ms.length - i := by rw [List.length_drop, diag_len]
   simp only [prRow, rideRow] at hr h0
   simp only [go_sem, reduceIte, reduceEqDiff, reduceAdd, reduceMul, reduceSub, reduceLeDiff, reduceLT, Nat.reduceBEq, reduceCtorEq, rideRow, g1, g3, g5, g9, g25, g26, g27, hi, hr, diag_len, y0, hsl, hdl]
   refine W_for (fun k T' H' M => M = [] ∧ getT T' 1 = .ps .unk (diag ms.length) ∧ getT T' 3 = .ptr 0 0 ∧ getT T' 5 = .ptr 1 0 ∧ getT T' 9 = .ps .nil [] ∧ getT T' 25 = .ps .unk (diag ms.length) ∧ getT T' 26 = i64 (ms.length : Nat) ∧ getT T' 27 = i64 i ∧ getT T' 11 = .ptr H.n 0 ∧ getT T' 34 = .ps .unk ((diag ms.length).drop i) ∧ getT T' 35 = i64 ((ms.length - i : Nat) : Nat) ∧ getT T' 36 = i64 k ∧ H.n < H'.n ∧ H'.get 0 = .cells (rideRow ms) 53 ∧ H'.get 1 = .cells [.int .i64 500, .int .i64 0] 70 ∧ H'.get H.n = .cells (prRow i) 68) (ms.length - i) ?_ ?_ ?_
   · simp only [go_sem, reduceIte, reduceEqDiff, reduceAdd, reduceMul, reduceSub, reduceLeDiff, reduceLT, Nat.reduceBEq, reduceCtorEq, rideRow, prRow, g1, g3, g5, g9, g25, g26, g27, h0, h1, y0, diag_len, hdl]
   · rintro k T' H' M hk ⟨rfl, g1, g3, g5, g9, g25, g26, g27, g11, g34, g35, g36, hn', h0, h1, h2⟩
     have hrk : ((diag ms.length).drop i)[k]? = some (prRow (i + k)) := by rw [List.getElem?_drop]; exact diag_at (by omega)
     have hwk := wrap_succ hk (Nat.le_trans (Nat.sub_le _ _) hl)
     have y2 : (0 = H'.n) = False ∧ (1 = H'.n) = False ∧ (H.n = H'.n) = False ∧ (H'.n = 0) = False ∧ (H'.n = 1) = False ∧ (0 = H'.n + 1) = False ∧ (1 = H'.n + 1) = False ∧ (H.n = H'.n + 1) = False := by simp only [eq_iff_iff, iff_false]; omega
     have y3 : (H.n < H'.n + 1 + 1) = True := eq_true (by omega)
     simp only [prRow, rideRow] at hrk h0 h2
     have ae := aeq104 (i : Int) (i : Int) ((i + k : Nat) : Int) ((i + k : Nat) : Int) (i : Int) (i : Int) (i : Int) (i : Int)
     have ei : eqI (i : Int) (i : Int) = true := (eqI_iff _ _).trans (decide_eq_true rfl)
     by_cases hk0 : k = 0
     · have hik : i + k = i := by omega
       rw [hik] at hrk ae
       rw [ei] at ae
       simp only [go_sem, reduceIte, reduceEqDiff, reduceAdd, reduceMul, reduceSub, reduceLeDiff, reduceLT, Nat.reduceBEq, reduceCtorEq, rideRow, g1, g3, g5, g9, g25, g26, g27, g11, g34, g35, g36, h0, h1, h2, y2, y3, hk, hrk, hwk, hdl, ab104, ety104, ae]
       rfl
     · have ek : eqI ((i + k : Nat) : Int) (i : Int) = false := by rw [eqI_iff, decide_eq_false_iff_not]; omega
       rw [ei, ek] at ae
       have e26 := peL26 ms i (i + k) ⟨hp, by omega, by omega⟩
       simp only [rideRow, pr2] at e26
       simp only [go_sem, reduceIte, reduceEqDiff, reduceAdd, reduceMul, reduceSub, reduceLeDiff, reduceLT, Nat.reduceBEq, reduceCtorEq, rideRow, g1, g3, g5, g9, g25, g26, g27, g11, g34, g35, g36, h0, h1, h2, y2, y3, hk, hrk, hwk, hdl, ab104, ety104, ae, e26]
       rfl
   · rintro T' H' M ⟨rfl, g1, g3, g5, g9, g25, g26, g27, g11, g34, g35, g36, hn', h0, h1, h2⟩
     have y4 : (1 < H'.n) = True := eq_true (by omega)
     simp only [rideRow] at h0
     simp only [go_sem, reduceIte, reduceEqDiff, reduceAdd, reduceMul, reduceSub, reduceLeDiff, reduceLT, Nat.reduceBEq, reduceCtorEq, rideRow, g1, g3, g5, g9, g25, g26, g27, g11, g34, g35, g36, h0, h1, h2, Nat.lt_irrefl, hw, y4]
 · rintro T H M ⟨rfl, g1, g3, g5, g9, g25, g26, g27, hn, h0, h1⟩
   simp only [go_sem, reduceIte, reduceEqDiff, reduceAdd, reduceMul, reduceSub, reduceLeDiff, reduceLT, Nat.reduceBEq, reduceCtorEq, g1, g3, g5, g9, g25, g26, g27, h0, h1, Nat.lt_irrefl]
noncomputable def pL13:List AV→Option AV:=primOf (α:=(List Pt)) (fun x=>[.agg (rideRow x),.ps .unk (diag x.length),.agg [i64 500,i64 0]]) (fun x=>RdOk x) (fun x=>.tup [.ps .unk [],i64 0])
theorem pokL13:∀ args v,pL13 args=some v → ∀ lo H,CallOk NC lo 13 args H v H:=by
 intro args v h
 obtain ⟨x,rfl,hp,rfl⟩:=primOf_inv h
 exact cL13 x hp
theorem peL13 (ms:List Pt) (hp:RdOk ms):pL13 [.agg (rideRow ms),.ps .unk (diag ms.length),.agg [.int .i64 500,.int .i64 0]]=some (.tup [.ps .unk [],.int .i64 0]):=primOf_enc (by intro x y h;(simp only [List.cons.injEq,AV.agg.injEq,AV.str.injEq,AV.int.injEq,AV.ps.injEq,AV.bool.injEq,Net.cells_iff,Ln.row_iff,Pc.row_iff,Mv.row_iff,lns_iff,pcs_iff,mvs_iff,ir_iff,pts_iff,ride_iff,ptr_iff,two_iff,pr_iff,dg_iff,prj_iff,true_and,and_true] at h;first | simpa only [Prod.ext_iff] using h | simpa only [Prod.ext_iff,and_assoc] using h | exact Prod.ext h.1 h.2.2 | omega | exact h.1)) ms hp
theorem diag_succ (k:Nat):diag (k+1)=diag k++[prRow k]:=by simp [diag,List.range_succ]
noncomputable def PPFL9:FuncId→Option (List AV→Option AV):=fun _=>none
theorem primsFL9:PrimsOk NC PPFL9:=primsOk_none
theorem cL9 (n:Nat) (hp:n≤maxRows):∀ lo H,CallOk NC lo 9 [i64 (n:Int)] H (.ps .unk (diag n)) H:=by
 refine contract saneNC primsFL9 (fn:=Try.f9) (by kernel_rfl) Try.func9 rfl rfl (by rfl) (by first | rfl | (split<;>first | rfl | (split<;>rfl))) ?_
 simp only [go_sem,reduceIte,reduceEqDiff,reduceAdd,reduceMul,reduceSub,reduceLeDiff,reduceLT,Nat.reduceBEq,reduceCtorEq]
 refine W_for (fun k T H M=>M=[]∧getT T 5=i64 (n:Nat)∧getT T 6=i64 k ∧ ∃ t,getT T 3=.ps t (diag k)∧AppB 0 H t (diag k) 2 68) n ?_ ?_ ?_
 · simp only [go_sem,reduceIte,reduceEqDiff,reduceAdd,reduceMul,reduceSub,reduceLeDiff,reduceLT,Nat.reduceBEq,reduceCtorEq];exact ⟨.nil,rfl,.inl ⟨rfl,rfl⟩⟩
 · rintro k T H M hk ⟨rfl,g5,g6,t,g3,hA⟩
   have hw:=wrap_succ hk hp
   obtain ⟨t',H2,ha,hA2,hn2,hO2,_⟩:=app_b (lo:=0) hA (Nat.zero_le _) (Nat.le_refl _) (r:=prRow k) (by rw [diag_len];omega) rfl (by decide) (diag_all _)
   have e1:(prRow k).map AV.strip0=prRow k:=rfl
   rw [e1,← diag_succ] at ha hA2
   simp only [prRow] at ha
   simp only [go_sem,reduceIte,reduceEqDiff,reduceAdd,reduceMul,reduceSub,reduceLeDiff,reduceLT,Nat.reduceBEq,reduceCtorEq,g5,g6,g3,hk,hw,appO,isIntT_slice,rowsIn,ha]
   exact ⟨t',rfl,hA2⟩
 · rintro T H M ⟨rfl,g5,g6,t,g3,hA⟩
   simp only [go_sem,reduceIte,reduceEqDiff,reduceAdd,reduceMul,reduceSub,reduceLeDiff,reduceLT,Nat.reduceBEq,reduceCtorEq,g5,g6,g3,Nat.lt_irrefl]
noncomputable def pL9:List AV→Option AV:=primOf (α:=(Nat)) (fun x=>[i64 (x:Int)]) (fun x=>x≤maxRows) (fun x=>.ps .unk (diag x))
theorem pokL9:∀ args v,pL9 args=some v → ∀ lo H,CallOk NC lo 9 args H v H:=by
 intro args v h
 obtain ⟨x,rfl,hp,rfl⟩:=primOf_inv h
 exact cL9 x hp
theorem peL9 (n:Nat) (hp:n≤maxRows):pL9 [.int .i64 (n:Int)]=some (.ps .unk (diag n)):=primOf_enc (by intro x y h;(simp only [List.cons.injEq,AV.agg.injEq,AV.str.injEq,AV.int.injEq,AV.ps.injEq,AV.bool.injEq,Net.cells_iff,Ln.row_iff,Pc.row_iff,Mv.row_iff,lns_iff,pcs_iff,mvs_iff,ir_iff,pts_iff,ride_iff,ptr_iff,two_iff,pr_iff,dg_iff,prj_iff,true_and,and_true] at h;first | simpa only [Prod.ext_iff] using h | simpa only [Prod.ext_iff,and_assoc] using h | exact Prod.ext h.1 h.2.2 | omega | exact h.1)) n hp
theorem ptr_pure (l:List Pt):(l.map ptRow).all pureRow=true:=by
 rw [List.all_eq_true]
 intro r hr
 obtain ⟨x,_,rfl⟩:=List.mem_map.1 hr
 rfl
theorem app_new {lo:Nat} {H:Heap} {sz:Nat} {e:TypeId} {rx:List (List AV)} (h0:rx ≠ []) (h1:rx.length≤maxRows) (h2:rx.all pureRow=true) (h3:0 < sz) :
 appP lo H sz e (.ps .exact []) rx=some (.ps (.tok H.n) (rx.map (List.map AV.strip0)),H.push (.row [] sz e)):=by
 cases rx with
 | nil=>exact absurd rfl h0
 | cons a r =>
   unfold appP
   simp only [List.length_nil,Nat.zero_add,h1,h2,h3,decide_true,Bool.true_and,Bool.and_true,List.all_nil,if_true,List.nil_append]
theorem app_none {lo:Nat} {H:Heap} {sz:Nat} {e:TypeId}:appP lo H sz e (.ps .exact []) []=some (.ps .exact [],H):=rfl
theorem ptr_strip (l:List Pt):(l.map ptRow).map (List.map AV.strip0)=l.map ptRow:=by
 rw [List.map_map];rfl
noncomputable def PPFL11:FuncId→Option (List AV→Option AV):=fun _=>none
theorem primsFL11:PrimsOk NC PPFL11:=primsOk_none
theorem cL11 (ms:List Pt) (hp:ms.length≤maxRows):∀ lo H,CallOk NC lo 11 [.agg (rideRow ms)] H (.agg (rideRow ms)) H:=by
 refine contract saneNC primsFL11 (fn:=Try.f11) (by kernel_rfl) Try.func11 rfl rfl (by rfl) (by first | rfl | (split<;>first | rfl | (split<;>rfl))) ?_
 cases ms with
 | nil=>simp only [go_sem,reduceIte,reduceEqDiff,reduceAdd,reduceMul,reduceSub,reduceLeDiff,reduceLT,Nat.reduceBEq,reduceCtorEq,rideRow,appO,isIntT_slice,rowsIn,app_none]
 | cons x r =>
   have a1:=fun H (e:TypeId)=>app_new (lo:=0) (H:=H) (sz:=2) (e:=e) (rx:=(x::r).map ptRow) (by simp) (by rw [List.length_map];exact hp) (ptr_pure _) (by decide)
   have a2:=fun H (e:TypeId)=>app_new (lo:=0) (H:=H) (sz:=2) (e:=e) (rx:=((x::r).map dbl).map ptRow) (by simp) (by rw [List.length_map,List.length_map];exact hp) (ptr_pure _) (by decide)
   simp only [ptr_strip] at a1 a2
   have b1:=ptr_all (x::r)
   have b2:=ptr_all ((x::r).map dbl)
   unfold rideRow
   generalize (x::r).map ptRow=A at a1 b1 ⊢
   generalize ((x::r).map dbl).map ptRow=B at a2 b2 ⊢
   simp only [go_sem,reduceIte,reduceEqDiff,reduceAdd,reduceMul,reduceSub,reduceLeDiff,reduceLT,Nat.reduceBEq,reduceCtorEq,appO,isIntT_slice,rowsIn,a1,a2,b1,b2]
noncomputable def pL11:List AV→Option AV:=primOf (α:=(List Pt)) (fun x=>[.agg (rideRow x)]) (fun x=>x.length≤maxRows) (fun x=>.agg (rideRow x))
theorem pokL11:∀ args v,pL11 args=some v → ∀ lo H,CallOk NC lo 11 args H v H:=by
 intro args v h
 obtain ⟨x,rfl,hp,rfl⟩:=primOf_inv h
 exact cL11 x hp
theorem peL11 (ms:List Pt) (hp:ms.length≤maxRows):pL11 [.agg (rideRow ms)]=some (.agg (rideRow ms)):=primOf_enc (by intro x y h;(simp only [List.cons.injEq,AV.agg.injEq,AV.str.injEq,AV.int.injEq,AV.ps.injEq,AV.bool.injEq,Net.cells_iff,Ln.row_iff,Pc.row_iff,Mv.row_iff,lns_iff,pcs_iff,mvs_iff,ir_iff,pts_iff,ride_iff,ptr_iff,two_iff,pr_iff,dg_iff,prj_iff,true_and,and_true] at h;first | simpa only [Prod.ext_iff] using h | simpa only [Prod.ext_iff,and_assoc] using h | exact Prod.ext h.1 h.2.2 | omega | exact h.1)) ms hp
def kTen:Known:=⟨4,[],.bool true⟩
theorem ten_ok:∀ lo H,CallOk NC lo 4 [] H (.bool true) H:=known_ok (k:=kTen) (l:=[]) saneNC (fun k h=>by cases h) (fuel:=5000) (by kernel_rfl) (by kernel_rfl) (by kernel_rfl)
noncomputable def pL4:List AV→Option AV:=fun l=>match l with
 | []=>some (.bool true)
 | _=>none
theorem pokL4:∀ args v,pL4 args=some v → ∀ lo H,CallOk NC lo 4 args H v H:=by
 intro args v h
 cases args with
 | nil =>
   have:v=.bool true:=by simpa [pL4] using h.symm
   subst this
   exact ten_ok
 | cons a r=>simp [pL4] at h
theorem peL4:pL4 []=some (.bool true):=rfl
attribute [go_sem] peL4
noncomputable def PPFL14:FuncId→Option (List AV→Option AV):=addPrim 27 p34 (addPrim 28 p35 (fun _=>none))
theorem primsFL14:PrimsOk NC PPFL14:=primsOk_add (primsOk_add (primsOk_none) (by kernel_rfl) (by kernel_rfl) pok35) (by kernel_rfl) (by kernel_rfl) pok34
theorem enFL14_28:En PPFL14 28 p35:=enter_prim (by rfl) (by kernel_rfl)
theorem enFL14_27:En PPFL14 27 p34:=enter_prim (by rfl) (by kernel_rfl)
attribute [go_sem ↓] enFL14_28 enFL14_27
theorem cL14 (r b:Int):∀ lo H,CallOk NC lo 14 [.agg [i64 r,i64 b]] H (i64 (firstI [rangeI r 0 500,rangeI b 0 10000])) H:=by
 refine contract saneNC primsFL14 (fn:=Try.f14) (by kernel_rfl) Try.func14 rfl rfl (by rfl) (by first | rfl | (split<;>first | rfl | (split<;>rfl))) ?_
 have e1:=pe35 (r,0,500) trivial
 have e2:=pe35 (b,0,10000) trivial
 simp only [i64] at e1 e2
 simp only [go_sem,reduceIte,reduceEqDiff,reduceAdd,reduceMul,reduceSub,reduceLeDiff,reduceLT,Nat.reduceBEq,reduceCtorEq,e1,e2,e34_2]
noncomputable def pL14:List AV→Option AV:=primOf (α:=(Int) × (Int)) (fun x=>[.agg [i64 x.1,i64 x.2]]) (fun x=>True) (fun x=>i64 (firstI [rangeI x.1 0 500,rangeI x.2 0 10000]))
theorem pokL14:∀ args v,pL14 args=some v → ∀ lo H,CallOk NC lo 14 args H v H:=by
 intro args v h
 obtain ⟨x,rfl,hp,rfl⟩:=primOf_inv h
 exact cL14 x.1 x.2
theorem peL14 (r b:Int):pL14 [.agg [.int .i64 r,.int .i64 b]]=some (.int .i64 (firstI [rangeI r 0 500,rangeI b 0 10000])):=primOf_enc (by intro x y h;(simp only [List.cons.injEq,AV.agg.injEq,AV.str.injEq,AV.int.injEq,AV.ps.injEq,AV.bool.injEq,Net.cells_iff,Ln.row_iff,Pc.row_iff,Mv.row_iff,lns_iff,pcs_iff,mvs_iff,true_and,and_true] at h;first | simpa only [Prod.ext_iff] using h | simpa only [Prod.ext_iff,and_assoc] using h | exact Prod.ext h.1 h.2.2 | omega | exact h.1)) (r,b) trivial
attribute [go_sem] peL14
end Go.Sim

namespace Go.Sim
open Go Go.Proofs
set_option maxRecDepth 100000
set_option maxHeartbeats 4000000
def along (l:Leg) (k:Int):Pt:=(l.line,if l.to < l.fr then l.fr - k else l.fr+k)
theorem split_at {E:Nat→Bool→Pt} {N:Nat} {b:Pt}:∀ {σ:List Stp} {a:Pt} {i:Nat} {l:Leg} {k:Int},okS E N a σ b→(legsOf E a σ b)[i]? = some l→0≤k→k≤l.len →
 ∃ σ1 σ2,okS E N a σ1 (along l k)∧okS E N (along l k) σ2 b∧lenS E a σ1 (along l k)=wSum ((legsOf E a σ b).take i)+k∧lenS E a σ b=lenS E a σ1 (along l k)+lenS E (along l k) σ2 b
 | [],a,i,l,k,h,hl,h0,h1=>by
   have h:a.1=b.1:=h
   have hl:[(⟨a.1,a.2,b.2⟩:Leg)][i]? = some l:=hl
   obtain rfl:i=0:=by
    have:=(List.getElem?_eq_some_iff.1 hl).1
    simp at this;exact this
   simp only [List.getElem?_cons_zero,Option.some.injEq] at hl
   subst hl
   unfold Leg.len at h1
   simp only at h1
   refine ⟨[],[],rfl,h, ?_, ?_⟩
   · rw [lenS_nil]
     simp only [List.take_zero,wSum,along]
     unfold dI at h1 ⊢
     (repeat' split)<;>omega
   · rw [lenS_nil,lenS_nil,lenS_nil]
     simp only [along]
     unfold dI at h1 ⊢
     (repeat' split)<;>omega
 | s::r,a,0,l,k,h,hl,h0,h1=>by
   obtain ⟨q1,q2,q3⟩:=h
   have hl:((⟨a.1,a.2,(E s.1 s.2).2⟩:Leg)::legsOf E (E s.1 (!s.2)) r b)[0]? = some l:=hl
   simp only [List.getElem?_cons_zero,Option.some.injEq] at hl
   subst hl
   unfold Leg.len at h1
   simp only at h1
   refine ⟨[],s::r,rfl,⟨q1,q2,q3⟩, ?_, ?_⟩
   · rw [lenS_nil]
     simp only [List.take_zero,wSum,along]
     unfold dI at h1 ⊢
     (repeat' split)<;>omega
   · rw [lenS_nil,lenS_cons,lenS_cons]
     simp only [along]
     unfold dI at h1 ⊢
     (repeat' split)<;>omega
 | s::r,a,i+1,l,k,h,hl,h0,h1=>by
   obtain ⟨q1,q2,q3⟩:=h
   have hl:((⟨a.1,a.2,(E s.1 s.2).2⟩:Leg)::legsOf E (E s.1 (!s.2)) r b)[i+1]? = some l:=hl
   rw [List.getElem?_cons_succ] at hl
   obtain ⟨σ1,σ2,p1,p2,p3,p4⟩:=split_at q3 hl h0 h1
   refine ⟨s::σ1,σ2,⟨q1,q2,p1⟩,p2, ?_, ?_⟩
   · rw [lenS_cons,p3]
     show _=wSum (((⟨a.1,a.2,(E s.1 s.2).2⟩:Leg)::legsOf E (E s.1 (!s.2)) r b).take (i+1))+k
     rw [List.take_succ_cons]
     simp only [wSum,Leg.len]
     omega
   · rw [lenS_cons,lenS_cons,p4]
     omega
theorem part_dist {E:Nat→Bool→Pt} {N:Nat} {a b:Pt} {σ:List Stp} (hs:okS E N a σ b) (hd:Dist E N a b (lenS E a σ b)) {i:Nat} {l:Leg} {k:Int} (hl:(legsOf E a σ b)[i]? = some l) (h0:0≤k) (h1:k≤l.len):Dist E N a (along l k) (wSum ((legsOf E a σ b).take i)+k):=by
 obtain ⟨σ1,σ2,p1,p2,p3,p4⟩:=split_at hs hl h0 h1
 refine ⟨⟨σ1,p1,p3⟩,fun τ hτ => ?_⟩
 obtain ⟨c1,c2⟩:=cat_ok E N hτ p2
 have:=hd.least _ c1
 omega
theorem bestO_best {n:Net} {a b:Pt} {w:List Leg} (hw:bestO n a b=some w):Best (endE n) n.sws.length (findI n.lines) a b w:=by
 unfold bestO at hw
 split at hw
 · rename_i hex
   cases hw
   exact hex.choose_spec
 · cases hw
theorem has_on {n:Net} {s:List Nat} {m:Int} (hm:hasB (lnOf n.lines s) m=true):0≤m∧m < sumW (lnOf n.lines s).ps 0:=by
 unfold hasB at hm
 simp only [Bool.and_eq_true,Bool.not_eq_true',decide_eq_false_iff_not,decide_eq_true_eq] at hm
 omega
theorem place_on {n:Net} {s:List Nat} {m:Int} (hp:placeP n s m=0):0≤m∧m < sumW (lnOf n.lines s).ps 0:=by
 unfold placeP at hp
 have z2:=when_zero (by decide) (firstI_mem0 hp _ (List.mem_cons_of_mem _ (List.mem_cons_self ..)))
 simp only [Bool.not_eq_false'] at z2
 exact has_on z2
theorem ends_on {n:Net} (h:netP n=0):∀ i k,i < n.sws.length→0≤(endE n i k).2∧(endE n i k).2 < sumW (lnOf n.lines (endE n i k).1).ps 0:=by
 intro i k hi
 obtain ⟨z1,z2,z3,_⟩:=sw_zero h _ (List.getElem_mem hi)
 have e:endE n i k=if k then (n.sws[i].other,endM n n.sws[i]) else (n.sws[i].line,n.sws[i].metre):=by
  unfold endE
  rw [List.getElem?_eq_getElem hi]
 rw [e]
 cases k with
 | false=>exact has_on z2
 | true =>
   have hl:=len_in h z3
   show 0≤endM n n.sws[i]∧endM n n.sws[i] < sumW (lnOf n.lines n.sws[i].other).ps 0
   unfold endM
   split
   · have e1:Int.sub (sumW (lnOf n.lines n.sws[i].other).ps 0) 1=sumW (lnOf n.lines n.sws[i].other).ps 0 - 1:=rfl
     have e2:wrapq .i64 (Int.sub (sumW (lnOf n.lines n.sws[i].other).ps 0) 1)=sumW (lnOf n.lines n.sws[i].other).ps 0 - 1:=wrapq_i64 (by rw [e1];omega) (by rw [e1];omega)
     rw [e2];omega
   · exact ⟨by omega,by omega⟩
theorem end_place {n:Net} (h:netP n=0):∀ i k,i < n.sws.length→placeP n (endE n i k).1 (endE n i k).2=0:=by
 intro i k hi
 have h1:=(ends_in h i k hi).1
 have h2:=ends_on h i k hi
 have h3:hasB (lnOf n.lines (endE n i k).1) (endE n i k).2=true:=by
  unfold hasB
  simp only [Bool.and_eq_true,Bool.not_eq_true',decide_eq_false_iff_not,decide_eq_true_eq]
  omega
 unfold placeP
 rw [h1,h3]
 rfl
theorem pt_eta (p:Pt) {s:List Nat} (h:p.1=s):(s,p.2)=p:=by subst h;rfl
theorem legs_pt {E:Nat→Bool→Pt} {N:Nat} {Pr:Pt→Prop} (hE:∀ i k,i < N→Pr (E i k)):∀ {σ:List Stp} {a b:Pt},Pr a→Pr b→okS E N a σ b → ∀ l ∈ legsOf E a σ b,Pr (l.line,l.fr)∧Pr (l.line,l.to)
 | [],a,b,ha,hb,h,l,hl=>by
   have h:a.1=b.1:=h
   have hl:l ∈ [(⟨a.1,a.2,b.2⟩:Leg)]:=hl
   rw [List.mem_singleton.1 hl]
   exact ⟨ha,by show Pr (a.1,b.2);rw [pt_eta b h.symm];exact hb⟩
 | s::r,a,b,ha,hb,h,l,hl=>by
   obtain ⟨h1,h2,h3⟩:=h
   have hl:l ∈ (⟨a.1,a.2,(E s.1 s.2).2⟩:Leg)::legsOf E (E s.1 (!s.2)) r b:=hl
   rcases List.mem_cons.1 hl with rfl | hl
   · exact ⟨ha,by show Pr (a.1,(E s.1 s.2).2);rw [pt_eta _ h2];exact hE _ _ h1⟩
   · exact legs_pt hE (hE _ _ h1) hb h3 l hl
theorem lab_ex {n:Net} (hp:n.Ok) (hz:netP n=0) {a b:Pt} (ha:inR a.2) (hb:inR b.2):∃ L:Labs,Lab (endE n) n.sws.length (findI n.lines) a (lk L):=by
 obtain ⟨v,H',hr,L,hL,_,_,_⟩:=r142 (P:=PPF71) rfl rfl rfl rfl rfl rfl n hp (by have:=net_sws hz;unfold maxRows;omega) a b ha hb (fun i k hi=>(ends_in hz i k hi).2) 3 (((Heap.empty.push (.cells n.cells 0)).push (.cells [.str a.1,.int .i64 a.2] 0)).push (.cells [.str b.1,.int .i64 b.2] 0)) (by rw [hn_push,hn_push,hn_push];exact Nat.le_refl 3)
 exact ⟨L,hL⟩
theorem best_of {n:Net} (hp:n.Ok) (h:netP n=0) {a b:Pt} (ha:lnB n.lines a.1=true) (hRa:inR a.2) (hRb:inR b.2) {σ:List Stp} (hs:okS (endE n) n.sws.length a σ b):∃ w,bestO n a b=some w:=by
 obtain ⟨L,hL⟩:=lab_ex (b:=b) hp h hRa hRb
 have h1:=wayS_best (b:=b) (S:=fun s=>lnB n.lines s=true) (findI_inj h) (fun i k hi=>(ends_in h i k hi).1) hL (by have:=net_sws h;omega) ha
 have h2:=wayS_bestO (b:=b) h ha hL
 rw [h2] at h1
 cases hb:bestO n a b with
 | none=>rw [hb] at h1;exact (h1 _ ⟨σ,hs,rfl⟩).elim
 | some w=>exact ⟨w,rfl⟩
theorem wayP_some {n:Net} {a b:Pt} {w:List Leg} (hp:placesP n [a,b]=0) (h:bestO n a b=some w):wayP n a b=[.ps .unk (w.map Leg.row),i64 (wSum w),i64 0]:=by
 unfold wayP;rw [if_pos hp,h]
theorem wayP_none {n:Net} {a b:Pt} (hp:placesP n [a,b]=0) (h:bestO n a b=none):wayP n a b=[.ps .unk [],i64 0,i64 18]:=by
 unfold wayP;rw [if_pos hp,h]
theorem place_mid {n:Net} {s:List Nat} {x y m:Int} (hx:placeP n s x=0) (hy:placeP n s y=0) (h:x≤m∧m≤y∨y≤m∧m≤x):placeP n s m=0:=by
 have h1:=place_on hx
 have h2:=place_on hy
 have h3:hasB (lnOf n.lines s) m=true:=by
  unfold hasB
  simp only [Bool.and_eq_true,Bool.not_eq_true',decide_eq_false_iff_not,decide_eq_true_eq]
  omega
 unfold placeP at hx ⊢
 have z1:=when_zero (by decide) (firstI_mem0 hx _ (List.mem_cons_self ..))
 rw [z1,h3];rfl
theorem places_ok {n:Net} (hz:netP n=0) {a b:Pt} (ha:placeP n a.1 a.2=0) (hb:placeP n b.1 b.2=0):placesP n [a,b]=0:=by
 unfold placesP
 rw [if_pos hz]
 show firstI [placeP n a.1 a.2,placeP n b.1 b.2]=0
 rw [ha,hb];rfl
theorem way_part {n:Net} (hp:n.Ok) (hz:netP n=0) {a b:Pt} (ha:placeP n a.1 a.2=0) (hb:placeP n b.1 b.2=0) {w:List Leg} (hw:bestO n a b=some w) {i:Nat} {l:Leg} {k:Int} (hl:w[i]? = some l) (h0:0≤k) (h1:k≤l.len) :
 ∃ v:List Leg,wayP n a (along l k)=[.ps .unk (v.map Leg.row),i64 (wSum (w.take i)+k),i64 0]:=by
 have hA:=place_in hz ha
 have hB:=bestO_best hw
 obtain ⟨σ,s1,s2⟩:=hB.way
 have hd:=hB.dist
 rw [s2] at hd
 have hpt:=legs_pt (Pr:=fun p=>placeP n p.1 p.2=0) (end_place hz) ha hb s1
 subst s2
 have hq:=hpt l (List.mem_of_getElem? hl)
 have hlen:l.len=dI l.fr l.to:=rfl
 have hpl:placeP n (along l k).1 (along l k).2=0:=by
  show placeP n l.line (if l.to < l.fr then l.fr - k else l.fr+k)=0
  refine place_mid hq.1 hq.2 ?_
  rw [hlen] at h1
  unfold dI at h1
  split at h1<;>split<;>omega
 have hD:=part_dist s1 hd hl h0 h1
 obtain ⟨τ,t1,_⟩:=hD.way
 obtain ⟨v,hv⟩:=best_of hp hz hA.1 hA.2 (place_in hz hpl).2 t1
 refine ⟨v, ?_⟩
 rw [wayP_some (places_ok hz ha hpl) hv,(bestO_best hv).dist.uniq hD]
def linesV (E:Nat→Bool→Pt):Pt→List Stp→List (List Nat)
 | a,[]=>[a.1]
 | a,s::r=>a.1::linesV E (E s.1 (!s.2)) r
theorem last_visit {E:Nat→Bool→Pt} {N:Nat} {b:Pt}:∀ (m:Nat) {σ:List Stp} {a c:Pt},σ.length≤m→okS E N c σ b→c.1=a.1 →
 a.1=b.1 ∨ ∃ s r,okS E N a (s::r) b∧a.1 ∉ linesV E (E s.1 (!s.2)) r ∧ ∀ x ∈ linesV E (E s.1 (!s.2)) r,x ∈ linesV E c σ
 | _,[],a,c,_,h,hc=>.inl (hc.symm.trans h)
 | 0,s::r,a,c,hm,_,_=>by simp at hm
 | m+1,s::r,a,c,hm,h,hc=>by
   obtain ⟨q1,q2,q3⟩:=h
   have hm':r.length≤m:=by simp at hm;omega
   have key:∀ {r:List Stp} {d:Pt},okS E N d r b→a.1 ∈ linesV E d r → ∃ ρ e,e.1=a.1∧okS E N e ρ b∧ρ.length≤r.length ∧ ∀ x ∈ linesV E e ρ,x ∈ linesV E d r:=by
    intro r
    induction r with
    | nil =>
      intro d hd hm
      have:a.1=d.1:=by simpa [linesV] using hm
      exact ⟨[],d,this.symm,hd,Nat.le_refl _,fun x hx=>hx⟩
    | cons t r ih =>
      intro d hd hm
      rcases List.mem_cons.1 hm with e | e
      · exact ⟨t::r,d,e.symm,hd,Nat.le_refl _,fun x hx=>hx⟩
      · obtain ⟨ρ,f,f1,f2,f3,f4⟩:=ih hd.2.2 e
        exact ⟨ρ,f,f1,f2,by simp;omega,fun x hx=>List.mem_cons_of_mem _ (f4 x hx)⟩
   by_cases hv:a.1 ∈ linesV E (E s.1 (!s.2)) r
   · obtain ⟨ρ,e,e1,e2,e3,e4⟩:=key q3 hv
     rcases last_visit m (a:=a) (by omega) e2 e1 with h | ⟨s',r',g1,g2,g3⟩
     · exact .inl h
     · exact .inr ⟨s',r',g1,g2,fun x hx=>List.mem_cons_of_mem _ (e4 x (g3 x hx))⟩
   · exact .inr ⟨s,r,⟨q1,q2.trans hc,q3⟩,hv,fun x hx=>List.mem_cons_of_mem _ hx⟩
theorem few_lines {E:Nat→Bool→Pt} {N:Nat} {b:Pt} (hb:0≤b.2∧b.2≤119) (hE:∀ i k,i < N→0≤(E i k).2∧(E i k).2≤119):∀ (m:Nat) {S:List (List Nat)} {a:Pt} {σ:List Stp},S.length≤m→(0≤a.2∧a.2≤119)→okS E N a σ b→(∀ x ∈ linesV E a σ,x ∈ S) → ∃ τ,okS E N a τ b∧lenS E a τ b≤119 * m
 | 0,S,a,σ,hm,_,_,hS=>by
   have:a.1 ∈ S:=hS a.1 (by cases σ<;>simp [linesV])
   cases S with
   | nil=>cases this
   | cons=>simp at hm
 | m+1,S,a,σ,hm,ha,h,hS=>by
   rcases last_visit σ.length (a:=a) (Nat.le_refl _) h rfl with e | ⟨s,r,g1,g2,g3⟩
   · refine ⟨[],e, ?_⟩
     rw [lenS_nil]
     unfold dI
     split<;>omega
   · have haS:a.1 ∈ S:=hS a.1 (by cases σ<;>simp [linesV])
     have hlen:(S.filter (fun x=>decide (x ≠ a.1))).length≤m:=by
      have h1:(S.filter (fun x=>decide (x ≠ a.1))).length < S.length:=by
       rw [← List.countP_eq_length_filter]
       refine Nat.lt_of_le_of_ne List.countP_le_length fun he => ?_
       have:=(List.countP_eq_length.1 he) a.1 haS
       simp at this
      omega
     obtain ⟨τ,t1,t2⟩:=few_lines hb hE m hlen (hE s.1 (!s.2) g1.1) g1.2.2 (fun x hx=>List.mem_filter.2 ⟨hS x (g3 x hx),by
      rw [decide_eq_true_eq]
      intro he
      exact g2 (he ▸ hx)⟩)
     refine ⟨s::τ,⟨g1.1,g1.2.1,t1⟩, ?_⟩
     rw [lenS_cons]
     have:=hE s.1 s.2 g1.1
     have hd:dI a.2 (E s.1 s.2).2≤119:=by unfold dI;split<;>omega
     omega
theorem line_self {n:Net} (h:netP n=0) {l:Ln} (hl:l ∈ n.lines):lnB n.lines l.name=true∧lnOf n.lines l.name=l:=by
 obtain ⟨i,hi⟩:=List.getElem?_of_mem hl
 have hz:netR n=0:=by rw [← net_same];exact h
 have hf:=line_found hz hi
 unfold lnB lnOf
 rw [hf]
 refine ⟨rfl, ?_⟩
 show (n.lines[i]?).getD _=l
 rw [hi];rfl
theorem small_fine {n:Net} (h:smallN n=true):shortN n=true∧netR n=0∧n.lines.length≤4∧n.sws.length≤4 ∧ ∀ l ∈ n.lines,sumW l.ps 0≤120:=by
 unfold smallN at h
 simp only [Bool.and_eq_true,Bool.not_eq_true',decide_eq_true_eq,decide_eq_false_iff_not,List.all_eq_true] at h
 exact ⟨h.1,h.2.1.1.1.1,by omega,by omega,fun l hl=>by have:=h.2.2 l hl;omega⟩
theorem lines_known {n:Net} (hz:netP n=0):∀ {σ:List Stp} {a b:Pt},lnB n.lines a.1=true→okS (endE n) n.sws.length a σ b → ∀ x ∈ linesV (endE n) a σ,x ∈ n.lines.map Ln.name:=by
 have hmem:∀ s,lnB n.lines s=true→s ∈ n.lines.map Ln.name:=by
  intro s hs
  obtain ⟨i,l,h1,h2,h3,h4⟩:=lnB_some hs
  have en:l.name=s:=by
   unfold findL at h1
   rw [List.findIdx?_eq_some_iff_getElem] at h1
   obtain ⟨hlt,h6,_⟩:=h1
   rw [(List.getElem?_eq_some_iff.1 h2).2] at h6
   exact (beqL_iff _ _).1 h6
  exact List.mem_map.2 ⟨l,h3,en⟩
 intro σ
 induction σ with
 | nil =>
   intro a b ha _ x hx
   have:x=a.1:=by simpa [linesV] using hx
   exact this ▸ hmem _ ha
 | cons s r ih =>
   intro a b ha h x hx
   rcases List.mem_cons.1 hx with e | e
   · exact e ▸ hmem _ ha
   · exact ih (ends_in hz _ _ h.1).1 h.2.2 x e
theorem way_short {n:Net} (hsm:smallN n=true) (hz:netP n=0) {a b:Pt} (ha:placeP n a.1 a.2=0) (hb:placeP n b.1 b.2=0) {w:List Leg} (hw:bestO n a b=some w):0≤wSum w∧wSum w≤476∧w.length≤5:=by
 obtain ⟨_,_,hl4,hs4,hl⟩:=small_fine hsm
 have hB:=bestO_best hw
 obtain ⟨σ,s1,s2⟩:=hB.way
 have hon:∀ {s:List Nat} {m:Int},lnB n.lines s=true→(0≤m∧m < sumW (lnOf n.lines s).ps 0)→0≤m∧m≤119:=by
  intro s m hs hm
  obtain ⟨i,l,h1,h2,h3,h4⟩:=lnB_some hs
  rw [h4] at hm
  have:=hl l h3
  omega
 obtain ⟨τ,t1,t2⟩:=few_lines (hon (place_in hz hb).1 (place_on hb)) (fun i k hi=>hon (ends_in hz i k hi).1 (ends_on hz i k hi)) 4 (S:=n.lines.map Ln.name) (by rw [List.length_map];exact hl4) (hon (place_in hz ha).1 (place_on ha)) s1 (lines_known hz (place_in hz ha).1 s1)
 have h1:=hB.dist.least τ t1
 refine ⟨wSum_nonneg w,by omega, ?_⟩
 obtain ⟨ρ,r1,r2,r3⟩:=cut_all (endE n) n.sws.length σ.length (Nat.le_refl _) s1
 have hf:=simple_few r1 r2
 rw [s2,legsOf_length]
 rcases r3 with rfl | ⟨r3,r4⟩
 · omega
 · exfalso
   have hq:=wLt_short (findI n.lines) (a:=legsOf (endE n) a ρ b) (b:=legsOf (endE n) a σ b) r4 (by rw [legsOf_length,legsOf_length];omega)
   have hle:=hB.least ρ r1
   rw [s2] at hle
   exact wLe_no (findI n.lines) hle hq
def kBegin:List Nat:=[98,101,103,105,110]
def kSwitch:List Nat:=[115,119,105,116,99,104]
def kEnd:List Nat:=[101,110,100]
def kindM (w:List Leg) (i:Nat):List Nat:=if i+1=w.length then kEnd else kSwitch
def mkM (w:List Leg):Nat→List Pt
 | 0=>[(kBegin,0)]
 | i+1=>if wSum (w.take i) < wSum (w.take (i+1)) then mkM w i++[(kindM w i,wSum (w.take (i+1)))] else mkM w i
theorem sum_take {w:List Leg} {i:Nat} {l:Leg} (h:w[i]? = some l):wSum (w.take (i+1))=wSum (w.take i)+l.len:=by
 have:w.take (i+1)=w.take i++[l]:=by rw [List.take_add_one,h];rfl
 rw [this,wSum_append];simp [wSum]
theorem sum_mono (w:List Leg) (i:Nat):wSum (w.take i)≤wSum w:=by
 have h:=wSum_append (w.take i) (w.drop i)
 rw [List.take_append_drop] at h
 have:=wSum_nonneg (w.drop i)
 omega
theorem len_nonneg (l:Leg):0≤l.len:=dI_nonneg _ _
structure MkI (ms:List Pt) (i:Nat) (far:Int):Prop where
 few:ms.length≤i+1
 name:∀ x ∈ ms,(nameB x.1=true∧x.1.length≤maxRows)∧0≤x.2∧x.2≤far
 asc:∀ i x y,ms[i]? = some x→ms[i+1]? = some y→x.2 < y.2
 first:ms[0]? = some (kBegin,0)
 last:∃ s,ms[ms.length - 1]? = some (s,far)
theorem kind_ok (w:List Leg) (i:Nat):nameB (kindM w i)=true∧(kindM w i).length≤maxRows:=by
 unfold kindM
 split
 · exact ⟨by decide +kernel,by show 3≤1073741824;decide⟩
 · exact ⟨by decide +kernel,by show 6≤1073741824;decide⟩
theorem mk_inv (w:List Leg):∀ i,i≤w.length→MkI (mkM w i) i (wSum (w.take i))
 | 0,_=>by
   refine ⟨by simp [mkM], ?_, ?_,rfl,⟨kBegin,rfl⟩⟩
   · intro x hx
     have:x=(kBegin,0):=by simpa [mkM] using hx
     subst this
     exact ⟨⟨by decide +kernel,by show 5≤1073741824;decide⟩,by decide,by simp [wSum]⟩
   · intro i x y _ hy
     have:=(List.getElem?_eq_some_iff.1 hy).1
     simp [mkM] at this
 | i+1,hi=>by
   have ih:=mk_inv w i (by omega)
   obtain ⟨l,hl⟩:∃ l,w[i]? = some l:=⟨w[i],by simp⟩
   have hs:=sum_take hl
   have hl0:=len_nonneg l
   have hn:=wSum_nonneg (w.take i)
   unfold mkM
   split
   · rename_i hlt
     obtain ⟨s,hs'⟩:=ih.last
     have hpos:0 < (mkM w i).length:=(List.getElem?_eq_some_iff.1 ih.first).1
     refine ⟨by rw [List.length_append];simp;exact ih.few, ?_, ?_, ?_,⟨kindM w i, ?_⟩⟩
     · intro x hx
       rcases List.mem_append.1 hx with hx | hx
       · obtain ⟨h1,h2,h3⟩:=ih.name x hx
         exact ⟨h1,h2,by omega⟩
       · have:x=(kindM w i,wSum (w.take (i+1))):=by simpa using hx
         subst this
         exact ⟨kind_ok w i,by show 0≤wSum (w.take (i+1));omega,Int.le_refl _⟩
     · intro j x y hx hy
       have hj:=(List.getElem?_eq_some_iff.1 hy).1
       rw [List.length_append] at hj
       simp only [List.length_cons,List.length_nil] at hj
       have hx':(mkM w i)[j]? = some x:=by rwa [List.getElem?_append_left (by omega)] at hx
       by_cases hj2:j+1 < (mkM w i).length
       · rw [List.getElem?_append_left hj2] at hy
         exact ih.asc j x y hx' hy
       · have e:j=(mkM w i).length - 1:=by omega
         rw [e,hs'] at hx'
         cases hx'
         rw [List.getElem?_append_right (by omega)] at hy
         have e2:j+1 - (mkM w i).length=0:=by omega
         rw [e2] at hy
         simp only [List.getElem?_cons_zero,Option.some.injEq] at hy
         subst hy
         exact hlt
     · rw [List.getElem?_append_left hpos];exact ih.first
     · rw [List.length_append]
       show (mkM w i++[(kindM w i,wSum (w.take (i+1)))])[(mkM w i).length+1 - 1]? = _
       rw [Nat.add_sub_cancel,List.getElem?_append_right (Nat.le_refl _),Nat.sub_self];rfl
   · rename_i hlt
     have e:wSum (w.take (i+1))=wSum (w.take i):=by omega
     rw [e]
     exact ⟨by have:=ih.few;omega,ih.name,ih.asc,ih.first,ih.last⟩
theorem MkI.ok {ms:List Pt} {i:Nat} {far:Int} (h:MkI ms i far) (hi:i≤5) (hf:far≤500):RdOk ms where
 th:={
  few:=by have:=h.few;omega
  name:=fun x hx=>by
   obtain ⟨⟨h1,h2⟩,h3,h4⟩:=h.name x hx
   exact ⟨h1,h2,h3,by omega⟩
  asc:=h.asc }
 few:=fun x hx=>by
  have:=h.name x hx
  omega
end Go.Sim

namespace Go.Sim
open Go Go.Proofs
set_option maxRecDepth 100000
set_option maxHeartbeats 64000000
theorem pick_pt {n:Net} (hz:netR n=0) (hzp:netP n=0) (hpos:0 < n.lines.length) {u v:Int} (hu:0≤u∧u≤255) (hv:0≤v∧v≤255):∃ (j:Nat) (l:Ln) (m:Int),j < n.lines.length∧n.lines[j]? = some l ∧
 aint (pureOf (Go.binOp .rem 0 (.int .i64 u) (.int .i64 ((n.lines.length:Nat):Int))))=some (.int .i64 ((j:Nat):Int))∧aint (pureOf (Go.binOp .rem 0 (.int .i64 v) (.int .i64 (sumW l.ps 0))))=some (.int .i64 m)∧hasI n.lines l.name m=0∧(sumW l.ps 0=0)=False:=by
 have hxe:=Int.emod_nonneg u (b:=((n.lines.length:Nat):Int)) (by omega)
 have hxl:=Int.emod_lt_of_pos u (b:=((n.lines.length:Nat):Int)) (by omega)
 obtain ⟨j,hj⟩:∃ j:Nat,u % ((n.lines.length:Nat):Int)=(j:Int):=⟨(u % ((n.lines.length:Nat):Int)).toNat,by omega⟩
 have hjl:j < n.lines.length:=by omega
 have rx:=rem_ok (a:=u) (b:=((n.lines.length:Nat):Int)) hu.1 (by omega)
 rw [hj] at rx
 obtain ⟨l,hl⟩:∃ p,n.lines[j]? = some p:=⟨n.lines[j],by simp⟩
 have hpl:1≤sumW l.ps 0:=by
  obtain ⟨h1,h2⟩:=line_self hzp (List.mem_of_getElem? hl)
  have:=(len_in hzp h1).1
  rw [h2] at this
  exact this
 have ry:=rem_ok (a:=v) (b:=sumW l.ps 0) hv.1 (by omega)
 have hm0:=Int.emod_nonneg v (b:=sumW l.ps 0) (by omega)
 have hm1:=Int.emod_lt_of_pos v (b:=sumW l.ps 0) (by omega)
 have hfl:=line_found hz hl
 have hs0:(sumW l.ps 0=0)=False:=by simp only [eq_iff_iff,iff_false];omega
 refine ⟨j,l,_,hjl,hl,rx,ry, ?_,hs0⟩
 generalize v % sumW l.ps 0=m at hm0 hm1
 unfold hasI
 simp only [hfl,hl]
 have a:¬ (m < 0):=by omega
 simp [a,hm1,whenI]
def pl2 (a b:Pt):Nat→List AV
 | 0=>[.str [],.int .i64 0,.str [],.int .i64 0]
 | 1=>[.str a.1,.int .i64 a.2,.str [],.int .i64 0]
 | _=>[.str a.1,.int .i64 a.2,.str b.1,.int .i64 b.2]
def AppX (b:Nat) (H:Heap) (t:Tok) (rows:List (List AV)) (sz:Nat) (e:TypeId):Prop:=t=.exact∨AppB b H t rows sz e
theorem app_x {b:Nat} {H:Heap} {t:Tok} {rows:List (List AV)} {sz lo:Nat} {e:TypeId} (h:AppX b H t rows sz e) (hb:b≤H.n) (hlo:lo≤b) {r:List AV} (h1:rows.length+1≤maxRows) (h2:pureRow r=true) (h3:0 < sz) (h4:rows.all (fun r=>r.length=sz)=true) :
 ∃ t' H',appP lo H sz e (.ps t rows) [r]=some (.ps t' (rows++[r.map AV.strip0]),H')∧AppB b H' t' (rows++[r.map AV.strip0]) sz e∧H.n≤H'.n∧(∀ i c u,i < H.n→H.get i=.cells c u→H'.get i=.cells c u):=by
 rcases h with rfl | h
 · refine ⟨.tok H.n,H.push (.row [] sz e), ?_,.inr ⟨H.n,rfl,by simp,hb,by simp,by rw [Heap.get_push,if_pos rfl]⟩,by simp,fun i c u hi hc => ?_⟩
   · unfold appP
     simp only [List.length_cons,List.length_nil,Nat.zero_add,h1,h2,h3,h4,decide_true,Bool.true_and,Bool.and_true,List.all_cons,List.all_nil,if_true,List.map_cons,List.map_nil]
   · rw [Heap.get_push,if_neg (by omega)];exact hc
 · obtain ⟨t',H',q1,q2,q3,_,q5⟩:=app_b h hb hlo h1 h2 h3 h4
   exact ⟨t',H',q1,q2,q3,q5⟩
theorem diag_pure (n:Nat):(diag n).all pureRow=true:=by
 rw [List.all_eq_true]
 intro r hr
 obtain ⟨x,_,rfl⟩:=List.mem_map.1 hr
 rfl
theorem diag_strip (n:Nat):(diag n).map (List.map AV.strip0)=diag n:=by
 unfold diag
 rw [List.map_map];rfl
theorem leg_small {n:Net} (hsm:smallN n=true) (hz:netP n=0) {a b:Pt} (ha:placeP n a.1 a.2=0) (hb:placeP n b.1 b.2=0) {w:List Leg} (hw:bestO n a b=some w):∀ l ∈ w,(0≤l.fr∧l.fr≤119)∧(0≤l.to∧l.to≤119):=by
 obtain ⟨_,_,hl4,hs4,hl⟩:=small_fine hsm
 obtain ⟨σ,s1,s2⟩:=(bestO_best hw).way
 intro l hlw
 rw [s2] at hlw
 have hpt:=legs_pt (Pr:=fun p=>placeP n p.1 p.2=0) (end_place hz) ha hb s1 l hlw
 have hon:∀ {s:List Nat} {m:Int},placeP n s m=0→0≤m∧m≤119:=by
  intro s m h
  have hm:=place_on h
  obtain ⟨i,l,h1,h2,h3,h4⟩:=lnB_some (place_in hz h).1
  rw [h4] at hm
  have:=hl l h3
  omega
 exact ⟨hon hpt.1,hon hpt.2⟩
noncomputable def PPFL3:FuncId→Option (List AV→Option AV):=addPrim 14 pL14 (addPrim 13 pL13 (addPrim 12 pL12 (addPrim 11 pL11 (addPrim 10 pL10 (addPrim 9 pL9 (addPrim 8 p19 (addPrim 7 p71 (addPrim 6 p26 (addPrim 5 p31 (addPrim 4 pL4 (fun _=>none)))))))))))
theorem primsFL3:PrimsOk NC PPFL3:=primsOk_add (primsOk_add (primsOk_add (primsOk_add (primsOk_add (primsOk_add (primsOk_add (primsOk_add (primsOk_add (primsOk_add (primsOk_add (primsOk_none) (by kernel_rfl) (by kernel_rfl) pokL4) (by kernel_rfl) (by kernel_rfl) pok31) (by kernel_rfl) (by kernel_rfl) pok26) (by kernel_rfl) (by kernel_rfl) pok71) (by kernel_rfl) (by kernel_rfl) pok19) (by kernel_rfl) (by kernel_rfl) pokL9) (by kernel_rfl) (by kernel_rfl) pokL10) (by kernel_rfl) (by kernel_rfl) pokL11) (by kernel_rfl) (by kernel_rfl) pokL12) (by kernel_rfl) (by kernel_rfl) pokL13) (by kernel_rfl) (by kernel_rfl) pokL14
theorem enFL3_4 {rec:Rec} {lo:Nat} {args:List AV} {H:Heap} {K:AV→Heap→Prop}:VO (aenter (NC.withPrims PPFL3) rec lo 4 args H) K=AO (pL4 args) fun v=>K v H:=enter_prim (by rfl) (by kernel_rfl)
theorem enFL3_5:En PPFL3 5 p31:=enter_prim (by rfl) (by kernel_rfl)
theorem enFL3_6:En PPFL3 6 p26:=enter_prim (by rfl) (by kernel_rfl)
theorem enFL3_7:En PPFL3 7 p71:=enter_prim (by rfl) (by kernel_rfl)
theorem enFL3_8:En PPFL3 8 p19:=enter_prim (by rfl) (by kernel_rfl)
theorem enFL3_9 {rec:Rec} {lo:Nat} {args:List AV} {H:Heap} {K:AV→Heap→Prop}:VO (aenter (NC.withPrims PPFL3) rec lo 9 args H) K=AO (pL9 args) fun v=>K v H:=enter_prim (by rfl) (by kernel_rfl)
theorem enFL3_10 {rec:Rec} {lo:Nat} {args:List AV} {H:Heap} {K:AV→Heap→Prop}:VO (aenter (NC.withPrims PPFL3) rec lo 10 args H) K=AO (pL10 args) fun v=>K v H:=enter_prim (by rfl) (by kernel_rfl)
theorem enFL3_11 {rec:Rec} {lo:Nat} {args:List AV} {H:Heap} {K:AV→Heap→Prop}:VO (aenter (NC.withPrims PPFL3) rec lo 11 args H) K=AO (pL11 args) fun v=>K v H:=enter_prim (by rfl) (by kernel_rfl)
theorem enFL3_12 {rec:Rec} {lo:Nat} {args:List AV} {H:Heap} {K:AV→Heap→Prop}:VO (aenter (NC.withPrims PPFL3) rec lo 12 args H) K=AO (pL12 args) fun v=>K v H:=enter_prim (by rfl) (by kernel_rfl)
theorem enFL3_13 {rec:Rec} {lo:Nat} {args:List AV} {H:Heap} {K:AV→Heap→Prop}:VO (aenter (NC.withPrims PPFL3) rec lo 13 args H) K=AO (pL13 args) fun v=>K v H:=enter_prim (by rfl) (by kernel_rfl)
theorem enFL3_14 {rec:Rec} {lo:Nat} {args:List AV} {H:Heap} {K:AV→Heap→Prop}:VO (aenter (NC.withPrims PPFL3) rec lo 14 args H) K=AO (pL14 args) fun v=>K v H:=enter_prim (by rfl) (by kernel_rfl)
attribute [go_sem ↓] enFL3_4 enFL3_5 enFL3_6 enFL3_7 enFL3_8 enFL3_9 enFL3_10 enFL3_11 enFL3_12 enFL3_13 enFL3_14
theorem law_travelled (n:Net) (a b c e:Int) (hx:(0≤a∧a≤255)∧(0≤b∧b≤255)∧(0≤c∧c≤255)∧(0≤e∧e≤255)) :
 ∀ lo H,CallOk NC lo 3 [.agg n.cells,.agg [.int .u8 a,.int .u8 b,.int .u8 c,.int .u8 e]] H (.bool true) H:=by
 refine contract saneNC primsFL3 (fn:=Try.f3) (by kernel_rfl) Try.func3 rfl rfl (by rfl) (by rfl) ?_
 obtain ⟨ha,hb,hc,he⟩:=hx
 have e31:=pe31 n
 simp only [Net.cells,i64] at e31
 cases hsm:smallN n with
 | false =>
   simp only [hsm] at e31
   simp only [go_sem,reduceIte,reduceEqDiff,reduceAdd,reduceMul,reduceSub,reduceLeDiff,reduceLT,Nat.reduceBEq,reduceCtorEq,Net.cells,e31]
 | true =>
 simp only [hsm] at e31
 obtain ⟨hS,hz,hl4,hs4,hl120⟩:=small_fine hsm
 have hok:=short_ok hS
 have hzp:netP n=0:=by rw [net_same];exact hz
 rcases Classical.propComplete (((n.lines.length:Nat):Int)=0) with zl | zl
 · simp only [go_sem,reduceIte,reduceEqDiff,reduceAdd,reduceMul,reduceSub,reduceLeDiff,reduceLT,Nat.reduceBEq,reduceCtorEq,Net.cells,List.length_map,e31,zl]
 have hpos:0 < n.lines.length:=by
  rcases Nat.eq_zero_or_pos n.lines.length with h0 | h0
  · rw [h0] at zl;simp at zl
  · exact h0
 obtain ⟨j0,l0,m0,a1,a2,a3,a4,a5,a6⟩:=pick_pt hz hzp hpos ha hb
 obtain ⟨j1,l1,m1,b1,b2,b3,b4,b5,b6⟩:=pick_pt hz hzp hpos hc he
 simp only [go_sem,zl,if_false] at a3 b3
 simp only [go_sem,a6,if_false] at a4
 simp only [go_sem,b6,if_false] at b4
 have e26a:p26 [.agg l0.row]=some (.int .i64 (sumW l0.ps 0)):=pe26 l0 (hok.line l0 (List.mem_of_getElem? a2)).2
 have e26b:p26 [.agg l1.row]=some (.int .i64 (sumW l1.ps 0)):=pe26 l1 (hok.line l1 (List.mem_of_getElem? b2)).2
 have hr0:=map_at (f:=Ln.row) a2
 have hr1:=map_at (f:=Ln.row) b2
 have cva:=conv_u8 ha.1 ha.2
 have cvb:=conv_u8 hb.1 hb.2
 have cvc:=conv_u8 hc.1 hc.2
 have cve:=conv_u8 he.1 he.2
 have e19:=pe19 n ⟨hok.fits,hok.sws,hok.sts⟩
 simp only [Ln.row,i64] at e26a e26b hr0 hr1
 simp only [Net.cells,i64] at e19
 have k0:placeP n l0.name m0=0:=by rw [place_same];exact a5
 have k1:placeP n l1.name m1=0:=by rw [place_same];exact b5
 clear a2 b2 a5 b5
 generalize sumW l0.ps 0=S0 at e26a a4 a6
 generalize sumW l1.ps 0=S1 at e26b b4 b6
 obtain ⟨s0,lp0⟩:=l0
 obtain ⟨s1,lp1⟩:=l1
 simp only at e26a e26b hr0 hr1 k0 k1
 simp only [go_sem,reduceIte,reduceEqDiff,reduceAdd,reduceMul,reduceSub,reduceLeDiff,reduceLT,Nat.reduceBEq,reduceCtorEq,Net.cells,List.length_map,e31,zl]
 refine W_for (fun k T H M=>M=[]∧getT T 2=.ptr 0 0∧getT T 3=.ptr 1 0∧getT T 5=.ptr 2 0∧getT T 47=i64 k∧2 < H.n∧H.get 0=.cells [.ps .unk (n.lines.map Ln.row),.ps .unk (n.sws.map Sw.row),.ps .unk (n.sts.map Stc.row)] 26∧H.get 1=.cells [.int .u8 a,.int .u8 b,.int .u8 c,.int .u8 e] 28∧H.get 2=.cells (pl2 (s0,m0) (s1,m1) k) 33) 2 ?_ ?_ ?_
 · simp only [go_sem,reduceIte,reduceEqDiff,reduceAdd,reduceMul,reduceSub,reduceLeDiff,reduceLT,Nat.reduceBEq,reduceCtorEq,pl2]
 · rintro k T H M hk ⟨rfl,t2,t3,t5,t47,hn,g0,g1,g2⟩
   have y0:(0=H.n)=False∧(1=H.n)=False∧(2=H.n)=False∧(H.n=2)=False:=by simp only [eq_iff_iff,iff_false];omega
   have y1:(2 < H.n+1)=True:=by simp only [eq_iff_iff,iff_true];omega
   have hk2:k=0∨k=1:=by omega
   rcases hk2 with rfl | rfl
   · have t47:getT T 47=.int .i64 0:=t47
     simp only [pl2] at g2 ⊢
     simp only [go_sem,reduceIte,reduceEqDiff,reduceAdd,reduceMul,reduceSub,reduceLeDiff,reduceLT,Nat.reduceBEq,reduceCtorEq,List.length_map,t2,t3,t5,t47,g0,g1,g2,y0,y1,i02,wl01,cva,cvb,a1,a3,a4,a6,zl,hr0,e26a]
     rfl
   · have t47:getT T 47=.int .i64 1:=t47
     simp only [pl2] at g2 ⊢
     simp only [go_sem,reduceIte,reduceEqDiff,reduceAdd,reduceMul,reduceSub,reduceLeDiff,reduceLT,Nat.reduceBEq,reduceCtorEq,List.length_map,t2,t3,t5,t47,g0,g1,g2,y0,y1,i12,wl12,cvc,cve,b1,b3,b4,b6,zl,hr1,e26b]
     rfl
 rintro T H M ⟨rfl,t2,t3,t5,t47,hn,g0,g1,g2⟩
 have t47:getT T 47=.int .i64 2:=t47
 simp only [pl2] at g2
 clear e26a e26b hr0 hr1 a1 a3 a4 b1 b3 b4 cva cvb cvc cve g1 e31
 have f01:=pe71 n (s0,m0) (s1,m1) hok
 have q01:=places_ok (a:=(s0,m0)) (b:=(s1,m1)) hzp k0 k1
 have z18:((18:Int)=0)=False:=by simp
 cases hw:bestO n (s0,m0) (s1,m1) with
 | none =>
   rw [wayP_none q01 hw] at f01
   simp only [Net.cells,ptRow,i64] at f01
   simp only [go_sem,reduceIte,reduceEqDiff,reduceAdd,reduceMul,reduceSub,reduceLeDiff,reduceLT,Nat.reduceBEq,reduceCtorEq,List.length_map,t2,t3,t5,t47,g0,g2,i22,e19,f01,z18]
 | some w =>
 obtain ⟨hw0,hw476,hw5⟩:=way_short hsm hzp (a:=(s0,m0)) (b:=(s1,m1)) k0 k1 hw
 have hleg:=leg_small hsm hzp (a:=(s0,m0)) (b:=(s1,m1)) k0 k1 hw
 have hpart:=fun {i:Nat} {l:Leg} {k:Int}=>way_part hok hzp (a:=(s0,m0)) (b:=(s1,m1)) k0 k1 hw (i:=i) (l:=l) (k:=k)
 rw [wayP_some q01 hw] at f01
 simp only [Net.cells,ptRow,i64] at f01
 have c480:(480 < wSum w)=False:=eq_false (by omega)
 have c5:((5:Int) < (w.length:Nat))=False:=eq_false (by omega)
 have hwl:w.length≤maxRows:=by unfold maxRows;omega
 rcases Int.lt_or_le (wSum w) 1 with hlt | hge
 · have hs0:wSum w=0:=by omega
   rw [hs0] at f01
   have i01:((0:Int) < 1)=True:=by simp
   simp only [go_sem,reduceIte,reduceEqDiff,reduceAdd,reduceMul,reduceSub,reduceLeDiff,reduceLT,Nat.reduceBEq,reduceCtorEq,List.length_map,t2,t3,t5,t47,g0,g2,i22,e19,f01,i01]
 have hlt:(wSum w < 1)=False:=eq_false (by omega)
 have hwn:0 < w.length:=by
  cases w with
  | nil=>simp [wSum] at hge
  | cons=>simp
 have y0:(0=H.n)=False∧(1=H.n)=False∧(2=H.n)=False∧(H.n=2)=False∧(H.n=0)=False:=by simp only [eq_iff_iff,iff_false];omega
 simp only [go_sem,reduceIte,reduceEqDiff,reduceAdd,reduceMul,reduceSub,reduceLeDiff,reduceLT,Nat.reduceBEq,reduceCtorEq,List.length_map,t2,t3,t5,t47,g0,g2,i22,e19,f01,hlt,c480,c5,y0]
 generalize hN:H.n=N at hn y0 ⊢
 have e0:(mkM w 0).map ptRow=[[.str [98,101,103,105,110],.int .i64 0]]:=rfl
 have ws0:wSum (w.take 0)=0:=rfl
 refine W_for (fun i T H M=>M=[]∧getT T 2=.ptr 0 0∧getT T 5=.ptr 2 0∧getT T 8=.ps .unk (w.map Leg.row)∧getT T 9=i64 (wSum w)∧getT T 11=.ptr N 0∧getT T 12=i64 (wSum (w.take i))∧getT T 108=.ps .unk (w.map Leg.row)∧getT T 109=i64 (w.length:Nat)∧getT T 110=i64 i∧N < H.n∧H.get 0=.cells [.ps .unk (n.lines.map Ln.row),.ps .unk (n.sws.map Sw.row),.ps .unk (n.sts.map Stc.row)] 26∧H.get 2=.cells [.str s0,.int .i64 m0,.str s1,.int .i64 m1] 33 ∧ ∃ t,H.get N=.cells [.ps t ((mkM w i).map ptRow),.ps .nil []] 53∧AppX 3 H t ((mkM w i).map ptRow) 2 49) w.length ?_ ?_ ?_
 · rw [ws0,e0]
   simp only [go_sem,reduceIte,reduceEqDiff,reduceAdd,reduceMul,reduceSub,reduceLeDiff,reduceLT,Nat.reduceBEq,reduceCtorEq,List.length_map,t2,t5,g0,g2,y0,hN]
   exact ⟨_,rfl,.inl rfl⟩
 · rintro i T H M hi ⟨rfl,t2,t5,t8,t9,t11,t12,t108,t109,t110,hn',g0,g2,t,gN,hA⟩
   obtain ⟨l,hl⟩:∃ l,w[i]? = some l:=⟨w[i],by simp⟩
   have hr:=map_at (f:=Leg.row) hl
   have hwi:=wrap_succ hi hwl
   obtain ⟨lf,lt⟩:=hleg l (List.mem_of_getElem? hl)
   have hsum:=sum_take hl
   have hsm1:=sum_mono w (i+1)
   have hsn:=wSum_nonneg (w.take i)
   have hl0:=len_nonneg l
   have v1:wrapq .i64 (Int.sub l.to l.fr)=l.to - l.fr:=wrapq_i64 (by show _≤l.to - l.fr;omega) (by show l.to - l.fr≤_;omega)
   have v2:wrapq .i64 (Int.sub l.fr l.to)=l.fr - l.to:=wrapq_i64 (by show _≤l.fr - l.to;omega) (by show l.fr - l.to≤_;omega)
   have v3:maxI (l.to - l.fr) (l.fr - l.to)=l.len:=by unfold maxI Leg.len dI;split<;>split<;>omega
   have v4:wrapq .i64 (Int.add (wSum (w.take i)) l.len)=wSum (w.take (i+1)):=by rw [add_in (by omega) (by omega) (by omega) (by omega),hsum]
   have v5:=wrap_pred hwn (Nat.le_refl _) hwl
   have hmi:=mk_inv w i (Nat.le_of_lt hi)
   obtain ⟨ls,hls⟩:=hmi.last
   have hmp:0 < (mkM w i).length:=first_mark hmi.first
   have hmlen:(mkM w i).length≤maxRows:=by have:=hmi.few;unfold maxRows;omega
   have v6:=wrap_pred hmp (Nat.le_refl _) hmlen
   have v7:((mkM w i).length - 1 < (mkM w i).length)=True:=eq_true (by omega)
   have hmr:=map_at (f:=ptRow) hls
   have y2:(0=H.n)=False∧(2=H.n)=False∧(N=H.n)=False∧(H.n=0)=False∧(H.n=2)=False∧(H.n=N)=False∧(0=N)=False∧(2=N)=False∧(N=0)=False∧(N=2)=False:=by simp only [eq_iff_iff,iff_false];omega
   have y3:(N < H.n+1)=True:=eq_true (by omega)
   obtain ⟨ln,fr,to⟩:=l
   simp only [Leg.row,i64,ptRow] at hr hmr
   simp only at v1 v2 v3 v4 hl0
   generalize (Leg.mk ln fr to).len=LL at v3 v4 hl0 hsum
   have hX1:AppX 3 ((H.push (.cells [.str [],.int .i64 0,.int .i64 0] 55)).set H.n (.cells [.str ln,.int .i64 fr,.int .i64 to] 55)) t ((mkM w i).map ptRow) 2 49:=hA.imp id (fun h=>h.new _ _)
   obtain ⟨t',H2,hap,hA2,hn2,hcell⟩:=app_x hX1 (by simp only [hn_set,hn_push];omega) (Nat.zero_le _) (lo:=0) (r:=ptRow (kindM w i,wSum (w.take (i+1)))) (by rw [List.length_map];have:=hmi.few;unfold maxRows;omega) rfl (by decide) (ptr_all _)
   simp only [hn_set,hn_push] at hn2 hcell
   have p0:=hcell 0 _ _ (by omega) (by rw [Heap.get_set,if_neg (by omega),Heap.get_push,if_neg (by omega)];exact g0)
   have p2:=hcell 2 _ _ (by omega) (by rw [Heap.get_set,if_neg (by omega),Heap.get_push,if_neg (by omega)];exact g2)
   have pN:=hcell N _ _ (by omega) (by rw [Heap.get_set,if_neg (by omega),Heap.get_push,if_neg (by omega)];exact gN)
   have y5:(N < H2.n)=True:=eq_true (by omega)
   have e1:(ptRow (kindM w i,wSum (w.take (i+1)))).map AV.strip0=ptRow (kindM w i,wSum (w.take (i+1))):=rfl
   rw [e1] at hap hA2
   have hA3:=hA2.set (i:=N) (.cells [.ps t' ((mkM w i).map ptRow++[ptRow (kindM w i,wSum (w.take (i+1)))]),.ps .nil []] 53) (by rw [pN];simp)
   clear hX1 hcell
   have hmk:=show mkM w (i+1)=(if wSum (w.take i) < wSum (w.take (i+1)) then mkM w i++[(kindM w i,wSum (w.take (i+1)))] else mkM w i) from rfl
   have hck:=show kindM w i=(if i+1=w.length then kEnd else kSwitch) from rfl
   rcases Classical.propComplete (wSum (w.take i) < wSum (w.take (i+1))) with cl | cl
   · rw [if_pos (of_eq_true cl)] at hmk
     have hY:(mkM w (i+1)).map ptRow=(mkM w i).map ptRow++[ptRow (kindM w i,wSum (w.take (i+1)))]:=by rw [hmk,List.map_append];rfl
     rcases Classical.propComplete ((i:Int)=((w.length - 1:Nat):Int)) with ck | ck
     · rw [if_pos (by have:=of_eq_true ck;omega)] at hck
       rw [hck] at hY hap hA3
       simp only [kEnd,ptRow] at hY hap hA3
       simp only [go_sem,reduceIte,reduceEqDiff,reduceAdd,reduceMul,reduceSub,reduceLeDiff,reduceLT,Nat.reduceBEq,reduceCtorEq,List.length_map,t2,t5,t8,t9,t11,t12,t108,t109,t110,g0,g2,gN,hi,hr,hwi,v1,v2,v3,v4,v5,v6,v7,hmr,y2,y3,ck,cl,hY,appO,isIntT_slice,rowsIn,hap,p0,p2,pN,y5]
       exact ⟨t',rfl,.inr hA3⟩
     · rw [if_neg (by have:=of_eq_false ck;omega)] at hck
       rw [hck] at hY hap hA3
       simp only [kSwitch,ptRow] at hY hap hA3
       simp only [go_sem,reduceIte,reduceEqDiff,reduceAdd,reduceMul,reduceSub,reduceLeDiff,reduceLT,Nat.reduceBEq,reduceCtorEq,List.length_map,t2,t5,t8,t9,t11,t12,t108,t109,t110,g0,g2,gN,hi,hr,hwi,v1,v2,v3,v4,v5,v6,v7,hmr,y2,y3,ck,cl,hY,appO,isIntT_slice,rowsIn,hap,p0,p2,pN,y5]
       exact ⟨t',rfl,.inr hA3⟩
   · rw [if_neg (of_eq_false cl)] at hmk
     have hA4:=hA.imp id (fun h=>h.new (.cells [.str [],.int .i64 0,.int .i64 0] 55) (.cells [.str ln,.int .i64 fr,.int .i64 to] 55))
     rcases Classical.propComplete ((i:Int)=((w.length - 1:Nat):Int)) with ck | ck
     · simp only [go_sem,reduceIte,reduceEqDiff,reduceAdd,reduceMul,reduceSub,reduceLeDiff,reduceLT,Nat.reduceBEq,reduceCtorEq,List.length_map,t2,t5,t8,t9,t11,t12,t108,t109,t110,g0,g2,gN,hi,hr,hwi,v1,v2,v3,v4,v5,v6,v7,hmr,y2,y3,ck,cl,hmk]
       exact ⟨t,rfl,hA4⟩
     · simp only [go_sem,reduceIte,reduceEqDiff,reduceAdd,reduceMul,reduceSub,reduceLeDiff,reduceLT,Nat.reduceBEq,reduceCtorEq,List.length_map,t2,t5,t8,t9,t11,t12,t108,t109,t110,g0,g2,gN,hi,hr,hwi,v1,v2,v3,v4,v5,v6,v7,hmr,y2,y3,ck,cl,hmk]
       exact ⟨t,rfl,hA4⟩
 rintro T H M ⟨rfl,t2,t5,t8,t9,t11,t12,t108,t109,t110,hn',g0,g2,t,gN,hA⟩
 have hmi:=mk_inv w w.length (Nat.le_refl _)
 rw [List.take_length] at t12 hmi
 have hR:=hmi.ok hw5 (by omega)
 generalize mkM w w.length=ms at gN hA hmi hR
 have hml:=hR.len
 simp only [go_sem,reduceIte,reduceEqDiff,reduceAdd,reduceMul,reduceSub,reduceLeDiff,reduceLT,Nat.reduceBEq,reduceCtorEq,List.length_map,t2,t5,t8,t9,t11,t12,t108,t109,t110,gN,Nat.lt_irrefl]
 refine W_for (fun i T H M=>M=[]∧getT T 2=.ptr 0 0∧getT T 5=.ptr 2 0∧getT T 8=.ps .unk (w.map Leg.row)∧getT T 11=.ptr N 0∧getT T 157=.ps t (ms.map ptRow)∧getT T 158=i64 (ms.length:Nat)∧getT T 159=i64 i∧N < H.n∧H.get 0=.cells [.ps .unk (n.lines.map Ln.row),.ps .unk (n.sws.map Sw.row),.ps .unk (n.sts.map Stc.row)] 26∧H.get 2=.cells [.str s0,.int .i64 m0,.str s1,.int .i64 m1] 33 ∧ ∃ t',H.get N=.cells [.ps t (ms.map ptRow),.ps t' (((ms.take i).map dbl).map ptRow)] 53∧AppB 3 H t' (((ms.take i).map dbl).map ptRow) 2 57) ms.length ?_ ?_ ?_
 · simp only [go_sem,reduceIte,reduceEqDiff,reduceAdd,reduceMul,reduceSub,reduceLeDiff,reduceLT,Nat.reduceBEq,reduceCtorEq,List.length_map,t2,t5,t8,t11,gN,hn',g0,g2,List.take_zero]
   exact ⟨.nil,rfl,.inl ⟨rfl,rfl⟩⟩
 · clear hn' g0 g2 gN hA t2 t5 t8 t9 t11 t12 t108 t109 t110
   rintro i T H M hi ⟨rfl,t2,t5,t8,t11,t157,t158,t159,hn',g0,g2,t',gN,hA⟩
   obtain ⟨x,hx⟩:∃ p,ms[i]? = some p:=⟨ms[i],by simp⟩
   have hr:=map_at (f:=ptRow) hx
   have hwi:=wrap_succ hi hml
   have nx:=hR.th.name x (List.mem_of_getElem? hx)
   have nx5:=hR.few x (List.mem_of_getElem? hx)
   have v1:wrapq .i64 (Int.mul 2 x.2)=2 * x.2:=wrapq_i64 (by show _≤2 * x.2;omega) (by show 2 * x.2≤_;omega)
   have y2:(0=H.n)=False∧(2=H.n)=False∧(N=H.n)=False∧(H.n=0)=False∧(H.n=2)=False∧(H.n=N)=False∧(0=N)=False∧(2=N)=False∧(N=0)=False∧(N=2)=False:=by simp only [eq_iff_iff,iff_false];omega
   have hX1:=hA.new (.cells [.str [],.int .i64 0] 49) (.cells (ptRow x) 49)
   obtain ⟨t2',H2,hap,hA2,hn2,_,hcell⟩:=app_b hX1 (by simp only [hn_set,hn_push];omega) (Nat.zero_le _) (lo:=0) (r:=ptRow (dbl x)) (by rw [List.length_map,List.length_map,List.length_take];omega) rfl (by decide) (ptr_all _)
   simp only [hn_set,hn_push] at hn2 hcell
   have p0:=hcell 0 _ _ (by omega) (by rw [Heap.get_set,if_neg (by omega),Heap.get_push,if_neg (by omega)];exact g0)
   have p2:=hcell 2 _ _ (by omega) (by rw [Heap.get_set,if_neg (by omega),Heap.get_push,if_neg (by omega)];exact g2)
   have pN:=hcell N _ _ (by omega) (by rw [Heap.get_set,if_neg (by omega),Heap.get_push,if_neg (by omega)];exact gN)
   have y5:(N < H2.n)=True:=eq_true (by omega)
   have e1:(ptRow (dbl x)).map AV.strip0=ptRow (dbl x):=rfl
   have e2:((ms.take (i+1)).map dbl).map ptRow=((ms.take i).map dbl).map ptRow++[ptRow (dbl x)]:=by rw [take_map hx,List.map_append];rfl
   rw [e1,← e2] at hap hA2
   have hA3:=hA2.set (i:=N) (.cells [.ps t (ms.map ptRow),.ps t2' (((ms.take (i+1)).map dbl).map ptRow)] 53) (by rw [pN];simp)
   clear hX1 hcell e2
   obtain ⟨xs,x⟩:=x
   simp only [ptRow,dbl] at hr v1 hap
   simp only [go_sem,reduceIte,reduceEqDiff,reduceAdd,reduceMul,reduceSub,reduceLeDiff,reduceLT,Nat.reduceBEq,reduceCtorEq,List.length_map,t2,t5,t8,t11,t157,t158,t159,g0,g2,gN,hi,hr,hwi,v1,y2,appO,isIntT_slice,rowsIn,hap,p0,p2,pN,y5]
   exact ⟨t2',rfl,hA3⟩
 clear hn' g0 g2 gN hA t2 t5 t8 t9 t11 t12 t108 t109 t110
 rintro T H M ⟨rfl,t2,t5,t8,t11,t157,t158,t159,hn',g0,g2,t',gN,hA⟩
 rw [List.take_length] at gN
 have e9:=peL9 ms.length hml
 simp only [go_sem,reduceIte,reduceEqDiff,reduceAdd,reduceMul,reduceSub,reduceLeDiff,reduceLT,Nat.reduceBEq,reduceCtorEq,List.length_map,t2,t5,t8,t11,t157,t158,t159,gN,Nat.lt_irrefl,e9]
 clear hA t157 t158 t159 e9
 refine W_for (fun i T H M=>M=[]∧getT T 2=.ptr 0 0∧getT T 5=.ptr 2 0∧getT T 11=.ptr N 0∧getT T 18=.ps .unk (diag ms.length)∧getT T 19=i64 (wSum (w.take i))∧getT T 179=.ps .unk (w.map Leg.row)∧getT T 180=i64 (w.length:Nat)∧getT T 181=i64 i∧N < H.n∧H.get 0=.cells [.ps .unk (n.lines.map Ln.row),.ps .unk (n.sws.map Sw.row),.ps .unk (n.sts.map Stc.row)] 26∧H.get 2=.cells [.str s0,.int .i64 m0,.str s1,.int .i64 m1] 33∧H.get N=.cells [.ps t (ms.map ptRow),.ps t' ((ms.map dbl).map ptRow)] 53) w.length ?_ ?_ ?_
 · rw [ws0]
   simp only [go_sem,reduceIte,reduceEqDiff,reduceAdd,reduceMul,reduceSub,reduceLeDiff,reduceLT,Nat.reduceBEq,reduceCtorEq,List.length_map,t2,t5,t8,t11,gN,hn',g0,g2]
 · clear hn' g0 g2 gN t2 t5 t8 t11
   rintro i T H M hi ⟨rfl,t2,t5,t11,t18,t19,t179,t180,t181,hn',g0,g2,gN⟩
   obtain ⟨l,hl⟩:∃ l,w[i]? = some l:=⟨w[i],by simp⟩
   have hr:=map_at (f:=Leg.row) hl
   have hwi:=wrap_succ hi hwl
   obtain ⟨lf,lt⟩:=hleg l (List.mem_of_getElem? hl)
   have hsum:=sum_take hl
   have hsm1:=sum_mono w (i+1)
   have hsn:=wSum_nonneg (w.take i)
   have hl0:=len_nonneg l
   obtain ⟨kl,hkl⟩:∃ kl:Nat,l.len=(kl:Int):=⟨l.len.toNat,by omega⟩
   have hpl:=fun (k:Nat) (hk:k < kl+1)=>hpart hl (k:=(k:Int)) (by omega) (by rw [hkl];omega)
   have v1:wrapq .i64 (Int.sub l.to l.fr)=l.to - l.fr:=wrapq_i64 (by show _≤l.to - l.fr;omega) (by show l.to - l.fr≤_;omega)
   have v2:wrapq .i64 (Int.sub l.fr l.to)=l.fr - l.to:=wrapq_i64 (by show _≤l.fr - l.to;omega) (by show l.fr - l.to≤_;omega)
   have v3:maxI (l.to - l.fr) (l.fr - l.to)=(kl:Int):=by rw [← hkl];unfold maxI Leg.len dI;split<;>split<;>omega
   rw [hkl] at hsum
   have v4:wrapq .i64 (Int.add (wSum (w.take i)) (kl:Int))=wSum (w.take (i+1)):=by rw [add_in (by omega) (by omega) (by omega) (by omega),hsum]
   have v5:wrapq .i64 (Int.add (kl:Int) 1)=((kl+1:Nat):Int):=wrap_nat (n:=kl+1) (by omega)
   have y2:(0=H.n)=False∧(2=H.n)=False∧(N=H.n)=False∧(H.n=0)=False∧(H.n=2)=False∧(H.n=N)=False:=by simp only [eq_iff_iff,iff_false];omega
   have y3:(N < H.n+1)=True:=eq_true (by omega)
   have y4:(H.n < H.n+1)=True:=eq_true (by omega)
   have hmp:=first_mark hmi.first
   have hd0:diag ms.length ≠ []:=fun h=>by have:=diag_len ms.length;rw [h] at this;simp at this;omega
   have a3:=fun H=>app_new (lo:=0) (H:=H) (sz:=2) (e:=68) hd0 (by rw [diag_len];exact hml) (diag_pure _) (by decide)
   simp only [diag_strip] at a3
   have e11:=peL11 ms hml
   simp only [rideRow,i64] at e11
   obtain ⟨st,hst⟩:∃ st:Int,st=if l.to < l.fr then -1 else 1:=⟨_,rfl⟩
   unfold along at hpl
   obtain ⟨ln,fr,to⟩:=l
   simp only [Leg.row,i64] at hr
   simp only at v1 v2 v3 hst hpl lf lt
   have hpl2:∀ k:Nat,k < kl+1 → ∃ Q:Int,Q=fr+st * (k:Int) ∧ ∃ v:List Leg,wayP n (s0,m0) (ln,Q)=[.ps .unk (v.map Leg.row),i64 (wSum (w.take i)+k),i64 0]:=fun k hk=>⟨_,by rw [hst];split<;>omega,hpl k hk⟩
   clear hpl
   rcases Classical.propComplete (to < fr) with cs | cs
   all_goals
    simp only [cs,if_true,if_false] at hst
    simp only [go_sem,reduceIte,reduceEqDiff,reduceAdd,reduceMul,reduceSub,reduceLeDiff,reduceLT,Nat.reduceBEq,reduceCtorEq,List.length_map,t2,t5,t11,t18,t19,t179,t180,t181,g0,g2,gN,hi,hr,v1,v2,v3,v5,y2,cs]
    refine W_for (fun k T' H' M=>M=[]∧getT T' 2=.ptr 0 0∧getT T' 5=.ptr 2 0∧getT T' 11=.ptr N 0∧getT T' 18=.ps .unk (diag ms.length)∧getT T' 19=i64 (wSum (w.take i))∧getT T' 179=.ps .unk (w.map Leg.row)∧getT T' 180=i64 (w.length:Nat)∧getT T' 181=i64 i∧getT T' 21=.ptr H.n 0∧getT T' 22=i64 st∧getT T' 201=i64 ((kl+1:Nat):Int)∧getT T' 202=i64 k∧H.n < H'.n∧H'.get 0=.cells [.ps .unk (n.lines.map Ln.row),.ps .unk (n.sws.map Sw.row),.ps .unk (n.sts.map Stc.row)] 26∧H'.get 2=.cells [.str s0,.int .i64 m0,.str s1,.int .i64 m1] 33∧H'.get N=.cells [.ps t (ms.map ptRow),.ps t' ((ms.map dbl).map ptRow)] 53∧H'.get H.n=.cells [.str ln,.int .i64 fr,.int .i64 to] 55) (kl+1) ?_ ?_ ?_
    · simp only [go_sem,reduceIte,reduceEqDiff,reduceAdd,reduceMul,reduceSub,reduceLeDiff,reduceLT,Nat.reduceBEq,reduceCtorEq,t2,t5,t11,t18,t19,t179,t180,t181,g0,g2,gN,y2,y3,y4,hst]
    · rintro k T' H' M hk ⟨rfl,t2,t5,t11,t18,t19,t179,t180,t181,t21,t22,t201,t202,hn2,g0,g2,gN,gL⟩
      obtain ⟨Q,hQ,v,hv⟩:=hpl2 k hk
      have hwk:wrapq .i64 (Int.add (k:Int) 1)=((k+1:Nat):Int):=wrap_nat (n:=k+1) (by omega)
      have u1:wrapq .i64 (Int.add (wSum (w.take i)) (k:Int))=wSum (w.take i)+k:=add_in (by omega) (by omega) (by omega) (by omega)
      have hd1:0≤wSum (w.take i)+k∧wSum (w.take i)+k≤wSum w:=by omega
      generalize wSum (w.take i)+(k:Int)=d at hv u1 hd1
      have u2:wrapq .i64 (Int.mul 2 d)=2 * d:=wrapq_i64 (by show _≤2 * d;omega) (by show 2 * d≤_;omega)
      have e10:=peL10 ms d ⟨hR,⟨_,hmi.first⟩,hd1.1,by obtain ⟨s,hs⟩:=hmi.last;exact ⟨_,hs,hd1.2⟩⟩
      have e12:=peL12 ms d ⟨hR,⟨_,hmi.first⟩,hd1.1,by omega⟩
      have hq:=rem_ok (a:=(k:Int)) (b:=5) (by omega) (by omega)
      have z5:((5:Int)=0)=False:=by simp
      simp only [go_sem,z5,if_false] at hq
      generalize (k:Int) % 5=RR at hq
      have y6:(0=H'.n)=False∧(2=H'.n)=False∧(N=H'.n)=False∧(H.n=H'.n)=False∧(0=H'.n+1)=False∧(2=H'.n+1)=False∧(N=H'.n+1)=False∧(H.n=H'.n+1)=False∧(H.n < H'.n+1)=True∧(H.n < H'.n+1+1)=True:=by
       refine ⟨?_, ?_, ?_, ?_, ?_, ?_, ?_, ?_, ?_, ?_⟩<;>first | exact eq_false (by omega) | exact eq_true (by omega)
      simp only [rideRow,i64] at e10 e12
      rcases Classical.propComplete (RR=0) with cR | cR
      case inr =>
       simp only [go_sem,reduceIte,reduceEqDiff,reduceAdd,reduceMul,reduceSub,reduceLeDiff,reduceLT,Nat.reduceBEq,reduceCtorEq,List.length_map,t2,t5,t11,t18,t19,t179,t180,t181,t21,t22,t201,t202,g0,g2,gN,gL,hk,hwk,u1,u2,e10,e11,hq,z5,cR,y6,diag_all,appO,isIntT_slice,rowsIn,a3]
      have u3:wrapq .i64 (Int.mul st (k:Int))=st * k:=wrapq_i64 (by show _≤st * (k:Int);rw [hst];omega) (by show st * (k:Int)≤_;rw [hst];omega)
      have u4:wrapq .i64 (Int.add fr (st * k))=fr+st * k:=add_in (by omega) (by omega) (by rw [hst];omega) (by rw [hst];omega)
      have f02:=pe71 n (s0,m0) (ln,Q) hok
      rw [hv] at f02
      simp only [Net.cells,ptRow,i64] at f02
      rw [← hQ] at u4
      have c1:(d < d)=False:=eq_false (Int.lt_irrefl d)
      have c2:(3 * d < d)=False:=eq_false (by omega)
      simp only [go_sem,reduceIte,reduceEqDiff,reduceAdd,reduceMul,reduceSub,reduceLeDiff,reduceLT,Nat.reduceBEq,reduceCtorEq,List.length_map,t2,t5,t11,t18,t19,t179,t180,t181,t21,t22,t201,t202,g0,g2,gN,gL,hk,hwk,u1,u2,u3,u4,e10,e11,e12,e19,f02,c1,c2,hq,z5,cR,y6,diag_all,appO,isIntT_slice,rowsIn,a3]
    · rintro T' H' M ⟨rfl,t2,t5,t11,t18,t19,t179,t180,t181,t21,t22,t201,t202,hn2,g0,g2,gN,gL⟩
      have y6:(N < H'.n)=True:=eq_true (by omega)
      simp only [go_sem,reduceIte,reduceEqDiff,reduceAdd,reduceMul,reduceSub,reduceLeDiff,reduceLT,Nat.reduceBEq,reduceCtorEq,t2,t5,t11,t18,t19,t179,t180,t181,t21,t22,t201,t202,g0,g2,gN,gL,Nat.lt_irrefl,v1,v2,v3,v4,hwi,y6]
 clear hn' g0 g2 gN t2 t5 t8 t11
 rintro T H M ⟨rfl,t2,t5,t11,t18,t19,t179,t180,t181,hn',g0,g2,gN⟩
 have e11:=peL11 ms hml
 have e13:=peL13 ms hR
 have hmp:=first_mark hmi.first
 have hd0:diag ms.length ≠ []:=fun h=>by have:=diag_len ms.length;rw [h] at this;simp at this;omega
 have a3:=fun H=>app_new (lo:=0) (H:=H) (sz:=2) (e:=68) hd0 (by rw [diag_len];exact hml) (diag_pure _) (by decide)
 simp only [diag_strip] at a3
 have hr1:rangeI 500 0 500=0:=rfl
 have hr2:rangeI 0 0 10000=0:=rfl
 simp only [rideRow,i64] at e11 e13
 simp only [go_sem,reduceIte,reduceEqDiff,reduceAdd,reduceMul,reduceSub,reduceLeDiff,reduceLT,Nat.reduceBEq,reduceCtorEq,List.length_map,t2,t5,t11,t18,t19,t179,t180,t181,g0,g2,gN,Nat.lt_irrefl,e11,e13,diag_all,appO,isIntT_slice,rowsIn,a3,hr1,hr2]
end Go.Sim
