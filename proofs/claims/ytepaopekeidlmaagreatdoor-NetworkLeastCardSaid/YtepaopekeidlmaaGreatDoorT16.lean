/-
The parts NetY8, NetY15, NetY14, NetY10, NetY16, NetY12 of one proof, joined: each begins with a remark that says what it shows.
-/
import Derived.Test.YtepaopekeidlmaaGreatDoorT15
set_option linter.unusedSimpArgs false
set_option linter.unusedVariables false
open Nat (reduceEqDiff reduceAdd reduceMul reduceSub reduceLeDiff reduceLT)

/-
What is reached, and what is nearest: both ways of asking are one.
-/
namespace Go.Sim
open Go Go.Proofs
set_option maxRecDepth 100000
set_option maxHeartbeats 4000000
/-! ### Ends lie on their lines -/
theorem has_on {n:Net} {s:List Nat} {m:Int} (hm:hasB (lnOf n.lines s) m=true):0≤m∧m < sumW (lnOf n.lines s).ps 0:=by
 unfold hasB at hm
 simp only [Bool.and_eq_true,Bool.not_eq_true',decide_eq_false_iff_not,decide_eq_true_eq] at hm
 omega
theorem place_on {n:Net} {s:List Nat} {m:Int} (hp:placeP n s m=0):0≤m∧m < sumW (lnOf n.lines s).ps 0:=by
 unfold placeP at hp
 have z2:=when_zero (by decide) (firstI_mem0 hp _ (List.mem_cons_of_mem _ (List.mem_cons_self ..)))
 simp only [Bool.not_eq_false'] at z2
 exact has_on z2
theorem ends_on {n:Net} (h:netP n=0):∀ i k,i < n.sws.length→0≤(endE n i k).2∧(endE n i k).2 < sumW (lnOf n.lines (endE n i k).1).ps 0:=by
 intro i k hi
 obtain ⟨z1,z2,z3,_⟩:=sw_zero h _ (List.getElem_mem hi)
 have e:endE n i k=if k then (n.sws[i].other,endM n n.sws[i]) else (n.sws[i].line,n.sws[i].metre):=by
  unfold endE
  rw [List.getElem?_eq_getElem hi]
 rw [e]
 cases k with
 | false=>exact has_on z2
 | true =>
   have hl:=len_in h z3
   show 0≤endM n n.sws[i]∧endM n n.sws[i] < sumW (lnOf n.lines n.sws[i].other).ps 0
   unfold endM
   split
   · have e1:Int.sub (sumW (lnOf n.lines n.sws[i].other).ps 0) 1=sumW (lnOf n.lines n.sws[i].other).ps 0 - 1:=rfl
     have e2:wrapq .i64 (Int.sub (sumW (lnOf n.lines n.sws[i].other).ps 0) 1)=sumW (lnOf n.lines n.sws[i].other).ps 0 - 1:=wrapq_i64 (by rw [e1];omega) (by rw [e1];omega)
     rw [e2];omega
   · omega
theorem ent_on {n:Net} (h:netP n=0) (h4:n.sws.length≤4) {a:Pt} (ha:lnB n.lines a.1=true) (hRa:inR a.2) (hon:0≤a.2∧a.2 < sumW (lnOf n.lines a.1).ps 0):∀ e ∈ entO n a,(0≤e.1.2∧e.1.2 < sumW (lnOf n.lines e.1.1).ps 0)∧inR e.1.2∧0≤e.2∧e.2≤4000000:=by
 intro e he
 rcases (ent_mem n a _).1 he with rfl | ⟨j,k,hj,he⟩
 · exact ⟨hon,hRa,by simp,by simp⟩
 · unfold entAt at he
   cases ho:bestO n a (endE n j k) with
   | none=>rw [ho] at he;cases he
   | some w =>
     rw [ho] at he
     rw [List.mem_singleton.1 he]
     obtain ⟨σ,s1,s2,s3⟩:=bestO_in h hRa (ends_in h j k hj).2 ho
     have hl:=bestO_len ho
     have:=wSum_small s3
     have:=wSum_nonneg w
     exact ⟨ends_on h j (!k) hj,(ends_in h j (!k) hj).2,by show 0≤wSum w;omega,by show wSum w≤4000000;omega⟩
/-! ### What is reached -/
theorem dI_le {x m d:Int}:dI x m≤d ↔ x - d≤m∧m≤x+d:=by unfold dI;split<;>omega
theorem spanE_mem {len most:Int} {s:List Nat} {e:Ent} (hlen:1≤len∧len≤800000) (hm:0≤most∧most≤100000000) (he:inR e.1.2∧0≤e.2∧e.2≤4000000) (hon:e.1.1=s→0≤e.1.2∧e.1.2 < len):(∀ p ∈ spanE len most s e, -1 < p.1∧p.1 < p.2) ∧ ∀ x,memS (spanE len most s e) x ↔ (0≤x∧x < len)∧e.1.1=s∧e.2+dI e.1.2 x≤most:=by
 obtain ⟨⟨r1,r2⟩,d0,d1⟩:=he
 have eL:leftW most e=most - e.2:=by
  have:Int.sub most e.2=most - e.2:=rfl
  unfold leftW
  rw [this];exact wrap_small (by omega) (by omega)
 unfold spanE
 rw [eL]
 by_cases hs:e.1.1=s
 · have hb:beqL e.1.1 s=true:=(beqL_iff _ _).2 hs
   have ho:=hon hs
   rw [hb]
   by_cases hl:most - e.2 < 0
   · rw [if_neg (by simp [hl])]
     refine ⟨fun p hp=>(by cases hp),fun x=>⟨fun k=>absurd k (memS_nil x),fun k => ?_⟩⟩
     have:=dI_nonneg e.1.2 x
     omega
   · rw [if_pos (by simp [hl])]
     have e1:Int.sub e.1.2 (most - e.2)=e.1.2 - (most - e.2):=rfl
     have e2:Int.add e.1.2 (most - e.2)=e.1.2+(most - e.2):=rfl
     rw [e1,wrap_small (x:=e.1.2 - (most - e.2)) (by omega) (by omega),e2,wrap_small (x:=e.1.2+(most - e.2)) (by omega) (by omega)]
     have e3:Int.add (e.1.2+(most - e.2)) 1=e.1.2+(most - e.2)+1:=rfl
     rw [e3,wrap_small (x:=e.1.2+(most - e.2)+1) (by omega) (by omega)]
     have h1:maxI 0 (e.1.2 - (most - e.2))≤e.1.2 ∧ -1 < maxI 0 (e.1.2 - (most - e.2)):=by unfold maxI;split<;>omega
     have h2:e.1.2 < minI len (e.1.2+(most - e.2)+1):=by unfold minI;split<;>omega
     refine ⟨fun p hp => ?_,fun x => ?_⟩
     · rw [List.mem_singleton.1 hp]
       simp only
       omega
     · rw [memS_cons]
       simp only
       have hx:(e.2+dI e.1.2 x≤most) ↔ (e.1.2 - (most - e.2)≤x∧x≤e.1.2+(most - e.2)):=by
        have:=dI_le (x:=e.1.2) (m:=x) (d:=most - e.2)
        omega
       have n0:=memS_nil x
       constructor
       · rintro (k | k)
         · refine ⟨⟨?_, ?_⟩,hs,hx.2 ⟨?_, ?_⟩⟩
           all_goals (revert k;unfold maxI minI;(repeat' split)<;>omega)
         · exact absurd k n0
       · rintro ⟨k1,_,k2⟩
         have:=hx.1 k2
         left
         unfold maxI minI
         (repeat' split)<;>omega
 · have hb:beqL e.1.1 s=false:=by
    cases hc:beqL e.1.1 s with
    | false=>rfl
    | true=>exact absurd ((beqL_iff _ _).1 hc) hs
   rw [hb]
   simp only [Bool.false_and,Bool.false_eq_true,if_false]
   exact ⟨fun p hp=>(by cases hp),fun x=>⟨fun k=>absurd k (memS_nil x),fun k=>absurd k.2.1 hs⟩⟩
theorem memS_flat {α:Type} {f:α→List Spn} {x:Int}:∀ {l:List α},memS (l.flatMap f) x ↔ ∃ e ∈ l,memS (f e) x
 | []=>⟨fun k=>absurd k (memS_nil x),fun ⟨e,he,_⟩=>by cases he⟩
 | a::r=>by
   rw [List.flatMap_cons,memS_append,memS_flat]
   constructor
   · rintro (h | ⟨e,he,h⟩)
     · exact ⟨a,by simp,h⟩
     · exact ⟨e,by simp [he],h⟩
   · rintro ⟨e,he,h⟩
     rcases List.mem_cons.1 he with rfl | he
     · exact .inl h
     · exact .inr ⟨e,he,h⟩
theorem spLt_iff (a b:Spn):spLt a b=true ↔ a.1 < b.1:=by
 unfold spLt
 rw [decide_eq_true_eq,cmpI_lt]
theorem sorted_of:∀ {l:List Spn},l.Pairwise (fun a b=>spLt b a=false)→sortedS l
 | [],_=>trivial
 | [_],_=>trivial
 | a::b::r,h=>by
   have hc:=List.pairwise_cons.1 h
   refine ⟨?_,sorted_of hc.2⟩
   have h1:=hc.1 b (by simp)
   rcases Int.lt_or_le b.1 a.1 with k | k
   · have:=(spLt_iff b a).2 k
     rw [this] at h1;cases h1
   · exact k
theorem spans_sorted (l:List Spn):sortedS (isort spLt l):=by
 refine sorted_of (isort_sorted spLt (fun a b h => ?_) (fun a b c h1 h2 => ?_) l)
 · have:=(spLt_iff a b).1 h
   cases hb:spLt b a with
   | false=>rfl
   | true=>have:=(spLt_iff b a).1 hb;omega
 · cases hb:spLt c a with
   | false=>rfl
   | true =>
     have h3:=(spLt_iff c a).1 hb
     rcases Int.lt_or_le b.1 a.1 with k | k
     · have:=(spLt_iff b a).2 k
       rw [this] at h1;cases h1
     · have:=(spLt_iff c b).2 (by omega)
       rw [this] at h2;cases h2
theorem merge_runs {len most:Int} {s:List Nat} {es:List Ent} {f:Nat→Bool} (hlen:1≤len∧len≤800000) (hm:0≤most∧most≤100000000) (he:∀ e ∈ es,(inR e.1.2∧0≤e.2∧e.2≤4000000)∧(e.1.1=s→0≤e.1.2∧e.1.2 < len)) (hf:∀ x:Int,0≤x→x < len→(f x.toNat=true ↔ ∃ e ∈ es,e.1.1=s∧e.2+dI e.1.2 x≤most)):mergeE len most s es=runsR f len.toNat:=by
 have hsp:=fun e h=>spanE_mem (most:=most) (s:=s) hlen hm (he e h).1 (he e h).2
 have hmem:∀ p,p ∈ isort spLt (spansE len most s es) ↔ p ∈ spansE len most s es:=fun p=>(isort_perm spLt _).mem_iff
 have hgood:∀ p ∈ isort spLt (spansE len most s es), -1 < p.1∧p.1 < p.2:=by
  intro p hp
  obtain ⟨e,h1,h2⟩:=List.mem_flatMap.1 ((hmem p).1 hp)
  exact (hsp e h1).1 p h2
 obtain ⟨j1,j2⟩:=joins_ok (lo:=-1) (l:=isort spLt (spansE len most s es)) (acc:=[]) trivial (spans_sorted _) hgood (fun t ht=>by cases ht)
 obtain ⟨r1,r2,_⟩:=runs_ok f len.toNat
 refine canon j1 r1 fun x => ?_
 have hj:=j2 x
 have hr:=r2 x
 show memS (List.foldl joinP [] (isort spLt (spansE len most s es))) x ↔ memS (runsR f len.toNat) x
 rw [hj,hr]
 have e1:memS (isort spLt (spansE len most s es)) x ↔ memS (spansE len most s es) x:=by
  constructor
  · rintro ⟨p,hp,h⟩;exact ⟨p,(hmem p).1 hp,h⟩
  · rintro ⟨p,hp,h⟩;exact ⟨p,(hmem p).2 hp,h⟩
 rw [e1]
 unfold spansE
 rw [memS_flat]
 constructor
 · rintro (k | ⟨e,h1,h2⟩)
   · exact absurd k (memS_nil x)
   · obtain ⟨⟨q1,q2⟩,q3,q4⟩:=((hsp e h1).2 x).1 h2
     exact ⟨q1,by omega,(hf x q1 q2).2 ⟨e,h1,q3,q4⟩⟩
 · rintro ⟨q1,q2,q3⟩
   have q2:x < len:=by omega
   obtain ⟨e,h1,h2,h3⟩:=(hf x q1 q2).1 q3
   exact .inr ⟨e,h1,((hsp e h1).2 x).2 ⟨⟨q1,q2⟩,h2,h3⟩⟩
noncomputable def okR (n:Net) (a:Pt) (most:Int) (s:List Nat) (m:Nat):Bool:=!decide (bestD (doorsO n a s) m < 0) && !decide (most < bestD (doorsO n a s) m)
noncomputable def strsR (n:Net) (a:Pt) (most:Int) (l:Ln):List Str:=(runsR (okR n a most l.name) (sumW l.ps 0).toNat).map fun p=>(l.name,p)
noncomputable def reachR (n:Net) (a:Pt) (most:Int):List Str:=n.lines.flatMap (strsR n a most)
theorem line_self {n:Net} (h:netP n=0) {l:Ln} (hl:l ∈ n.lines):lnB n.lines l.name=true∧lnOf n.lines l.name=l:=by
 obtain ⟨i,hi⟩:=List.getElem?_of_mem hl
 have hf:=line_found (by rw [← net_same];exact h) hi
 unfold lnB lnOf
 rw [hf]
 exact ⟨rfl,by simp [hi]⟩
theorem okR_iff {n:Net} (h:netP n=0) (h4:n.sws.length≤4) {a:Pt} (ha:lnB n.lines a.1=true) (hRa:inR a.2) {most:Int} {s:List Nat} {x:Int} (hx:inR x):okR n a most s x.toNat=true ↔ ∃ e ∈ entO n a,e.1.1=s∧e.2+dI e.1.2 x≤most:=by
 have e0:((x.toNat:Nat):Int)=x:=Int.toNat_of_nonneg hx.1
 have hw:=(ent_cover h ha s).within x most
 have hL:(∃ y d,(y,d) ∈ lineOf s (entO n a)∧d+dI y x≤most) ↔ ∃ e ∈ entO n a,e.1.1=s∧e.2+dI e.1.2 x≤most:=by
  constructor
  · rintro ⟨y,d,h1,h2⟩
    exact ⟨((s,y),d),mem_lineOf.1 h1,rfl,h2⟩
  · rintro ⟨⟨⟨t,y⟩,d⟩,h1,h2,h3⟩
    simp only at h2;subst h2
    exact ⟨y,d,mem_lineOf.2 h1,h3⟩
 rw [← hL,hw]
 unfold okR
 rw [e0]
 simp only [Bool.and_eq_true,Bool.not_eq_true',decide_eq_false_iff_not]
 rcases bestD_dist h h4 ha hRa (s:=s) hx with ⟨q1,q2⟩ | ⟨q1,q2⟩
 · constructor
   · rintro ⟨k,_⟩;omega
   · rintro ⟨d,hd,_⟩
     obtain ⟨σ,s1,_⟩:=hd.way
     exact (q2 σ s1).elim
 · constructor
   · rintro ⟨_,k⟩;exact ⟨_,q2,by omega⟩
   · rintro ⟨d,hd,k⟩
     have:=hd.uniq q2
     omega
theorem reach_same {n:Net} (h:netP n=0) (h4:n.sws.length≤4) {a:Pt} (ha:lnB n.lines a.1=true) (hRa:inR a.2) (hon:0≤a.2∧a.2 < sumW (lnOf n.lines a.1).ps 0) {most:Int} (hm:0≤most∧most≤100000000):reachE most (entO n a) n.lines=reachR n a most:=by
 unfold reachE reachR
 have key:∀ l ∈ n.lines,strsE most (entO n a) l=strsR n a most l:=by
  intro l hl
  obtain ⟨hb,hlo⟩:=line_self h hl
  have hlen:=len_in h hb
  rw [hlo] at hlen
  have hent:=ent_on h h4 ha hRa hon
  unfold strsE strsR
  rw [merge_runs (f:=okR n a most l.name) hlen hm (fun e he=>⟨(hent e he).2,fun q=>by have:=(hent e he).1;rw [q,hlo] at this;exact this⟩) fun x h0 h1=>okR_iff h h4 ha hRa (show inR x from ⟨h0,by omega⟩)]
 have:∀ (ls:List Ln),(∀ l ∈ ls,strsE most (entO n a) l=strsR n a most l)→ls.flatMap (strsE most (entO n a))=ls.flatMap (strsR n a most):=by
  intro ls
  induction ls with
  | nil=>intro _;rfl
  | cons l r ih =>
    intro hk
    rw [List.flatMap_cons,List.flatMap_cons,hk l (by simp),ih fun q hq=>hk q (by simp [hq])]
 exact this _ key
/-! ### The nearest -/
end Go.Sim

/-
Least: plain laws of the least way, of the way turned round, and of what is reached.
-/
namespace Go.Sim
open Go Go.Proofs
set_option maxRecDepth 100000
set_option maxHeartbeats 4000000
/-! ### Ways and joins -/
theorem join_end {n:Net} {i:Nat} (hi:i < n.sws.length) (k:Bool):joinN n (endE n i k) (endE n i (!k))=true:=by
 have e:∀ k,endE n i k=if k then (n.sws[i].other,endM n n.sws[i]) else (n.sws[i].line,n.sws[i].metre):=by
  intro k
  unfold endE
  rw [List.getElem?_eq_getElem hi]
 unfold joinN
 rw [List.any_eq_true]
 refine ⟨n.sws[i],List.getElem_mem hi, ?_⟩
 rw [e,e]
 unfold joinW
 cases k with
 | false=>simp only [Bool.not_false,Bool.false_eq_true,if_true,if_false,(ptB_iff _ _).2 rfl,Bool.and_self,Bool.true_or]
 | true=>simp only [Bool.not_true,Bool.false_eq_true,if_true,if_false,(ptB_iff _ _).2 rfl,Bool.and_self,Bool.or_true]
theorem join_of {n:Net} {p q:Pt} (h:joinN n p q=true):∃ i k,i < n.sws.length∧endE n i k=p∧endE n i (!k)=q:=by
 unfold joinN at h
 rw [List.any_eq_true] at h
 obtain ⟨s,hs,hj⟩:=h
 obtain ⟨i,hi⟩:=List.getElem?_of_mem hs
 have hil:=(List.getElem?_eq_some_iff.1 hi).1
 have e:∀ k,endE n i k=if k then (s.other,endM n s) else (s.line,s.metre):=by
  intro k
  unfold endE
  rw [hi]
 unfold joinW at hj
 rw [Bool.or_eq_true,Bool.and_eq_true,Bool.and_eq_true,ptB_iff,ptB_iff,ptB_iff,ptB_iff] at hj
 rcases hj with ⟨h1,h2⟩ | ⟨h1,h2⟩
 · exact ⟨i,false,hil,by rw [e];exact h1,by rw [e];exact h2⟩
 · exact ⟨i,true,hil,by rw [e];exact h2,by rw [e];exact h1⟩
theorem pt_eta (p:Pt) {s:List Nat} (h:p.1=s):(s,p.2)=p:=by subst h;rfl
theorem go_walk {n:Net} {b:Pt}:∀ {σ:List Stp} {p c:Pt},joinN n p c=true→okS (endE n) n.sws.length c σ b→goW n b p false (legsOf (endE n) c σ b)=true
 | [],p,c,hj,h=>by
   have h:c.1=b.1:=h
   show (joinN n p (c.1,c.2) && ptB (c.1,b.2) b)=true
   rw [Bool.and_eq_true]
   exact ⟨hj,(ptB_iff _ _).2 (pt_eta b h.symm)⟩
 | s::r,p,c,hj,h=>by
   obtain ⟨h1,h2,h3⟩:=h
   show (joinN n p (c.1,c.2) && goW n b (c.1,(endE n s.1 s.2).2) false (legsOf (endE n) (endE n s.1 (!s.2)) r b))=true
   rw [Bool.and_eq_true,pt_eta _ h2]
   exact ⟨hj,go_walk (join_end h1 s.2) h3⟩
theorem go_first {n:Net} {a b:Pt} {σ:List Stp} (h:okS (endE n) n.sws.length a σ b):goW n b a true (legsOf (endE n) a σ b)=true:=by
 cases σ with
 | nil =>
   have h:a.1=b.1:=h
   show (ptB (a.1,a.2) a && ptB (a.1,b.2) b)=true
   rw [Bool.and_eq_true]
   exact ⟨(ptB_iff _ _).2 rfl,(ptB_iff _ _).2 (pt_eta b h.symm)⟩
 | cons s r =>
   obtain ⟨h1,h2,h3⟩:=h
   show (ptB (a.1,a.2) a && goW n b (a.1,(endE n s.1 s.2).2) false (legsOf (endE n) (endE n s.1 (!s.2)) r b))=true
   rw [Bool.and_eq_true,pt_eta _ h2]
   exact ⟨(ptB_iff _ _).2 rfl,go_walk (join_end h1 s.2) h3⟩
theorem way_goes {n:Net} {b:Pt}:∀ {r:List Leg} {l:Leg},goW n b (l.line,l.to) false r=true → ∃ σ,okS (endE n) n.sws.length (l.line,l.fr) σ b∧l::r=legsOf (endE n) (l.line,l.fr) σ b
 | [],l,h=>by
   have h:ptB (l.line,l.to) b=true:=h
   have h:=(ptB_iff _ _).1 h
   refine ⟨[],by rw [← h];rfl, ?_⟩
   rw [← h];rfl
 | m::r,l,h=>by
   have h:(joinN n (l.line,l.to) (m.line,m.fr) && goW n b (m.line,m.to) false r)=true:=h
   rw [Bool.and_eq_true] at h
   obtain ⟨i,k,hi,h1,h2⟩:=join_of h.1
   obtain ⟨σ,s1,s2⟩:=way_goes h.2
   refine ⟨(i,k)::σ,⟨hi,by show (endE n i k).1=_;rw [h1],by show okS _ _ (endE n i (!k)) σ b;rw [h2];exact s1⟩, ?_⟩
   show l::m::r=⟨l.line,l.fr,(endE n i k).2⟩::legsOf (endE n) (endE n i (!k)) σ b
   rw [h2,← s2,h1]
theorem walk_of {n:Net} {a b:Pt} {w:List Leg} (h0:0 < w.length) (h:goW n b a true w=true):∃ σ,okS (endE n) n.sws.length a σ b∧w=legsOf (endE n) a σ b:=by
 cases w with
 | nil=>simp at h0
 | cons l r =>
   have h:(ptB (l.line,l.fr) a && goW n b (l.line,l.to) false r)=true:=h
   rw [Bool.and_eq_true] at h
   have e:=(ptB_iff _ _).1 h.1
   obtain ⟨σ,s1,s2⟩:=way_goes h.2
   rw [e] at s1 s2
   exact ⟨σ,s1,s2⟩
/-! ### Ways that are valid -/
theorem legs_pt {E:Nat→Bool→Pt} {N:Nat} {Pr:Pt→Prop} (hE:∀ i k,i < N→Pr (E i k)):∀ {σ:List Stp} {a b:Pt},Pr a→Pr b→okS E N a σ b → ∀ l ∈ legsOf E a σ b,Pr (l.line,l.fr)∧Pr (l.line,l.to)
 | [],a,b,ha,hb,h,l,hl=>by
   have h:a.1=b.1:=h
   have hl:l ∈ [(⟨a.1,a.2,b.2⟩:Leg)]:=hl
   rw [List.mem_singleton.1 hl]
   exact ⟨ha,by show Pr (a.1,b.2);rw [pt_eta b h.symm];exact hb⟩
 | s::r,a,b,ha,hb,h,l,hl=>by
   obtain ⟨h1,h2,h3⟩:=h
   have hl:l ∈ (⟨a.1,a.2,(E s.1 s.2).2⟩:Leg)::legsOf E (E s.1 (!s.2)) r b:=hl
   rcases List.mem_cons.1 hl with rfl | hl
   · exact ⟨ha,by show Pr (a.1,(E s.1 s.2).2);rw [pt_eta _ h2];exact hE _ _ h1⟩
   · exact legs_pt hE (hE _ _ h1) hb h3 l hl
theorem end_place {n:Net} (h:netP n=0):∀ i k,i < n.sws.length→placeP n (endE n i k).1 (endE n i k).2=0:=by
 intro i k hi
 have h1:=(ends_in h i k hi).1
 have h2:=ends_on h i k hi
 have h3:hasB (lnOf n.lines (endE n i k).1) (endE n i k).2=true:=by
  unfold hasB
  simp only [Bool.and_eq_true,Bool.not_eq_true',decide_eq_false_iff_not,decide_eq_true_eq]
  omega
 unfold placeP
 rw [h1,h3]
 rfl
theorem check_ok {n:Net} (h:netP n=0) {a b:Pt} (hp:placesP n [a,b]=0) {σ:List Stp} (hs:okS (endE n) n.sws.length a σ b) (hl:σ.length≤15):checkWayP n a b (legsOf (endE n) a σ b)=[i64 (lenS (endE n) a σ b),i64 0]:=by
 have hpz:=places_zero hp
 have hlen:=legsOf_length (endE n) a σ b
 have hpt:=legs_pt (Pr:=fun p=>placeP n p.1 p.2=0) (end_place h) (hpz.2 a (by simp)) (hpz.2 b (by simp)) hs
 have hlg:legsP n (legsOf (endE n) a σ b)=0:=by
  unfold legsP
  have e1:firstI [whenI (decide (((legsOf (endE n) a σ b).length:Int)=0)) 12,whenI (decide ((16:Int) < (legsOf (endE n) a σ b).length)) 5]=0:=by
   have q1:decide (((legsOf (endE n) a σ b).length:Int)=0)=false:=by rw [decide_eq_false_iff_not];omega
   have q2:decide ((16:Int) < (legsOf (endE n) a σ b).length)=false:=by rw [decide_eq_false_iff_not];omega
   rw [q1,q2];rfl
  simp only [e1,if_true]
  refine firstI_all fun x hx => ?_
  obtain ⟨l,hl,rfl⟩:=List.mem_map.1 hx
  have:=hpt l hl
  unfold legP
  simp only at this
  rw [this.1,this.2];rfl
 unfold checkWayP
 rw [if_pos hp,if_pos hlg,if_pos (go_first hs)]
 have hin:∀ l ∈ legsOf (endE n) a σ b,inR l.fr∧inR l.to:=fun l hl=>⟨(place_in h (hpt l hl).1).2,(place_in h (hpt l hl).2).2⟩
 rw [sum_same hin (Int.le_refl _) (by omega)]
 show [i64 (0+wSum _),i64 0]=_
 rw [Int.zero_add];rfl
theorem check_least {n:Net} (h:netP n=0) {a b:Pt} (hp:placesP n [a,b]=0) (l:List Leg):∃ c e,checkWayP n a b l=[i64 c,i64 e]∧(e=0 → ∃ σ,okS (endE n) n.sws.length a σ b∧c=lenS (endE n) a σ b):=by
 unfold checkWayP
 rw [if_pos hp]
 by_cases h1:legsP n l=0
 · rw [if_pos h1]
   have hlz:=legs_zero h1
   by_cases h2:goW n b a true l=true
   · rw [if_pos h2]
     refine ⟨_,_,rfl,fun _ => ?_⟩
     obtain ⟨σ,s1,s2⟩:=walk_of hlz.1 h2
     have hin:∀ q ∈ l,inR q.fr∧inR q.to:=fun q hq=>⟨(place_in h (hlz.2.2 q hq).1).2,(place_in h (hlz.2.2 q hq).2).2⟩
     refine ⟨σ,s1, ?_⟩
     rw [sum_same hin (Int.le_refl _) (by omega),Int.zero_add,s2]
     rfl
   · rw [if_neg h2]
     exact ⟨_,_,rfl,fun h=>absurd h (by decide)⟩
 · rw [if_neg h1]
   exact ⟨_,_,rfl,fun h=>absurd h h1⟩
/-! ### Turned round -/
def turnG (l:Leg):Leg:=⟨l.line,l.to,l.fr⟩
theorem turn_legs {E:Nat→Bool→Pt} {N:Nat}:∀ {σ:List Stp} {a b:Pt},okS E N a σ b→(legsOf E a σ b).reverse.map turnG=legsOf E b (revS σ) a
 | [],a,b,h=>by
   have h:a.1=b.1:=h
   show [(⟨a.1,b.2,a.2⟩:Leg)]=[⟨b.1,b.2,a.2⟩]
   rw [h]
 | s::r,a,b,h=>by
   obtain ⟨h1,h2,h3⟩:=h
   have e:revS (s::r)=revS r++[(s.1,!s.2)]:=by simp [revS]
   rw [e,legsOf_snoc]
   show (((⟨a.1,a.2,(E s.1 s.2).2⟩:Leg)::legsOf E (E s.1 (!s.2)) r b).reverse).map turnG=_
   rw [List.reverse_cons,List.map_append,turn_legs h3]
   show _++[(⟨a.1,(E s.1 s.2).2,a.2⟩:Leg)]=_
   simp only [Bool.not_not]
   rw [h2]
theorem turned_at {w:List Leg} {k:Nat} {x:Leg} (h:w[w.length - 1 - k]? = some x) (hk:k < w.length):(w.reverse.map turnG)[k]? = some (turnG x):=by
 rw [List.getElem?_map,List.getElem?_reverse hk,h];rfl
/-! ### Least ways, there and back -/
theorem best_some {n:Net} {a b:Pt} {w:List Leg} (hw:bestO n a b=some w):∃ σ,okS (endE n) n.sws.length a σ b∧w=legsOf (endE n) a σ b∧wSum w=lenS (endE n) a σ b∧Dist (endE n) n.sws.length a b (wSum w):=by
 have hb:=bestO_best hw
 obtain ⟨σ,s1,s2⟩:=hb.way
 exact ⟨σ,s1,s2,by rw [s2];rfl,hb.dist⟩
theorem best_of {n:Net} (h:netP n=0) {a b:Pt} (ha:lnB n.lines a.1=true) {σ:List Stp} (hs:okS (endE n) n.sws.length a σ b):∃ w,bestO n a b=some w:=by
 have:=bestO_spec h ha (b:=b)
 cases hb:bestO n a b with
 | none=>rw [hb] at this;exact (this _ ⟨σ,hs,rfl⟩).elim
 | some w=>exact ⟨w,rfl⟩
theorem best_turn {n:Net} (h:netP n=0) {a b:Pt} (hb:lnB n.lines b.1=true) {w:List Leg} (hw:bestO n a b=some w):∃ v,bestO n b a=some v∧wSum v=wSum w:=by
 obtain ⟨σ,s1,s2,s3,s4⟩:=best_some hw
 obtain ⟨v,hv⟩:=best_of h hb (rev_ok _ _ s1).1
 obtain ⟨_,_,_,_,t4⟩:=best_some hv
 exact ⟨v,hv,t4.uniq s4.turn⟩
theorem none_turn {n:Net} (h:netP n=0) {a b:Pt} (ha:lnB n.lines a.1=true) (hw:bestO n a b=none):bestO n b a=none:=by
 cases hv:bestO n b a with
 | none=>rfl
 | some v =>
   obtain ⟨σ,s1,_⟩:=best_some hv
   obtain ⟨w,hw'⟩:=best_of h ha (rev_ok _ _ s1).1
   rw [hw] at hw';cases hw'
theorem best_line {n:Net} (h:netP n=0) {a b:Pt} (ha:lnB n.lines a.1=true) (hab:a.1=b.1):∃ w,bestO n a b=some w∧wSum w≤dI a.2 b.2:=by
 obtain ⟨w,hw⟩:=best_of h ha (b:=b) (σ:=[]) hab
 obtain ⟨_,_,_,_,s4⟩:=best_some hw
 have:=s4.least [] hab
 rw [lenS_nil] at this
 exact ⟨w,hw,this⟩
theorem best_by {n:Net} (h:netP n=0) {a b c:Pt} (ha:lnB n.lines a.1=true) (hc:lnB n.lines c.1=true) {w:List Leg} (hw:bestO n a b=some w):(bestO n a c=none∧bestO n c b=none) ∨ ∃ u v,bestO n a c=some u∧bestO n c b=some v∧wSum w≤wSum u+wSum v:=by
 obtain ⟨σ,s1,s2,s3,s4⟩:=best_some hw
 cases hu:bestO n a c with
 | none =>
   cases hv:bestO n c b with
   | none=>exact .inl ⟨rfl,rfl⟩
   | some v =>
     obtain ⟨τ,t1,_⟩:=best_some hv
     obtain ⟨u,hu'⟩:=best_of h ha (cat_ok _ _ s1 (rev_ok _ _ t1).1).1
     rw [hu] at hu';cases hu'
 | some u =>
   obtain ⟨τ,t1,_,_,t4⟩:=best_some hu
   obtain ⟨v,hv⟩:=best_of h hc (cat_ok _ _ (rev_ok _ _ t1).1 s1).1
   obtain ⟨_,_,_,_,v4⟩:=best_some hv
   exact .inr ⟨u,v,rfl,hv,s4.tri t4 v4⟩
/-! ### What has a place -/
def hasS (L:List Str) (p:Pt):Bool:=L.any fun s=>beqL s.1 p.1 && (decide (s.2.1≤p.2) && decide (p.2 < s.2.2))
theorem has_reach {n:Net} (h:netP n=0) (h4:n.sws.length≤4) {a p:Pt} (ha:lnB n.lines a.1=true) (hRa:inR a.2) (hp:placeP n p.1 p.2=0) {most:Int}:hasS (reachR n a most) p=true ↔ ∃ d,Dist (endE n) n.sws.length a p d∧d≤most:=by
 have hP:=place_in h hp
 have hon:=place_on hp
 have key:okR n a most p.1 p.2.toNat=true ↔ ∃ d,Dist (endE n) n.sws.length a p d∧d≤most:=by
  rw [okR_iff h h4 ha hRa hP.2]
  have hc:=(ent_cover h ha p.1).within p.2 most
  rw [← hc]
  constructor
  · rintro ⟨⟨⟨t,y⟩,d⟩,h1,h2,h3⟩
    simp only at h2;subst h2
    exact ⟨y,d,mem_lineOf.2 h1,h3⟩
  · rintro ⟨y,d,h1,h2⟩
    exact ⟨((p.1,y),d),mem_lineOf.1 h1,rfl,h2⟩
 rw [← key]
 unfold hasS
 rw [List.any_eq_true]
 constructor
 · rintro ⟨s,hs,hh⟩
   simp only [Bool.and_eq_true,decide_eq_true_eq] at hh
   obtain ⟨l,hl,hs⟩:=List.mem_flatMap.1 hs
   obtain ⟨q,hq,rfl⟩:=List.mem_map.1 hs
   have e:=(beqL_iff _ _).1 hh.1
   simp only at e hh
   have hm:=((runs_ok (okR n a most l.name) (sumW l.ps 0).toNat).2.1 p.2).1 ⟨q,hq,hh.2⟩
   rw [← e]
   exact hm.2.2
 · intro hk
   obtain ⟨i,l,h1,h2,h3,h5⟩:=lnB_some hP.1
   have hn:=(line_self h h3)
   have en:l.name=p.1:=by
    unfold findL at h1
    rw [List.findIdx?_eq_some_iff_getElem] at h1
    obtain ⟨hlt,h6,_⟩:=h1
    rw [(List.getElem?_eq_some_iff.1 h2).2] at h6
    exact (beqL_iff _ _).1 h6
   rw [h5] at hon
   obtain ⟨q,q1,q2⟩:=((runs_ok (okR n a most l.name) (sumW l.ps 0).toNat).2.1 p.2).2 ⟨hon.1,by omega,by rw [en];exact hk⟩
   refine ⟨(l.name,q),List.mem_flatMap.2 ⟨l,h3,List.mem_map.2 ⟨q,q1,rfl⟩⟩, ?_⟩
   simp only [Bool.and_eq_true,decide_eq_true_eq]
   exact ⟨(beqL_iff _ _).2 en,q2⟩
end Go.Sim

/-
What is reached, by the program's walk.
-/
-- INJ Leg.row_iff lgs_iff pts_iff ptr_iff spRow_iff sps_iff
namespace Go.Sim
open Go Go.Proofs
set_option maxRecDepth 100000
set_option maxHeartbeats 64000000
variable {P:FuncId→Option (List AV→Option AV)}
theorem foldl_tkJ {l:List Spn} {k:Nat} {x:Spn} (h:l[k]? = some x):(l.take (k+1)).foldl joinP []=joinP ((l.take k).foldl joinP []) x:=by
 rw [List.take_add_one,h,List.foldl_append];rfl
theorem sp_at {l:List Spn} {k:Nat} {p:Spn} (h:l[k]? = some p):∃ rest,(spF l).drop (k * 2)=i64 p.1::i64 p.2::rest∧(k * 2+2≤(spF l).length)=True:=by
 obtain ⟨a,b,h1,h2,_⟩:=fl_split (Even.map spRow_len l) (map_at (f:=spRow) h)
 have h1:spF l=a++spRow p++b:=h1
 have hl:(spF l).length=k * 2+2+b.length:=by rw [h1,List.length_append,List.length_append,h2,spRow_len]
 refine ⟨b, ?_,by simp only [eq_iff_iff,iff_true];omega⟩
 rw [h1,List.append_assoc,← h2,List.drop_append]
 simp [spRow]
theorem RS2_old {b:Nat} {H H':Heap} {v:AV} {L:List Spn} (h:RS2 b H v L) (hn:H.n≤H'.n) (ho:∀ j,j < H.n→H'.get j=H.get j):RS2 b H' v L:=by
 rcases h with h | ⟨h1,id,h2,h3,h4,h5⟩
 · exact .inl h
 · exact .inr ⟨h1,id,h2,h3,by omega,by rw [ho id h4];exact h5⟩
theorem net_lines {n:Net} (h:netP n=0):n.lines.length≤8:=by
 have h1:=(netP_parts h).1
 unfold linesP at h1
 split at h1
 · cases h1
 · omega
noncomputable def reachErr (n:Net) (a:Pt) (most:Int):Int:=firstI [placesP n [a],rangeI most 0 100000000]
theorem r32 (h99 : P 99 = some p99) (h111 : P 111 = some p111) (h114 : P 114 = some p114) (h115 : P 115 = some p115) (h116 : P 116 = some p116) (h118 : P 118 = some p118) (h187 : P 187 = some p187) (h117 : P 117 = none) (h186 : P 186 = none) (h230 : P 230 = none) (n : Net) (hn : n.Ok) (h4 : netP n = 0 → n.sws.length ≤ 4) (a : Pt) (most : Int) (lo : Nat) (H : Heap) (hlo : lo ≤ H.n) :
 ∃ v H', R (NC.withPrims P) (.call lo 32 [.agg n.cells, .agg (ptRow a), .int .i64 most] H) = some (.ofVal v H') ∧ (H.n ≤ H'.n ∧ ∀ j, j < H.n → H'.get j = H.get j) ∧ if reachErr n a most = 0 then ∃ x, v = .tup [x, i64 0] ∧ RS3 (fun id => H.n ≤ id) 224 H' x (reachE most (entO n a) n.lines) else v = .tup [.ps .nil [], i64 (reachErr n a most)] := by
 refine R_of_body (C := NC.withPrims P) (f := 32) (lo := lo) (args := [.agg n.cells, .agg (ptRow a), .int .i64 most]) (H := H) (fn := Tryz.f32) (Q := fun v H' => (H.n ≤ H'.n ∧ ∀ j, j < H.n → H'.get j = H.get j) ∧ if reachErr n a most = 0 then ∃ x, v = .tup [x, i64 0] ∧ RS3 (fun id => H.n ≤ id) 224 H' x (reachE most (entO n a) n.lines) else v = .tup [.ps .nil [], i64 (reachErr n a most)]) (by kernel_rfl) Tryz.func32 rfl rfl ?_
 have en111 : ∀ {rec lo args H K}, VO (aenter (NC.withPrims P) rec lo 111 args H) K = AO (p111 args) fun v => K v H := enter_prim rfl (by show (match NC.prim 111 with | some p => some p | none => P 111) = _; rw [h111]; kernel_rfl)
 have en114 : ∀ {rec lo args H K}, VO (aenter (NC.withPrims P) rec lo 114 args H) K = AO (p114 args) fun v => K v H := enter_prim rfl (by show (match NC.prim 114 with | some p => some p | none => P 114) = _; rw [h114]; kernel_rfl)
 have en115 : ∀ {rec lo args H K}, VO (aenter (NC.withPrims P) rec lo 115 args H) K = AO (p115 args) fun v => K v H := enter_prim rfl (by show (match NC.prim 115 with | some p => some p | none => P 115) = _; rw [h115]; kernel_rfl)
 have en116 : ∀ {rec lo args H K}, VO (aenter (NC.withPrims P) rec lo 116 args H) K = AO (p116 args) fun v => K v H := enter_prim rfl (by show (match NC.prim 116 with | some p => some p | none => P 116) = _; rw [h116]; kernel_rfl)
 have e114 := pe114 n [a] ⟨hn, by unfold maxRows; simp⟩
 have e115 := e115 most 0 100000000
 have hRE : reachErr n a most = firstI [placesP n [a], rangeI most 0 100000000] := rfl
 rw [hRE]
 have y0 : (H.n = H.n + 1) = False := by simp
 rcases Classical.propComplete (firstI [placesP n [a], rangeI most 0 100000000] = 0) with z | z
 case inr =>
  obtain ⟨a1, a2⟩ := a
  simp only [Net.cells, i64, ptRow, List.map_cons, List.map_nil] at e114
  generalize placesP n [(a1, a2)] = E1 at e114 z ⊢
  generalize rangeI most 0 100000000 = E2 at e115 z ⊢
  simp only [go_sem, reduceIte, reduceEqDiff, reduceAdd, reduceMul, reduceSub, reduceLeDiff, reduceLT, Nat.reduceBEq, reduceCtorEq, Net.cells, ptRow, ↓en114, ↓en115, ↓en111, e114, e115, e111_2, z]
  refine ⟨by omega, fun j h => ?_⟩
  rw [if_neg (by omega), if_neg (by omega)]
 have hzz := first2 _ _ (of_eq_true z)
 have hpz := places_zero hzz.1
 have hA := place_in hpz.1 (hpz.2 a (by simp))
 have e116 := pe116 n a ⟨hn, hpz.1, hA.1, hA.2⟩
 have hel : (entO n a).length ≤ 9 := by
  have := entTo_len n a n.sws.length
  have := h4 hpz.1
  show (entTo n a n.sws.length).length ≤ 9
  omega
 generalize entO n a = es at e116 hel ⊢
 obtain ⟨a1, a2⟩ := a
 simp only [Net.cells, i64, ptRow, List.map_cons, List.map_nil] at e114 e116
 have hz0 := of_eq_true z
 rw [hzz.1] at e114
 rw [hzz.2] at e115
 have f00 : firstI [0, 0] = 0 := rfl
 clear hRE z hzz hA
 simp only [go_sem, reduceIte, reduceEqDiff, reduceAdd, reduceMul, reduceSub, reduceLeDiff, reduceLT, Nat.reduceBEq, reduceCtorEq, Net.cells, ptRow, ↓en114, ↓en115, ↓en111, ↓en116, e114, e115, e111_2, f00, e116]
 refine W_for (fun i T H' M => M = [] ∧ getT T 2 = i64 most ∧ getT T 9 = .ps .unk (es.map entRow) ∧ getT T 36 = .ps .unk (n.lines.map Ln.row) ∧ getT T 37 = i64 (n.lines.length : Nat) ∧ getT T 38 = i64 i ∧ H.n ≤ H'.n ∧ (∀ j, j < H.n → H'.get j = H.get j) ∧ ∃ x, getT T 10 = x ∧ RS3 (fun id => H.n ≤ id) 224 H' x (reachE most es (n.lines.take i))) n.lines.length ?_ ?_ ?_
 · simp only [go_sem, reduceIte, reduceEqDiff, reduceAdd, reduceMul, reduceSub, reduceLeDiff, reduceLT, Nat.reduceBEq, reduceCtorEq, List.length_map]
   refine ⟨by omega, fun j h => ?_, _, rfl, .inl ⟨rfl, rfl⟩⟩
   rw [if_neg (by omega), if_neg (by omega)]
 · rintro i T Hc M hi ⟨rfl, t2, t9, t36, t37, t38, hnc, ho, x, t10, hX⟩
   obtain ⟨l, hl⟩ : ∃ p, n.lines[i]? = some p := ⟨n.lines[i], by simp⟩
   have hr := map_at (f := Ln.row) hl
   have hw := wrap_succ hi hn.lines
   have hmem := List.mem_of_getElem? hl
   have hft := flatMap_take (f := strsE most es) hl
   have hRT : reachE most es (n.lines.take (i + 1)) = reachE most es (n.lines.take i) ++ strsE most es l := hft
   have hbl : (reachE most es (n.lines.take i)).length ≤ 9 * i := by
    have := strsE_few most hel (n.lines.take i)
    rw [List.length_take] at this
    show (reachE most es (n.lines.take i)).length ≤ 9 * i
    omega
   rw [hRT]
   generalize reachE most es (n.lines.take i) = base at hX hbl ⊢
   have hl8 := net_lines hpz.1
   have e99 := pe99 l (hn.line l hmem).2
   have hlr : l.row = [.str l.name, .ps .unk (l.ps.map Pc.row)] := rfl
   have hSE : strsE most es l = (mergeE (sumW l.ps 0) most l.name es).map fun p => (l.name, p) := rfl
   rw [hSE]
   simp only [hlr, i64] at hr e99
   have hloc : (lo ≤ Hc.n) = True := by simp only [eq_iff_iff, iff_true]; omega
   have hel' : es.length ≤ maxRows := by unfold maxRows; omega
   simp only [go_sem, reduceIte, reduceEqDiff, reduceAdd, reduceMul, reduceSub, reduceLeDiff, reduceLT, Nat.reduceBEq, reduceCtorEq, t2, t9, t36, t37, t38, t10, hi, hr, hloc]
   obtain ⟨c, hc⟩ : ∃ c, c = Hc.n := ⟨_, rfl⟩
   rw [← hc]
   obtain ⟨len, hlen⟩ : ∃ len, len = sumW l.ps 0 := ⟨_, rfl⟩
   rw [← hlen] at e99 ⊢
   refine W_for (fun j T H' M => M = [] ∧ getT T 2 = i64 most ∧ getT T 9 = .ps .unk (es.map entRow) ∧ getT T 10 = x ∧ getT T 12 = .ptr c 0 ∧ getT T 36 = .ps .unk (n.lines.map Ln.row) ∧ getT T 37 = i64 (n.lines.length : Nat) ∧ getT T 38 = i64 i ∧ getT T 42 = .ps .unk (es.map entRow) ∧ getT T 43 = i64 (es.length : Nat) ∧ getT T 44 = i64 j ∧ c < H'.n ∧ H'.get c = .cells [.str l.name, .ps .unk (l.ps.map Pc.row)] 196 ∧ (∀ q, q < c → H'.get q = Hc.get q) ∧ ∃ y, getT T 13 = y ∧ RS2 (c + 1) H' y (spansE len most l.name (es.take j))) es.length ?_ ?_ ?_
   · simp only [go_sem, reduceIte, reduceEqDiff, reduceAdd, reduceMul, reduceSub, reduceLeDiff, reduceLT, Nat.reduceBEq, reduceCtorEq, List.length_map, t2, t9, t36, t37, t38, t10]
     refine ⟨by omega, fun q h => ?_, _, rfl, .inl ⟨rfl, rfl⟩⟩
     rw [if_neg (by omega), if_neg (by omega)]
   · clear t2 t9 t36 t37 t38 t10
     rintro j T H2 M hj ⟨rfl, t2, t9, t10, t12, t36, t37, t38, t42, t43, t44, hn2, g0, hq, y, t13, hY⟩
     obtain ⟨e, he⟩ : ∃ p, es[j]? = some p := ⟨es[j], by simp⟩
     have hre := map_at (f := entRow) he
     have hwj := wrap_succ hj hel'
     have hft := flatMap_take (f := spanE len most l.name) he
     have hST : spansE len most l.name (es.take (j + 1)) = spansE len most l.name (es.take j) ++ spanE len most l.name e := hft
     have hsl := spansE_len len most l.name (es.take j)
     rw [List.length_take] at hsl
     rw [hST]
     clear hft hST
     generalize spansE len most l.name (es.take j) = L at hY hsl ⊢
     have hSP : spanE len most l.name e = if beqL e.1.1 l.name && !decide (leftW most e < 0) then [(maxI 0 (wrapq .i64 (Int.sub e.1.2 (leftW most e))), minI len (wrapq .i64 (Int.add (wrapq .i64 (Int.add e.1.2 (leftW most e))) 1)))] else [] := rfl
     rw [hSP]
     clear hSP
     have hLW : wrapq .i64 (Int.sub most e.2) = leftW most e := rfl
     generalize leftW most e = LW at hLW ⊢
     have y1 : (c = H2.n) = False := by simp only [eq_iff_iff, iff_false]; omega
     have hlo1 : (lo ≤ H2.n) = True := by simp only [eq_iff_iff, iff_true]; omega
     obtain ⟨⟨e1, e2⟩, e3⟩ := e
     simp only [entRow, i64] at hre
     simp only at hLW
     cases hB : beqL e1 l.name with
     | false =>
       simp only [go_sem, reduceIte, reduceEqDiff, reduceAdd, reduceMul, reduceSub, reduceLeDiff, reduceLT, Nat.reduceBEq, reduceCtorEq, t2, t9, t10, t12, t36, t37, t38, t42, t43, t44, t13, hj, hre, hwj, g0, y1, hlo1, hB, hLW]
       exact ⟨by omega, fun q h => by rw [if_neg (by omega), if_neg (by omega)]; exact hq q h, _, rfl, RS2_old hY (by simp) (fun j h => by rw [Heap.get_set, if_neg (by omega), Heap.get_push, if_neg (by omega)])⟩
     | true =>
     rcases Classical.propComplete (LW < 0) with z | z
     · simp only [go_sem, reduceIte, reduceEqDiff, reduceAdd, reduceMul, reduceSub, reduceLeDiff, reduceLT, Nat.reduceBEq, reduceCtorEq, t2, t9, t10, t12, t36, t37, t38, t42, t43, t44, t13, hj, hre, hwj, g0, y1, hlo1, hB, hLW, z]
       exact ⟨by omega, fun q h => by rw [if_neg (by omega), if_neg (by omega)]; exact hq q h, _, rfl, RS2_old hY (by simp) (fun j h => by rw [Heap.get_set, if_neg (by omega), Heap.get_push, if_neg (by omega)])⟩
     have hao := fun lo H => sp_one lo H (maxI 0 (wrapq .i64 (Int.sub e2 LW)), minI len (wrapq .i64 (Int.add (wrapq .i64 (Int.add e2 LW)) 1)))
     have ham := fun lo H id h1 h2 => sp_more L (by unfold maxRows; omega) lo H id h1 h2 (maxI 0 (wrapq .i64 (Int.sub e2 LW)), minI len (wrapq .i64 (Int.add (wrapq .i64 (Int.add e2 LW)) 1)))
     simp only at hao ham
     rcases hY with ⟨rfl, rfl⟩ | ⟨hne, id, rfl, hid1, hid2, hid3⟩
     · simp only [go_sem, reduceIte, reduceEqDiff, reduceAdd, reduceMul, reduceSub, reduceLeDiff, reduceLT, Nat.reduceBEq, reduceCtorEq, t2, t9, t10, t12, t36, t37, t38, t42, t43, t44, t13, hj, hre, hwj, g0, y1, hlo1, hB, hLW, z, ↓en99 h99, e99, appO, ref32a, hao]
       exact ⟨by omega, by rw [if_neg (by omega)], fun q h => by (repeat rw [if_neg (by omega)]); exact hq q h, _, rfl, .inr ⟨by simp, H2.n + 1, by simp, by omega, by simp, by rw [Heap.get_push, if_pos (by simp)]⟩⟩
     · have y2 : (c = id) = False ∧ (id = H2.n) = False ∧ (H2.n = id) = False ∧ (id = c) = False := by simp only [eq_iff_iff, iff_false]; omega
       have hlo2 : (lo ≤ id) = True := by simp only [eq_iff_iff, iff_true]; omega
       simp only [go_sem, reduceIte, reduceEqDiff, reduceAdd, reduceMul, reduceSub, reduceLeDiff, reduceLT, Nat.reduceBEq, reduceCtorEq, t2, t9, t10, t12, t36, t37, t38, t42, t43, t44, t13, hj, hre, hwj, g0, y1, y2, hlo1, hlo2, hB, hLW, z, ↓en99 h99, e99, appO, ref32a, hid3, ham]
       exact ⟨by omega, by rw [if_neg (by omega)], fun q h => by (repeat rw [if_neg (by omega)]); exact hq q h, _, rfl, .inr ⟨by simp, H2.n + 1, by simp, by omega, by simp, by rw [Heap.get_push, if_pos (by simp)]⟩⟩
   · clear t2 t9 t36 t37 t38 t10
     rintro T H2 M ⟨rfl, t2, t9, t10, t12, t36, t37, t38, t42, t43, t44, hn2, g0, hq, y, t13, hY⟩
     rw [List.take_length] at hY
     have hsl := spansE_len len most l.name es
     have hMG : mergeE len most l.name es = (isort spLt (spansE len most l.name es)).foldl joinP [] := rfl
     rw [hMG]
     clear hMG
     generalize spansE len most l.name es = SP at hY hsl ⊢
     have hX2 : RS3 (fun id => H.n ≤ id ∧ id < c) 224 H2 x base := by
      rcases hX with h | ⟨h1, id, h2, h3, h4, h5⟩
      · exact .inl h
      · exact .inr ⟨h1, id, h2, ⟨h3, by omega⟩, by omega, by rw [hq id (by omega)]; exact h5⟩
     have hal : ∀ H', alen NC.P H' 63 x = some (.int .i64 (base.length : Nat)) := fun H' => by
      rcases hX with ⟨rfl, rfl⟩ | ⟨_, id, rfl, _⟩
      · rfl
      · rfl
     clear hX
     rcases hY with ⟨rfl, rfl⟩ | ⟨hne, id2, rfl, hid1, hid2, hid3⟩
     · have hsn := fun lo H => sort_nil (P := P) h186 h230 h187 lo H
       have hX4 : RS3 (fun id => H.n ≤ id) 224 H2 x (base ++ ((isort spLt ([] : List Spn)).foldl joinP []).map fun p => (l.name, p)) := by
        rw [show base ++ ((isort spLt ([] : List Spn)).foldl joinP []).map (fun p => (l.name, p)) = base by simp [isort, isortRev]]
        exact RS3_mono (fun i h => h.1) hX2
       have hoH : ∀ q, q < H.n → H2.get q = H.get q := fun q h => by rw [hq q (by omega)]; exact ho q h
       have hb0 : (x = .ps .nil []) ∨ (∃ id, x = .rs id 0 base.length 3 none) := by
        rcases hX2 with ⟨_, h2⟩ | ⟨_, id0, h2, _⟩
        · exact .inl h2
        · exact .inr ⟨id0, h2⟩
       clear hX2
       have hXc := hX4
       rcases hb0 with rfl | ⟨id0, rfl⟩
       all_goals
        simp only [go_sem, reduceIte, reduceEqDiff, reduceAdd, reduceMul, reduceSub, reduceLeDiff, reduceLT, Nat.reduceBEq, reduceCtorEq, t2, t9, t10, t12, t36, t37, t38, t42, t43, t44, t13, Nat.lt_irrefl, en117 h117, hsn, ofVal_v, ofVal_H]
        refine W_for (fun k T H' M => M = [] ∧ H' = H2 ∧ getT T 2 = i64 most ∧ getT T 9 = .ps .unk (es.map entRow) ∧ getT T 36 = .ps .unk (n.lines.map Ln.row) ∧ getT T 37 = i64 (n.lines.length : Nat) ∧ getT T 38 = i64 i ∧ getT T 87 = i64 0 ∧ getT T 88 = i64 k ∧ ∃ x, getT T 10 = x ∧ RS3 (fun id => H.n ≤ id) 224 H2 x (base ++ ((isort spLt ([] : List Spn)).foldl joinP []).map fun p => (l.name, p))) 0 ?_ ?_ ?_
        · simp only [go_sem, reduceIte, reduceEqDiff, reduceAdd, reduceMul, reduceSub, reduceLeDiff, reduceLT, Nat.reduceBEq, reduceCtorEq, t2, t9, t10, t12, t36, t37, t38]
          exact ⟨_, rfl, hXc⟩
        · intro k T H4 M hk
          exact absurd hk (Nat.not_lt_zero _)
        · rintro T H4 M ⟨rfl, rfl, t2, t9, t36, t37, t38, t87, t88, x', t10, hX⟩
          have i00 : ((0 : Int) < 0) = False := by simp
          simp only [go_sem, reduceIte, reduceEqDiff, reduceAdd, reduceMul, reduceSub, reduceLeDiff, reduceLT, Nat.reduceBEq, reduceCtorEq, t2, t9, t10, t36, t37, t38, t87, t88, i00, hw]
          exact ⟨by omega, hoH, _, rfl, hX⟩
     · obtain ⟨v, H3, s1, rfl, s2, s3, s4⟩ := r117 (P := P) h118 h187 h230 h186 SP (by omega) lo id2 H2 (by omega) hid2 hid3
       have hX4 : RS3 (fun id => H.n ≤ id ∧ id ≠ id2 ∧ id ≠ c) 224 H3 x base := by
        rcases hX2 with h | ⟨h1, id, h2, h3, h4, h5⟩
        · exact .inl h
        · exact .inr ⟨h1, id, h2, ⟨h3.1, by omega, by omega⟩, by omega, by rw [s4 id (by omega)]; exact h5⟩
       have hgc : H3.get c = .cells [.str l.name, .ps .unk (l.ps.map Pc.row)] 196 := by rw [s4 c (by omega)]; exact g0
       have hoH : ∀ q, q < H.n → H3.get q = H.get q := fun q h => by rw [s4 q (by omega), hq q (by omega)]; exact ho q h
       have hSl : (isort spLt SP).length = SP.length := isort_length spLt SP
       have hS9 : SP.length ≤ 9 := by omega
       clear hq hid3 s4 g0 hsl
       obtain ⟨S, hS⟩ : ∃ S, S = isort spLt SP := ⟨_, rfl⟩
       rw [← hS] at s2 hSl ⊢
       have hXc := hX4
       have hb0 : (base = [] ∧ x = .ps .nil [] ∧ ((base.length : Nat) : Int) = 0) ∨ ((∃ id, x = .rs id 0 base.length 3 none) ∧ True) := by
        rcases hX2 with ⟨h1, h2⟩ | ⟨_, id0, h2, _⟩
        · exact .inl ⟨h1, h2, by rw [h1]; rfl⟩
        · exact .inr ⟨⟨id0, h2⟩, trivial⟩
       clear hX2
       rcases hb0 with ⟨_, rfl, hbl0⟩ | ⟨⟨id0, rfl⟩, hbl0⟩
       all_goals
        simp only [go_sem, reduceIte, reduceEqDiff, reduceAdd, reduceMul, reduceSub, reduceLeDiff, reduceLT, Nat.reduceBEq, reduceCtorEq, t2, t9, t10, t12, t36, t37, t38, t42, t43, t44, t13, Nat.lt_irrefl, en117 h117, s1, ofVal_v, ofVal_H]
        refine W_for (fun k T H' M => M = [] ∧ getT T 2 = i64 most ∧ getT T 9 = .ps .unk (es.map entRow) ∧ getT T 12 = .ptr c 0 ∧ getT T 36 = .ps .unk (n.lines.map Ln.row) ∧ getT T 37 = i64 (n.lines.length : Nat) ∧ getT T 38 = i64 i ∧ getT T 17 = i64 (base.length : Nat) ∧ getT T 86 = .rs id2 0 SP.length 2 none ∧ getT T 87 = i64 (SP.length : Nat) ∧ getT T 88 = i64 k ∧ c < H'.n ∧ id2 < H'.n ∧ H'.get c = .cells [.str l.name, .ps .unk (l.ps.map Pc.row)] 196 ∧ H'.get id2 = .row (spF S) 2 183 ∧ (∀ q, q < H.n → H'.get q = H.get q) ∧ ∃ x, getT T 10 = x ∧ RS3 (fun id => H.n ≤ id ∧ id ≠ id2 ∧ id ≠ c) 224 H' x (base ++ ((S.take k).foldl joinP []).map fun p => (l.name, p))) SP.length ?_ ?_ ?_
        · simp only [go_sem, reduceIte, reduceEqDiff, reduceAdd, reduceMul, reduceSub, reduceLeDiff, reduceLT, Nat.reduceBEq, reduceCtorEq, t2, t9, t10, t12, t36, t37, t38, hbl0]
          exact ⟨by omega, by omega, hgc, s2, hoH, _, rfl, by simpa using hXc⟩
        · clear hXc hX4 hal hgc hoH s1 s2 s3 t2 t9 t10 t12 t36 t37 t38 t42 t43 t44 t13 hS
          rintro k T H4 M hk ⟨rfl, t2, t9, t12, t36, t37, t38, t17, t86, t87, t88, hn4, hi4, gc, gS, ho4, x', t10, hX⟩
          obtain ⟨p, hp⟩ : ∃ p, S[k]? = some p := ⟨S[k]'(by omega), by simp⟩
          have hwk := wrap_succ hk (show SP.length ≤ maxRows by unfold maxRows; omega)
          have hft := foldl_tkJ hp
          have hacc := joins_len (S.take k) []
          rw [List.length_take, List.length_nil] at hacc
          rw [hft]
          clear hft
          generalize (S.take k).foldl joinP [] = acc at hX hacc ⊢
          obtain ⟨rest, sd, sl2⟩ := sp_at hp
          have y1 : (c = H4.n) = False ∧ (id2 = H4.n) = False ∧ (H4.n = c) = False ∧ (H4.n = id2) = False := by simp only [eq_iff_iff, iff_false]; omega
          have hlo1 : (lo ≤ H4.n) = True := by simp only [eq_iff_iff, iff_true]; omega
          obtain ⟨p1, p2⟩ := p
          simp only [i64] at sd
          rcases List.eq_nil_or_concat acc with rfl | ⟨ac, q, rfl⟩
          · rw [joinP_nil]
            have hlt : (wrapq .i64 (Int.sub (base.length : Int) 1) < (base.length : Int)) = True := by
             have e : Int.sub (base.length : Int) 1 = (base.length : Int) - 1 := rfl
             rw [e, wrap_small (by omega) (by omega)]
             simp only [eq_iff_iff, iff_true]; omega
            simp only [List.map_nil, List.append_nil, List.map_cons] at hX ⊢
            have hao := fun lo H => st_one 224 lo H l.name p1 p2
            have ham := fun lo H id h1 h2 => st_more 224 base (by unfold maxRows; omega) lo H id h1 h2 l.name p1 p2
            rcases hX with ⟨hb0, rfl⟩ | ⟨hbne, id3, rfl, ⟨x1, x2, x3⟩, x4, x5⟩
            · have hlt0 : (wrapq .i64 (Int.sub 0 1) < (base.length : Int)) = True := by
               have e : wrapq .i64 (Int.sub 0 1) = -1 := rfl
               rw [e]; simp only [eq_iff_iff, iff_true]; omega
              simp only [go_sem, reduceIte, reduceEqDiff, reduceAdd, reduceMul, reduceSub, reduceLeDiff, reduceLT, Nat.reduceBEq, reduceCtorEq, t2, t9, t10, t12, t36, t37, t38, t17, t86, t87, t88, hk, gc, gS, sd, sl2, y1, hlo1, hlt0, hwk, appO, ref32b, hao]
              rw [hb0]
              exact ⟨by omega, by omega, by rw [if_neg (by omega)], by rw [if_neg (by omega)], fun q h => by (repeat rw [if_neg (by omega)]); exact ho4 q h, _, rfl, .inr ⟨by simp, H4.n + 1, by simp, ⟨by omega, by omega, by omega⟩, by simp, by rw [Heap.get_push, if_pos (by simp)]; rfl⟩⟩
            · have y2 : (id3 = H4.n) = False ∧ (H4.n = id3) = False ∧ (c = id3) = False ∧ (id2 = id3) = False := by simp only [eq_iff_iff, iff_false]; omega
              have hlo2 : (lo ≤ id3) = True := by simp only [eq_iff_iff, iff_true]; omega
              simp only [go_sem, reduceIte, reduceEqDiff, reduceAdd, reduceMul, reduceSub, reduceLeDiff, reduceLT, Nat.reduceBEq, reduceCtorEq, t2, t9, t10, t12, t36, t37, t38, t17, t86, t87, t88, hk, gc, gS, sd, sl2, y1, y2, hlo1, hlo2, hlt, hwk, appO, ref32b, x5, ham]
              exact ⟨by omega, by omega, by rw [if_neg (by omega)], by rw [if_neg (by omega)], fun q h => by (repeat rw [if_neg (by omega)]); exact ho4 q h, _, rfl, .inr ⟨by simp, H4.n + 1, by simp, ⟨by omega, by omega, by omega⟩, by simp, by rw [Heap.get_push, if_pos (by simp)]⟩⟩
          · rw [List.concat_eq_append] at hX hacc ⊢
            rw [joinP_snoc]
            have eL : base ++ (ac ++ [q]).map (fun p => (l.name, p)) = (base ++ ac.map fun p => (l.name, p)) ++ [(l.name, q)] := by simp
            have hLl : (base ++ ac.map fun p => (l.name, p)).length = base.length + ac.length := by simp
            have eL1 : base ++ (ac ++ [(q.1, if q.2 < p2 then p2 else q.2)]).map (fun p => (l.name, p)) = (base ++ ac.map fun p => (l.name, p)) ++ [(l.name, q.1, if q.2 < p2 then p2 else q.2)] := by simp
            have eL2 : base ++ (ac ++ [q] ++ [(p1, p2)]).map (fun p => (l.name, p)) = (base ++ ac.map fun p => (l.name, p)) ++ [(l.name, q)] ++ [(l.name, p1, p2)] := by simp
            rw [eL] at hX
            generalize (base ++ ac.map fun p => (l.name, p)) = Lp at hX hLl eL1 eL2
            rcases hX with ⟨hb0, _⟩ | ⟨_, id3, rfl, ⟨x1, x2, x3⟩, x4, x5⟩
            · simp at hb0
            have hat : (Lp ++ [(l.name, q)])[Lp.length]? = some (l.name, q) := by simp
            obtain ⟨rest3, d0, d1, d2, l3, l2, l1, l0, hov⟩ := st_at hat
            have hlen : (Lp ++ [(l.name, q)]).length = Lp.length + 1 := by simp
            rw [hlen] at t10
            have hLm : Lp.length + 2 ≤ maxRows := by
             simp at hacc
             unfold maxRows; omega
            have hidx : wrapq .i64 (Int.sub ((Lp.length + 1 : Nat) : Int) 1) = ((Lp.length : Nat) : Int) := by
             have := wrap_pred (k := Lp.length + 1) (n := Lp.length + 1) (by omega) (Nat.le_refl _) (by omega)
             simpa using this
            have hge : (Lp.length < base.length) = False := by simp only [eq_iff_iff, iff_false]; omega
            have y2 : (id3 = H4.n) = False ∧ (H4.n = id3) = False ∧ (c = id3) = False ∧ (id2 = id3) = False := by simp only [eq_iff_iff, iff_false]; omega
            have hlo2 : (lo ≤ id3) = True := by simp only [eq_iff_iff, iff_true]; omega
            obtain ⟨q1, q2⟩ := q
            simp only [i64] at d2
            simp only at eL1 eL2 hov
            rcases Classical.propComplete (q2 < p1) with z | z
            · rw [if_neg (by have := of_eq_true z; simp only; omega), eL2]
              have ham := fun lo H id h1 h2 => st_more 224 (Lp ++ [(l.name, q1, q2)]) (by rw [hlen]; omega) lo H id h1 h2 l.name p1 p2
              rw [hlen] at ham
              simp only [go_sem, reduceIte, reduceEqDiff, reduceAdd, reduceMul, reduceSub, reduceLeDiff, reduceLT, Nat.reduceBEq, reduceCtorEq, t2, t9, t10, t12, t36, t37, t38, t17, t86, t87, t88, hk, gc, gS, sd, sl2, y1, y2, hlo1, hlo2, hidx, Int.ofNat_lt, hge, hwk, appO, ref32b, x5, d2, l0, z, ham]
              exact ⟨by omega, by omega, by rw [if_neg (by omega)], by rw [if_neg (by omega)], fun q h => by (repeat rw [if_neg (by omega)]); exact ho4 q h, _, rfl, .inr ⟨by simp, H4.n + 1, by simp, ⟨by omega, by omega, by omega⟩, by simp, by rw [Heap.get_push, if_pos (by simp)]⟩⟩
            · have hz : ¬ (q2 < p1) := fun h => by rw [eq_true h] at z; simp at z
              rw [if_pos (by show p1 ≤ q2; omega), eL1]
              have hov' := hov (if q2 < p2 then p2 else q2)
              rw [show (Lp ++ [(l.name, q1, q2)]).set Lp.length (l.name, q1, if q2 < p2 then p2 else q2) = Lp ++ [(l.name, q1, if q2 < p2 then p2 else q2)] by simp] at hov'
              have hmx : maxI q2 p2 = if q2 < p2 then p2 else q2 := rfl
              rw [← hmx] at hov' ⊢
              simp only [over, i64, List.length_cons, List.length_nil, reduceAdd, Nat.zero_add] at hov'
              simp only [go_sem, reduceIte, reduceEqDiff, reduceAdd, reduceMul, reduceSub, reduceLeDiff, reduceLT, Nat.reduceBEq, reduceCtorEq, t2, t9, t10, t12, t36, t37, t38, t17, t86, t87, t88, hk, gc, gS, sd, sl2, y1, y2, hlo1, hlo2, hidx, Int.ofNat_lt, hge, hwk, appO, ref32b, x5, d2, l0, z, hov']
              exact ⟨by omega, by omega, fun q h => by (repeat rw [if_neg (by omega)]); exact ho4 q h, _, rfl, .inr ⟨by simp, id3, by simp, ⟨x1, x2, x3⟩, by simp; omega, by rw [Heap.get_set, if_pos rfl]⟩⟩
        · rintro T H4 M ⟨rfl, t2, t9, t12, t36, t37, t38, t17, t86, t87, t88, hn4, hi4, gc, gS, ho4, x', t10, hX⟩
          rw [← hSl, List.take_length] at hX
          simp only [go_sem, reduceIte, reduceEqDiff, reduceAdd, reduceMul, reduceSub, reduceLeDiff, reduceLT, Nat.reduceBEq, reduceCtorEq, t2, t9, t10, t12, t36, t37, t38, t17, t86, t87, t88, Nat.lt_irrefl, hw]
          exact ⟨by omega, ho4, _, rfl, RS3_mono (fun i h => h.1) hX⟩
 · rintro T Hc M ⟨rfl, t2, t9, t36, t37, t38, hnc, ho, x, t10, hX⟩
   rw [List.take_length] at hX
   simp only [go_sem, reduceIte, reduceEqDiff, reduceAdd, reduceMul, reduceSub, reduceLeDiff, reduceLT, Nat.reduceBEq, reduceCtorEq, t2, t9, t36, t37, t38, t10, Nat.lt_irrefl]
   refine ⟨⟨hnc, ho⟩, ?_⟩
   rw [if_pos hz0]
   exact ⟨x, rfl, hX⟩
end Go.Sim

/-
What is reached, by the reference's walk.
-/
-- INJ Leg.row_iff lgs_iff pts_iff ptr_iff
namespace Go.Sim
open Go Go.Proofs
set_option maxRecDepth 100000
set_option maxHeartbeats 64000000
variable {P:FuncId→Option (List AV→Option AV)}
theorem runsR_len (f:Nat→Bool):∀ m,(runsR f m).length≤m
 | 0=>by simp [runsR]
 | m+1=>by
   have:=runsR_len f m
   unfold runsR
   split
   · split
     · simp;omega
     · simp;omega
   · omega
theorem strsR_len {n:Net} {a:Pt} {most:Int} {l:Ln} (h:sumW l.ps 0≤120):(strsR n a most l).length≤120:=by
 unfold strsR
 rw [List.length_map]
 have:=runsR_len (okR n a most l.name) (sumW l.ps 0).toNat
 omega
theorem strs_take {n:Net} {a:Pt} {most:Int}:∀ {ls:List Ln},(∀ l ∈ ls,sumW l.ps 0≤120)→(ls.flatMap (strsR n a most)).length≤120 * ls.length
 | [],_=>by simp
 | l::r,h=>by
   have h1:=strsR_len (n:=n) (a:=a) (most:=most) (h l (by simp))
   have h2:=strs_take (n:=n) (a:=a) (most:=most) (ls:=r) fun q hq=>h q (by simp [hq])
   rw [List.flatMap_cons,List.length_append,List.length_cons];omega
end Go.Sim

/-
Least: whether stretches have a place.
-/
-- INJ Leg.row_iff lgs_iff pts_iff ptr_iff spRow_iff sps_iff
namespace Go.Sim
open Go Go.Proofs
set_option maxRecDepth 100000
set_option maxHeartbeats 64000000
variable {P:FuncId→Option (List AV→Option AV)}
theorem hasS_cons (x1:List Nat) (x2 x3:Int) (r:List Str) (p:Pt):hasS ((x1,x2,x3)::r) p=((beqL x1 p.1 && (!decide (p.2 < x2) && decide (p.2 < x3))) || hasS r p):=by
 have e:decide (x2≤p.2) = !decide (p.2 < x2):=by
  rw [← decide_not,decide_eq_decide];omega
 unfold hasS
 rw [List.any_cons]
 simp only [e]
theorem r80n (p:Pt) (lo:Nat) (H:Heap):∃ H',R (NC.withPrims P) (.call lo 80 [.ps .unk [],.agg (ptRow p)] H)=some (.ofVal (.bool false) H'):=by
 obtain ⟨v,H',h1,rfl⟩:∃ v H',R (NC.withPrims P) (.call lo 80 [.ps .unk [],.agg (ptRow p)] H)=some (.ofVal v H')∧v=.bool false:=by
  refine R_of_body (C:=NC.withPrims P) (f:=80) (lo:=lo) (args:=[.ps .unk [],.agg (ptRow p)]) (H:=H) (fn:=Tryz.f80) (Q:=fun v H'=>v=.bool false) (by kernel_rfl) Tryz.func80 rfl rfl ?_
  have i00:((0:Int) < 0)=False:=by simp
  simp only [go_sem,reduceIte,reduceEqDiff,reduceAdd,reduceMul,reduceSub,reduceLeDiff,reduceLT,Nat.reduceBEq,reduceCtorEq,ptRow]
  refine W_for (fun k T H M=>M=[]∧getT T 8=i64 0∧getT T 9=i64 k) 0 ?_ ?_ ?_
  · simp only [go_sem,reduceIte,reduceEqDiff,reduceAdd,reduceMul,reduceSub,reduceLeDiff,reduceLT,Nat.reduceBEq,reduceCtorEq]
  · intro k T H4 M hk;exact absurd hk (Nat.not_lt_zero _)
  · rintro T H M ⟨rfl,t8,t9⟩
    simp only [go_sem,reduceIte,reduceEqDiff,reduceAdd,reduceMul,reduceSub,reduceLeDiff,reduceLT,Nat.reduceBEq,reduceCtorEq,t8,t9,i00]
 exact ⟨H',h1⟩
theorem r80 (L:List Str) (hl:L.length≤maxRows) (p:Pt) (id lo:Nat) (H:Heap) (hlo:lo≤H.n) (hid:id < H.n) (hg:H.get id=.row (stF L) 3 224):∃ H',R (NC.withPrims P) (.call lo 80 [.rs id 0 L.length 3 none,.agg (ptRow p)] H)=some (.ofVal (.bool (hasS L p)) H'):=by
 obtain ⟨v,H',h1,rfl⟩:∃ v H',R (NC.withPrims P) (.call lo 80 [.rs id 0 L.length 3 none,.agg (ptRow p)] H)=some (.ofVal v H')∧v=.bool (hasS L p):=by
  refine R_of_body (C:=NC.withPrims P) (f:=80) (lo:=lo) (args:=[.rs id 0 L.length 3 none,.agg (ptRow p)]) (H:=H) (fn:=Tryz.f80) (Q:=fun v H'=>v=.bool (hasS L p)) (by kernel_rfl) Tryz.func80 rfl rfl ?_
  obtain ⟨p1,p2⟩:=p
  simp only [go_sem,reduceIte,reduceEqDiff,reduceAdd,reduceMul,reduceSub,reduceLeDiff,reduceLT,Nat.reduceBEq,reduceCtorEq,ptRow]
  refine W_for (fun k T H' M=>M=[]∧getT T 3=.ptr H.n 0∧getT T 7=.rs id 0 L.length 3 none∧getT T 8=i64 (L.length:Nat)∧getT T 9=i64 k∧H.n < H'.n∧H'.get H.n=.cells [.str p1,.int .i64 p2] 45∧H'.get id=.row (stF L) 3 224∧hasS L (p1,p2)=hasS (L.drop k) (p1,p2)) L.length ?_ ?_ ?_
  · have y0:(id=H.n)=False:=by simp only [eq_iff_iff,iff_false];omega
    simp only [go_sem,reduceIte,reduceEqDiff,reduceAdd,reduceMul,reduceSub,reduceLeDiff,reduceLT,Nat.reduceBEq,reduceCtorEq,y0,hg]
  · rintro k T H' M hk ⟨rfl,t3,t7,t8,t9,hn,g0,g1,hs⟩
    obtain ⟨x,hx⟩:∃ p,L[k]? = some p:=⟨L[k],by simp⟩
    have hw:=wrap_succ hk hl
    obtain ⟨rest,d0,d1,d2,l3,l2,l1,l0,hov⟩:=st_at hx
    have hlo':(lo≤H'.n)=True:=by simp only [eq_iff_iff,iff_true];omega
    have y1:(H.n=H'.n)=False:=by simp only [eq_iff_iff,iff_false];omega
    have y2:(id=H'.n)=False:=by simp only [eq_iff_iff,iff_false];omega
    have y3:(H.n < H'.n+1)=True:=by simp only [eq_iff_iff,iff_true];omega
    obtain ⟨x1,x2,x3⟩:=x
    rw [drop_at hx,hasS_cons] at hs
    simp only [strow,i64] at d0
    simp only at hs
    clear hov d1 d2 l2 l1 l0
    have fin:(beqL x1 p1 && (!decide (p2 < x2) && decide (p2 < x3)))=false→hasS L (p1,p2)=hasS (L.drop (k+1)) (p1,p2):=fun h=>by rw [hs,h];rfl
    have hit:(beqL x1 p1 && (!decide (p2 < x2) && decide (p2 < x3)))=true→hasS L (p1,p2)=true:=fun h=>by rw [hs,h];rfl
    clear hs
    cases hB:beqL x1 p1 with
    | false =>
      have hs:=fin (by rw [hB];rfl)
      simp only [go_sem,reduceIte,reduceEqDiff,reduceAdd,reduceMul,reduceSub,reduceLeDiff,reduceLT,Nat.reduceBEq,reduceCtorEq,t3,t7,t8,t9,hk,g0,g1,d0,l3,hw,hlo',y1,y2,y3,hB,hs]
    | true =>
    rcases Classical.propComplete (p2 < x2) with q1 | q1
    · have hs:=fin (by rw [hB];simp [q1])
      simp only [go_sem,reduceIte,reduceEqDiff,reduceAdd,reduceMul,reduceSub,reduceLeDiff,reduceLT,Nat.reduceBEq,reduceCtorEq,t3,t7,t8,t9,hk,g0,g1,d0,l3,hw,hlo',y1,y2,y3,hB,hs,q1]
    rcases Classical.propComplete (p2 < x3) with q2 | q2
    · have hs:=hit (by rw [hB];simp [q1,q2])
      simp only [go_sem,reduceIte,reduceEqDiff,reduceAdd,reduceMul,reduceSub,reduceLeDiff,reduceLT,Nat.reduceBEq,reduceCtorEq,t3,t7,t8,t9,hk,g0,g1,d0,l3,hw,hlo',y1,y2,y3,hB,hs,q1,q2]
    · have hs:=fin (by rw [hB];simp [q1,q2])
      simp only [go_sem,reduceIte,reduceEqDiff,reduceAdd,reduceMul,reduceSub,reduceLeDiff,reduceLT,Nat.reduceBEq,reduceCtorEq,t3,t7,t8,t9,hk,g0,g1,d0,l3,hw,hlo',y1,y2,y3,hB,hs,q1,q2]
  · rintro T H' M ⟨rfl,t3,t7,t8,t9,hn,g0,g1,hs⟩
    rw [List.drop_length] at hs
    have hs:hasS L (p1,p2)=false:=hs
    simp only [go_sem,reduceIte,reduceEqDiff,reduceAdd,reduceMul,reduceSub,reduceLeDiff,reduceLT,Nat.reduceBEq,reduceCtorEq,t7,t8,t9,Nat.lt_irrefl,hs]
 exact ⟨H',h1⟩
end Go.Sim

/-
The law: NetworkLeast returns true.
-/
-- INJ Leg.row_iff lgs_iff pts_iff ptr_iff spRow_iff sps_iff
namespace Go.Sim
open Go Go.Proofs
set_option maxRecDepth 100000
set_option maxHeartbeats 64000000
theorem en32 {P:FuncId→Option (List AV→Option AV)} (hP:P 32=none) {lo:Nat} {args:List AV} {H:Heap} {K:AV→Heap→Prop}:VO (aenter (NC.withPrims P) (R (NC.withPrims P)) lo 32 args H) K=AO (R (NC.withPrims P) (.call H.n 32 args H)) fun o=>K o.val o.s.H:=by
 refine enter_fresh rfl ?_ (by kernel_rfl) (by kernel_rfl) (by kernel_rfl)
 show (match NC.prim 32 with | some p=>some p | none=>P 32)=none
 rw [hP];kernel_rfl
theorem en80 {P:FuncId→Option (List AV→Option AV)} (hP:P 80=none) {lo:Nat} {args:List AV} {H:Heap} {K:AV→Heap→Prop}:VO (aenter (NC.withPrims P) (R (NC.withPrims P)) lo 80 args H) K=AO (R (NC.withPrims P) (.call H.n 80 args H)) fun o=>o.val.strip.pure=true∧K o.val.strip H:=by
 refine enter_pure rfl ?_ (by kernel_rfl) (by kernel_rfl) (by kernel_rfl)
 show (match NC.prim 80 with | some p=>some p | none=>P 80)=none
 rw [hP];kernel_rfl
theorem small_len2 {n:Net} (h:smallN n=true):∀ l ∈ n.lines,sumW l.ps 0≤120:=by
 unfold smallN at h
 simp only [Bool.and_eq_true,Bool.not_eq_true',decide_eq_true_eq,decide_eq_false_iff_not,List.all_eq_true] at h
 exact fun l hl=>by have:=h.2.2 l hl;omega
theorem pick_pt {n:Net} (hz:netR n=0) (hzp:netP n=0) (hpos:0 < n.lines.length) {u v:Int} (hu:0≤u∧u≤255) (hv:0≤v∧v≤255):∃ (j:Nat) (l:Ln) (m:Int),j < n.lines.length∧n.lines[j]? = some l ∧
 aint (pureOf (Go.binOp .rem 0 (.int .i64 u) (.int .i64 ((n.lines.length:Nat):Int))))=some (.int .i64 ((j:Nat):Int))∧aint (pureOf (Go.binOp .rem 0 (.int .i64 v) (.int .i64 (sumW l.ps 0))))=some (.int .i64 m)∧hasI n.lines l.name m=0∧(sumW l.ps 0=0)=False:=by
 have hxe:=Int.emod_nonneg u (b:=((n.lines.length:Nat):Int)) (by omega)
 have hxl:=Int.emod_lt_of_pos u (b:=((n.lines.length:Nat):Int)) (by omega)
 obtain ⟨j,hj⟩:∃ j:Nat,u % ((n.lines.length:Nat):Int)=(j:Int):=⟨(u % ((n.lines.length:Nat):Int)).toNat,by omega⟩
 have hjl:j < n.lines.length:=by omega
 have rx:=rem_ok (a:=u) (b:=((n.lines.length:Nat):Int)) hu.1 (by omega)
 rw [hj] at rx
 obtain ⟨l,hl⟩:∃ p,n.lines[j]? = some p:=⟨n.lines[j],by simp⟩
 have hpl:1≤sumW l.ps 0:=by
  obtain ⟨h1,h2⟩:=line_self hzp (List.mem_of_getElem? hl)
  have:=(len_in hzp h1).1
  rw [h2] at this
  exact this
 have ry:=rem_ok (a:=v) (b:=sumW l.ps 0) hv.1 (by omega)
 have hm0:=Int.emod_nonneg v (b:=sumW l.ps 0) (by omega)
 have hm1:=Int.emod_lt_of_pos v (b:=sumW l.ps 0) (by omega)
 have hfl:=line_found hz hl
 have hs0:(sumW l.ps 0=0)=False:=by simp only [eq_iff_iff,iff_false];omega
 refine ⟨j,l,_,hjl,hl,rx,ry, ?_,hs0⟩
 generalize v % sumW l.ps 0=m at hm0 hm1
 unfold hasI
 simp only [hfl,hl]
 have a:¬ (m < 0):=by omega
 simp [a,hm1,whenI]
def pl3 (a b c:Pt):Nat→List AV
 | 0=>[.str [],.int .i64 0,.str [],.int .i64 0,.str [],.int .i64 0]
 | 1=>[.str a.1,.int .i64 a.2,.str [],.int .i64 0,.str [],.int .i64 0]
 | 2=>[.str a.1,.int .i64 a.2,.str b.1,.int .i64 b.2,.str [],.int .i64 0]
 | _=>[.str a.1,.int .i64 a.2,.str b.1,.int .i64 b.2,.str c.1,.int .i64 c.2]
theorem wayP_some {n:Net} {a b:Pt} {w:List Leg} (hp:placesP n [a,b]=0) (h:bestO n a b=some w):wayP n a b=[.ps .unk (w.map Leg.row),i64 (wSum w),i64 0]:=by
 unfold wayP;rw [if_pos hp,h]
theorem wayP_none {n:Net} {a b:Pt} (hp:placesP n [a,b]=0) (h:bestO n a b=none):wayP n a b=[.ps .unk [],i64 0,i64 18]:=by
 unfold wayP;rw [if_pos hp,h]
theorem dist_self {E:Nat→Bool→Pt} {N:Nat} (a:Pt):Dist E N a a 0:=⟨⟨[],rfl,by rw [lenS_nil];unfold dI;simp⟩,fun σ _=>lenS_nonneg E a σ a⟩
theorem best_small {n:Net} (h:netP n=0) {a b:Pt} (hRa:inR a.2) (hRb:inR b.2) {w:List Leg} (hw:bestO n a b=some w) (h4:n.sws.length≤4):0≤wSum w∧wSum w≤4000000∧w.length≤5:=by
 obtain ⟨_,_,_,h3⟩:=bestO_in h hRa hRb hw
 have hl:=bestO_len hw
 have h1:=wSum_small h3
 have h2:=wSum_nonneg w
 refine ⟨h2, ?_,by omega⟩
 have:(w.length:Int)≤5:=by omega
 omega
noncomputable def PPF12:FuncId→Option (List AV→Option AV):=addPrim 187 p187 (addPrim 118 p118 (addPrim 116 p116 (addPrim 115 p115 (addPrim 114 p114 (addPrim 111 p111 (addPrim 99 p99 (addPrim 79 p79 (addPrim 73 p73 (addPrim 72 p72 (addPrim 71 p71 (addPrim 19 p19 (addPrim 26 p26 (addPrim 31 p31 (addPrim 16 p16 (fun _=>none)))))))))))))))
theorem primsF12:PrimsOk NC PPF12:=primsOk_add (primsOk_add (primsOk_add (primsOk_add (primsOk_add (primsOk_add (primsOk_add (primsOk_add (primsOk_add (primsOk_add (primsOk_add (primsOk_add (primsOk_add (primsOk_add (primsOk_add (primsOk_none) (by kernel_rfl) (by kernel_rfl) pok16) (by kernel_rfl) (by kernel_rfl) pok31) (by kernel_rfl) (by kernel_rfl) pok26) (by kernel_rfl) (by kernel_rfl) pok19) (by kernel_rfl) (by kernel_rfl) pok71) (by kernel_rfl) (by kernel_rfl) pok72) (by kernel_rfl) (by kernel_rfl) pok73) (by kernel_rfl) (by kernel_rfl) pok79) (by kernel_rfl) (by kernel_rfl) pok99) (by kernel_rfl) (by kernel_rfl) pok111) (by kernel_rfl) (by kernel_rfl) pok114) (by kernel_rfl) (by kernel_rfl) pok115) (by kernel_rfl) (by kernel_rfl) pok116) (by kernel_rfl) (by kernel_rfl) pok118) (by kernel_rfl) (by kernel_rfl) pok187
theorem enF12_16:En PPF12 16 p16:=enter_prim (by rfl) (by kernel_rfl)
theorem enF12_31:En PPF12 31 p31:=enter_prim (by rfl) (by kernel_rfl)
theorem enF12_26:En PPF12 26 p26:=enter_prim (by rfl) (by kernel_rfl)
theorem enF12_19:En PPF12 19 p19:=enter_prim (by rfl) (by kernel_rfl)
theorem enF12_71:En PPF12 71 p71:=enter_prim (by rfl) (by kernel_rfl)
theorem enF12_72:En PPF12 72 p72:=enter_prim (by rfl) (by kernel_rfl)
theorem enF12_73:En PPF12 73 p73:=enter_prim (by rfl) (by kernel_rfl)
theorem enF12_79:En PPF12 79 p79:=enter_prim (by rfl) (by kernel_rfl)
theorem enF12_99:En PPF12 99 p99:=enter_prim (by rfl) (by kernel_rfl)
theorem enF12_111:En PPF12 111 p111:=enter_prim (by rfl) (by kernel_rfl)
theorem enF12_114:En PPF12 114 p114:=enter_prim (by rfl) (by kernel_rfl)
theorem enF12_115:En PPF12 115 p115:=enter_prim (by rfl) (by kernel_rfl)
theorem enF12_116:En PPF12 116 p116:=enter_prim (by rfl) (by kernel_rfl)
theorem enF12_118:En PPF12 118 p118:=enter_prim (by rfl) (by kernel_rfl)
theorem enF12_187:En PPF12 187 p187:=enter_prim (by rfl) (by kernel_rfl)
attribute [go_sem ↓] enF12_16 enF12_31 enF12_26 enF12_19 enF12_71 enF12_72 enF12_73 enF12_79 enF12_99 enF12_111 enF12_114 enF12_115 enF12_116 enF12_118 enF12_187
theorem c12 (n : Net) (a b c e f g : Int) (l : List Leg) (hx : (0 ≤ a ∧ a ≤ 255) ∧ (0 ≤ b ∧ b ≤ 255) ∧ (0 ≤ c ∧ c ≤ 255) ∧ (0 ≤ e ∧ e ≤ 255) ∧ (0 ≤ f ∧ f ≤ 255) ∧ (0 ≤ g ∧ g ≤ 255)) (hl : l.length ≤ 9223372036854775807) :
 ∀ lo H, CallOk NC lo 12 [.agg n.cells, .agg [.int .u8 a, .int .u8 b, .int .u8 c, .int .u8 e, .int .u8 f, .int .u8 g], .ps .unk (l.map Leg.row)] H (.bool true) H := by
 refine contract saneNC primsF12 (fn := Tryz.f12) (by kernel_rfl) Tryz.func12 rfl rfl (by rfl) (by rfl) ?_
 obtain ⟨ha, hb, hc, he, hf, hg⟩ := hx
 have e31 := pe31 n
 simp only [Net.cells, i64] at e31
 cases hsm : smallN n with
 | false =>
   simp only [hsm] at e31
   simp only [go_sem, reduceIte, reduceEqDiff, reduceAdd, reduceMul, reduceSub, reduceLeDiff, reduceLT, Nat.reduceBEq, reduceCtorEq, Net.cells, e16, e31]
 | true =>
 simp only [hsm] at e31
 obtain ⟨hS, hz, hl4, hs4, hst6⟩ := small_fine hsm
 have hok := short_ok hS
 have hzp : netP n = 0 := by rw [net_same]; exact hz
 rcases Classical.propComplete (((n.lines.length : Nat) : Int) = 0) with zl | zl
 · simp only [go_sem, reduceIte, reduceEqDiff, reduceAdd, reduceMul, reduceSub, reduceLeDiff, reduceLT, Nat.reduceBEq, reduceCtorEq, Net.cells, List.length_map, e16, e31, zl]
 rcases Classical.propComplete ((16 : Int) < l.length) with q17 | q17
 · simp only [go_sem, reduceIte, reduceEqDiff, reduceAdd, reduceMul, reduceSub, reduceLeDiff, reduceLT, Nat.reduceBEq, reduceCtorEq, Net.cells, List.length_map, e16, e31, zl, q17]
 have hpos : 0 < n.lines.length := by
  rcases Nat.eq_zero_or_pos n.lines.length with h0 | h0
  · rw [h0] at zl; simp at zl
  · exact h0
 have hl16 : l.length ≤ 16 := by
  have : ¬ ((16 : Int) < l.length) := fun h => by rw [eq_true h] at q17; simp at q17
  omega
 have hlm : l.length ≤ maxRows := by unfold maxRows; omega
 obtain ⟨j0, l0, m0, a1, a2, a3, a4, a5, a6⟩ := pick_pt hz hzp hpos ha hb
 obtain ⟨j1, l1, m1, b1, b2, b3, b4, b5, b6⟩ := pick_pt hz hzp hpos hc he
 obtain ⟨j2, l2, m2, c1, c2, c3, c4, c5, c6⟩ := pick_pt hz hzp hpos hf hg
 simp only [go_sem, zl, if_false] at a3 b3 c3
 simp only [go_sem, a6, if_false] at a4
 simp only [go_sem, b6, if_false] at b4
 simp only [go_sem, c6, if_false] at c4
 have e26a : p26 [.agg l0.row] = some (.int .i64 (sumW l0.ps 0)) := pe26 l0 (hok.line l0 (List.mem_of_getElem? a2)).2
 have e26b : p26 [.agg l1.row] = some (.int .i64 (sumW l1.ps 0)) := pe26 l1 (hok.line l1 (List.mem_of_getElem? b2)).2
 have e26c : p26 [.agg l2.row] = some (.int .i64 (sumW l2.ps 0)) := pe26 l2 (hok.line l2 (List.mem_of_getElem? c2)).2
 have hr0 := map_at (f := Ln.row) a2
 have hr1 := map_at (f := Ln.row) b2
 have hr2 := map_at (f := Ln.row) c2
 have cva := conv_u8 ha.1 ha.2
 have cvb := conv_u8 hb.1 hb.2
 have cvc := conv_u8 hc.1 hc.2
 have cve := conv_u8 he.1 he.2
 have cvf := conv_u8 hf.1 hf.2
 have cvg := conv_u8 hg.1 hg.2
 have e19 := pe19 n ⟨hok.fits, hok.sws, hok.sts⟩
 simp only [Ln.row, i64] at e26a e26b e26c hr0 hr1 hr2
 simp only [Net.cells, i64] at e19
 have k0 : placeP n l0.name m0 = 0 := by rw [place_same]; exact a5
 have k1 : placeP n l1.name m1 = 0 := by rw [place_same]; exact b5
 have k2 : placeP n l2.name m2 = 0 := by rw [place_same]; exact c5
 clear a2 b2 c2 a5 b5 c5
 generalize sumW l0.ps 0 = S0 at e26a a4 a6
 generalize sumW l1.ps 0 = S1 at e26b b4 b6
 generalize sumW l2.ps 0 = S2 at e26c c4 c6
 obtain ⟨s0, lp0⟩ := l0
 obtain ⟨s1, lp1⟩ := l1
 obtain ⟨s2, lp2⟩ := l2
 simp only at e26a e26b e26c hr0 hr1 hr2 k0 k1 k2
 simp only [go_sem, reduceIte, reduceEqDiff, reduceAdd, reduceMul, reduceSub, reduceLeDiff, reduceLT, Nat.reduceBEq, reduceCtorEq, Net.cells, List.length_map, e16, e31, zl, q17]
 refine W_for (fun k T H M => M = [] ∧ getT T 2 = .ps .unk (l.map Leg.row) ∧ getT T 3 = .ptr 0 0 ∧ getT T 4 = .ptr 1 0 ∧ getT T 7 = .ptr 2 0 ∧ getT T 55 = i64 k ∧ 2 < H.n ∧ H.get 0 = .cells [.ps .unk (n.lines.map Ln.row), .ps .unk (n.sws.map Sw.row), .ps .unk (n.sts.map Stc.row)] 26 ∧ H.get 1 = .cells [.int .u8 a, .int .u8 b, .int .u8 c, .int .u8 e, .int .u8 f, .int .u8 g] 155 ∧ H.get 2 = .cells (pl3 (s0, m0) (s1, m1) (s2, m2) k) 156) 3 ?_ ?_ ?_
 · simp only [go_sem, reduceIte, reduceEqDiff, reduceAdd, reduceMul, reduceSub, reduceLeDiff, reduceLT, Nat.reduceBEq, reduceCtorEq, pl3]
 · rintro k T H M hk ⟨rfl, t2, t3, t4, t7, t55, hn, g0, g1, g2⟩
   have y0 : (0 = H.n) = False ∧ (1 = H.n) = False ∧ (2 = H.n) = False ∧ (H.n = 2) = False := by simp only [eq_iff_iff, iff_false]; omega
   have y1 : (2 < H.n + 1) = True := by simp only [eq_iff_iff, iff_true]; omega
   have hk3 : k = 0 ∨ k = 1 ∨ k = 2 := by omega
   rcases hk3 with rfl | rfl | rfl
   · have t55 : getT T 55 = .int .i64 0 := t55
     simp only [pl3] at g2 ⊢
     simp only [go_sem, reduceIte, reduceEqDiff, reduceAdd, reduceMul, reduceSub, reduceLeDiff, reduceLT, Nat.reduceBEq, reduceCtorEq, List.length_map, t2, t3, t4, t7, t55, g0, g1, g2, y0, y1, i03, wl01, cva, cvb, a1, a3, a4, a6, zl, hr0, e26a]
     rfl
   · have t55 : getT T 55 = .int .i64 1 := t55
     simp only [pl3] at g2 ⊢
     simp only [go_sem, reduceIte, reduceEqDiff, reduceAdd, reduceMul, reduceSub, reduceLeDiff, reduceLT, Nat.reduceBEq, reduceCtorEq, List.length_map, t2, t3, t4, t7, t55, g0, g1, g2, y0, y1, i13, wl12, cvc, cve, b1, b3, b4, b6, zl, hr1, e26b]
     rfl
   · have t55 : getT T 55 = .int .i64 2 := t55
     simp only [pl3] at g2 ⊢
     simp only [go_sem, reduceIte, reduceEqDiff, reduceAdd, reduceMul, reduceSub, reduceLeDiff, reduceLT, Nat.reduceBEq, reduceCtorEq, List.length_map, natOf_2, t2, t3, t4, t7, t55, g0, g1, g2, y0, y1, i23, wl23, cvf, cvg, c1, c3, c4, c6, zl, hr2, e26c]
     rfl
 rintro T H M ⟨rfl, t2, t3, t4, t7, t55, hn, g0, g1, g2⟩
 have t55 : getT T 55 = .int .i64 3 := t55
 simp only [pl3] at g2
 clear e26a e26b e26c hr0 hr1 hr2 a1 a3 a4 b1 b3 b4 c1 c3 c4 cva cvb cvc cve cvf cvg g1 e31
 -- the three places
 have pl : ∀ {p q : Pt}, placeP n p.1 p.2 = 0 → placeP n q.1 q.2 = 0 → placesP n [p, q] = 0 := fun hp hq => by
  unfold placesP
  rw [if_pos hzp]
  simp only [List.map_cons, List.map_nil, hp, hq]
  rfl
 have A0 := place_in (s := s0) (m := m0) hzp k0
 have A1 := place_in (s := s1) (m := m1) hzp k1
 have A2 := place_in (s := s2) (m := m2) hzp k2
 have f01 := pe71 n (s0, m0) (s1, m1) hok
 have f10 := pe71 n (s1, m1) (s0, m0) hok
 have f02 := pe71 n (s0, m0) (s2, m2) hok
 have f21 := pe71 n (s2, m2) (s1, m1) hok
 have q01 := pl (p := (s0, m0)) (q := (s1, m1)) k0 k1
 have q10 := pl (p := (s1, m1)) (q := (s0, m0)) k1 k0
 have q02 := pl (p := (s0, m0)) (q := (s2, m2)) k0 k2
 have q21 := pl (p := (s2, m2)) (q := (s1, m1)) k2 k1
 have z18 : ((18 : Int) = 0) = False := by simp
 have z18' : ((0 : Int) = 18) = False := by simp
 cases hw : bestO n (s0, m0) (s1, m1) with
 | none =>
   have hw' := none_turn hzp (a := (s0, m0)) (b := (s1, m1)) A0.1 hw
   have hB : beqL s0 s1 = false := by
    cases hB : beqL s0 s1 with
    | false => rfl
    | true =>
      obtain ⟨w, h1, _⟩ := best_line hzp (a := (s0, m0)) (b := (s1, m1)) A0.1 ((beqL_iff _ _).1 hB)
      rw [hw] at h1; cases h1
   rw [wayP_none q01 hw] at f01
   rw [wayP_none q10 hw'] at f10
   simp only [Net.cells, ptRow, i64] at f01 f10
   simp only [go_sem, reduceIte, reduceEqDiff, reduceAdd, reduceMul, reduceSub, reduceLeDiff, reduceLT, Nat.reduceBEq, reduceCtorEq, List.length_map, t2, t3, t4, t7, t55, g0, g2, i33, e19, f01, f10, z18, z18', hB]
 | some w =>
 obtain ⟨hw0, hwb, hw5⟩ := best_small hzp A0.2 A1.2 hw hs4
 obtain ⟨v, hv, hvw⟩ := best_turn hzp (a := (s0, m0)) (b := (s1, m1)) A1.1 hw
 obtain ⟨σ, σ1, σ2, σ3, D01⟩ := best_some hw
 rw [wayP_some q01 hw] at f01
 rw [wayP_some q10 hv, hvw] at f10
 -- the way, and turned round
 have hσl : σ.length ≤ 15 := by
  have := legsOf_length (endE n) (s0, m0) σ (s1, m1)
  rw [← σ2] at this
  omega
 obtain ⟨ρ1, ρ2⟩ := rev_ok _ _ σ1
 have hρl : (revS σ).length ≤ 15 := by unfold revS; simpa using hσl
 have hc1 := check_ok hzp q01 σ1 hσl
 have hc2 := check_ok hzp q10 ρ1 hρl
 rw [← σ2, ← σ3] at hc1
 rw [ρ2, ← σ3, ← turn_legs σ1, ← σ2] at hc2
 have f1 := pe72 n (s0, m0) (s1, m1) w ⟨hok, by unfold maxRows; omega⟩
 have f2 := pe72 n (s1, m1) (s0, m0) (w.reverse.map turnG) ⟨hok, by rw [List.length_map, List.length_reverse]; unfold maxRows; omega⟩
 have f3 := pe72 n (s0, m0) (s1, m1) l ⟨hok, hlm⟩
 rw [hc1] at f1
 rw [hc2] at f2
 obtain ⟨cc, ee, h3, h3'⟩ := check_least hzp q01 l
 rw [h3] at f3
 have hce : ee = 0 → (cc < wSum w) = False := fun h => by
  obtain ⟨τ, τ1, τ2⟩ := h3' h
  have := D01.least τ τ1
  simp only [eq_iff_iff, iff_false]; omega
 clear h3' h3 hc1 hc2 ρ1 ρ2
 -- along one line
 have hal : beqL s0 s1 = true → (maxI (m1 - m0) (-(m1 - m0)) < wSum w) = False := fun hB => by
  obtain ⟨w', h1, h2⟩ := best_line hzp (a := (s0, m0)) (b := (s1, m1)) A0.1 ((beqL_iff _ _).1 hB)
  rw [hw] at h1; cases h1
  have : dI m0 m1 ≤ maxI (m1 - m0) (-(m1 - m0)) := by unfold dI maxI; split <;> split <;> omega
  simp only [eq_iff_iff, iff_false]
  simp only at h2
  omega
 have hsub : wrapq .i64 (Int.sub m1 m0) = m1 - m0 := by
  have h1 := A1.2
  have h0 := A0.2
  unfold inR at h0 h1
  exact wrapq_i64 (by show _ ≤ m1 - m0; omega) (by show m1 - m0 ≤ _; omega)
 -- over a third place
 have hby := best_by hzp (a := (s0, m0)) (b := (s1, m1)) (c := (s2, m2)) A0.1 A2.1 hw
 have third : ∃ (L02 L21 : List Leg) (d02 d21 e02 e21 : Int), wayP n (s0, m0) (s2, m2) = [.ps .unk (L02.map Leg.row), i64 d02, i64 e02] ∧ wayP n (s2, m2) (s1, m1) = [.ps .unk (L21.map Leg.row), i64 d21, i64 e21] ∧ ((e02 = 18 ∧ e21 = 18) ∨ (e02 = 0 ∧ e21 = 0 ∧ (wrapq .i64 (Int.add d02 d21) < wSum w) = False)) := by
  rcases hby with ⟨h1, h2⟩ | ⟨u, v', h1, h2, h3⟩
  · exact ⟨[], [], 0, 0, 18, 18, wayP_none q02 h1, wayP_none q21 h2, .inl ⟨rfl, rfl⟩⟩
  · obtain ⟨u0, u1, _⟩ := best_small hzp A0.2 A2.2 h1 hs4
    obtain ⟨v0, v1, _⟩ := best_small hzp A2.2 A1.2 h2 hs4
    refine ⟨u, v', wSum u, wSum v', 0, 0, wayP_some q02 h1, wayP_some q21 h2, .inr ⟨rfl, rfl, ?_⟩⟩
    have e : wrapq .i64 (Int.add (wSum u) (wSum v')) = wSum u + wSum v' := wrapq_i64 (by show _ ≤ wSum u + wSum v'; omega) (by show wSum u + wSum v' ≤ _; omega)
    rw [e]
    simp only [eq_iff_iff, iff_false]; omega
 obtain ⟨L02, L21, d02, d21, e02, e21, w02, w21, hthird⟩ := third
 rw [w02] at f02
 rw [w21] at f21
 -- what is reached
 have hon := place_on (s := s0) (m := m0) k0
 have reach : ∀ most : Int, 0 ≤ most → most ≤ 100000000 → reachErr n (s0, m0) most = 0 ∧ reachE most (entO n (s0, m0)) n.lines = reachR n (s0, m0) most ∧ (hasS (reachR n (s0, m0) most) (s0, m0) = true) ∧ (hasS (reachR n (s0, m0) most) (s1, m1) = true ↔ wSum w ≤ most) ∧ (reachR n (s0, m0) most).length ≤ maxRows := by
  intro most h0 h1
  refine ⟨?_, reach_same hzp hs4 (a := (s0, m0)) A0.1 A0.2 hon ⟨h0, h1⟩, ?_, ?_, ?_⟩
  · unfold reachErr placesP
    rw [if_pos hzp]
    simp only [List.map_cons, List.map_nil, k0]
    have : rangeI most 0 100000000 = 0 := range_in h0 h1
    rw [this]; rfl
  · rw [has_reach hzp hs4 (a := (s0, m0)) A0.1 A0.2 k0]
    exact ⟨0, dist_self _, h0⟩
  · rw [has_reach hzp hs4 (a := (s0, m0)) A0.1 A0.2 k1]
    constructor
    · rintro ⟨d, h1, h2⟩
      rw [D01.uniq h1]; exact h2
    · exact fun h => ⟨_, D01, h⟩
  · have := strs_take (n := n) (a := (s0, m0)) (most := most) (ls := n.lines) (small_len2 hsm)
    show (n.lines.flatMap (strsR n (s0, m0) most)).length ≤ _
    unfold maxRows; omega
 obtain ⟨R1, R2, R3, R4, R5⟩ := reach (wSum w) hw0 (by omega)
 have e79 := pe79 w (by unfold maxRows; omega)
 have e73 := pe73 w (by unfold maxRows; omega)
 have e73l := pe73 l hlm
 have hwm : w.length ≤ maxRows := by unfold maxRows; omega
 have hwz : (wSum w < 0) = False := by simp only [eq_iff_iff, iff_false]; omega
 have hRe := R4.2 (Int.le_refl _)
 have hgen : ∀ v' H', R (NC.withPrims PPF12) (.call H.n 32 [.agg n.cells, .agg (ptRow (s0, m0)), .int .i64 (wSum w)] H) = some (.ofVal v' H') → True := fun _ _ _ => trivial
 clear hgen
 simp only [Net.cells, ptRow, i64] at f01 f10 f02 f21 f1 f2 f3
 have r32a : ∀ H0 : Heap, ∃ v H1, R (NC.withPrims PPF12) (.call H0.n 32 [.agg n.cells, .agg (ptRow (s0, m0)), .int .i64 (wSum w)] H0) = some (.ofVal v H1) ∧ (H0.n ≤ H1.n ∧ ∀ j, j < H0.n → H1.get j = H0.get j) ∧ ∃ x id, v = .tup [x, i64 0] ∧ x = .rs id 0 (reachR n (s0, m0) (wSum w)).length 3 none ∧ id < H1.n ∧ H1.get id = .row (stF (reachR n (s0, m0) (wSum w))) 3 224 := by
  intro H0
  obtain ⟨v, H1, x1, x2, x3⟩ := r32 (P := PPF12) rfl rfl rfl rfl rfl rfl rfl rfl rfl rfl n hok (fun _ => hs4) (s0, m0) (wSum w) H0.n H0 (Nat.le_refl _)
  rw [if_pos R1, R2] at x3
  obtain ⟨x, rfl, hX⟩ := x3
  refine ⟨_, H1, x1, x2, ?_⟩
  rcases hX with ⟨hX, _⟩ | ⟨_, id, h1, h2, h3, h4⟩
  · rw [hX] at R3; cases R3
  · exact ⟨x, id, rfl, h1, h3, h4⟩
 have hle : w.length - 1 + 1 = w.length := by
  have := legsOf_length (endE n) (s0, m0) σ (s1, m1)
  rw [← σ2] at this
  omega
 simp only [go_sem, reduceIte, reduceEqDiff, reduceAdd, reduceMul, reduceSub, reduceLeDiff, reduceLT, Nat.reduceBEq, reduceCtorEq, List.length_map, t2, t3, t4, t7, t55, g0, g2, i33, e19, f01, f10]
 refine W_for (fun k T H M => M = [] ∧ getT T 2 = .ps .unk (l.map Leg.row) ∧ getT T 3 = .ptr 0 0 ∧ getT T 7 = .ptr 2 0 ∧ getT T 10 = .ps .unk (w.map Leg.row) ∧ getT T 11 = .int .i64 (wSum w) ∧ getT T 146 = i64 (w.length : Nat) ∧ getT T 147 = i64 k ∧ 2 < H.n ∧ H.get 0 = .cells [.ps .unk (n.lines.map Ln.row), .ps .unk (n.sws.map Sw.row), .ps .unk (n.sts.map Stc.row)] 26 ∧ H.get 2 = .cells [.str s0, .int .i64 m0, .str s1, .int .i64 m1, .str s2, .int .i64 m2] 156 ∧ ∃ t, getT T 16 = .ps t (((w.reverse.map turnG).take k).map Leg.row) ∧ App H t (((w.reverse.map turnG).take k).map Leg.row) 3 157) w.length ?_ ?_ ?_
 · simp only [go_sem, reduceIte, reduceEqDiff, reduceAdd, reduceMul, reduceSub, reduceLeDiff, reduceLT, Nat.reduceBEq, reduceCtorEq, List.length_map, t2, t3, t7, g0, g2, hn]
   exact ⟨.nil, rfl, .inl ⟨rfl, rfl⟩⟩
 · clear t2 t3 t4 t7 t55 g0 g2 hn
   rintro k T H M hk ⟨rfl, t2, t3, t7, t10, t11, t146, t147, hn, g0, g2, t, t16, hA⟩
   have hkr : w.length - 1 - k < w.length := by omega
   obtain ⟨x, hx⟩ : ∃ p, w[w.length - 1 - k]? = some p := ⟨w[w.length - 1 - k], by simp⟩
   have hr := map_at (f := Leg.row) hx
   have hxt := turned_at hx hk
   have hw1 := wrap_succ hk hwm
   have htk := take_map (f := Leg.row) hxt
   have hwa : wrapq .i64 (Int.sub (w.length : Int) 1) = ((w.length - 1 : Nat) : Int) := wrap_pred (k := w.length) (n := w.length) (by omega) (Nat.le_refl _) hwm
   have hwb : wrapq .i64 (Int.sub ((w.length - 1 : Nat) : Int) (k : Int)) = ((w.length - 1 - k : Nat) : Int) := by
    have e : Int.sub ((w.length - 1 : Nat) : Int) (k : Int) = ((w.length - 1 - k : Nat) : Int) := by show ((w.length - 1 : Nat) : Int) - (k : Int) = _; omega
    rw [e]; exact wrap_nat (by unfold maxRows at hwm; omega)
   obtain ⟨t', H1, ha, hB, hn1, hc1, _⟩ := app_any (H := (H.push (.cells [.str [], .int .i64 0, .int .i64 0] 157)).set H.n (.cells x.row 157)) (hA.fresh _ _ rfl) (r := (turnG x).row) (by simp; omega) rfl (by decide) (rows_all Leg.row_len _)
   have y1 : (0 = H.n) = False ∧ (2 = H.n) = False := by simp only [eq_iff_iff, iff_false]; omega
   have gg : ∀ i, i < H.n → ((H.push (.cells [.str [], .int .i64 0, .int .i64 0] 157)).set H.n (.cells x.row 157)).get i = H.get i := fun i hi => by rw [Heap.get_set, if_neg (by omega), Heap.get_push, if_neg (by omega)]
   have n0 := hc1 0 _ _ (by simp) ((gg 0 (by omega)).trans g0)
   have n2 := hc1 2 _ _ (by simp; omega) ((gg 2 hn).trans g2)
   have hn2 : (2 < H1.n) = True := by simp at hn1; simp only [eq_iff_iff, iff_true]; omega
   obtain ⟨x1, x2, x3⟩ := x
   simp only [Leg.row, turnG, i64] at hr ha
   simp only [go_sem, reduceIte, reduceEqDiff, reduceAdd, reduceMul, reduceSub, reduceLeDiff, reduceLT, Nat.reduceBEq, reduceCtorEq, List.length_map, t2, t3, t7, t10, t11, t146, t147, t16, hk, hr, hw1, hwa, hwb, hkr, y1, appO, ha, n0, n2, hn2]
   rw [htk]
   exact ⟨t', rfl, hB⟩
 clear t2 t3 t4 t7 t55 g0 g2 hn
 rintro T H M ⟨rfl, t2, t3, t7, t10, t11, t146, t147, hn, g0, g2, t, t16, hA⟩
 rw [List.take_of_length_le (by simp)] at t16
 have hu : AV.under H.n (.ps t ((w.reverse.map turnG).map Leg.row)) = true := by
  rcases hA with ⟨rfl, _⟩ | ⟨j, rfl, _, hj, _⟩
  · rfl
  · show Nat.blt j H.n = true
    rw [Nat.blt_eq]; exact hj
 clear hA
 have hcond : (wSum w = 0) ∨ 0 < wSum w := by omega
 have hneg : aun .neg (.int .i64 (m1 - m0)) = some (.int .i64 (-(m1 - m0))) := by
  have h1 := A1.2
  have h0 := A0.2
  unfold inR at h0 h1
  have e : aun .neg (.int .i64 (m1 - m0)) = some (.int .i64 (IntKind.wrap .i64 (0 - (m1 - m0)))) := rfl
  rw [e]
  have := wrapq_i64 (x := 0 - (m1 - m0)) (by omega) (by omega)
  rw [wrapq_eq] at this
  rw [this, Int.zero_sub]
 have hm1 : wrapq .i64 (Int.sub (wSum w) 1) = wSum w - 1 := wrapq_i64 (by show _ ≤ wSum w - 1; omega) (by show wSum w - 1 ≤ _; omega)
 have n32 : PPF12 32 = none := rfl
 have n80 : PPF12 80 = none := rfl
 have ety4 : eqType NC.P 100 4 = true := by kernel_rfl
 have btt : aeqT NC.P 100 4 (.bool true) (.bool true) = some true := by kernel_rfl
 have bff : aeqT NC.P 100 4 (.bool false) (.bool false) = some true := by kernel_rfl
 refine W_mono (Q := (fun e T H M => e = .ext 2 ∧ M = [] ∧ getT T 2 = .ps .unk (l.map Leg.row) ∧ getT T 3 = .ptr 0 0 ∧ getT T 7 = .ptr 2 0 ∧ getT T 10 = .ps .unk (w.map Leg.row) ∧ getT T 11 = .int .i64 (wSum w) ∧ 2 < H.n ∧ H.get 0 = .cells [.ps .unk (n.lines.map Ln.row), .ps .unk (n.sws.map Sw.row), .ps .unk (n.sts.map Stc.row)] 26 ∧ H.get 2 = .cells [.str s0, .int .i64 m0, .str s1, .int .i64 m1, .str s2, .int .i64 m2] 156 ∧ ∃ t, getT T 16 = .ps t ((w.reverse.map turnG).map Leg.row) ∧ AV.under H.n (.ps t ((w.reverse.map turnG).map Leg.row)) = true)) ?_ ?_
 · simp only [go_sem, reduceIte, reduceEqDiff, reduceAdd, reduceMul, reduceSub, reduceLeDiff, reduceLT, Nat.reduceBEq, reduceCtorEq, List.length_map, t2, t3, t7, t10, t11, t146, t147, Nat.lt_irrefl, hn, g0, g2]
   exact ⟨t, t16, hu⟩
 clear t2 t3 t7 t10 t11 t16 t146 t147 hu g0 g2 hn
 rintro e T H M ⟨rfl, rfl, t2, t3, t7, t10, t11, hn, g0, g2, t, t16, hu⟩
 simp only [next_nrm, next_ext, shut_ext, shut_nrm, Nat.beq_refl, reduceIte, cond_true]
 rw [W_assoc, W_assoc, W_assoc]
 refine W_cut (fun T H M => M = [] ∧ getT T 2 = .ps .unk (l.map Leg.row) ∧ getT T 3 = .ptr 0 0 ∧ getT T 7 = .ptr 2 0 ∧ getT T 10 = .ps .unk (w.map Leg.row) ∧ getT T 11 = .int .i64 (wSum w) ∧ 2 < H.n ∧ H.get 0 = .cells [.ps .unk (n.lines.map Ln.row), .ps .unk (n.sws.map Sw.row), .ps .unk (n.sts.map Stc.row)] 26 ∧ H.get 2 = .cells [.str s0, .int .i64 m0, .str s1, .int .i64 m1, .str s2, .int .i64 m2] 156) ?_ ?_
 · rcases Classical.propComplete (ee = 0) with qe | qe
   · have hce' := hce (of_eq_true qe)
     simp only [go_sem, reduceIte, reduceEqDiff, reduceAdd, reduceMul, reduceSub, reduceLeDiff, reduceLT, Nat.reduceBEq, reduceCtorEq, List.length_map, t2, t3, t7, t10, t11, t16, hu, g0, g2, hn, e19, e79, e73, e73l, f1, f2, f3, hwz, qe, hce']
   · simp only [go_sem, reduceIte, reduceEqDiff, reduceAdd, reduceMul, reduceSub, reduceLeDiff, reduceLT, Nat.reduceBEq, reduceCtorEq, List.length_map, t2, t3, t7, t10, t11, t16, hu, g0, g2, hn, e19, e79, e73, e73l, f1, f2, f3, hwz, qe]
 clear t2 t3 t7 t10 t11 t16 hu g0 g2 hn f1 f2 f3 e79 e73 e73l
 rintro T H M ⟨rfl, t2, t3, t7, t10, t11, hn, g0, g2⟩
 refine W_cut (fun T H M => M = [] ∧ getT T 2 = .ps .unk (l.map Leg.row) ∧ getT T 3 = .ptr 0 0 ∧ getT T 7 = .ptr 2 0 ∧ getT T 10 = .ps .unk (w.map Leg.row) ∧ getT T 11 = .int .i64 (wSum w) ∧ 2 < H.n ∧ H.get 0 = .cells [.ps .unk (n.lines.map Ln.row), .ps .unk (n.sws.map Sw.row), .ps .unk (n.sts.map Stc.row)] 26 ∧ H.get 2 = .cells [.str s0, .int .i64 m0, .str s1, .int .i64 m1, .str s2, .int .i64 m2] 156) ?_ ?_
 · cases hB : beqL s0 s1 with
   | true =>
     have hal' := hal hB
     simp only [go_sem, reduceIte, reduceEqDiff, reduceAdd, reduceMul, reduceSub, reduceLeDiff, reduceLT, Nat.reduceBEq, reduceCtorEq, t2, t3, t7, t10, t11, g0, g2, hn, hsub, hB, hneg, hal']
   | false => simp only [go_sem, reduceIte, reduceEqDiff, reduceAdd, reduceMul, reduceSub, reduceLeDiff, reduceLT, Nat.reduceBEq, reduceCtorEq, t2, t3, t7, t10, t11, g0, g2, hn, hsub, hB]
 clear t2 t3 t7 t10 t11 g0 g2 hn
 rintro T H M ⟨rfl, t2, t3, t7, t10, t11, hn, g0, g2⟩
 rw [W_assoc, W_assoc]
 refine W_cut (fun T H M => M = [] ∧ getT T 2 = .ps .unk (l.map Leg.row) ∧ getT T 3 = .ptr 0 0 ∧ getT T 7 = .ptr 2 0 ∧ getT T 10 = .ps .unk (w.map Leg.row) ∧ getT T 11 = .int .i64 (wSum w) ∧ 2 < H.n ∧ H.get 0 = .cells [.ps .unk (n.lines.map Ln.row), .ps .unk (n.sws.map Sw.row), .ps .unk (n.sts.map Stc.row)] 26 ∧ H.get 2 = .cells [.str s0, .int .i64 m0, .str s1, .int .i64 m1, .str s2, .int .i64 m2] 156) ?_ ?_
 · rcases hthird with ⟨rfl, rfl⟩ | ⟨rfl, rfl, hth⟩
   · simp only [go_sem, reduceIte, reduceEqDiff, reduceAdd, reduceMul, reduceSub, reduceLeDiff, reduceLT, Nat.reduceBEq, reduceCtorEq, t2, t3, t7, t10, t11, g0, g2, hn, natOf_2, e19, f02, f21, z18, ety4, bff]
   · simp only [go_sem, reduceIte, reduceEqDiff, reduceAdd, reduceMul, reduceSub, reduceLeDiff, reduceLT, Nat.reduceBEq, reduceCtorEq, t2, t3, t7, t10, t11, g0, g2, hn, natOf_2, e19, f02, f21, hth, ety4, btt]
 clear t2 t3 t7 t10 t11 g0 g2 hn f02 f21 hthird
 rintro T H M ⟨rfl, t2, t3, t7, t10, t11, hn, g0, g2⟩
 rw [W_assoc]
 refine W_cut (fun T H M => M = [] ∧ getT T 2 = .ps .unk (l.map Leg.row) ∧ getT T 3 = .ptr 0 0 ∧ getT T 7 = .ptr 2 0 ∧ getT T 10 = .ps .unk (w.map Leg.row) ∧ getT T 11 = .int .i64 (wSum w) ∧ 2 < H.n ∧ H.get 0 = .cells [.ps .unk (n.lines.map Ln.row), .ps .unk (n.sws.map Sw.row), .ps .unk (n.sts.map Stc.row)] 26 ∧ H.get 2 = .cells [.str s0, .int .i64 m0, .str s1, .int .i64 m1, .str s2, .int .i64 m2] 156) ?_ ?_
 · obtain ⟨va, H1, x1, ⟨x2, x3⟩, xa, id1, rfl, rfl, x4, x5⟩ := r32a H
   have p0 := (x3 0 (by omega)).trans g0
   have p2 := (x3 2 (by omega)).trans g2
   have hn1 : (2 < H1.n) = True := by simp only [eq_iff_iff, iff_true]; omega
   obtain ⟨Ha, h80a⟩ := r80 (P := PPF12) (reachR n (s0, m0) (wSum w)) R5 (s1, m1) id1 H1.n H1 (Nat.le_refl _) x4 x5
   rw [hRe] at h80a
   obtain ⟨Hb, h80b⟩ := r80 (P := PPF12) (reachR n (s0, m0) (wSum w)) R5 (s0, m0) id1 H1.n H1 (Nat.le_refl _) x4 x5
   rw [R3] at h80b
   simp only [Net.cells, ptRow, i64] at x1 h80a h80b
   simp only [go_sem, reduceIte, reduceEqDiff, reduceAdd, reduceMul, reduceSub, reduceLeDiff, reduceLT, Nat.reduceBEq, reduceCtorEq, t2, t3, t7, t10, t11, g0, g2, hn, e19, en32 n32, x1, ofVal_v, ofVal_H, p0, p2, en80 n80, h80a, h80b, hn1]
 clear t2 t3 t7 t10 t11 g0 g2 hn r32a
 rintro T H M ⟨rfl, t2, t3, t7, t10, t11, hn, g0, g2⟩
 rcases hcond with hz0 | hz1
 · have hz0' : (wSum w = 0) = True := eq_true hz0
   simp only [go_sem, reduceIte, reduceEqDiff, reduceAdd, reduceMul, reduceSub, reduceLeDiff, reduceLT, Nat.reduceBEq, reduceCtorEq, t2, t3, t7, t10, t11, g0, g2, hn, hz0']
 · have hz1' : (wSum w = 0) = False := by simp only [eq_iff_iff, iff_false]; omega
   have r32b : ∃ H2, H2.get 2 = H.get 2 ∧ 2 < H2.n ∧ ∃ x y, (x = .ps .nil [] ∧ y = .ps .unk [] ∨ ∃ id len, x = .rs id 0 len 3 none ∧ y = .rs id 0 len 3 none) ∧ R (NC.withPrims PPF12) (.call H.n 32 [.agg n.cells, .agg (ptRow (s0, m0)), .int .i64 (wSum w - 1)] H) = some (.ofVal (.tup [x, i64 0]) H2) ∧ ∃ H3, R (NC.withPrims PPF12) (.call H2.n 80 [y, .agg (ptRow (s1, m1))] H2) = some (.ofVal (.bool false) H3) := by
    obtain ⟨S1, S2, S3, S4, S5⟩ := reach (wSum w - 1) (by omega) (by omega)
    obtain ⟨v, H2, y1, y2, y3⟩ := r32 (P := PPF12) rfl rfl rfl rfl rfl rfl rfl rfl rfl rfl n hok (fun _ => hs4) (s0, m0) (wSum w - 1) H.n H (Nat.le_refl _)
    rw [if_pos S1, S2] at y3
    obtain ⟨x, rfl, hX⟩ := y3
    have hno : hasS (reachR n (s0, m0) (wSum w - 1)) (s1, m1) = false := by
     cases h : hasS (reachR n (s0, m0) (wSum w - 1)) (s1, m1) with
     | false => rfl
     | true => have := S4.1 h; omega
    refine ⟨H2, y2.2 2 (by omega), (by have := y2.1; omega), x, x.strip, ?_⟩
    rcases hX with ⟨_, rfl⟩ | ⟨_, id, rfl, _, h3, h4⟩
    · exact ⟨.inl ⟨rfl, rfl⟩, y1, r80n (s1, m1) H2.n H2⟩
    · have := r80 (P := PPF12) (reachR n (s0, m0) (wSum w - 1)) S5 (s1, m1) id H2.n H2 (Nat.le_refl _) h3 h4
      rw [hno] at this
      exact ⟨.inr ⟨_, _, rfl, rfl⟩, y1, this⟩
   obtain ⟨H2, q1, q2, x, y, hxy, q3, H3, q4⟩ := r32b
   have q5 := q1.trans g2
   simp only [Net.cells, ptRow, i64] at q3 q4
   rcases hxy with ⟨rfl, rfl⟩ | ⟨id, len, rfl, rfl⟩
   · simp only [go_sem, reduceIte, reduceEqDiff, reduceAdd, reduceMul, reduceSub, reduceLeDiff, reduceLT, Nat.reduceBEq, reduceCtorEq, t2, t3, t7, t10, t11, g0, g2, hn, hz1', e19, hm1, en32 n32, q3, ofVal_v, ofVal_H, q5, en80 n80, q4]
   · simp only [go_sem, reduceIte, reduceEqDiff, reduceAdd, reduceMul, reduceSub, reduceLeDiff, reduceLT, Nat.reduceBEq, reduceCtorEq, t2, t3, t7, t10, t11, g0, g2, hn, hz1', e19, hm1, en32 n32, q3, ofVal_v, ofVal_H, q5, en80 n80, q4]
end Go.Sim
