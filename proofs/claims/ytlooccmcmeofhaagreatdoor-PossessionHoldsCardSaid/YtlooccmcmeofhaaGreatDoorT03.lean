/-
Lemmas of one proof, the texts SimRel to SimRel joined.
-/
import Derived.Test.YtlooccmcmeofhaaGreatDoorT02
import Derived.CallsIn
import Derived.RangeFuncLeaves
set_option linter.unusedSimpArgs false
set_option linter.unusedVariables false
set_option maxRecDepth 100000
set_option maxHeartbeats 32000000
noncomputable section
open Go
open List (eq_nil_of_length_eq_zero getElem?_drop getElem?_eq_getElem getElem?_map getElem?_take)
open Nat (add_right_cancel_iff beq_eq lt_of_lt_of_le lt_succ_self zero_le)
variable {A B:Prop} {H H':Go.Sim.Heap} {T:Go.Sim.TT Go.Sim.AV} {lo n n':Nat} {w w':Go.World}

namespace Go.Sim
theorem TT.get_insF {α:Type} (d:α):∀ (f:Nat) (t:TT α) (n m:Nat) (x:α),n < f->(TT.insF d f t n x).get d m=if m=n then x else t.get d m:=by
 intro f
 induction f with
 | zero=>intro t n m x h;omega
 | succ f ih =>
   intro t n m x h;have half:∀ k,k+1 < f+1->k / 2 < f:=fun k hk=>by omega
   have same2:∀ a b:Nat,a % 2=b % 2->(a / 2=b / 2 ↔ a=b):=fun a b e=>by omega
   cases t with
   | leaf =>
     cases n with
     | zero=>cases m<;>simp [TT.insF,TT.get]
     | succ n =>
       cases hn:Nat.beq (n % 2) 0 with
       | true =>
         simp only [TT.insF,hn,cond];cases m with
         | zero=>simp [TT.get]
         | succ m =>
           simp only [TT.get,add_right_cancel_iff];cases hm:Nat.beq (m % 2) 0 with
           | true =>
             rw [beq_eq] at hn hm;simp only [cond,ih _ _ _ _ (half n h),same2 m n (by omega),TT.get]
           | false =>
             rw [beq_eq] at hn;have hm':m % 2 ≠ 0:=fun e=>by rw [e] at hm;cases hm
             simp only [cond];rw [if_neg (by intro e;subst e;omega)]
       | false =>
         simp only [TT.insF,hn,cond];have hn':n % 2 ≠ 0:=fun e=>by rw [e] at hn;cases hn
         cases m with
         | zero=>simp [TT.get]
         | succ m =>
           simp only [TT.get,add_right_cancel_iff];cases hm:Nat.beq (m % 2) 0 with
           | true =>
             rw [beq_eq] at hm;simp only [cond];rw [if_neg (by intro e;subst e;omega)]
           | false =>
             have hm':m % 2 ≠ 0:=fun e=>by rw [e] at hm;cases hm
             simp only [cond,ih _ _ _ _ (half n h),same2 m n (by omega),TT.get]
   | node v l r =>
     cases n with
     | zero=>cases m<;>simp [TT.insF,TT.get]
     | succ n =>
       cases hn:Nat.beq (n % 2) 0 with
       | true =>
         simp only [TT.insF,hn,cond];cases m with
         | zero=>simp [TT.get]
         | succ m =>
           simp only [TT.get,add_right_cancel_iff];cases hm:Nat.beq (m % 2) 0 with
           | true =>
             rw [beq_eq] at hn hm;simp only [cond,ih _ _ _ _ (half n h),same2 m n (by omega)]
           | false =>
             rw [beq_eq] at hn;have hm':m % 2 ≠ 0:=fun e=>by rw [e] at hm;cases hm
             simp only [cond];rw [if_neg (by intro e;subst e;omega)]
       | false =>
         simp only [TT.insF,hn,cond];have hn':n % 2 ≠ 0:=fun e=>by rw [e] at hn;cases hn
         cases m with
         | zero=>simp [TT.get]
         | succ m =>
           simp only [TT.get,add_right_cancel_iff];cases hm:Nat.beq (m % 2) 0 with
           | true =>
             rw [beq_eq] at hm;simp only [cond];rw [if_neg (by intro e;subst e;omega)]
           | false =>
             have hm':m % 2 ≠ 0:=fun e=>by rw [e] at hm;cases hm
             simp only [cond,ih _ _ _ _ (half n h),same2 m n (by omega)]
theorem TT.get_ins {α:Type} (d:α) (t:TT α) (n m:Nat) (x:α):(t.ins d n x).get d m=if m=n then x else t.get d m :=
 TT.get_insF d (n+1) t n m x (lt_succ_self n)
theorem VH (T:TT AV) (d t:Nat) (v:AV):Z1 (JD T d v) t=if t=d then v else Z1 T t:=TT.get_ins ..
theorem Heap.get_set (H:Heap) (id j:Nat) (b:ABlk):(H.set id b).get j=if j=id then b else H.get j:=TT.get_ins ..
theorem Heap.get_push (H:Heap) (j:Nat) (b:ABlk):(H.push b).get j=if j=H.n then b else H.get j:=TT.get_ins ..
@[simp] theorem Heap.n_set (H:Heap) (id:Nat) (b:ABlk):(H.set id b).n=H.n:=rfl
@[simp] theorem Heap.n_push (H:Heap) (b:ABlk):(H.push b).n=H.n+1:=rfl
def Zh {α β:Type} (R:α->β->Prop) (l:List α) (m:List β):Prop :=
 l.length=m.length /\ ∀ (i:Nat) (a:α) (b:β),l[i]? = some a->m[i]? = some b->R a b
section
variable {α β:Type} {R:α->β->Prop}
theorem Zh.nil:Zh R [] []:=⟨rfl,fun _ _ _ h=>by simp at h⟩
theorem Zh.cons {a:α} {b:β} {l:List α} {m:List β} (h:R a b) (t:Zh R l m):Zh R (a::l) (b::m) :=
 ⟨by simp [t.1],fun i x y hx hy=>by
   cases i with
   | zero=>simp at hx hy;subst hx hy;exact h
   | succ i=>simp at hx hy;exact t.2 i x y hx hy⟩
theorem Zh.head {a:α} {b:β} {l:List α} {m:List β} (h:Zh R (a::l) (b::m)):R a b:=h.2 0 a b rfl rfl
theorem Zh.tail {a:α} {b:β} {l:List α} {m:List β} (h:Zh R (a::l) (b::m)):Zh R l m :=
 ⟨by have:=h.1;simpa using this,fun i x y hx hy=>h.2 (i+1) x y (by simpa using hx) (by simpa using hy)⟩
theorem Zh.nil_left {m:List β} (h:Zh R [] m):m=[]:=eq_nil_of_length_eq_zero h.1.symm
theorem Zh.nil_right {l:List α} (h:Zh R l []):l=[]:=eq_nil_of_length_eq_zero h.1
theorem Zh.cons_left {a:α} {l:List α} {m:List β} (h:Zh R (a::l) m):∃ b m',m=b::m'/\R a b/\Zh R l m':=by
 cases m with
 | nil=>have:=h.1;simp at this
 | cons b m'=>exact ⟨b,m',rfl,h.head,h.tail⟩
theorem Zh.mono {S:α->β->Prop} {l:List α} {m:List β} (h:Zh R l m) (f:∀ a b,R a b->S a b):Zh S l m :=
 ⟨h.1,fun i a b ha hb=>f a b (h.2 i a b ha hb)⟩
theorem Zh.append {l l':List α} {m m':List β} (h:Zh R l m) (h':Zh R l' m'):Zh R (l++l') (m++m'):=by
 induction l generalizing m with
 | nil=>rw [h.nil_left];exact h'
 | cons a l ih =>
   obtain ⟨b,m₁,rfl,hr,ht⟩:=h.cons_left;exact .cons hr (ih ht)
theorem Zh.drop {l:List α} {m:List β} (n:Nat) (h:Zh R l m):Zh R (l.drop n) (m.drop n) :=
 ⟨by simp [h.1],fun i a b ha hb=>by rw [getElem?_drop] at ha hb;exact h.2 _ a b ha hb⟩
theorem Zh.take {l:List α} {m:List β} (n:Nat) (h:Zh R l m):Zh R (l.take n) (m.take n) :=
 ⟨by simp [h.1],fun i a b ha hb=>by
   rw [getElem?_take] at ha hb;split at ha
   . simp_all;exact h.2 i a b ha hb
   . cases ha⟩
theorem Zh.get {l:List α} {m:List β} (h:Zh R l m) {i:Nat} {a:α} (ha:l[i]? = some a):∃ b,m[i]? = some b/\R a b:=by
 have hlt:i < m.length:=by
  have:=(List.getElem?_eq_some_iff.1 ha).1;rw [<- h.1];exact this
 exact ⟨m[i],getElem?_eq_getElem hlt,h.2 i a _ ha (getElem?_eq_getElem hlt)⟩
theorem Zh.map_left {γ:Type} {f:γ->α} {l:List γ} {m:List β} (h:Zh (fun c b=>R (f c) b) l m):Zh R (l.map f) m :=
 ⟨by simp [h.1],fun i a b ha hb=>by
   rw [getElem?_map] at ha;cases hc:l[i]? with
   | none=>simp [hc] at ha
   | some c=>simp [hc] at ha;subst ha;exact h.2 i c b hc hb⟩
end
structure Loc where
 b:Nat
 o:Nat
 e:Nat
structure Gh where
 L:Nat->Loc
 K:Nat->Nat->Option Value
def QJ (g:Gh) (n:Nat) (len sz b o cap:Nat):Tok->Prop
 | .unk | .nn=>True
 | .nil=>False
 | .exact=>cap=len
 | .tok k=>k < n/\(g.L k).b=b/\(g.L k).o=o+len * sz/\(g.L k).e=o+cap * sz
def Tok.mayNil:Tok->Prop
 | .unk | .nil | .exact=>True
 | _=>False
def Tok.mayZ:Tok->Prop
 | .unk | .nn | .exact=>True
 | _=>False
inductive VRel (g:Gh):Nat->AV->Value->Prop
 | bool {n:Nat} (b:Bool):VRel g n (.bool b) (.bool b)
 | int {n:Nat} (k:IntKind) (i:Int):VRel g n (.int k i) (.int k i)
 | str {n:Nat} {s:List Nat} {b:ByteArray} (h:b.data.toList.map UInt8.toNat=s):VRel g n (.str s) (.string b)
 | flt {n:Nat} (k:FloatKind) (b:Nat):VRel g n (.flt k b) (.float k b)
 | nilp {n:Nat}:VRel g n .nilp (.pointer none)
 | ptr {n:Nat} {id off:Nat} (h:id < n):VRel g n (.ptr id off) (.pointer (some ⟨(g.L id).b,(g.L id).o+off,none⟩))
 | pptr {n:Nat} {cs:List AV} {b o:Nat} (vals:List Value) (hl:cs.length=vals.length) (hk:∀ (i:Nat) v,vals[i]? = some v->g.K b (o+i)=some v)
  (hv:∀ (i:Nat) c v,cs[i]? = some c->vals[i]? = some v->VRel g 0 c v):VRel g n (.pptr cs) (.pointer (some ⟨b,o,none⟩))
 | ps {n:Nat} {tok:Tok} {rows:List (List AV)} {b o cap sz:Nat} (vals:List Value) (hsz:∀ r ∈ rows,r.length=sz)
  (hl:rows.flatten.length=vals.length) (hk:∀ (i:Nat) v,vals[i]? = some v->g.K b (o+i)=some v)
  (hv:∀ (i:Nat) c v,rows.flatten[i]? = some c->vals[i]? = some v->VRel g 0 c v)
  (hcap:rows.length<=cap) (htok:QJ g n rows.length sz b o cap tok):VRel g n (.ps tok rows) (.slice (some ⟨b,o,none⟩) rows.length cap)
 | psnil {n:Nat} {tok:Tok} (h:tok.mayNil):VRel g n (.ps tok []) (.slice none 0 0)
 | psz {n:Nat} {tok:Tok} {a:Addr} (h:tok.mayZ):VRel g n (.ps tok []) (.slice (some a) 0 0)
 | rs {n:Nat} {id off len sz c:Nat} {cap:Option Nat} (h:id < n) (hlen:len<=c) (hcap:match cap with | some k=>c=k | none=>(g.L id).e=(g.L id).o+off+c * sz) :
  VRel g n (.rs id off len sz cap) (.slice (some ⟨(g.L id).b,(g.L id).o+off,none⟩) len c)
 | nilm {n:Nat}:VRel g n .nilm (.map none)
 | map {n:Nat} {id:Nat} (h:id < n):VRel g n (.map id) (.map (some (g.L id).b))
 | fn {n:Nat} {f:FuncId} {first caps:List AV} {fv cv:List Value} (hl:first.length=fv.length) (hl':caps.length=cv.length)
  (hf:∀ (i:Nat) c v,first[i]? = some c->fv[i]? = some v->VRel g n c v) (hc:∀ (i:Nat) c v,caps[i]? = some c->cv[i]? = some v->VRel g n c v) :
  VRel g n (.fn f first caps) (.func (.func f) fv.toArray cv.toArray)
 | yld {n:Nat} {l:Nat} (h:l < n):VRel g n (.yld l) (.func (.yield (g.L l).b) #[] #[])
 | nilf {n:Nat}:VRel g n .nilf .nilFunc
 | nili {n:Nat}:VRel g n .nili .nilIface
 | agg {n:Nat} {cs:List AV} {vs:List Value} (hl:cs.length=vs.length) (hv:∀ (i:Nat) c v,cs[i]? = some c->vs[i]? = some v->VRel g n c v):VRel g n (.agg cs) (.agg vs.toArray)
 | tup {n:Nat} {cs:List AV} {vs:List Value} (hl:cs.length=vs.length) (hv:∀ (i:Nat) c v,cs[i]? = some c->vs[i]? = some v->VRel g n c v):VRel g n (.tup cs) (.tuple vs.toArray)
abbrev Zb (g:Gh) (n:Nat):List AV->List Value->Prop:=Zh (VRel g n)
structure Gh.le (n:Nat) (g g':Gh):Prop where
 L:∀ id,id < n->g'.L id=g.L id
 K:∀ b o v,g.K b o=some v->g'.K b o=some v
theorem Gh.le.refl (n:Nat) (g:Gh):Gh.le n g g:=⟨fun _ _=>rfl,fun _ _ _ h=>h⟩
theorem Gh.le.trans {g g' g'':Gh} (h:Gh.le n g g') (h':Gh.le n' g' g'') (hn:n<=n'):Gh.le n g g'' :=
 ⟨fun id hid=>(h'.L id (lt_of_lt_of_le hid hn)).trans (h.L id hid),fun b o v hk=>h'.K b o v (h.K b o v hk)⟩
theorem Gh.le.mono {g g':Gh} (h:Gh.le n' g g') (hn:n<=n'):Gh.le n g g':=⟨fun id hid=>h.L id (lt_of_lt_of_le hid hn),h.K⟩
theorem QJ.mono {g g':Gh} {len sz b o cap:Nat} {tok:Tok} (h:QJ g n len sz b o cap tok) (hn:n<=n') (hg:Gh.le n g g'):QJ g' n' len sz b o cap tok:=by
 cases tok with
 | tok k =>
   obtain ⟨h1,h2,h3,h4⟩:=h;have:=hg.L k h1;exact ⟨lt_of_lt_of_le h1 hn,by rw [this];exact h2,by rw [this];exact h3,by rw [this];exact h4⟩
 | _=>exact h
theorem VRel.mono {g g':Gh} {a:AV} {v:Value} (h:VRel g n a v):∀ {n':Nat},n≤n'→Gh.le n g g'→VRel g' n' a v:=by
 induction h with
 | bool b=>intro _ _ _;exact .bool b
 | int k i=>intro _ _ _;exact .int k i
 | str h=>intro _ _ _;exact .str h
 | flt k b=>intro _ _ _;exact .flt k b
 | nilp=>intro _ _ _;exact .nilp
 | @ptr n id off h=>intro n' hn hg;rw [← hg.L id h];exact .ptr (lt_of_lt_of_le h hn)
 | @pptr n cs b o vals hl hk hv ih =>
   intro n' hn hg;exact .pptr vals hl (fun i v hi=>hg.K _ _ _ (hk i v hi)) fun i c v hc hv'=>ih i c v hc hv' (Nat.le_refl 0) (hg.mono (zero_le _))
 | ps vals hsz hl hk hv hcap htok ih =>
   intro n' hn hg;exact .ps vals hsz hl (fun i v hi=>hg.K _ _ _ (hk i v hi)) (fun i c v hc hv'=>ih i c v hc hv' (Nat.le_refl 0) (hg.mono (zero_le _))) hcap (htok.mono hn hg)
 | psnil h=>intro _ _ _;exact .psnil h
 | psz h=>intro _ _ _;exact .psz h
 | @rs n id off len sz c cap h hlen hcap =>
   intro n' hn hg;rw [← hg.L id h];refine .rs (lt_of_lt_of_le h hn) hlen ?_;cases cap with
   | some k=>exact hcap
   | none=>simp only [] at hcap ⊢;rw [hg.L id h];exact hcap
 | nilm=>intro _ _ _;exact .nilm
 | @map n id h=>intro n' hn hg;rw [← hg.L id h];exact .map (lt_of_lt_of_le h hn)
 | fn hl hl' hf hc ihf ihc=>intro n' hn hg;exact .fn hl hl' (fun i c v a b=>ihf i c v a b hn hg) (fun i c v a b=>ihc i c v a b hn hg)
 | @yld n l h=>intro n' hn hg;rw [← hg.L l h];exact .yld (lt_of_lt_of_le h hn)
 | nilf=>intro _ _ _;exact .nilf
 | nili=>intro _ _ _;exact .nili
 | agg hl hv ih=>intro n' hn hg;exact .agg hl fun i c v a b=>ih i c v a b hn hg
 | tup hl hv ih=>intro n' hn hg;exact .tup hl fun i c v a b=>ih i c v a b hn hg
theorem Zb.mono {g g':Gh} {l:List AV} {m:List Value} (h:Zb g n l m) (hn:n<=n') (hg:Gh.le n g g'):Zb g' n' l m :=
 Zh.mono h fun _ _ r=>r.mono hn hg
def Xy (g:Gh) (n:Nat) (T:TT AV) (tmps:Array Value):Prop:=∀ t,VRel g n (Z1 T t) (tmps.getD t undef)
theorem VRel.undef {g:Gh}:VRel g n Y9 Go.undef:=.tup (vs:=[]) rfl fun _ _ _ h=>by simp at h
theorem Xy.mono {g g':Gh} {tmps:Array Value} (h:Xy g n T tmps) (hn:n<=n') (hg:Gh.le n g g'):Xy g' n' T tmps :=
 fun t=>(h t).mono hn hg
theorem Xy.set {g:Gh} {tmps:Array Value} (h:Xy g n T tmps) {d:Nat} (hd:d < tmps.size) {v:AV} {cv:Value} (hv:VRel g n v cv) :
 Xy g n (JD T d v) (tmps.setIfInBounds d cv):=by
 intro t;rw [VH];by_cases e:t=d
 . subst e;rw [if_pos rfl];have:(tmps.setIfInBounds t cv).getD t undef=cv:=by simp [hd]
   rw [this];exact hv
 . rw [if_neg e];have:(tmps.setIfInBounds d cv).getD t undef=tmps.getD t undef:=by
    simp [Array.getElem?_setIfInBounds_ne (Ne.symm e)]
   rw [this];exact h t
def ABlk.live:ABlk->Bool
 | .dead=>false
 | _=>true
def X7 (g:Gh) (n:Nat) (w:World) (l:Loc) (cs:List AV):Prop :=
 (∃ c e fz,w.heap[l.b]? = some (.cells c e fz)/\(∀ (i:Nat) a,cs[i]? = some a -> ∃ v,c[l.o+i]? = some v/\VRel g n a v)/\l.o+cs.length<=c.size) /\
 ∀ x,l.o<=x->w.frozen? ⟨l.b,x,none⟩=false
def Yj (C:Cfg) (g:Gh) (n:Nat) (w:World) (l:Loc):ABlk->Prop
 | .dead=>True
 | .cells cs e=>X7 g n w l cs /\ ∃ c fz,w.heap[l.b]? = some (.cells c e fz)/\c.size=l.e/\l.o=0/\c.size=cs.length
 | .row cs _ e=>X7 g n w l cs /\ ∃ c fz,w.heap[l.b]? = some (.cells c e fz)/\c.size=l.e/\fz.1<=fz.2
 | .map es=>∃ ents clk,w.heap[l.b]? = some (.map ents clk)/\Zh (fun (p:AV × AV) (m:MapEntry)=>VRel g n p.1 m.key/\VRel g n p.2 m.val) es ents.toList
 | .loop r=>∃ c:Loop,w.heap[l.b]? = some (.loop c)/\c.state=r.state/\c.pending=r.pending.bind AExit.code/\Xy g n r.tmps c.tmps /\
  c.params.toList=r.params/\c.assign=r.assign/\c.body=r.body/\c.defers=(g.L r.defers).b/\r.defers < n/\(r.pending.isSome -> ∀ e,r.pending=some e->e ≠ .nrm) /\
  Zz C r.fid c.tmps.size r.assign=true/\Zz C r.fid c.tmps.size r.body=true/\r.params.all (fun p=>decide (p < c.tmps.size))=true
 | .defr=>w.heap[l.b]? = some (.deferred (some []))
 | .sit s pos=>l.o=0 /\ ∃ bs:ByteArray,w.heap[l.b]? = some (.stringIter bs pos)/\bs.data.toList.map UInt8.toNat=s
def Own (g:Gh) (H:Heap) (b:Nat):Prop:=∃ id,id < H.n/\(H.get id).live=true/\(g.L id).b=b
structure Rel (C:Cfg) (g:Gh) (H:Heap) (w:World):Prop where
 blk:∀ id,id < H.n->Yj C g H.n w (g.L id) (H.get id)
 out:∀ id,H.n<=id->H.get id=.dead
 lt:∀ id,id < H.n->(H.get id).live=true->(g.L id).b < w.heap.size
 inj:∀ i j,i < H.n->j < H.n->(H.get i).live=true->(H.get j).live=true->i ≠ j->(g.L i).b ≠ (g.L j).b
 know:∀ b o v,g.K b o=some v->w.cell? ⟨b,o,none⟩=some v
 apart:∀ id,id < H.n->(H.get id).live=true -> ∀ o v,g.K (g.L id).b o=some v->o < (g.L id).o
 glob:∀ x cs,C.glob x=some cs -> ∃ vals,Zb g 0 cs vals /\ ∀ (i:Nat) v,vals[i]? = some v->g.K x i=some v
 gsz:∀ x cs,C.glob x=some cs->(∃ c e fz,w.heap[x]? = some (.cells c e fz)/\c.size=cs.length) /\ ¬ Own g H x
structure Ext (lo:Nat) (g:Gh) (H:Heap) (w:World) (g':Gh) (H':Heap) (w':World):Prop where
 le:Gh.le H.n g g'
 n:H.n<=H'.n
 keep:∀ id,id < H.n->id < lo->H'.get id=H.get id
 own:∀ b,Own g' H' b->Own g H b\/w.heap.size<=b
 newK:∀ b o v,g'.K b o=some v->g.K b o=some v\/Own g H b\/w.heap.size<=b
 frame:∀ b,b < w.heap.size -> ¬ Own g H b->w'.heap[b]? = w.heap[b]?
 size:w.heap.size<=w'.heap.size
 os:w'.os=w.os
 output:w'.output=w.output
 tape:w'.tape=w.tape
theorem Rel.gsz_ext {C:Cfg} {g g':Gh} (h:Rel C g H w) (e:Ext lo g H w g' H' w') :
 ∀ x cs,C.glob x=some cs->(∃ c e fz,w'.heap[x]? = some (.cells c e fz)/\c.size=cs.length) /\ ¬ Own g' H' x:=by
 intro x cs hx;obtain ⟨⟨c,e',fz,h1,h2⟩,h3⟩:=h.gsz x cs hx;have hlt:x < w.heap.size:=(Array.getElem?_eq_some_iff.1 h1).1;refine ⟨⟨c,e',fz,(e.frame x hlt h3).trans h1,h2⟩,fun ho => ?_⟩;rcases e.own x ho with h | h
 . exact h3 h
 . omega
theorem Kt (f:B->A) (b:B):A/\B:=⟨f b,b⟩
theorem Lm {D:Prop} (f:B->A) (b:B) (d:D):A/\B/\D:=⟨f b,b,d⟩
theorem Ext.refl (lo:Nat) (g:Gh) (H:Heap) (w:World):Ext lo g H w g H w :=
 ⟨.refl _ _,Nat.le_refl _,fun _ _ _=>rfl,fun _ h=>.inl h,fun _ _ _ h=>.inl h,fun _ _ _=>rfl,Nat.le_refl _,rfl,rfl,rfl⟩
theorem Ext.trans {g g' g'':Gh} {H'':Heap} {w'':World} (h:Ext lo g H w g' H' w') (k:Ext lo g' H' w' g'' H'' w''):Ext lo g H w g'' H'' w'' where
 le:=h.le.trans k.le h.n
 n:=Nat.le_trans h.n k.n
 keep:=fun id hid hlo=>(k.keep id (lt_of_lt_of_le hid h.n) hlo).trans (h.keep id hid hlo)
 own:=fun b hb=>by
  rcases k.own b hb with h1 | h1
  . exact h.own b h1
  . exact .inr (Nat.le_trans h.size h1)
 newK:=fun b o v hk=>by
  rcases k.newK b o v hk with h1 | h1 | h1
  . exact h.newK b o v h1
  . rcases h.own b h1 with h2 | h2
    . exact .inr (.inl h2)
    . exact .inr (.inr h2)
  . exact .inr (.inr (Nat.le_trans h.size h1))
 frame:=fun b hb hno=>by
  rw [k.frame b (lt_of_lt_of_le hb h.size) (fun ho=>by rcases h.own b ho with h1 | h1;exact hno h1;omega),h.frame b hb hno]
 size:=Nat.le_trans h.size k.size
 os:=k.os.trans h.os
 output:=k.output.trans h.output
 tape:=k.tape.trans h.tape
theorem Ext.lower {lo':Nat} {g g':Gh} (h:Ext lo g H w g' H' w') (hl:lo'<=lo):Ext lo' g H w g' H' w' :=
 { h with keep:=fun id a b=>h.keep id a (lt_of_lt_of_le b hl) }
end Go.Sim
