/-
Lemmas of one proof, the texts SimJoin to SimJoin joined.
-/
import Derived.Test.YtlooccmcmeofhaaGreatDoorT09
import Derived.ChangeSame
import Derived.OpenShut
import Derived.Deep.Slices
import Derived.Lib.LaidTab
import Derived.Carry
import Derived.LaidByTextLater
set_option linter.unusedSimpArgs false
set_option linter.unusedVariables false

namespace Go.Sim
open Go.ChangeShapes Go.WideShapes Go.Deep Go.RowKit
inductive Sh where
 | int (k:IntKind)
 | bool
 | str
 | slc (l:List Sh)
mutual
def Sh.has:Sh→AV→Prop
 | .int k,v=>∃ n,v=.int k n∧k.min≤n∧n≤k.max
 | .bool,v=>∃ b,v=.bool b
 | .str,v=>∃ s,v=.str s∧s.length≤9223372036854775807 ∧ ∀ b ∈ s,b < 256
 | .slc l,v=>∃ rows,v=.ps .unk rows∧rows.length≤9223372036854775807 ∧ ∀ r ∈ rows,Sh.hasAll l r
def Sh.hasAll:List Sh→List AV→Prop
 | [],r=>r=[]
 | s::l,r=>∃ a r',r=a::r'∧s.has a∧Sh.hasAll l r'
end
theorem Sh.hasAll_length:∀ {l:List Sh} {r:List AV},Sh.hasAll l r→r.length=l.length
 | [],_,h=>by simp only [Sh.hasAll] at h;subst h;rfl
 | _::l,_,h=>by
   simp only [Sh.hasAll] at h;obtain ⟨a,r',rfl,_,h⟩:=h;simp [Sh.hasAll_length h]
theorem Sh.hasAll_append:∀ {l m:List Sh} {r q:List AV},Sh.hasAll l r→Sh.hasAll m q→Sh.hasAll (l++m) (r++q)
 | [],_,_,_,h,h'=>by simp only [Sh.hasAll] at h;subst h;exact h'
 | _::l,_,_,_,h,h'=>by
   simp only [Sh.hasAll] at h;obtain ⟨a,r',rfl,ha,h⟩:=h;simp only [List.cons_append,Sh.hasAll];exact ⟨a,_,rfl,ha,Sh.hasAll_append h h'⟩
def UE (P:Program) (rec_:TypeId→Option (List Sh)):List Field→Nat→Option (List Sh)
 | [],_=>some []
 | f::r,off =>
   match rec_ f.type with
   | none=>none
   | some l =>
     if f.offset=off∧l.length=P.cellsOf f.type then
      match UE P rec_ r (off+l.length) with
      | some m=>some (l++m)
      | none=>none
     else none
def JW (P:Program):Nat→TypeId→Option (List Sh)
 | 0,_=>none
 | k+1,t=>match P.underlying t with
   | some .bool=>some [.bool]
   | some (.int k)=>some [.int k]
   | some .string=>some [.str]
   | some (.slice e)=>match JW P k e with
     | some l=>if l.length=P.cellsOf e∧0 < l.length then some [.slc l] else none
     | none=>none
   | some (.struct fs)=>match UE P (JW P k) fs.toList 0 with
     | some l=>if l.length=P.cellsOf t then some l else none
     | none=>none
   | some (.array n e)=>match JW P k e with
     | some l=>if l.length=P.cellsOf e∧n * l.length=P.cellsOf t then some (List.replicate n l).flatten else none
     | none=>none
   | _=>none
def Xv (w:World):Gh:=⟨fun _=>⟨0,0,0⟩,fun b o=>w.cell? ⟨b,o,none⟩⟩
section
variable {H:Type} {enc:TypeId × Value→H} {P:Program} {w:World} {base:Nat} {held:Bool}
theorem Z0J {n:Nat} {rec_:TypeId→Option (List Sh)} (ih:∀ t l,rec_ t=some l → ∀ cs x,DataW.trod enc P w base (fun _=>true) held n t cs=some x → ∃ avs,Sh.hasAll l avs∧Zb (Xv w) 0 avs cs) {cs:List Value} :
 ∀ (fs:List Field) (off:Nat) (l:List Sh),UE P rec_ fs off=some l→(∀ f ∈ fs,∃ y,DataW.trod enc P w base (fun _=>true) held n f.type ((cs.drop f.offset).take (P.cellsOf f.type))=some y) →
   off+l.length=cs.length → ∃ avs,Sh.hasAll l avs∧Zb (Xv w) 0 avs (cs.drop off):=by
 intro fs
 induction fs with
 | nil =>
   intro off l h _ hl;simp only [UE,Option.some.injEq] at h;subst h;refine ⟨[],rfl, ?_⟩;rw [List.drop_eq_nil_of_le (by simp at hl;omega)];exact .nil
 | cons f r ihf =>
   intro off l h hy hl;unfold UE at h;split at h
   · cases h
   · rename_i l1 h1
     split at h
     · rename_i hc
       split at h
       · rename_i m hm
         simp only [Option.some.injEq] at h;subst h;obtain ⟨y,hyy⟩:=hy f (by simp);rw [hc.1] at hyy;obtain ⟨a1,b1,c1⟩:=ih _ _ h1 _ _ hyy;obtain ⟨a2,b2,c2⟩:=ihf _ _ hm (fun f' hf'=>hy f' (by simp [hf'])) (by simp at hl;omega);refine ⟨a1++a2,Sh.hasAll_append b1 b2, ?_⟩;have:cs.drop off=(cs.drop off).take (P.cellsOf f.type)++cs.drop (off+l1.length):=by
          rw [hc.2,← List.drop_drop,List.take_append_drop]
         rw [this];exact c1.append c2
       · cases h
     · cases h
theorem Z0K {l:List Sh} {b o sz:Nat} (hsz:l.length=sz):∀ (len:Nat),
 (∀ i,i < len → ∃ cs',cs'.length=sz∧(∀ j v,cs'[j]? = some v→w.cell? ⟨b,o+i * sz+j,none⟩=some v) ∧ ∃ avs,Sh.hasAll l avs∧Zb (Xv w) 0 avs cs') →
 ∃ (rows:List (List AV)) (vals:List Value),rows.length=len∧(∀ r ∈ rows,Sh.hasAll l r)∧Zb (Xv w) 0 rows.flatten vals∧vals.length=len * sz ∧ ∀ j v,vals[j]? = some v→w.cell? ⟨b,o+j,none⟩=some v:=by
 intro len
 induction len with
 | zero=>intro _;exact ⟨[],[],rfl,by simp,.nil,by simp,by simp⟩
 | succ n ih =>
   intro h;obtain ⟨rows,vals,h1,h2,h3,h4,h5⟩:=ih (fun i hi=>h i (by omega));obtain ⟨cs',k1,k2,avs,k3,k4⟩:=h n (by omega);refine ⟨rows++[avs],vals++cs',by simp [h1], ?_, ?_,by simp [h4,k1,Nat.succ_mul], ?_⟩
   · intro r hr;rcases List.mem_append.1 hr with hr | hr
     · exact h2 r hr
     · simp at hr;subst hr;exact k3
   · simp only [List.flatten_append,List.flatten_cons,List.flatten_nil,List.append_nil];exact h3.append k4
   · intro j v hj;by_cases hlt:j < vals.length
     · rw [List.getElem?_append_left hlt] at hj;exact h5 j v hj
     · rw [List.getElem?_append_right (by omega)] at hj;have:=k2 _ _ hj;rw [h4] at this hlt;have e:o+n * sz+(j - n * sz)=o+j:=by omega
       rw [e] at this;exact this
theorem EQ {α β:Type} {f:α→Option β}:∀ {l:List α} {ys:List β},l.mapM f=some ys → ∀ x ∈ l,∃ y,f x=some y
 | [],_,_,x,hx=>by simp at hx
 | a::r,ys,h,x,hx=>by
   rw [List.mapM_cons] at h;cases ha:f a with
   | none=>rw [ha] at h;cases h
   | some b =>
     rw [ha] at h;cases hr:r.mapM f with
     | none=>rw [hr] at h;cases h
     | some bs =>
       rcases List.mem_cons.1 hx with rfl | hx
       · exact ⟨b,ha⟩
       · exact EQ hr x hx
theorem Z0L {fuel n:Nat} {t e:TypeId} {cs:List Value} {x:DataW H × List MemPlace} (ht:P.underlying t=some (.array n e)) (h:DataW.trod enc P w base (fun _=>true) held fuel t cs=some x) :
 ∃ f',cs.length=P.cellsOf t ∧ ∀ i,i < n → ∃ y,DataW.trod enc P w base (fun _=>true) held f' e ((cs.drop (i * P.cellsOf e)).take (P.cellsOf e))=some y:=by
 cases fuel with
 | zero=>cases h
 | succ f' =>
   simp only [DataW.trod,ht] at h;split at h
   · rename_i hl
     refine ⟨f',hl,fun i hi => ?_⟩;cases hm:(List.range n).mapM fun i=>DataW.trod enc P w base (fun _=>true) held f' e ((cs.drop (i * P.cellsOf e)).take (P.cellsOf e)) with
     | none=>rw [hm] at h;cases h
     | some ys=>exact EQ hm i (List.mem_range.2 hi)
   · cases h
theorem ER {l:List Sh} {ce n:Nat} (hl:l.length=ce) (cs:List Value) (hlen:cs.length=n * ce) (h:∀ i,i < n → ∃ avs,Sh.hasAll l avs∧Zb (Xv w) 0 avs ((cs.drop (i * ce)).take ce)) :
 ∀ m,m≤n → ∃ avs,Sh.hasAll (List.replicate m l).flatten avs∧Zb (Xv w) 0 avs (cs.drop ((n - m) * ce))
 | 0,_=>⟨[],rfl,by rw [List.drop_eq_nil_of_le (by rw [Nat.sub_zero,hlen];exact Nat.le_refl _)];exact .nil⟩
 | m+1,hm=>by
   obtain ⟨a2,b2,c2⟩:=ER hl cs hlen h m (by omega);obtain ⟨a1,b1,c1⟩:=h (n - (m+1)) (by omega);refine ⟨a1++a2,by rw [List.replicate_succ,List.flatten_cons];exact Sh.hasAll_append b1 b2, ?_⟩;have e1:(n - (m+1)) * ce+ce=(n - m) * ce:=by
    have:n - m=(n - (m+1))+1:=by omega
    rw [this,Nat.succ_mul]
   have:cs.drop ((n - (m+1)) * ce)=(cs.drop ((n - (m+1)) * ce)).take ce++cs.drop ((n - m) * ce):=by
    rw [← e1,← List.drop_drop,List.take_append_drop]
   rw [this];exact c1.append c2
theorem ES:∀ (k:Nat) (t:TypeId) (l:List Sh),JW P k t=some l → ∀ (fuel:Nat) (cs:List Value) (x:DataW H × List MemPlace),DataW.trod enc P w base (fun _=>true) held fuel t cs=some x →
 ∃ avs,Sh.hasAll l avs∧Zb (Xv w) 0 avs cs:=by
 intro k
 induction k with
 | zero=>intro t l h;cases h
 | succ k ih =>
   intro t l h fuel cs x hx;unfold JW at h;split at h
   · rename_i ht
     simp only [Option.some.injEq] at h;subst h;obtain ⟨b,rfl,_⟩:=DataW.trod_bool ht hx;exact ⟨[.bool b],⟨_,_,rfl,⟨b,rfl⟩,rfl⟩,.cons (.bool b) .nil⟩
   · rename_i kd ht
     simp only [Option.some.injEq] at h;subst h;obtain ⟨n,rfl,_,hw⟩:=DataW.trod_int ht hx;have hw:kd.min≤n∧n≤kd.max:=by
      unfold Lit.wf at hw;simpa using hw
     exact ⟨[.int kd n],⟨_,_,rfl,⟨n,rfl,hw⟩,rfl⟩,.cons (.int kd n) .nil⟩
   · rename_i ht
     simp only [Option.some.injEq] at h;subst h;obtain ⟨s,rfl,_,hw⟩:=DataW.trod_string ht hx;have hmax:s.size≤9223372036854775807:=hw;exact ⟨[.str _],⟨_,_,rfl,⟨_,rfl,by simpa using hmax,fun b hb=>by
      obtain ⟨c,_,rfl⟩:=List.mem_map.1 hb;exact c.toNat_lt⟩,rfl⟩,.cons (.str rfl) .nil⟩
   · rename_i e ht
     split at h
     · rename_i m hm
       split at h
       · rename_i hc
         simp only [Option.some.injEq] at h;subst h;rcases open_slice ht hx with ⟨rfl,_⟩ | ⟨a,len,cap,m',n,D,Pl,rfl,_,hle,hmax,hm',_,hel⟩
         · exact ⟨[.ps .unk []],⟨_,_,rfl,⟨[],rfl,by simp,by simp⟩,rfl⟩,.cons (.psnil trivial) .nil⟩
         · simp only [if_true] at hm';subst hm';by_cases h0:m'=0
           · subst h0;have:len=0:=by omega
             subst this;exact ⟨[.ps .unk []],⟨_,_,rfl,⟨[],rfl,by simp,by simp⟩,rfl⟩,.cons (.psz trivial) .nil⟩
           · have hspot:a.spot=none:=by
              obtain ⟨cs',h1,_⟩:=hel 0 (by omega);obtain ⟨_,h2,h3⟩:=World.cells?_some h1;have h4:=h3 0 (by omega);have h5:cs'[0]? = some cs'[0]:=List.getElem?_eq_getElem (by omega);rw [h5] at h4;simpa [Addr.add] using World.cell?_spot h4
             obtain ⟨b,o,sp⟩:=a;simp only at hspot;subst hspot;obtain ⟨rows,vals,r1,r2,r3,r4,r5⟩:=Z0K (w:=w) (l:=m) (b:=b) (o:=o) (sz:=P.cellsOf e) hc.1 len (fun i hi=>by
              obtain ⟨cs',h1,h2⟩:=hel i (by omega);obtain ⟨_,h3,h4⟩:=World.cells?_some h1;refine ⟨cs',h3,fun j v hj => ?_,ih _ _ hm _ _ _ h2⟩;have hjl:j < P.cellsOf e:=by rw [← h3];exact (List.getElem?_eq_some_iff.1 hj).1
              have h5:=h4 j hjl;rw [hj,show ((⟨b,o,none⟩:Addr).add (i * P.cellsOf e))=⟨b,o+i * P.cellsOf e,none⟩ from Go.Sim.addr_add rfl _,show ((⟨b,o+i * P.cellsOf e,none⟩:Addr).add j)=⟨b,o+i * P.cellsOf e+j,none⟩ from Go.Sim.addr_add rfl _] at h5
              exact h5)
             subst r1;refine ⟨[.ps .unk rows],⟨_,_,rfl,⟨rows,rfl,Nat.le_trans hle hmax,r2⟩,rfl⟩,.cons (.ps (sz:=P.cellsOf e) vals (fun r hr=>by rw [Sh.hasAll_length (r2 r hr),hc.1]) r3.1 r5 r3.2 hle trivial) .nil⟩
       · cases h
     · cases h
   · rename_i fs ht
     split at h
     · rename_i m hm
       split at h
       · rename_i hc
         simp only [Option.some.injEq] at h;subst h;obtain ⟨xs,n,_,_,hl,hxl,hf⟩:=DataW.trod_struct ht hx;have:=Z0J (enc:=enc) (P:=P) (w:=w) (base:=base) (held:=held) (n:=n) (fun t l h cs x hx=>ih t l h n cs x hx) (cs:=cs) fs.toList 0 m hm (fun f hf'=>by
          obtain ⟨i,hi,rfl⟩:=List.mem_iff_getElem.1 hf';have hi':i < fs.size:=by simpa using hi
          have h1:=hf i fs[i] (by simp [hi']);exact ⟨xs[i],by rw [List.getElem?_eq_getElem (by omega)] at h1;simpa using h1⟩) (by omega)
         simpa using this
       · cases h
     · cases h
   · rename_i n e ht
     split at h
     · rename_i m hm
       split at h
       · rename_i hc
         simp only [Option.some.injEq] at h;subst h;obtain ⟨f',hlen,hel⟩:=Z0L ht hx;have:=ER (w:=w) (l:=m) (ce:=P.cellsOf e) (n:=n) hc.1 cs (by rw [hlen,← hc.2,hc.1]) (fun i hi=>by
          obtain ⟨y,hy⟩:=hel i hi;exact ih _ _ hm _ _ _ hy) n (Nat.le_refl _)
         simpa using this
       · cases h
     · cases h
   · cases h
theorem Z0M {k:Nat} {t:TypeId} {l:List Sh} {r:Reach} {b0:Nat} {v:Value} {d:DataW H} {p:List MemPlace} (hs:JW P k t=some l) (ha:aggOf P t=some true) (hok:Value.okWide P w r b0 t v)
 (h:DataW.Trod enc P w base (fun _=>true) held t v d p):∃ avs,Sh.hasAll l avs∧VRel (Xv w) 0 (.agg avs) v:=by
 obtain ⟨fuel,hx⟩:=h;obtain ⟨avs,h1,h2⟩:=ES k t l hs fuel _ _ hx;have hagg:∃ cs,v=.agg cs:=by
  unfold Value.okWide at hok;unfold aggOf at ha;cases hd:P.underlying t with
  | none=>rw [hd] at ha;cases ha
  | some d=>rw [hd] at ha hok;cases d<;>simp at ha<;>(obtain ⟨cs,rfl,_⟩:=hok;exact ⟨cs,rfl⟩)
 obtain ⟨cs,rfl⟩:=hagg;exact ⟨avs,h1,by simpa [Value.cells] using (VRel.agg h2.1 h2.2)⟩
theorem Z0N {k:Nat} {t:TypeId} {s:Sh} {r:Reach} {b0:Nat} {v:Value} {d:DataW H} {p:List MemPlace} (hs:JW P k t=some [s]) (ha:aggOf P t=some false) (hok:Value.okWide P w r b0 t v)
 (h:DataW.Trod enc P w base (fun _=>true) held t v d p):∃ a,s.has a∧VRel (Xv w) 0 a v:=by
 obtain ⟨fuel,hx⟩:=h;obtain ⟨avs,h1,h2⟩:=ES k t _ hs fuel _ _ hx;simp only [Sh.hasAll] at h1;obtain ⟨a,_,rfl,h1,rfl⟩:=h1;have hone:v.cells.toList=[v]:=by
  cases v with
  | agg cs =>
    exfalso;unfold Value.okWide Cell.okWide Cell.ok at hok;unfold aggOf at ha;cases hd:P.underlying t with
    | none=>rw [hd] at ha;cases ha
    | some d=>rw [hd] at ha hok;cases d<;>simp at ha hok
  | _=>rfl
 rw [hone] at h2;exact ⟨a,h1,h2.head⟩
end
theorem Z0O {C:Cfg} {W:World} (hg:∀ x cs,C.glob x=some cs → ∃ vals,Zb (Xv W) 0 cs vals∧(∀ (i:Nat) v,vals[i]? = some v→W.cell? ⟨x,i,none⟩=some v) ∧
 ∃ c e fz,W.heap[x]? = some (.cells c e fz)∧c.size=cs.length):Rel C (Xv W) .empty W where
 blk:=fun id h=>absurd h (Nat.not_lt_zero id)
 out:=fun _ _=>rfl
 lt:=fun id h=>absurd h (Nat.not_lt_zero id)
 inj:=fun i _ h=>absurd h (Nat.not_lt_zero i)
 know:=fun _ _ _ h=>h
 apart:=fun id h=>absurd h (Nat.not_lt_zero id)
 glob:=fun x cs h=>by
  obtain ⟨vals,h1,h2,_⟩:=hg x cs h;exact ⟨vals,h1,h2⟩
 gsz:=fun x cs h=>by
  obtain ⟨vals,_,_,h3⟩:=hg x cs h;exact ⟨h3,fun ⟨id,hid,_⟩=>absurd hid (Nat.not_lt_zero id)⟩
def ET (W:World) (e:Ending) (W':World):Prop :=
 e=.returned (.bool true)∧W'.os=W.os∧W'.output=W.output ∧ ∀ b,b < W.heap.size→W'.heap[b]? = W.heap[b]?
theorem Z0P {C:Cfg} {lo:Nat} {f:FuncId} {avs:List AV} {H':Heap} (h:Zc C lo f avs .empty (.bool true) H') {W:World} (hR:Rel C (Xv W) .empty W) {args:Array Value} (ha:Zb (Xv W) 0 avs args.toList) :
 Calls C.P f args W (ET W):=by
 have:=callsIn_wide.1 (h.2 (Xv W) W args.toList hR ha);simp only [Array.toArray_toList] at this;refine this.mono fun e W' hp => ?_
 unfold QP at hp;split at hp
 · obtain ⟨g',h1,h2,h3⟩:=hp;cases h3;exact ⟨rfl,h2.os,h2.output,fun b hb=>h2.frame b hb fun ⟨id,hid,_⟩=>absurd hid (Nat.not_lt_zero id)⟩
 · exact hp.elim
section
variable {H:Type} {enc:TypeId × Value→H} {P:Program}
theorem Z0Q (hl:laidOutB P=true) {W W':World} {sp:Nat→Bool} (hh:∀ b,b < W.heap.size→W'.heap[b]? = W.heap[b]?) :
 ∀ {ts:List TypeId} {vs:List Value} {ds:List (DataW H)} {ps:List MemPlace},(∀ t ∈ ts,P.readableRec t=true∧t < P.types.size)→DataW.TrodAll enc P W 0 (fun _=>true) true ts vs ds ps →
   (∀ p ∈ ps,p.block < W.heap.size)→(∀ p ∈ ps,sp p.block=true)→DataW.TrodAll enc P W' 0 sp true ts vs ds ps:=by
 intro ts
 induction ts with
 | nil =>
   intro vs ds ps _ h _ _;obtain ⟨rfl,rfl,rfl⟩:=trodAll_nil h;exact trodAll_mk0
 | cons t ts ih =>
   intro vs ds ps hr h hlt hs;obtain ⟨v,vs1,d,ds1,a,b,rfl,rfl,rfl,h1,h2⟩:=trodAll_cons h;refine ⟨a,b,WideElems.Trod_stays hl (hr t (by simp)).1 (hr t (by simp)).2 h1 (fun x hx => ?_) (fun x hx=>hs x (by simp [hx])),ih (fun t' ht'=>hr t' (by simp [ht'])) h2 (fun p hp=>hlt p (by simp [hp])) (fun p hp=>hs p (by simp [hp])),rfl⟩;have hb:=hh x.block (hlt x (by simp [hx]));cases x with
   | cell b off =>
     show W'.cell? ⟨b,off,none⟩=W.cell? ⟨b,off,none⟩;simp only [MemPlace.block] at hb;unfold World.cell?;simp only [hb]
   | map b=>exact hb
theorem Z0R {f:Func} {s:ChangeSpec} {tb:TypeId} {W W':World} {args:Array Value} {ds gs:List (DataW H)} {before:List MemPlace} {e:Ending} (hl:laidOutB P=true)
 (hr:(f.params.toList.all fun t=>P.readableRec t && decide (t < P.types.size))=true) (hres:f.resultTypes = #[tb]) (htb:P.underlying tb=some .bool) (hvars:s.vars=[])
 (hspec:s.fn H (ds++gs)={ results:=[.lit (.bool true)],args:=ds }) (hW:DataW.Whole enc P f.params.toList s.vars false W args.toList ds gs before) (h:ET W e W') :
 ∃ v,e=.returned v∧s.post enc P f false true false false W args v W':=by
 obtain ⟨rfl,hos,hout,hh⟩:=h;refine ⟨_,rfl, ?_⟩;have hlt:=fun p hp=>hW.lt p hp
 have hW':=hW;obtain ⟨p,q,hA,hV,rfl,hfz,hnd⟩:=hW;rw [hvars] at hV;obtain ⟨rfl,rfl⟩:=trodVars_none hV;simp only [List.append_nil] at hlt;refine ⟨ds,[],p++[],[],p,[],hW', ?_, ?_, ?_, ?_,fun h=>by cases h⟩
 · rw [hspec,hres];exact trodAll_cons_mk (shut_bool htb true) trodAll_mk0
 · rw [hspec];exact Z0Q hl hh (fun t ht=>by simpa using List.all_eq_true.1 hr t ht) hA hlt (fun x hx=>by simpa using hlt x hx)
 · rw [hspec,hvars];rfl
 · refine ⟨hos,hout,fun i hi => ?_⟩;rw [hh i hi];split
   · rename_i c t fr c' t' fr' h1 h2
     rw [h1] at h2;cases h2;exact ⟨rfl,rfl,rfl,fun _ _=>rfl⟩
   · rename_i es clock es' clock' h1 h2
     rw [h1] at h2;cases h2;exact .inr ⟨rfl,rfl⟩
   · rfl
theorem EU {W:World}:∀ {laid:List (String × DataW Unit)} {ps:List MemPlace},DataW.LaidVars P W laid ps → ∀ {n:String} {d:DataW Unit},(n,d) ∈ laid →
 ∃ g t cs fuel p,P.globalNamed n=some g∧(P.globals[g]?).map (·.type)=some t∧W.var? P n=some cs∧DataW.trod (fun _=>()) P W 0 (fun _=>true) false fuel t cs.toList=some (d,p)
 | [],_,_,_,_,hm=>by cases hm
 | (n',d')::r,_,h,n,d,hm=>by
   obtain ⟨g,t,cs,fuel,p,q,h1,h2,h3,h4,h5,_⟩:=h;rcases List.mem_cons.1 hm with e | e
   · cases e;exact ⟨g,t,cs,fuel,p,h1,h2,h3,h4⟩
   · exact EU h5 e
def UF:DataW Unit→Option AV
 | .lit (.bool b)=>some (.bool b)
 | .lit (.int k n)=>some (.int k n)
 | .lit (.string s)=>some (.str (s.map UInt8.toNat))
 | _=>none
def UG:List (DataW Unit)→Option (List AV)
 | []=>some []
 | d::r=>match UF d,UG r with
   | some a,some l=>some (a::l)
   | _,_=>none
theorem EV:∀ {ds:List (DataW Unit)} {l:List AV},UG ds=some l→l.length=ds.length ∧ ∀ (i:Nat) d,ds[i]? = some d→UF d=l[i]?
 | [],_,h=>by cases h;simp
 | d::r,l,h=>by
   unfold UG at h;split at h
   · rename_i a m h1 h2
     simp only [Option.some.injEq] at h;subst h;obtain ⟨h3,h4⟩:=EV h2;refine ⟨by simp [h3],fun i d' hd => ?_⟩;cases i with
     | zero=>simp at hd;subst hd;simpa using h1
     | succ i=>simpa using h4 i d' (by simpa using hd)
   · cases h
theorem Z0S {W:World} {fuel n:Nat} {t e:TypeId} {cs:List Value} {ds:List (DataW Unit)} {l:List AV} {p:List MemPlace} {base:Nat} {held:Bool} (ht:P.underlying t=some (.array n e)) (hce:P.cellsOf e=1) (hct:P.cellsOf t=n)
 (he:(match P.underlying e with | some .bool | some (.int _) | some .string=>true | _=>false)=true) (h:DataW.trod (fun _=>()) P W base (fun _=>true) held fuel t cs=some (.agg ds,p)) (hl:UG ds=some l) :
 Zb (Xv W) 0 l cs:=by
 obtain ⟨xs,m,_,hx,hcl,hxl,hi⟩:=DataW.trod_array ht h;simp only [Prod.mk.injEq,DataW.agg.injEq] at hx;obtain ⟨rfl,_⟩:=hx;obtain ⟨l1,l2⟩:=EV hl;refine ⟨by simp at l1;omega,fun i a v ha hv => ?_⟩;have hil:i < n:=by rw [← hxl];have:=(List.getElem?_eq_some_iff.1 ha).1;simp at l1;omega
 have hx1:=hi i hil;have hxi:xs[i]? = some xs[i]:=List.getElem?_eq_getElem (by omega);rw [hxi,hce,Nat.mul_one] at hx1;have hcs:(cs.drop i).take 1=[v]:=by
  rw [List.take_one,List.head?_drop,hv];rfl
 rw [hcs] at hx1;have hd:=l2 i xs[i].1 (by simp [hxi]);rw [ha] at hd;split at he
 · rename_i hu
   obtain ⟨b,h1,h2⟩:=DataW.trod_bool hu hx1;rw [h2] at hd;simp only [UF,Option.some.injEq] at hd;simp only [List.cons.injEq,and_true] at h1;subst hd h1;exact .bool b
 · rename_i k hu
   obtain ⟨b,h1,h2,_⟩:=DataW.trod_int hu hx1;rw [h2] at hd;simp only [UF,Option.some.injEq] at hd;simp only [List.cons.injEq,and_true] at h1;subst hd h1;exact .int k b
 · rename_i hu
   obtain ⟨b,h1,h2,_⟩:=DataW.trod_string hu hx1;rw [h2] at hd;simp only [UF,Option.some.injEq] at hd;simp only [List.cons.injEq,and_true] at h1;subst hd h1;exact .str rfl
 · cases he
theorem Z0T {W:World} {laid:List (String × DataW Unit)} (hL:laidMet P laid W) {name:String} {ds:List (DataW Unit)} {l:List AV} {x n:Nat} {t e:TypeId} (hm:(name,DataW.agg ds) ∈ laid) (hx:P.globalNamed name=some x)
 (hty:(P.globals[x]?).map (·.type)=some t) (ht:P.underlying t=some (.array n e)) (hce:P.cellsOf e=1) (hct:P.cellsOf t=n)
 (he:(match P.underlying e with | some .bool | some (.int _) | some .string=>true | _=>false)=true) (hl:UG ds=some l) :
 ∃ vals,Zb (Xv W) 0 l vals∧(∀ (i:Nat) v,vals[i]? = some v→W.cell? ⟨x,i,none⟩=some v) ∧ ∃ c e fz,W.heap[x]? = some (.cells c e fz)∧c.size=l.length:=by
 obtain ⟨ps,hV,_⟩:=hL;obtain ⟨g,t',cs,fuel,p,h1,h2,h3,h4⟩:=EU hV hm;obtain rfl:=Option.some.inj (hx.symm.trans h1);obtain rfl:=Option.some.inj (hty.symm.trans h2);have hr:=Z0S ht hce hct he h4 hl;unfold World.var? at h3;rw [hx] at h3;simp only [Option.bind_some] at h3;split at h3
 · rename_i cs' e' fz hc
   simp only [Option.some.injEq] at h3;subst h3;refine ⟨cs'.toList,hr,fun i v hv => ?_,cs',e',fz,hc, ?_⟩
   · unfold World.cell?;simp only [hc];simpa using hv
   · have:=hr.1;simp at this;omega
 · cases h3
end
end Go.Sim
