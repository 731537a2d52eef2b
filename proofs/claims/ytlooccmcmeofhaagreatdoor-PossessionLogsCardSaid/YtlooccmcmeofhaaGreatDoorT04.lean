/-
Lemmas of one proof, the texts SimOps to SimOps joined.
-/
import Derived.Test.YtlooccmcmeofhaaGreatDoorT03
import Derived.Laws.IdiomCopy
import Derived.Laws.Cells
set_option linter.unusedSimpArgs false
set_option linter.unusedVariables false

namespace Go.Sim
open Go
variable {C:Cfg} {P:Program} {g:Gh} {n:Nat} {H:Heap} {w:World}
theorem Yv {t k:Nat} (h:Zh P t=some k):(sizeOf t).run P w=.ok k w:=by
 unfold Zh at h;cases hi:P.info? t with
 | none=>simp [hi] at h
 | some i=>simp [hi] at h;simp [sizeOf,typeInfo,hi,h]
theorem Zm {t:Nat} {d:TypeDesc} (h:P.underlying t=some d):(underlying t).run P w=.ok d w:=by
 simp [underlying,h]
theorem Gn {t:Nat} {b:Bool} (h:aggOf P t=some b):(isAgg t).run P w=.ok b w:=by
 unfold aggOf at h;cases hd:P.underlying t with
 | none=>simp [hd] at h
 | some d =>
   simp only [isAgg,Sem.run_bind,Zm hd,Result.andThen_ok];cases d<;>simp [hd] at h<;>subst h<;>rfl
theorem Jw {t e:Nat} (h:Yy P t=some e):P.underlying t=some (.slice e):=by
 unfold Yy at h;cases hd:P.underlying t with
 | none=>simp [hd] at h
 | some d=>cases d<;>simp [hd] at h;subst h;rfl
theorem Bk {v:Value} {a:AV} (h:Qm v=some a):VRel g n a v:=by
 cases v with
 | bool b=>simp [Qm] at h;subst h;exact .bool b
 | int k i=>simp [Qm] at h;subst h;exact .int k i
 | float k b=>simp [Qm] at h;subst h;exact .flt k b
 | string s=>simp [Qm] at h;subst h;exact .str rfl
 | pointer p=>cases p<;>simp [Qm] at h;subst h;exact .nilp
 | slice p l c =>
   cases p with
   | some _=>simp [Qm] at h
   | none =>
     unfold Qm at h;split at h<;>simp_all;subst h;exact .psnil trivial
 | map r=>cases r<;>simp [Qm] at h;subst h;exact .nilm
 | nilFunc=>simp [Qm] at h;subst h;exact .nilf
 | nilIface=>simp [Qm] at h;subst h;exact .nili
 | _=>simp [Qm] at h
theorem Bl:∀ {l:List Value} {m:List AV},Uc l=some m→Zb g n m l
 | [],m,h=>by simp [Uc] at h;subst h;exact .nil
 | v::r,m,h=>by
   unfold Uc at h;split at h
   · split at h
     · simp at h;subst h
       rename_i a ha _ l hl
       exact .cons (Bk ha) (Bl hl)
     · cases h
   · cases h
theorem VRel.aggOf {cs:List AV} {vs:List Value} (h:Zb g n cs vs):VRel g n (.agg cs) (.agg vs.toArray):=.agg h.1 h.2
theorem VRel.tupOf {cs:List AV} {vs:List Value} (h:Zb g n cs vs):VRel g n (.tup cs) (.tuple vs.toArray):=.tup h.1 h.2
theorem Bm {v:Value} {a:AV} (h:ofValue v=some a):VRel g n a v:=by
 unfold ofValue at h;split at h
 · rename_i cs
   split at h
   · rename_i l hl
     simp at h;subst h;have:=VRel.aggOf (Bl (g:=g) (n:=n) hl);simpa using this
   · cases h
 · rename_i vs
   split at h
   · rename_i he
     simp at h;subst h;have:vs = #[]:=by
      simp at he;exact he
     subst this;exact VRel.undef
   · cases h
 · exact Bk h
theorem Jx {t:Nat} {a:AV} (h:ZJ P t=some a):∃ z,(zeroValue t).run P w=.ok z w∧(∀ g n,VRel g n a z) ∧ ∃ i,P.info? t=some i∧i.zero=some z:=by
 unfold ZJ at h;cases hi:P.info? t with
 | none=>simp [hi] at h
 | some i =>
   simp [hi] at h;cases hz:i.zero with
   | none=>simp [hz] at h
   | some z =>
     simp [hz] at h;exact ⟨z,by simp [zeroValue,typeInfo,hi,hz],fun g n=>Bm h,i,rfl,hz⟩
theorem VRel.inv_agg {cs:List AV} {v:Value} (h:VRel g n (.agg cs) v):∃ vs:List Value,v=.agg vs.toArray∧Zb g n cs vs:=by
 cases h with | agg hl hv=>exact ⟨_,rfl,hl,hv⟩
theorem VRel.inv_tup {cs:List AV} {v:Value} (h:VRel g n (.tup cs) v):∃ vs:List Value,v=.tuple vs.toArray∧Zb g n cs vs:=by
 cases h with | tup hl hv=>exact ⟨_,rfl,hl,hv⟩
theorem VRel.cells {a:AV} {v:Value} (h:VRel g n a v):Zb g n a.cells v.cells.toList:=by
 cases h with
 | agg hl hv=>exact ⟨hl,hv⟩
 | _=>simp only [AV.cells,Value.cells];exact .cons (by constructor<;>assumption) .nil
theorem VRel.one {a:AV} {v:Value} (h:VRel g n a v) (ha:a.one=true):v.oneCell'=true:=by
 cases h<;>first | rfl | (simp [AV.one] at ha)
theorem Zb.ones {l:List AV} {m:List Value} (h:Zb g n l m) (ha:l.all AV.one=true):∀ v ∈ m,v.oneCell'=true:=by
 intro v hv;obtain ⟨i,hi,rfl⟩:=List.mem_iff_getElem.1 hv;have hil:i < l.length:=by rw [h.1];exact hi
 have:=h.2 i l[i] m[i] (List.getElem?_eq_getElem hil) (List.getElem?_eq_getElem hi);exact this.one (List.all_eq_true.1 ha _ (List.getElem_mem hil))
theorem VRel.strip0 {a:AV} {v:Value} (h:VRel g n a v):VRel g n a.strip0 v:=by
 cases h with
 | ps vals hsz hl hk hv hcap htok=>exact .ps vals hsz hl hk hv hcap trivial
 | psnil h=>exact .psnil trivial
 | psz h=>exact .psz trivial
 | _=>constructor<;>assumption
theorem Zb.strip0 {l:List AV} {m:List Value} (h:Zb g n l m):Zb g n (l.map AV.strip0) m :=
 Zg.map_left (Zg.mono h fun _ _ r=>r.strip0)
theorem VRel.strip {a:AV} {v:Value} (h:VRel g n a v):VRel g n a.strip v:=by
 cases h with
 | ps vals hsz hl hk hv hcap htok=>exact .ps vals hsz hl hk hv hcap trivial
 | psnil h=>exact .psnil trivial
 | psz h=>exact .psz trivial
 | agg hl hv=>exact VRel.aggOf (Zb.strip0 ⟨hl,hv⟩)
 | tup hl hv =>
   refine VRel.tupOf (Zg.map_left (Zg.mono (⟨hl,hv⟩:Zb g n _ _) fun a b r => ?_));cases r with
   | agg hl hv=>exact VRel.aggOf (Zb.strip0 ⟨hl,hv⟩)
   | ps vals hsz hl hk hv hcap htok=>exact .ps vals hsz hl hk hv hcap trivial
   | psnil h=>exact .psnil trivial
   | psz h=>exact .psz trivial
   | _=>constructor<;>assumption
 | _=>constructor<;>assumption
theorem Zb.strip {l:List AV} {m:List Value} (h:Zb g n l m):Zb g n (l.map AV.strip) m :=
 Zg.map_left (Zg.mono h fun _ _ r=>r.strip)
theorem VRel.fullN {a:AV} {v:Value} (h:VRel g n a v):VRel g n a.fullN v:=by
 unfold AV.fullN;split
 · rename_i t rows
   split
   · exact h
   · exact h.strip0
 · exact h
theorem VRel.stripN {a:AV} {v:Value} (h:VRel g n a v):VRel g n a.stripN v:=by
 unfold AV.stripN;split
 · exact h.fullN
 · cases h with
   | agg hl hv=>exact VRel.aggOf (Zg.map_left (Zg.mono (⟨hl,hv⟩:Zb g n _ _) fun _ _ r=>r.fullN))
 · exact h.strip
theorem Zb.stripO {C:Cfg} {o:Operand} {l:List AV} {m:List Value} (h:Zb g n l m):Zb g n (l.map (Sim.stripO C o)) m:=by
 unfold Sim.stripO;split
 · split
   · exact Zg.map_left (Zg.mono h fun _ _ r=>r.stripN)
   · exact h.strip
 · exact h.strip
theorem VRel.pure {a:AV} {v:Value} (h:VRel g n a v):a.pure=true→VRel g 0 a v:=by
 induction h with
 | bool b=>intro _;exact .bool b
 | int k i=>intro _;exact .int k i
 | flt k b=>intro _;exact .flt k b
 | str h=>intro _;exact .str h
 | nilp=>intro _;exact .nilp
 | ptr h=>intro hp;simp [AV.pure] at hp
 | pptr vals hl hk hv _=>intro _;exact .pptr vals hl hk hv
 | @ps n tok rows b o cap sz vals hsz hl hk hv hcap htok _ =>
   intro hp;refine .ps vals hsz hl hk hv hcap ?_;cases tok<;>first | exact htok | (simp [AV.pure] at hp)
 | psnil h=>intro _;exact .psnil h
 | psz h=>intro _;exact .psz h
 | rs h _ _=>intro hp;simp [AV.pure] at hp
 | nilm=>intro _;exact .nilm
 | map h=>intro hp;simp [AV.pure] at hp
 | fn hl hl' hf hc ihf ihc =>
   intro hp;simp [AV.pure] at hp;have all:∀ {l:List AV},X9 l=true → ∀ (i:Nat) (c:AV),l[i]? = some c→c.pure=true:=by
    intro l
    induction l with
    | nil=>intro _ i c h;simp at h
    | cons x r ih =>
      intro hl i c h;simp [X9] at hl;cases i with
      | zero=>simp at h;subst h;exact hl.1
      | succ i=>exact ih hl.2 i c (by simpa using h)
   exact .fn hl hl' (fun i c v a b=>ihf i c v a b (all hp.1 i c a)) (fun i c v a b=>ihc i c v a b (all hp.2 i c a))
 | yld h=>intro hp;simp [AV.pure] at hp
 | nilf=>intro _;exact .nilf
 | nili=>intro _;exact .nili
 | agg hl hv ih =>
   intro hp;simp [AV.pure] at hp;have all:∀ {l:List AV},X9 l=true → ∀ (i:Nat) (c:AV),l[i]? = some c→c.pure=true:=by
    intro l
    induction l with
    | nil=>intro _ i c h;simp at h
    | cons x r ih =>
      intro hl i c h;simp [X9] at hl;cases i with
      | zero=>simp at h;subst h;exact hl.1
      | succ i=>exact ih hl.2 i c (by simpa using h)
   exact .agg hl fun i c v a b=>ih i c v a b (all hp i c a)
 | tup hl hv ih =>
   intro hp;simp [AV.pure] at hp;have all:∀ {l:List AV},X9 l=true → ∀ (i:Nat) (c:AV),l[i]? = some c→c.pure=true:=by
    intro l
    induction l with
    | nil=>intro _ i c h;simp at h
    | cons x r ih =>
      intro hl i c h;simp [X9] at hl;cases i with
      | zero=>simp at h;subst h;exact hl.1
      | succ i=>exact ih hl.2 i c (by simpa using h)
   exact .tup hl fun i c v a b=>ih i c v a b (all hp i c a)
theorem VRel.any {a:AV} {v:Value} (h:VRel g 0 a v) {g':Gh} (hk:∀ b o v,g.K b o=some v→g'.K b o=some v):VRel g' n a v :=
 h.mono (Nat.zero_le _) ⟨fun _ h=>absurd h (Nat.not_lt_zero _),hk⟩
structure FRel (C:Cfg) (g:Gh) (n:Nat) (T:TT AV) (a:Act):Prop where
 t:XE g n T a.tmps
 glob:∀ x cs,C.glob x=some cs → ∃ vals,Zb g 0 cs vals ∧ ∀ (i:Nat) v,vals[i]? = some v→g.K x i=some v
theorem ZR {T:TT AV} {a:Act} (h:FRel C g n T a) {x:Operand} {v:AV} (hx:Z4 C T x=some v):VRel g n v (a.eval x):=by
 cases x with
 | tmp t=>simp [Z4] at hx;subst hx;exact h.t t
 | const c=>exact Bm hx
 | global x =>
   simp only [Z4] at hx;split at hx
   · rename_i cs hg
     simp at hx;subst hx;obtain ⟨vals,hv,hk⟩:=h.glob x cs hg;exact .pptr vals hv.1 (fun i v hi=>by simpa using hk i v hi) hv.2
   · cases hx
 | func f=>simp [Z4] at hx;subst hx;exact .fn (fv:=[]) (cv:=[]) rfl rfl (fun _ _ _ h=>by simp at h) (fun _ _ _ h=>by simp at h)
theorem Bn {T:TT AV} {a:Act} (h:FRel C g n T a):∀ {l:List Operand} {m:List AV},ZZ C T l=some m→Zb g n m (l.map a.eval)
 | [],m,hx=>by simp [ZZ] at hx;subst hx;exact .nil
 | x::r,m,hx=>by
   unfold ZZ at hx;split at hx
   · rename_i v hv
     split at hx
     · rename_i l hl
       simp at hx;subst hx;exact .cons (ZR h hv) (Bn h hl)
     · cases hx
   · cases hx
theorem Gp {T:TT AV} {a:Act} (h:FRel C g n T a):∀ {l:List (Nat × Operand)} {m:List (Nat × AV)},XX C T l=some m →
 Zg (fun (x:Nat × AV) (y:Nat × Value)=>x.1=y.1∧VRel g n x.2 y.2) m (l.map fun p=>(p.1,a.eval p.2))
 | [],m,hx=>by simp [XX] at hx;subst hx;exact .nil
 | (i,x)::r,m,hx=>by
   unfold XX at hx;split at hx
   · rename_i v hv
     split at hx
     · rename_i l hl
       simp at hx;subst hx;exact .cons ⟨rfl,ZR h hv⟩ (Gp h hl)
     · cases hx
   · cases hx
theorem Gq {cs l:List AV} {off k:Nat} (h:Yp cs off k=some l):l=(cs.drop off).take k∧off+k≤cs.length:=by
 unfold Yp at h;split at h
 · rename_i hle;simp at h;exact ⟨h.symm,hle⟩
 · cases h
theorem MS {cs l:List AV} {off k:Nat} (h:Yp cs off k=some l) {i:Nat} {a:AV} (ha:l[i]? = some a):cs[off+i]? = some a∧i < k:=by
 obtain ⟨rfl,hle⟩:=Gq h;rw [List.getElem?_take] at ha;split at ha
 · rw [List.getElem?_drop] at ha;exact ⟨ha,by assumption⟩
 · cases ha
theorem FB {cs l:List AV} {off k:Nat} (h:Yp cs off k=some l):l.length=k:=by
 obtain ⟨rfl,hle⟩:=Gq h;simp;omega
theorem MT {g:Gh} {l:Loc} {b:ABlk} {cs:List AV} (hb:Yt C g n w l b) (h:XM b=some cs):Xd g n w l cs:=by
 cases b<;>simp [XM] at h<;>subst h
 · exact hb.1
 · exact hb.1
theorem MU (hR:Rel C g H w) {id:Nat} (h:(H.get id).live=true):id < H.n:=by
 rcases Nat.lt_or_ge id H.n with h' | h'
 · exact h'
 · rw [hR.out id h'] at h;simp [ABlk.live] at h
theorem Bo {b:ABlk} {cs:List AV} (h:XM b=some cs):b.live=true:=by cases b<;>simp [XM] at h<;>rfl
def FC (w:World) (a:Addr) (vs:List Value):Prop:=∀ (i:Nat) v,vs[i]? = some v→w.cell? ⟨a.block,a.off+i,none⟩=some v
theorem Bp {α:Type} {Q:Nat→α→Prop}:∀ (k:Nat),(∀ i,i < k → ∃ v,Q i v) → ∃ vs:List α,vs.length=k ∧ ∀ (i:Nat) v,vs[i]? = some v→Q i v
 | 0,_=>⟨[],rfl,fun _ _ h=>by simp at h⟩
 | k+1,h=>by
   obtain ⟨vs,hl,hv⟩:=Bp k fun i hi=>h i (by omega)
   obtain ⟨v,hq⟩:=h k (by omega);refine ⟨vs++[v],by simp [hl],fun i u hu => ?_⟩;rcases Nat.lt_or_ge i k with hi | hi
   · rw [List.getElem?_append_left (by omega)] at hu;exact hv i u hu
   · rw [List.getElem?_append_right (by omega)] at hu;have:i - vs.length=0:=by
      cases hz:i - vs.length with
      | zero=>rfl
      | succ m=>rw [hz] at hu;simp at hu
     rw [this] at hu;simp at hu;subst hu;have:i=k:=by omega
     subst this;exact hq
theorem Bq {l:Loc} {cs:List AV} (h:Xd g n w l cs) {off k:Nat} {x:List AV} (hx:Yp cs off k=some x) :
 ∃ vs,Zb g n x vs∧FC w ⟨l.b,l.o+off,none⟩ vs:=by
 obtain ⟨⟨c,e,fz,hb,hc,_⟩,_⟩:=h;have hlen:=FB hx;obtain ⟨vs,hl,hv⟩:=Bp (Q:=fun i v=>c[l.o+off+i]? = some v ∧ ∀ a,x[i]? = some a→VRel g n a v) k fun i hi=>by
  have hxi:x[i]? = some (x[i]'(by omega)):=List.getElem?_eq_getElem _;obtain ⟨v,hv,hr⟩:=hc (off+i) _ (MS hx hxi).1;exact ⟨v,by rw [Nat.add_assoc];exact hv,fun a ha=>by rw [hxi] at ha;simp at ha;subst ha;exact hr⟩
 refine ⟨vs,⟨by rw [hlen,hl],fun i a b ha hb=>(hv i b hb).2 a ha⟩,fun i v hi => ?_⟩;unfold World.cell?;simp only [hb];exact (hv i v hi).1
theorem Gr (hR:Rel C g H w) {a:AV} {k:Nat} {cs:List AV} (h:YT H a k=some cs) {v:Value} (hv:VRel g H.n a v) :
 ∃ (ad:Addr) (vs:List Value),v=.pointer (some ad)∧ad.spot=none∧Zb g H.n cs vs∧FC w ad vs∧cs.length=k:=by
 cases hv<;>simp only [YT] at h<;>try (cases h;done)
 case ptr id off hid =>
  split at h
  · rename_i bs hbs
    obtain ⟨vs,h1,h2⟩:=Bq (MT (hR.blk id hid) hbs) h;exact ⟨_,vs,rfl,rfl,h1,h2,FB h⟩
  · cases h
 case pptr cs' b o vals hl hk hvv =>
  refine ⟨⟨b,o,none⟩,vals.take k,rfl,rfl, ?_, ?_,FB h⟩
  · obtain ⟨rfl,hle⟩:=Gq h;simp only [List.drop_zero];exact Zg.take k ⟨hl,fun i c v hc hv'=>(hvv i c v hc hv').any fun _ _ _ h=>h⟩
  · intro i v hi;rw [List.getElem?_take] at hi;split at hi
    · exact hR.know _ _ _ (hk i v hi)
    · cases hi
theorem addr_add {a:Addr} (h:a.spot=none) (k:Nat):a.add k=⟨a.block,a.off+k,none⟩:=by
 unfold Addr.add;split
 · rename_i hz;subst hz;cases a;simp at h;simp [h]
 · rfl
theorem Uk {a:Addr} (ha:a.spot=none) {vs:List Value} (h:FC w a vs):(loadCells a vs.length).run P w=.ok vs.toArray w :=
 run_loadCells_list w a vs fun j v hj=>by rw [addr_add ha];exact h j v hj
theorem Br (hR:Rel C g H w) {t:Nat} {a r:AV} (h:Yk P H t a=some r) {v:Value} (hv:VRel g H.n a v) :
 ∃ ad cv,v=.pointer (some ad)∧ad.spot=none∧(loadVar t ad).run P w=.ok cv w∧VRel g H.n r cv:=by
 unfold Yk at h;split at h
 · rename_i k ag hsz hag
   split at h
   · rename_i cs hcs
     obtain ⟨ad,vs,rfl,hsp,hvs,hat,hlen⟩:=Gr hR hcs hv;refine ⟨ad, ?_⟩;cases ag with
     | true =>
       simp [QY] at h;subst h;simp at hlen;refine ⟨.agg vs.toArray,rfl,hsp, ?_,VRel.aggOf hvs⟩;simp only [loadVar,Sem.run_bind,Gn hag,Result.andThen_ok,if_true,Yv hsz];rw [← hlen,hvs.1];simp [Uk (P:=P) hsp hat]
     | false =>
       simp at hlen;obtain ⟨x,rfl⟩:=List.length_eq_one_iff.1 hlen;simp [QY] at h;subst h;obtain ⟨b,m',rfl,hb,ht⟩:=hvs.cons_left;have:=ht.nil_left;subst this;refine ⟨b,rfl,hsp, ?_,hb⟩;have hc:w.cell? ad=some b:=by
        have:=hat 0 b rfl;cases ad;simp at hsp;subst hsp;simpa using this
       simp [loadVar,Gn hag,hc]
   · cases h
 · cases h
end Go.Sim
