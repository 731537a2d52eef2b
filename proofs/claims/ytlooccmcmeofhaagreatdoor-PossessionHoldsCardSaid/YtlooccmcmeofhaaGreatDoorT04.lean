/-
Lemmas of one proof, the texts SimOps to SimOps joined.
-/
import Derived.Test.YtlooccmcmeofhaaGreatDoorT03
import Derived.Laws.IdiomCopy
import Derived.Laws.Cells
set_option linter.unusedSimpArgs false
set_option linter.unusedVariables false
set_option maxRecDepth 100000
set_option maxHeartbeats 32000000
noncomputable section
open Go
open List (all_eq_true drop_zero getElem?_append_left getElem?_append_right getElem?_drop getElem?_eq_getElem getElem?_take getElem_mem length_eq_one_iff mem_iff_getElem)
open Nat (add_assoc lt_or_ge not_lt_zero zero_le)
variable {a:Go.Sim.AV} {b:Go.Sim.ABlk} {cs l:List Go.Sim.AV} {k off t:Nat} {m vs:List Go.Value} {v:Go.Value}

namespace Go.Sim
variable {C:Cfg} {P:Program} {g:Gh} {n:Nat} {H:Heap} {w:World}
theorem Yw (h:Zf P t=some k):(sizeOf t).run P w=.ok k w:=by
 unfold Zf at h;cases hi:P.info? t with
 | none=>simp [hi] at h
 | some i=>simp [hi] at h;simp [sizeOf,typeInfo,hi,h]
theorem Zm {d:TypeDesc} (h:P.underlying t=some d):(underlying t).run P w=.ok d w:=by
 simp [underlying,h]
theorem UF {b:Bool} (h:aggOf P t=some b):(isAgg t).run P w=.ok b w:=by
 unfold aggOf at h;cases hd:P.underlying t with
 | none=>simp [hd] at h
 | some d =>
   simp only [isAgg,Sem.run_bind,Zm hd,Result.andThen_ok];cases d<;>simp [hd] at h<;>subst h<;>rfl
theorem Jf {e:Nat} (h:Yk P t=some e):P.underlying t=some (.slice e):=by
 unfold Yk at h;cases hd:P.underlying t with
 | none=>simp [hd] at h
 | some d=>cases d<;>simp [hd] at h;subst h;rfl
theorem A4 (h:Q7 v=some a):VRel g n a v:=by
 cases v with
 | bool b=>simp [Q7] at h;subst h;exact .bool b
 | int k i=>simp [Q7] at h;subst h;exact .int k i
 | float k b=>simp [Q7] at h;subst h;exact .flt k b
 | string s=>simp [Q7] at h;subst h;exact .str rfl
 | pointer p=>cases p<;>simp [Q7] at h;subst h;exact .nilp
 | slice p l c =>
   cases p with
   | some _=>simp [Q7] at h
   | none =>
     unfold Q7 at h;split at h<;>simp_all;subst h;exact .psnil trivial
 | map r=>cases r<;>simp [Q7] at h;subst h;exact .nilm
 | nilFunc=>simp [Q7] at h;subst h;exact .nilf
 | nilIface=>simp [Q7] at h;subst h;exact .nili
 | _=>simp [Q7] at h
theorem A5:∀ {l:List Value} {m:List AV},VB l=some m->Zb g n m l
 | [],m,h=>by simp [VB] at h;subst h;exact .nil
 | v::r,m,h=>by
   unfold VB at h;split at h
   . split at h
     . simp at h;subst h
       rename_i a ha _ l hl
       exact .cons (A4 ha) (A5 hl)
     . cases h
   . cases h
theorem VRel.aggOf (h:Zb g n cs vs):VRel g n (.agg cs) (.agg vs.toArray):=.agg h.1 h.2
theorem VRel.tupOf (h:Zb g n cs vs):VRel g n (.tup cs) (.tuple vs.toArray):=.tup h.1 h.2
theorem A6 (h:ofValue v=some a):VRel g n a v:=by
 unfold ofValue at h;split at h
 . rename_i cs
   split at h
   . rename_i l hl
     simp at h;subst h;have:=VRel.aggOf (A5 (g:=g) (n:=n) hl);simpa using this
   . cases h
 . rename_i vs
   split at h
   . rename_i he
     simp at h;subst h;have:vs = #[]:=by
      simp at he;exact he
     subst this;exact VRel.undef
   . cases h
 . exact A4 h
theorem Jg (h:ZF P t=some a):∃ z,(zeroValue t).run P w=.ok z w/\(∀ g n,VRel g n a z) /\ ∃ i,P.info? t=some i/\i.zero=some z:=by
 unfold ZF at h;cases hi:P.info? t with
 | none=>simp [hi] at h
 | some i =>
   simp [hi] at h;cases hz:i.zero with
   | none=>simp [hz] at h
   | some z =>
     simp [hz] at h;exact ⟨z,by simp [zeroValue,typeInfo,hi,hz],fun g n=>A6 h,i,rfl,hz⟩
theorem VRel.inv_agg (h:VRel g n (.agg cs) v):∃ vs:List Value,v=.agg vs.toArray/\Zb g n cs vs:=by
 cases h with | agg hl hv=>exact ⟨_,rfl,hl,hv⟩
theorem VRel.inv_tup (h:VRel g n (.tup cs) v):∃ vs:List Value,v=.tuple vs.toArray/\Zb g n cs vs:=by
 cases h with | tup hl hv=>exact ⟨_,rfl,hl,hv⟩
theorem VRel.cells (h:VRel g n a v):Zb g n a.cells v.cells.toList:=by
 cases h with
 | agg hl hv=>exact ⟨hl,hv⟩
 | _=>simp only [AV.cells,Value.cells];exact .cons (by constructor<;>assumption) .nil
theorem VRel.one (h:VRel g n a v) (ha:a.one=true):v.oneCell'=true:=by
 cases h<;>first | rfl | (simp [AV.one] at ha)
theorem Zb.ones (h:Zb g n l m) (ha:l.all AV.one=true):∀ v ∈ m,v.oneCell'=true:=by
 intro v hv;obtain ⟨i,hi,rfl⟩:=mem_iff_getElem.1 hv;have hil:i < l.length:=by rw [h.1];exact hi
 have:=h.2 i l[i] m[i] (getElem?_eq_getElem hil) (getElem?_eq_getElem hi);exact this.one (all_eq_true.1 ha _ (getElem_mem hil))
theorem VRel.strip0 (h:VRel g n a v):VRel g n a.strip0 v:=by
 cases h with
 | ps vals hsz hl hk hv hcap htok=>exact .ps vals hsz hl hk hv hcap trivial
 | psnil h=>exact .psnil trivial
 | psz h=>exact .psz trivial
 | _=>constructor<;>assumption
theorem Zb.strip0 (h:Zb g n l m):Zb g n (l.map AV.strip0) m :=
 Zh.map_left (Zh.mono h fun _ _ r=>r.strip0)
theorem VRel.strip (h:VRel g n a v):VRel g n a.strip v:=by
 cases h with
 | ps vals hsz hl hk hv hcap htok=>exact .ps vals hsz hl hk hv hcap trivial
 | psnil h=>exact .psnil trivial
 | psz h=>exact .psz trivial
 | agg hl hv=>exact VRel.aggOf (Zb.strip0 ⟨hl,hv⟩)
 | tup hl hv =>
   refine VRel.tupOf (Zh.map_left (Zh.mono (⟨hl,hv⟩:Zb g n _ _) fun a b r => ?_));cases r with
   | agg hl hv=>exact VRel.aggOf (Zb.strip0 ⟨hl,hv⟩)
   | ps vals hsz hl hk hv hcap htok=>exact .ps vals hsz hl hk hv hcap trivial
   | psnil h=>exact .psnil trivial
   | psz h=>exact .psz trivial
   | _=>constructor<;>assumption
 | _=>constructor<;>assumption
theorem Zb.strip (h:Zb g n l m):Zb g n (l.map AV.strip) m :=
 Zh.map_left (Zh.mono h fun _ _ r=>r.strip)
theorem VRel.fullN (h:VRel g n a v):VRel g n a.fullN v:=by
 unfold AV.fullN;split
 . rename_i t rows
   split
   . exact h
   . exact h.strip0
 . exact h
theorem VRel.stripN (h:VRel g n a v):VRel g n a.stripN v:=by
 unfold AV.stripN;split
 . exact h.fullN
 . cases h with
   | agg hl hv=>exact VRel.aggOf (Zh.map_left (Zh.mono (⟨hl,hv⟩:Zb g n _ _) fun _ _ r=>r.fullN))
 . exact h.strip
theorem Zb.stripO {C:Cfg} {o:Operand} (h:Zb g n l m):Zb g n (l.map (Sim.stripO C o)) m:=by
 unfold Sim.stripO;split
 . split
   . exact Zh.map_left (Zh.mono h fun _ _ r=>r.stripN)
   . exact h.strip
 . exact h.strip
theorem VRel.pure (h:VRel g n a v):a.pure=true->VRel g 0 a v:=by
 induction h with
 | bool b=>intro _;exact .bool b
 | int k i=>intro _;exact .int k i
 | flt k b=>intro _;exact .flt k b
 | str h=>intro _;exact .str h
 | nilp=>intro _;exact .nilp
 | ptr h=>intro hp;simp [AV.pure] at hp
 | pptr vals hl hk hv _=>intro _;exact .pptr vals hl hk hv
 | @ps n tok rows b o cap sz vals hsz hl hk hv hcap htok _ =>
   intro hp;refine .ps vals hsz hl hk hv hcap ?_;cases tok<;>first | exact htok | (simp [AV.pure] at hp)
 | psnil h=>intro _;exact .psnil h
 | psz h=>intro _;exact .psz h
 | rs h _ _=>intro hp;simp [AV.pure] at hp
 | nilm=>intro _;exact .nilm
 | map h=>intro hp;simp [AV.pure] at hp
 | fn hl hl' hf hc ihf ihc =>
   intro hp;simp [AV.pure] at hp;have all:∀ {l:List AV},YH l=true -> ∀ (i:Nat) (c:AV),l[i]? = some c->c.pure=true:=by
    intro l
    induction l with
    | nil=>intro _ i c h;simp at h
    | cons x r ih =>
      intro hl i c h;simp [YH] at hl;cases i with
      | zero=>simp at h;subst h;exact hl.1
      | succ i=>exact ih hl.2 i c (by simpa using h)
   exact .fn hl hl' (fun i c v a b=>ihf i c v a b (all hp.1 i c a)) (fun i c v a b=>ihc i c v a b (all hp.2 i c a))
 | yld h=>intro hp;simp [AV.pure] at hp
 | nilf=>intro _;exact .nilf
 | nili=>intro _;exact .nili
 | agg hl hv ih =>
   intro hp;simp [AV.pure] at hp;have all:∀ {l:List AV},YH l=true -> ∀ (i:Nat) (c:AV),l[i]? = some c->c.pure=true:=by
    intro l
    induction l with
    | nil=>intro _ i c h;simp at h
    | cons x r ih =>
      intro hl i c h;simp [YH] at hl;cases i with
      | zero=>simp at h;subst h;exact hl.1
      | succ i=>exact ih hl.2 i c (by simpa using h)
   exact .agg hl fun i c v a b=>ih i c v a b (all hp i c a)
 | tup hl hv ih =>
   intro hp;simp [AV.pure] at hp;have all:∀ {l:List AV},YH l=true -> ∀ (i:Nat) (c:AV),l[i]? = some c->c.pure=true:=by
    intro l
    induction l with
    | nil=>intro _ i c h;simp at h
    | cons x r ih =>
      intro hl i c h;simp [YH] at hl;cases i with
      | zero=>simp at h;subst h;exact hl.1
      | succ i=>exact ih hl.2 i c (by simpa using h)
   exact .tup hl fun i c v a b=>ih i c v a b (all hp i c a)
theorem VRel.any (h:VRel g 0 a v) {g':Gh} (hk:∀ b o v,g.K b o=some v->g'.K b o=some v):VRel g' n a v :=
 h.mono (zero_le _) ⟨fun _ h=>absurd h (not_lt_zero _),hk⟩
structure FRel (C:Cfg) (g:Gh) (n:Nat) (T:TT AV) (a:Act):Prop where
 t:Xy g n T a.tmps
 glob:∀ x cs,C.glob x=some cs -> ∃ vals,Zb g 0 cs vals /\ ∀ (i:Nat) v,vals[i]? = some v->g.K x i=some v
theorem ZR {T:TT AV} {a:Act} (h:FRel C g n T a) {x:Operand} {v:AV} (hx:Z4 C T x=some v):VRel g n v (a.eval x):=by
 cases x with
 | tmp t=>simp [Z4] at hx;subst hx;exact h.t t
 | const c=>exact A6 hx
 | global x =>
   simp only [Z4] at hx;split at hx
   . rename_i cs hg
     simp at hx;subst hx;obtain ⟨vals,hv,hk⟩:=h.glob x cs hg;exact .pptr vals hv.1 (fun i v hi=>by simpa using hk i v hi) hv.2
   . cases hx
 | func f=>simp [Z4] at hx;subst hx;exact .fn (fv:=[]) (cv:=[]) rfl rfl (fun _ _ _ h=>by simp at h) (fun _ _ _ h=>by simp at h)
theorem A7 {T:TT AV} {a:Act} (h:FRel C g n T a):∀ {l:List Operand} {m:List AV},Y4 C T l=some m->Zb g n m (l.map a.eval)
 | [],m,hx=>by simp [Y4] at hx;subst hx;exact .nil
 | x::r,m,hx=>by
   unfold Y4 at hx;split at hx
   . rename_i v hv
     split at hx
     . rename_i l hl
       simp at hx;subst hx;exact .cons (ZR h hv) (A7 h hl)
     . cases hx
   . cases hx
theorem UG {T:TT AV} {a:Act} (h:FRel C g n T a):∀ {l:List (Nat × Operand)} {m:List (Nat × AV)},XP C T l=some m ->
 Zh (fun (x:Nat × AV) (y:Nat × Value)=>x.1=y.1/\VRel g n x.2 y.2) m (l.map fun p=>(p.1,a.eval p.2))
 | [],m,hx=>by simp [XP] at hx;subst hx;exact .nil
 | (i,x)::r,m,hx=>by
   unfold XP at hx;split at hx
   . rename_i v hv
     split at hx
     . rename_i l hl
       simp at hx;subst hx;exact .cons ⟨rfl,ZR h hv⟩ (UG h hl)
     . cases hx
   . cases hx
theorem UH (h:ZW cs off k=some l):l=(cs.drop off).take k/\off+k<=cs.length:=by
 unfold ZW at h;split at h
 . rename_i hle;simp at h;exact ⟨h.symm,hle⟩
 . cases h
theorem Ln (h:ZW cs off k=some l) {i:Nat} (ha:l[i]? = some a):cs[off+i]? = some a/\i < k:=by
 obtain ⟨rfl,hle⟩:=UH h;rw [getElem?_take] at ha;split at ha
 . rw [getElem?_drop] at ha;exact ⟨ha,by assumption⟩
 . cases ha
theorem GQ (h:ZW cs off k=some l):l.length=k:=by
 obtain ⟨rfl,hle⟩:=UH h;simp;omega
theorem Lo {g:Gh} {l:Loc} (hb:Yj C g n w l b) (h:Xw b=some cs):X7 g n w l cs:=by
 cases b<;>simp [Xw] at h<;>subst h
 . exact hb.1
 . exact hb.1
theorem Lp (hR:Rel C g H w) {id:Nat} (h:(H.get id).live=true):id < H.n:=by
 rcases lt_or_ge id H.n with h' | h'
 . exact h'
 . rw [hR.out id h'] at h;simp [ABlk.live] at h
theorem A8 (h:Xw b=some cs):b.live=true:=by cases b<;>simp [Xw] at h<;>rfl
def GR (w:World) (a:Addr) (vs:List Value):Prop:=∀ (i:Nat) v,vs[i]? = some v->w.cell? ⟨a.block,a.off+i,none⟩=some v
theorem A9 {α:Type} {Q:Nat->α->Prop}:∀ (k:Nat),(∀ i,i < k -> ∃ v,Q i v) -> ∃ vs:List α,vs.length=k /\ ∀ (i:Nat) v,vs[i]? = some v->Q i v
 | 0,_=>⟨[],rfl,fun _ _ h=>by simp at h⟩
 | k+1,h=>by
   obtain ⟨vs,hl,hv⟩:=A9 k fun i hi=>h i (by omega)
   obtain ⟨v,hq⟩:=h k (by omega);refine ⟨vs++[v],by simp [hl],fun i u hu => ?_⟩;rcases lt_or_ge i k with hi | hi
   . rw [getElem?_append_left (by omega)] at hu;exact hv i u hu
   . rw [getElem?_append_right (by omega)] at hu;have:i - vs.length=0:=by
      cases hz:i - vs.length with
      | zero=>rfl
      | succ m=>rw [hz] at hu;simp at hu
     rw [this] at hu;simp at hu;subst hu;have:i=k:=by omega
     subst this;exact hq
theorem Aa {l:Loc} (h:X7 g n w l cs) {x:List AV} (hx:ZW cs off k=some x) :
 ∃ vs,Zb g n x vs/\GR w ⟨l.b,l.o+off,none⟩ vs:=by
 obtain ⟨⟨c,e,fz,hb,hc,_⟩,_⟩:=h;have hlen:=GQ hx;obtain ⟨vs,hl,hv⟩:=A9 (Q:=fun i v=>c[l.o+off+i]? = some v /\ ∀ a,x[i]? = some a->VRel g n a v) k fun i hi=>by
  have hxi:x[i]? = some (x[i]'(by omega)):=getElem?_eq_getElem _;obtain ⟨v,hv,hr⟩:=hc (off+i) _ (Ln hx hxi).1;exact ⟨v,by rw [add_assoc];exact hv,fun a ha=>by rw [hxi] at ha;simp at ha;subst ha;exact hr⟩
 refine ⟨vs,⟨by rw [hlen,hl],fun i a b ha hb=>(hv i b hb).2 a ha⟩,fun i v hi => ?_⟩;unfold World.cell?;simp only [hb];exact (hv i v hi).1
theorem UI (hR:Rel C g H w) (h:YB H a k=some cs) (hv:VRel g H.n a v) :
 ∃ (ad:Addr) (vs:List Value),v=.pointer (some ad)/\ad.spot=none/\Zb g H.n cs vs/\GR w ad vs/\cs.length=k:=by
 cases hv<;>simp only [YB] at h<;>try (cases h;done)
 case ptr id off hid =>
  split at h
  . rename_i bs hbs
    obtain ⟨vs,h1,h2⟩:=Aa (Lo (hR.blk id hid) hbs) h;exact ⟨_,vs,rfl,rfl,h1,h2,GQ h⟩
  . cases h
 case pptr cs' b o vals hl hk hvv =>
  refine ⟨⟨b,o,none⟩,vals.take k,rfl,rfl, ?_, ?_,GQ h⟩
  . obtain ⟨rfl,hle⟩:=UH h;simp only [drop_zero];exact Zh.take k ⟨hl,fun i c v hc hv'=>(hvv i c v hc hv').any fun _ _ _ h=>h⟩
  . intro i v hi;rw [getElem?_take] at hi;split at hi
    . exact hR.know _ _ _ (hk i v hi)
    . cases hi
theorem addr_add {a:Addr} (h:a.spot=none) (k:Nat):a.add k=⟨a.block,a.off+k,none⟩:=by
 unfold Addr.add;split
 . rename_i hz;subst hz;cases a;simp at h;simp [h]
 . rfl
theorem VI {a:Addr} (ha:a.spot=none) (h:GR w a vs):(loadCells a vs.length).run P w=.ok vs.toArray w :=
 run_loadCells_list w a vs fun j v hj=>by rw [addr_add ha];exact h j v hj
theorem Ab (hR:Rel C g H w) {r:AV} (h:Yl P H t a=some r) (hv:VRel g H.n a v) :
 ∃ ad cv,v=.pointer (some ad)/\ad.spot=none/\(loadVar t ad).run P w=.ok cv w/\VRel g H.n r cv:=by
 unfold Yl at h;split at h
 . rename_i k ag hsz hag
   split at h
   . rename_i cs hcs
     obtain ⟨ad,vs,rfl,hsp,hvs,hat,hlen⟩:=UI hR hcs hv;refine ⟨ad, ?_⟩;cases ag with
     | true =>
       simp [QS] at h;subst h;simp at hlen;refine ⟨.agg vs.toArray,rfl,hsp, ?_,VRel.aggOf hvs⟩;simp only [loadVar,Sem.run_bind,UF hag,Result.andThen_ok,if_true,Yw hsz];rw [<- hlen,hvs.1];simp [VI (P:=P) hsp hat]
     | false =>
       simp at hlen;obtain ⟨x,rfl⟩:=length_eq_one_iff.1 hlen;simp [QS] at h;subst h;obtain ⟨b,m',rfl,hb,ht⟩:=hvs.cons_left;have:=ht.nil_left;subst this;refine ⟨b,rfl,hsp, ?_,hb⟩;have hc:w.cell? ad=some b:=by
        have:=hat 0 b rfl;cases ad;simp at hsp;subst hsp;simpa using this
       simp [loadVar,UF hag,hc]
   . cases h
 . cases h
end Go.Sim
