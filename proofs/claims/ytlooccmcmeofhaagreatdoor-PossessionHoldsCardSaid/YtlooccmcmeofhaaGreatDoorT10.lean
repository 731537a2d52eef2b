/-
Lemmas of one proof, the texts SimJoin to SimBorn joined.
-/
import Derived.Test.YtlooccmcmeofhaaGreatDoorT09
import Derived.ChangeSame
import Derived.OpenShut
import Derived.Deep.Slices
import Derived.Lib.LaidTab
import Derived.Carry
import Derived.LaidByTextLater
set_option linter.unusedSimpArgs false
set_option linter.unusedVariables false
set_option maxRecDepth 100000
set_option maxHeartbeats 32000000
noncomputable section
open Go
open Bool (and_eq_true)
open List (all_eq_true append_nil cons_append drop_drop drop_eq_nil_of_le flatten_append flatten_cons flatten_nil getElem?_append_left getElem?_append_right getElem?_eq_getElem head?_drop mapM_cons mem_append mem_cons mem_cons_of_mem mem_cons_self mem_iff_getElem mem_map mem_of_getElem? mem_range replicate_succ take_append_drop take_one)
open Nat (lt_of_lt_of_le mul_one not_lt_zero sub_zero succ_mul zero_le)
open Option (bind_some map_some)
variable {C:Go.Sim.Cfg} {H':Go.Sim.Heap} {W':Go.World} {args l:List Go.Sim.AV} {b fuel k lo n:Nat} {cs:List Go.Value} {cv:Go.Value} {e t:Go.TypeId} {f:Go.FuncId} {v v':Go.Sim.AV}

namespace Go.Sim
open Go.ChangeShapes Go.WideShapes Go.Deep Go.RowKit
inductive Sh where
 | int (k:IntKind)
 | bool
 | str
 | slc (l:List Sh)
mutual
def Sh.has:Sh->AV->Prop
 | .int k,v=>∃ n,v=.int k n/\k.min<=n/\n<=k.max
 | .bool,v=>∃ b,v=.bool b
 | .str,v=>∃ s,v=.str s/\s.length<=9223372036854775807 /\ ∀ b ∈ s,b < 256
 | .slc l,v=>∃ rows,v=.ps .unk rows/\rows.length<=9223372036854775807 /\ ∀ r ∈ rows,Sh.hasAll l r
def Sh.hasAll:List Sh->List AV->Prop
 | [],r=>r=[]
 | s::l,r=>∃ a r',r=a::r'/\s.has a/\Sh.hasAll l r'
end
theorem Sh.hasAll_length:∀ {l:List Sh} {r:List AV},Sh.hasAll l r->r.length=l.length
 | [],_,h=>by simp only [Sh.hasAll] at h;subst h;rfl
 | _::l,_,h=>by
   simp only [Sh.hasAll] at h;obtain ⟨a,r',rfl,_,h⟩:=h;simp [Sh.hasAll_length h]
theorem Sh.hasAll_append:∀ {l m:List Sh} {r q:List AV},Sh.hasAll l r->Sh.hasAll m q->Sh.hasAll (l++m) (r++q)
 | [],_,_,_,h,h'=>by simp only [Sh.hasAll] at h;subst h;exact h'
 | _::l,_,_,_,h,h'=>by
   simp only [Sh.hasAll] at h;obtain ⟨a,r',rfl,ha,h⟩:=h;simp only [cons_append,Sh.hasAll];exact ⟨a,_,rfl,ha,Sh.hasAll_append h h'⟩
def U3 (P:Program) (rec_:TypeId->Option (List Sh)):List Field->Nat->Option (List Sh)
 | [],_=>some []
 | f::r,off =>
   match rec_ f.type with
   | none=>none
   | some l =>
     if f.offset=off/\l.length=P.cellsOf f.type then
      match U3 P rec_ r (off+l.length) with
      | some m=>some (l++m)
      | none=>none
     else none
def JZ (P:Program):Nat->TypeId->Option (List Sh)
 | 0,_=>none
 | k+1,t=>match P.underlying t with
   | some .bool=>some [.bool]
   | some (.int k)=>some [.int k]
   | some .string=>some [.str]
   | some (.slice e)=>match JZ P k e with
     | some l=>if l.length=P.cellsOf e/\0 < l.length then some [.slc l] else none
     | none=>none
   | some (.struct fs)=>match U3 P (JZ P k) fs.toList 0 with
     | some l=>if l.length=P.cellsOf t then some l else none
     | none=>none
   | some (.array n e)=>match JZ P k e with
     | some l=>if l.length=P.cellsOf e/\n * l.length=P.cellsOf t then some (List.replicate n l).flatten else none
     | none=>none
   | _=>none
def XB (w:World):Gh:=⟨fun _=>⟨0,0,0⟩,fun b o=>w.cell? ⟨b,o,none⟩⟩
section
variable {H:Type} {enc:TypeId × Value->H} {P:Program} {w:World} {base:Nat} {held:Bool}
theorem PJ {rec_:TypeId->Option (List Sh)} (ih:∀ t l,rec_ t=some l -> ∀ cs x,DataW.trod enc P w base (fun _=>true) held n t cs=some x -> ∃ avs,Sh.hasAll l avs/\Zb (XB w) 0 avs cs) :
 ∀ (fs:List Field) (off:Nat) (l:List Sh),U3 P rec_ fs off=some l->(∀ f ∈ fs,∃ y,DataW.trod enc P w base (fun _=>true) held n f.type ((cs.drop f.offset).take (P.cellsOf f.type))=some y) ->
   off+l.length=cs.length -> ∃ avs,Sh.hasAll l avs/\Zb (XB w) 0 avs (cs.drop off):=by
 intro fs
 induction fs with
 | nil =>
   intro off l h _ hl;simp only [U3,Option.some.injEq] at h;subst h;refine ⟨[],rfl, ?_⟩;rw [drop_eq_nil_of_le (by simp at hl;omega)];exact .nil
 | cons f r ihf =>
   intro off l h hy hl;unfold U3 at h;split at h
   . cases h
   . rename_i l1 h1
     split at h
     . rename_i hc
       split at h
       . rename_i m hm
         simp only [Option.some.injEq] at h;subst h;obtain ⟨y,hyy⟩:=hy f (by simp);rw [hc.1] at hyy;obtain ⟨a1,b1,c1⟩:=ih _ _ h1 _ _ hyy;obtain ⟨a2,b2,c2⟩:=ihf _ _ hm (fun f' hf'=>hy f' (by simp [hf'])) (by simp at hl;omega);refine ⟨a1++a2,Sh.hasAll_append b1 b2, ?_⟩;have:cs.drop off=(cs.drop off).take (P.cellsOf f.type)++cs.drop (off+l1.length):=by
          rw [hc.2,<- drop_drop,take_append_drop]
         rw [this];exact c1.append c2
       . cases h
     . cases h
theorem PK {l:List Sh} {o sz:Nat} (hsz:l.length=sz):∀ (len:Nat),
 (∀ i,i < len -> ∃ cs',cs'.length=sz/\(∀ j v,cs'[j]? = some v->w.cell? ⟨b,o+i * sz+j,none⟩=some v) /\ ∃ avs,Sh.hasAll l avs/\Zb (XB w) 0 avs cs') ->
 ∃ (rows:List (List AV)) (vals:List Value),rows.length=len/\(∀ r ∈ rows,Sh.hasAll l r)/\Zb (XB w) 0 rows.flatten vals/\vals.length=len * sz /\ ∀ j v,vals[j]? = some v->w.cell? ⟨b,o+j,none⟩=some v:=by
 intro len
 induction len with
 | zero=>intro _;exact ⟨[],[],rfl,by simp,.nil,by simp,by simp⟩
 | succ n ih =>
   intro h;obtain ⟨rows,vals,h1,h2,h3,h4,h5⟩:=ih (fun i hi=>h i (by omega));obtain ⟨cs',k1,k2,avs,k3,k4⟩:=h n (by omega);refine ⟨rows++[avs],vals++cs',by simp [h1], ?_, ?_,by simp [h4,k1,succ_mul], ?_⟩
   . intro r hr;rcases mem_append.1 hr with hr | hr
     . exact h2 r hr
     . simp at hr;subst hr;exact k3
   . simp only [flatten_append,flatten_cons,flatten_nil,append_nil];exact h3.append k4
   . intro j v hj;by_cases hlt:j < vals.length
     . rw [getElem?_append_left hlt] at hj;exact h5 j v hj
     . rw [getElem?_append_right (by omega)] at hj;have:=k2 _ _ hj;rw [h4] at this hlt;have e:o+n * sz+(j - n * sz)=o+j:=by omega
       rw [e] at this;exact this
theorem BE {α β:Type} {f:α->Option β}:∀ {l:List α} {ys:List β},l.mapM f=some ys -> ∀ x ∈ l,∃ y,f x=some y
 | [],_,_,x,hx=>by simp at hx
 | a::r,ys,h,x,hx=>by
   rw [mapM_cons] at h;cases ha:f a with
   | none=>rw [ha] at h;cases h
   | some b =>
     rw [ha] at h;cases hr:r.mapM f with
     | none=>rw [hr] at h;cases h
     | some bs =>
       rcases mem_cons.1 hx with rfl | hx
       . exact ⟨b,ha⟩
       . exact BE hr x hx
theorem PL {x:DataW H × List MemPlace} (ht:P.underlying t=some (.array n e)) (h:DataW.trod enc P w base (fun _=>true) held fuel t cs=some x) :
 ∃ f',cs.length=P.cellsOf t /\ ∀ i,i < n -> ∃ y,DataW.trod enc P w base (fun _=>true) held f' e ((cs.drop (i * P.cellsOf e)).take (P.cellsOf e))=some y:=by
 cases fuel with
 | zero=>cases h
 | succ f' =>
   simp only [DataW.trod,ht] at h;split at h
   . rename_i hl
     refine ⟨f',hl,fun i hi => ?_⟩;cases hm:(List.range n).mapM fun i=>DataW.trod enc P w base (fun _=>true) held f' e ((cs.drop (i * P.cellsOf e)).take (P.cellsOf e)) with
     | none=>rw [hm] at h;cases h
     | some ys=>exact BE hm i (mem_range.2 hi)
   . cases h
theorem BF {l:List Sh} {ce n:Nat} (hl:l.length=ce) (cs:List Value) (hlen:cs.length=n * ce) (h:∀ i,i < n -> ∃ avs,Sh.hasAll l avs/\Zb (XB w) 0 avs ((cs.drop (i * ce)).take ce)) :
 ∀ m,m<=n -> ∃ avs,Sh.hasAll (List.replicate m l).flatten avs/\Zb (XB w) 0 avs (cs.drop ((n - m) * ce))
 | 0,_=>⟨[],rfl,by rw [drop_eq_nil_of_le (by rw [sub_zero,hlen];exact Nat.le_refl _)];exact .nil⟩
 | m+1,hm=>by
   obtain ⟨a2,b2,c2⟩:=BF hl cs hlen h m (by omega);obtain ⟨a1,b1,c1⟩:=h (n - (m+1)) (by omega);refine ⟨a1++a2,by rw [replicate_succ,flatten_cons];exact Sh.hasAll_append b1 b2, ?_⟩;have e1:(n - (m+1)) * ce+ce=(n - m) * ce:=by
    have:n - m=(n - (m+1))+1:=by omega
    rw [this,succ_mul]
   have:cs.drop ((n - (m+1)) * ce)=(cs.drop ((n - (m+1)) * ce)).take ce++cs.drop ((n - m) * ce):=by
    rw [<- e1,<- drop_drop,take_append_drop]
   rw [this];exact c1.append c2
theorem PM:∀ (k:Nat) (t:TypeId) (l:List Sh),JZ P k t=some l -> ∀ (fuel:Nat) (cs:List Value) (x:DataW H × List MemPlace),DataW.trod enc P w base (fun _=>true) held fuel t cs=some x ->
 ∃ avs,Sh.hasAll l avs/\Zb (XB w) 0 avs cs:=by
 intro k
 induction k with
 | zero=>intro t l h;cases h
 | succ k ih =>
   intro t l h fuel cs x hx;unfold JZ at h;split at h
   . rename_i ht
     simp only [Option.some.injEq] at h;subst h;obtain ⟨b,rfl,_⟩:=DataW.trod_bool ht hx;exact ⟨[.bool b],⟨_,_,rfl,⟨b,rfl⟩,rfl⟩,.cons (.bool b) .nil⟩
   . rename_i kd ht
     simp only [Option.some.injEq] at h;subst h;obtain ⟨n,rfl,_,hw⟩:=DataW.trod_int ht hx;have hw:kd.min<=n/\n<=kd.max:=by
      unfold Lit.wf at hw;simpa using hw
     exact ⟨[.int kd n],⟨_,_,rfl,⟨n,rfl,hw⟩,rfl⟩,.cons (.int kd n) .nil⟩
   . rename_i ht
     simp only [Option.some.injEq] at h;subst h;obtain ⟨s,rfl,_,hw⟩:=DataW.trod_string ht hx;have hmax:s.size<=9223372036854775807:=hw;exact ⟨[.str _],⟨_,_,rfl,⟨_,rfl,by simpa using hmax,fun b hb=>by
      obtain ⟨c,_,rfl⟩:=mem_map.1 hb;exact c.toNat_lt⟩,rfl⟩,.cons (.str rfl) .nil⟩
   . rename_i e ht
     split at h
     . rename_i m hm
       split at h
       . rename_i hc
         simp only [Option.some.injEq] at h;subst h;rcases open_slice ht hx with ⟨rfl,_⟩ | ⟨a,len,cap,m',n,D,Pl,rfl,_,hle,hmax,hm',_,hel⟩
         . exact ⟨[.ps .unk []],⟨_,_,rfl,⟨[],rfl,by simp,by simp⟩,rfl⟩,.cons (.psnil trivial) .nil⟩
         . simp only [if_true] at hm';subst hm';by_cases h0:m'=0
           . subst h0;have:len=0:=by omega
             subst this;exact ⟨[.ps .unk []],⟨_,_,rfl,⟨[],rfl,by simp,by simp⟩,rfl⟩,.cons (.psz trivial) .nil⟩
           . have hspot:a.spot=none:=by
              obtain ⟨cs',h1,_⟩:=hel 0 (by omega);obtain ⟨_,h2,h3⟩:=World.cells?_some h1;have h4:=h3 0 (by omega);have h5:cs'[0]? = some cs'[0]:=getElem?_eq_getElem (by omega);rw [h5] at h4;simpa [Addr.add] using World.cell?_spot h4
             obtain ⟨b,o,sp⟩:=a;simp only at hspot;subst hspot;obtain ⟨rows,vals,r1,r2,r3,r4,r5⟩:=PK (w:=w) (l:=m) (b:=b) (o:=o) (sz:=P.cellsOf e) hc.1 len (fun i hi=>by
              obtain ⟨cs',h1,h2⟩:=hel i (by omega);obtain ⟨_,h3,h4⟩:=World.cells?_some h1;refine ⟨cs',h3,fun j v hj => ?_,ih _ _ hm _ _ _ h2⟩;have hjl:j < P.cellsOf e:=by rw [<- h3];exact (List.getElem?_eq_some_iff.1 hj).1
              have h5:=h4 j hjl;rw [hj,show ((⟨b,o,none⟩:Addr).add (i * P.cellsOf e))=⟨b,o+i * P.cellsOf e,none⟩ from Go.Sim.addr_add rfl _,show ((⟨b,o+i * P.cellsOf e,none⟩:Addr).add j)=⟨b,o+i * P.cellsOf e+j,none⟩ from Go.Sim.addr_add rfl _] at h5
              exact h5)
             subst r1;refine ⟨[.ps .unk rows],⟨_,_,rfl,⟨rows,rfl,Nat.le_trans hle hmax,r2⟩,rfl⟩,.cons (.ps (sz:=P.cellsOf e) vals (fun r hr=>by rw [Sh.hasAll_length (r2 r hr),hc.1]) r3.1 r5 r3.2 hle trivial) .nil⟩
       . cases h
     . cases h
   . rename_i fs ht
     split at h
     . rename_i m hm
       split at h
       . rename_i hc
         simp only [Option.some.injEq] at h;subst h;obtain ⟨xs,n,_,_,hl,hxl,hf⟩:=DataW.trod_struct ht hx;have:=PJ (enc:=enc) (P:=P) (w:=w) (base:=base) (held:=held) (n:=n) (fun t l h cs x hx=>ih t l h n cs x hx) (cs:=cs) fs.toList 0 m hm (fun f hf'=>by
          obtain ⟨i,hi,rfl⟩:=mem_iff_getElem.1 hf';have hi':i < fs.size:=by simpa using hi
          have h1:=hf i fs[i] (by simp [hi']);exact ⟨xs[i],by rw [getElem?_eq_getElem (by omega)] at h1;simpa using h1⟩) (by omega)
         simpa using this
       . cases h
     . cases h
   . rename_i n e ht
     split at h
     . rename_i m hm
       split at h
       . rename_i hc
         simp only [Option.some.injEq] at h;subst h;obtain ⟨f',hlen,hel⟩:=PL ht hx;have:=BF (w:=w) (l:=m) (ce:=P.cellsOf e) (n:=n) hc.1 cs (by rw [hlen,<- hc.2,hc.1]) (fun i hi=>by
          obtain ⟨y,hy⟩:=hel i hi;exact ih _ _ hm _ _ _ hy) n (Nat.le_refl _)
         simpa using this
       . cases h
     . cases h
   . cases h
theorem BG {s:Sh} {r:Reach} {b0:Nat} {v:Value} {d:DataW H} {p:List MemPlace} (hs:JZ P k t=some [s]) (ha:aggOf P t=some false) (hok:Value.okWide P w r b0 t v)
 (h:DataW.Trod enc P w base (fun _=>true) held t v d p):∃ a,s.has a/\VRel (XB w) 0 a v:=by
 obtain ⟨fuel,hx⟩:=h;obtain ⟨avs,h1,h2⟩:=PM k t _ hs fuel _ _ hx;simp only [Sh.hasAll] at h1;obtain ⟨a,_,rfl,h1,rfl⟩:=h1;have hone:v.cells.toList=[v]:=by
  cases v with
  | agg cs =>
    exfalso;unfold Value.okWide Cell.okWide Cell.ok at hok;unfold aggOf at ha;cases hd:P.underlying t with
    | none=>rw [hd] at ha;cases ha
    | some d=>rw [hd] at ha hok;cases d<;>simp at ha hok
  | _=>rfl
 rw [hone] at h2;exact ⟨a,h1,h2.head⟩
end
theorem PN {W:World} (hg:∀ x cs,C.glob x=some cs -> ∃ vals,Zb (XB W) 0 cs vals/\(∀ (i:Nat) v,vals[i]? = some v->W.cell? ⟨x,i,none⟩=some v) /\
 ∃ c e fz,W.heap[x]? = some (.cells c e fz)/\c.size=cs.length):Rel C (XB W) .empty W where
 blk:=fun id h=>absurd h (not_lt_zero id)
 out:=fun _ _=>rfl
 lt:=fun id h=>absurd h (not_lt_zero id)
 inj:=fun i _ h=>absurd h (not_lt_zero i)
 know:=fun _ _ _ h=>h
 apart:=fun id h=>absurd h (not_lt_zero id)
 glob:=fun x cs h=>by
  obtain ⟨vals,h1,h2,_⟩:=hg x cs h;exact ⟨vals,h1,h2⟩
 gsz:=fun x cs h=>by
  obtain ⟨vals,_,_,h3⟩:=hg x cs h;exact ⟨h3,fun ⟨id,hid,_⟩=>absurd hid (not_lt_zero id)⟩
def BH (W:World) (e:Ending) (W':World):Prop :=
 e=.returned (.bool true)/\W'.os=W.os/\W'.output=W.output /\ ∀ b,b < W.heap.size->W'.heap[b]? = W.heap[b]?
theorem PO {avs:List AV} (h:Za C lo f avs .empty (.bool true) H') {W:World} (hR:Rel C (XB W) .empty W) {args:Array Value} (ha:Zb (XB W) 0 avs args.toList) :
 Calls C.P f args W (BH W):=by
 have:=callsIn_wide.1 (h.2 (XB W) W args.toList hR ha);simp only [Array.toArray_toList] at this;refine this.mono fun e W' hp => ?_
 unfold Qe at hp;split at hp
 . obtain ⟨g',h1,h2,h3⟩:=hp;cases h3;exact ⟨rfl,h2.os,h2.output,fun b hb=>h2.frame b hb fun ⟨id,hid,_⟩=>absurd hid (not_lt_zero id)⟩
 . exact hp.elim
section
variable {H:Type} {enc:TypeId × Value->H} {P:Program}
theorem PP (hl:laidOutB P=true) {W:World} {sp:Nat->Bool} (hh:∀ b,b < W.heap.size->W'.heap[b]? = W.heap[b]?) :
 ∀ {ts:List TypeId} {vs:List Value} {ds:List (DataW H)} {ps:List MemPlace},(∀ t ∈ ts,P.readableRec t=true/\t < P.types.size)->DataW.TrodAll enc P W 0 (fun _=>true) true ts vs ds ps ->
   (∀ p ∈ ps,p.block < W.heap.size)->(∀ p ∈ ps,sp p.block=true)->DataW.TrodAll enc P W' 0 sp true ts vs ds ps:=by
 intro ts
 induction ts with
 | nil =>
   intro vs ds ps _ h _ _;obtain ⟨rfl,rfl,rfl⟩:=trodAll_nil h;exact trodAll_mk0
 | cons t ts ih =>
   intro vs ds ps hr h hlt hs;obtain ⟨v,vs1,d,ds1,a,b,rfl,rfl,rfl,h1,h2⟩:=trodAll_cons h;refine ⟨a,b,WideElems.Trod_stays hl (hr t (by simp)).1 (hr t (by simp)).2 h1 (fun x hx => ?_) (fun x hx=>hs x (by simp [hx])),ih (fun t' ht'=>hr t' (by simp [ht'])) h2 (fun p hp=>hlt p (by simp [hp])) (fun p hp=>hs p (by simp [hp])),rfl⟩;have hb:=hh x.block (hlt x (by simp [hx]));cases x with
   | cell b off =>
     show W'.cell? ⟨b,off,none⟩=W.cell? ⟨b,off,none⟩;simp only [MemPlace.block] at hb;unfold World.cell?;simp only [hb]
   | map b=>exact hb
theorem PQ {f:Func} {s:ChangeSpec} {tb:TypeId} {W:World} {args:Array Value} {ds gs:List (DataW H)} {before:List MemPlace} {e:Ending} (hl:laidOutB P=true)
 (hr:(f.params.toList.all fun t=>P.readableRec t && decide (t < P.types.size))=true) (hres:f.resultTypes = #[tb]) (htb:P.underlying tb=some .bool) (hvars:s.vars=[])
 (hspec:s.fn H (ds++gs)={ results:=[.lit (.bool true)],args:=ds }) (hW:DataW.Whole enc P f.params.toList s.vars false W args.toList ds gs before) (h:BH W e W') :
 ∃ v,e=.returned v/\s.post enc P f false true false false W args v W':=by
 obtain ⟨rfl,hos,hout,hh⟩:=h;refine ⟨_,rfl, ?_⟩;have hlt:=fun p hp=>hW.lt p hp
 have hW':=hW;obtain ⟨p,q,hA,hV,rfl,hfz,hnd⟩:=hW;rw [hvars] at hV;obtain ⟨rfl,rfl⟩:=trodVars_none hV;simp only [append_nil] at hlt;refine ⟨ds,[],p++[],[],p,[],hW', ?_, ?_, ?_, ?_,fun h=>by cases h⟩
 . rw [hspec,hres];exact trodAll_cons_mk (shut_bool htb true) trodAll_mk0
 . rw [hspec];exact PP hl hh (fun t ht=>by simpa using all_eq_true.1 hr t ht) hA hlt (fun x hx=>by simpa using hlt x hx)
 . rw [hspec,hvars];rfl
 . refine ⟨hos,hout,fun i hi => ?_⟩;rw [hh i hi];split
   . rename_i c t fr c' t' fr' h1 h2
     rw [h1] at h2;cases h2;exact ⟨rfl,rfl,rfl,fun _ _=>rfl⟩
   . rename_i es clock es' clock' h1 h2
     rw [h1] at h2;cases h2;exact .inr ⟨rfl,rfl⟩
   . rfl
theorem BI {W:World}:∀ {laid:List (String × DataW Unit)} {ps:List MemPlace},DataW.LaidVars P W laid ps -> ∀ {n:String} {d:DataW Unit},(n,d) ∈ laid ->
 ∃ g t cs fuel p,P.globalNamed n=some g/\(P.globals[g]?).map (·.type)=some t/\W.var? P n=some cs/\DataW.trod (fun _=>()) P W 0 (fun _=>true) false fuel t cs.toList=some (d,p)
 | [],_,_,_,_,hm=>by cases hm
 | (n',d')::r,_,h,n,d,hm=>by
   obtain ⟨g,t,cs,fuel,p,q,h1,h2,h3,h4,h5,_⟩:=h;rcases mem_cons.1 hm with e | e
   . cases e;exact ⟨g,t,cs,fuel,p,h1,h2,h3,h4⟩
   . exact BI h5 e
def U4:DataW Unit->Option AV
 | .lit (.bool b)=>some (.bool b)
 | .lit (.int k n)=>some (.int k n)
 | .lit (.string s)=>some (.str (s.map UInt8.toNat))
 | _=>none
def U5:List (DataW Unit)->Option (List AV)
 | []=>some []
 | d::r=>match U4 d,U5 r with
   | some a,some l=>some (a::l)
   | _,_=>none
theorem BJ:∀ {ds:List (DataW Unit)} {l:List AV},U5 ds=some l->l.length=ds.length /\ ∀ (i:Nat) d,ds[i]? = some d->U4 d=l[i]?
 | [],_,h=>by cases h;simp
 | d::r,l,h=>by
   unfold U5 at h;split at h
   . rename_i a m h1 h2
     simp only [Option.some.injEq] at h;subst h;obtain ⟨h3,h4⟩:=BJ h2;refine ⟨by simp [h3],fun i d' hd => ?_⟩;cases i with
     | zero=>simp at hd;subst hd;simpa using h1
     | succ i=>simpa using h4 i d' (by simpa using hd)
   . cases h
theorem PR {W:World} {ds:List (DataW Unit)} {p:List MemPlace} {base:Nat} {held:Bool} (ht:P.underlying t=some (.array n e)) (hce:P.cellsOf e=1) (hct:P.cellsOf t=n)
 (he:(match P.underlying e with | some .bool | some (.int _) | some .string=>true | _=>false)=true) (h:DataW.trod (fun _=>()) P W base (fun _=>true) held fuel t cs=some (.agg ds,p)) (hl:U5 ds=some l) :
 Zb (XB W) 0 l cs:=by
 obtain ⟨xs,m,_,hx,hcl,hxl,hi⟩:=DataW.trod_array ht h;simp only [Prod.mk.injEq,DataW.agg.injEq] at hx;obtain ⟨rfl,_⟩:=hx;obtain ⟨l1,l2⟩:=BJ hl;refine ⟨by simp at l1;omega,fun i a v ha hv => ?_⟩;have hil:i < n:=by rw [<- hxl];have:=(List.getElem?_eq_some_iff.1 ha).1;simp at l1;omega
 have hx1:=hi i hil;have hxi:xs[i]? = some xs[i]:=getElem?_eq_getElem (by omega);rw [hxi,hce,mul_one] at hx1;have hcs:(cs.drop i).take 1=[v]:=by
  rw [take_one,head?_drop,hv];rfl
 rw [hcs] at hx1;have hd:=l2 i xs[i].1 (by simp [hxi]);rw [ha] at hd;split at he
 . rename_i hu
   obtain ⟨b,h1,h2⟩:=DataW.trod_bool hu hx1;rw [h2] at hd;simp only [U4,Option.some.injEq] at hd;simp only [List.cons.injEq,and_true] at h1;subst hd h1;exact .bool b
 . rename_i k hu
   obtain ⟨b,h1,h2,_⟩:=DataW.trod_int hu hx1;rw [h2] at hd;simp only [U4,Option.some.injEq] at hd;simp only [List.cons.injEq,and_true] at h1;subst hd h1;exact .int k b
 . rename_i hu
   obtain ⟨b,h1,h2,_⟩:=DataW.trod_string hu hx1;rw [h2] at hd;simp only [U4,Option.some.injEq] at hd;simp only [List.cons.injEq,and_true] at h1;subst hd h1;exact .str rfl
 . cases he
theorem PS {W:World} {laid:List (String × DataW Unit)} (hL:laidMet P laid W) {name:String} {ds:List (DataW Unit)} {x:Nat} (hm:(name,DataW.agg ds) ∈ laid) (hx:P.globalNamed name=some x)
 (hty:(P.globals[x]?).map (·.type)=some t) (ht:P.underlying t=some (.array n e)) (hce:P.cellsOf e=1) (hct:P.cellsOf t=n)
 (he:(match P.underlying e with | some .bool | some (.int _) | some .string=>true | _=>false)=true) (hl:U5 ds=some l) :
 ∃ vals,Zb (XB W) 0 l vals/\(∀ (i:Nat) v,vals[i]? = some v->W.cell? ⟨x,i,none⟩=some v) /\ ∃ c e fz,W.heap[x]? = some (.cells c e fz)/\c.size=l.length:=by
 obtain ⟨ps,hV,_⟩:=hL;obtain ⟨g,t',cs,fuel,p,h1,h2,h3,h4⟩:=BI hV hm;obtain rfl:=Option.some.inj (hx.symm.trans h1);obtain rfl:=Option.some.inj (hty.symm.trans h2);have hr:=PR ht hce hct he h4 hl;unfold World.var? at h3;rw [hx] at h3;simp only [bind_some] at h3;split at h3
 . rename_i cs' e' fz hc
   simp only [Option.some.injEq] at h3;subst h3;refine ⟨cs'.toList,hr,fun i v hv => ?_,cs',e',fz,hc, ?_⟩
   . unfold World.cell?;simp only [hc];simpa using hv
   . have:=hr.1;simp at this;omega
 . cases h3
end
end Go.Sim

namespace Go.Sim
variable {C:Cfg} {g:Gh} {n:Nat} {H:Heap} {w:World} {P:PF}
def Vd (lo:Nat):Heap->List AV->Option (List AV × Heap)
 | H,[]=>some ([],H)
 | H,v::r=>match QI lo H v with
   | some (v',H1)=>match Vd lo H1 r with
     | some (l,H2)=>some (v'::l,H2)
     | none=>none
   | none=>none
def U6 (lo:Nat) (H:Heap):AV->Option (AV × Heap)
 | .agg cs=>match Vd lo H cs with
   | some (l,H')=>some (.agg l,H')
   | none=>none
 | v=>QI lo H v
def U7 (lo:Nat):Heap->List AV->Option (List AV × Heap)
 | H,[]=>some ([],H)
 | H,v::r=>match U6 lo H v with
   | some (v',H1)=>match U7 lo H1 r with
     | some (l,H2)=>some (v'::l,H2)
     | none=>none
   | none=>none
def KB (lo:Nat) (H:Heap):AV->Option (AV × Heap)
 | .tup vs=>match U7 lo H vs with
   | some (l,H')=>some (.tup l,H')
   | none=>none
 | v=>U6 lo H v
theorem BK {lo:Nat}:∀ {vs:List AV} {g:Gh} {H H':Heap} {vs':List AV} {cvs:List Value},Rel C g H w->Vd lo H vs=some (vs',H')->Zb g H.n vs cvs -> ∃ g',Rel C g' H' w/\Ext lo g H w g' H' w/\Zb g' H'.n vs' cvs
 | [],g,H,H',vs',cvs,hR,h,hv=>by
   simp [Vd] at h;obtain ⟨rfl,rfl⟩:=h;exact ⟨g,hR,.refl _ _ _ _,hv⟩
 | v::r,g,H,H',vs',cvs,hR,h,hv=>by
   obtain ⟨cv,m,rfl,h1,h2⟩:=hv.cons_left;unfold Vd at h;split at h
   . rename_i v' H1 hf
     split at h
     . rename_i l H2 hl
       simp at h;obtain ⟨rfl,rfl⟩:=h;obtain ⟨g1,r1,r2,r3⟩:=Fa hR hf h1;obtain ⟨g2,q1,q2,q3⟩:=BK r1 hl (Zb.mono h2 r2.n r2.le);exact ⟨g2,q1,r2.trans q2,.cons (r3.mono q2.n q2.le) q3⟩
     . cases h
   . cases h
theorem BL (hR:Rel C g H w) (h:U6 lo H v=some (v',H')) (hv:VRel g H.n v cv):ZI C lo g H w v' H' cv w:=by
 unfold U6 at h;split at h
 . split at h
   . rename_i l H2 hl
     simp at h;obtain ⟨rfl,rfl⟩:=h;obtain ⟨vs,rfl,h1⟩:=hv.inv_agg;obtain ⟨g',r1,r2,r3⟩:=BK hR hl h1;exact ⟨g',r1,r2,.agg r3.1 r3.2⟩
   . cases h
 . exact Fa hR h hv
theorem BM {lo:Nat}:∀ {vs:List AV} {g:Gh} {H H':Heap} {vs':List AV} {cvs:List Value},Rel C g H w->U7 lo H vs=some (vs',H')->Zb g H.n vs cvs -> ∃ g',Rel C g' H' w/\Ext lo g H w g' H' w/\Zb g' H'.n vs' cvs
 | [],g,H,H',vs',cvs,hR,h,hv=>by
   simp [U7] at h;obtain ⟨rfl,rfl⟩:=h;exact ⟨g,hR,.refl _ _ _ _,hv⟩
 | v::r,g,H,H',vs',cvs,hR,h,hv=>by
   obtain ⟨cv,m,rfl,h1,h2⟩:=hv.cons_left;unfold U7 at h;split at h
   . rename_i v' H1 hf
     split at h
     . rename_i l H2 hl
       simp at h;obtain ⟨rfl,rfl⟩:=h;obtain ⟨g1,r1,r2,r3⟩:=BL hR hf h1;obtain ⟨g2,q1,q2,q3⟩:=BM r1 hl (Zb.mono h2 r2.n r2.le);exact ⟨g2,q1,r2.trans q2,.cons (r3.mono q2.n q2.le) q3⟩
     . cases h
   . cases h
theorem PU (hR:Rel C g H w) (h:KB lo H v=some (v',H')) (hv:VRel g H.n v cv):ZI C lo g H w v' H' cv w:=by
 unfold KB at h;split at h
 . split at h
   . rename_i l H2 hl
     simp at h;obtain ⟨rfl,rfl⟩:=h;obtain ⟨vs,rfl,h1⟩:=hv.inv_tup;obtain ⟨g',r1,r2,r3⟩:=BM hR hl h1;exact ⟨g',r1,r2,.tup r3.1 r3.2⟩
   . cases h
 . exact BL hR h hv
theorem BN (Sa:Sane C) {o:Out} {v2:AV} {H2:Heap} (h:run C k (.call 0 f args .empty)=some o) (hp:YH args=true) (hf:KB 0 o.s.H o.val=some (v2,H2)) (hv:v2.strip.pure=true) (lo:Nat) (H:Heap) :
 Za C lo f args H v2.strip H:=by
 have hs:=run_ok Sa k _ _ h (Nat.le_refl 0);refine ⟨hs.1,fun g w cargs hR ha => ?_⟩;have hR0:Rel C g .empty w:=⟨fun id hid=>by simp [Heap.empty] at hid,fun id _=>rfl,fun id hid=>by simp [Heap.empty] at hid,fun i j hi=>by simp [Heap.empty] at hi,hR.know,fun id hid=>by simp [Heap.empty] at hid,hR.glob,
  fun x cs hx=>⟨(hR.gsz x cs hx).1,fun ⟨id,hid,_⟩=>by simp [Heap.empty] at hid⟩⟩
 have hpa:∀ a ∈ args,a.pure=true:=by
  clear h hs ha
  induction args with
  | nil=>intro a ha;simp at ha
  | cons x r ih =>
    simp only [YH,and_eq_true] at hp;intro a ha;rcases mem_cons.1 ha with rfl | ha
    . exact hp.1
    . exact ih hp.2 a ha
 have ha0:Zb g 0 args cargs:=⟨ha.1,fun i a v h1 h2=>(ha.2 i a v h1 h2).pure (hpa a (mem_of_getElem? h1))⟩;refine (hs.2 g w cargs hR0 ha0).mono fun e w' hpost => ?_
 obtain ⟨cv,rfl,g',r1,r2,r3⟩:=hpost.returned;obtain ⟨g2,q1,q2,q3⟩:=PU r1 hf r3;have r2':Ext (Heap.empty).n g .empty w g2 H2 w':=r2.trans q2;obtain ⟨b1,b2⟩:=hR0.back_call q1 r2' 0;obtain ⟨j1,j2,j3⟩:=hR.join (Hk:=.empty) (zero_le _) (fun id hid=>by simp [Heap.empty] at hid) b1 b2 lo;exact ⟨_,j1,j2,j3 _ _ (q3.strip.pure hv)⟩
theorem PX (Sa:Sane C) (hP:PrimsOk C P) {fn:Func} {c:Code} {rs:List ResultVar} (hg:C.good f=true) (hf:C.P.funcs[f]? = some fn) (hb:fn.body=some c) (hr:fn.results=rs.toArray) (hp:YH args=true) (hv:v.pure=true)
 (h:W (C.withPrims P) 0 f false c (XR args 0 .leaf) .empty [] (Ky (C.withPrims P) rs fun v' H'=>∃ v2 H2,KB 0 H' v'=some (v2,H2)/\v2.strip=v)) (lo:Nat) (H:Heap):Za C lo f args H v H:=by
 obtain ⟨v',H',h1,v2,H2,h2,h3⟩:=Zd (C:=C.withPrims P) hg hf hb hr h;obtain ⟨k,hk⟩:=(JU (C.withPrims P)).1 h1;have:=BN (Sa.withPrims hP) hk hp (v2:=v2) (H2:=H2) h2 (by rw [h3];exact hv) lo H;rw [h3] at this;exact (Qj hP).1 this
end Go.Sim

namespace Go.Sim
variable {C:Cfg} {g g':Gh} {H H1 H2:Heap} {w w':World}
theorem BO (hn:H1.n=H2.n) (hg:∀ id,id < H1.n->H1.get id=H2.get id) (h:Own g H2 b):Own g H1 b:=by
 obtain ⟨id,h1,h2,h3⟩:=h;have h1':id < H1.n:=by rw [hn];exact h1
 exact ⟨id,h1',by rw [hg id h1'];exact h2,h3⟩
theorem PY (hn:H1.n=H2.n) (hg:∀ id,id < H1.n->H1.get id=H2.get id) (ho:∀ id,H2.n<=id->H2.get id=.dead) (h:Rel C g H1 w):Rel C g H2 w:=by
 have e:∀ {id},id < H2.n->id < H1.n/\H2.get id=H1.get id:=fun {id} hi=>have h1:id < H1.n:=by rw [hn];exact hi
  ⟨h1,(hg id h1).symm⟩
 exact ⟨fun id hid=>by rw [(e hid).2,<- hn];exact h.blk id (e hid).1,ho,fun id hid hl=>h.lt id (e hid).1 (by rw [<- (e hid).2];exact hl),fun i j hi hj hl hm=>h.inj i j (e hi).1 (e hj).1 (by rw [<- (e hi).2];exact hl) (by rw [<- (e hj).2];exact hm),h.know,
  fun id hid hl=>h.apart id (e hid).1 (by rw [<- (e hid).2];exact hl),h.glob,fun x cs hx=>⟨(h.gsz x cs hx).1,fun ho=>(h.gsz x cs hx).2 (BO hn hg ho)⟩⟩
theorem Za.congr (hn:H1.n=H2.n) (hg:∀ id,id < H1.n->H1.get id=H2.get id) (ho:(∀ id,H.n<=id->H.get id=.dead) -> ∀ id,H2.n<=id->H2.get id=.dead) (h:Za C lo f args H v H1):Za C lo f args H v H2 :=
 ⟨h.1,fun g w cargs hR ha=>(h.2 g w cargs hR ha).mono fun e w' hp=>by
   obtain ⟨cv,rfl,g',r1,r2,r3⟩:=hp.returned;refine ⟨g',PY hn hg (ho hR.out) r1,⟨r2.le,by rw [<- hn];exact r2.n,fun id h1 h2=>by rw [<- hg id (lt_of_lt_of_le h1 r2.n)];exact r2.keep id h1 h2,fun b hb=>r2.own b (BO hn hg hb),r2.newK,r2.frame,r2.size,r2.os,r2.output,r2.tape⟩,by rw [<- hn];exact r3⟩⟩
theorem BP (Sa:Sane C) (hlo:lo<=H.n) (h:R C (.call lo f args H)=some (.ofVal v H')):Za C lo f args H v H':=by
 obtain ⟨k,hk⟩:=(JU C).1 h;exact run_ok Sa k _ _ hk hlo
def kOk (C:Cfg) (fuel:Nat) (k:Known):Bool:=((run C fuel (.call 0 k.f k.args .empty)).bind fun o=>(KB 0 o.s.H o.val).map fun x=>x.1.strip.beq k.v) == some true && (YH k.args && k.v.pure)
theorem PZ (Sa:Sane C) {k:Known} (h:kOk C fuel k=true):∀ lo H,Za C lo k.f k.args H k.v H:=by
 intro lo H;unfold kOk at h;simp only [and_eq_true,beq_iff_eq] at h;obtain ⟨h,hp,hv⟩:=h;cases hr:run C fuel (.call 0 k.f k.args .empty) with
 | none=>rw [hr] at h;simp at h
 | some o =>
   rw [hr] at h;simp only [bind_some] at h;cases hf:KB 0 o.s.H o.val with
   | none=>rw [hf] at h;simp at h
   | some x =>
     obtain ⟨v2,H2⟩:=x;rw [hf] at h;simp only [map_some,Option.some.injEq] at h;have he:=AV.beq_eq h;have:=BN Sa hr hp hf (by rw [he];exact hv) lo H
     rwa [he] at this
def Gb:List (FuncId × List Known)->FuncId->List AV->Option AV
 | [],_,_=>none
 | x::r,f,args=>cond (Nat.beq x.1 f) (U0 x.2 f args) (Gb r f args)
def K8 (C:Cfg) (g:List (FuncId × List Known)):Prop:=∀ x ∈ g,∀ k ∈ x.2,∀ lo H,Za C lo k.f k.args H k.v H
theorem BQ:∀ {g:List (FuncId × List Known)},K8 C g -> ∀ f args v,Gb g f args=some v -> ∀ lo H,Za C lo f args H v H
 | [],_,f,args,v,h=>by cases h
 | x::r,hg,f,args,v,h=>by
   unfold Gb at h;cases hc:Nat.beq x.1 f with
   | false=>rw [hc] at h;exact BQ (fun y hy=>hg y (mem_cons_of_mem _ hy)) f args v h
   | true=>rw [hc] at h;exact MX (hg x (mem_cons_self ..)) f args v h
abbrev Born:=FuncId->Option (List AV->Heap->Option (AV × Heap))
def Cfg.closed (C:Cfg) (P:PF) (b:Born) (g:List (FuncId × List Known)):Cfg:=(C.withPrims P).withMB (Gb g) b
theorem R0 {P:PF} {b:Born} (Sa:Sane C) (hP:PrimsOk C P) (hb:∀ f p args H v H',b f=some p->p args H=some (v,H')->Za C H.n f args H v H') {g:List (FuncId × List Known)} (hg:K8 C g) {l:List Known} (h:l.all (kOk (C.closed P b g) fuel)=true):∀ k ∈ l,∀ lo H,Za C lo k.f k.args H k.v H:=fun k hk lo H =>
 (Qj hP).1 ((VY _ _).1 (PZ ((Sa.withPrims hP).withMB _ b (fun f args v h lo H=>(Qj hP).2 (BQ hg f args v h lo H)) fun f p args H v H' h1 h2=>(Qj hP).2 (hb f p args H v H' h1 h2)) (all_eq_true.1 h k hk) lo H))
end Go.Sim
