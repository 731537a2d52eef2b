/-
Lemmas of one proof, the texts SimOps14 to SimBack joined.
-/
import Derived.Test.YtlooccmcmeofhaaGreatDoorT05
import Derived.RangeFuncRecord
import Derived.MapKept
import Derived.Laws.BytesString
set_option linter.unusedSimpArgs false
set_option linter.unusedVariables false
set_option maxRecDepth 100000
set_option maxHeartbeats 32000000
noncomputable section
open Go
open Bool (and_eq_true)
open List (all_eq_true append_assoc flatten_cons foldl_cons getD_eq_getElem?_getD getElem?_eq_getElem getElem?_map getElem?_set length_eq_zero_iff map_append map_cons map_nil mem_cons mem_map take_append_drop zip_cons_cons)
open Nat (add_sub_cancel' lt_of_lt_of_le lt_or_ge mul_one sub_zero succ_mul zero_le)
variable {H':Go.Sim.Heap} {a b cv cx:Go.Value} {clock id lo n' pos r sz:Nat} {d s:Go.TypeId} {g':Go.Sim.Gh} {v x y:Go.Sim.AV} {w':Go.World}

namespace Go.Sim
variable {C:Cfg} {P:Program} {g:Gh} {n:Nat} {H:Heap} {w:World}
theorem M6 {es:Array MapEntry} (hb:w.heap[r]? = some (.map es clock)):(getObj r).run P w=.ok (.map es clock) w:=by simp [getObj,Sem.run,hb]
theorem AC {es:Array MapEntry} {o:Obj} (hb:w.heap[r]? = some (.map es clock)):(setObj r o).run P w=.ok () (w.putObj r o):=by simp [setObj,Sem.run,hb,World.putObj]
theorem AD {bs:ByteArray} (hb:w.heap[r]? = some (.stringIter bs pos)):(getObj r).run P w=.ok (.stringIter bs pos) w:=by simp [getObj,Sem.run,hb]
theorem M7 {bs:ByteArray} {o:Obj} (hb:w.heap[r]? = some (.stringIter bs pos)):(setObj r o).run P w=.ok () (w.putObj r o):=by simp [setObj,Sem.run,hb,World.putObj]
theorem Rel.freeze (hR:Rel C g H w) (hlo:lo<=id) (hid:id < H.n) (hl:(H.get id).live=true) (Kn:Nat->Option Value)
 (hKn:∀ o v,Kn o=some v->w.cell? ⟨(g.L id).b,o,none⟩=some v) (hKo:∀ o v,g.K (g.L id).b o=some v->Kn o=some v) :
 Rel C { g with K:=fun b' o=>if b'=(g.L id).b then Kn o else g.K b' o } (H.set id .dead) w /\
 Ext lo g H w { g with K:=fun b' o=>if b'=(g.L id).b then Kn o else g.K b' o } (H.set id .dead) w:=by
 have hle:Gh.le H.n g { g with K:=fun b' o=>if b'=(g.L id).b then Kn o else g.K b' o } :=
  ⟨fun _ _=>rfl,fun b o v hk=>by
    simp only [];split
    . rename_i e;subst e;exact hKo o v hk
    . exact hk⟩
 have hget:∀ j,j ≠ id->(H.set id .dead).get j=H.get j:=fun j hj=>by rw [Heap.get_set,if_neg hj]
 have hgeti:(H.set id .dead).get id=.dead:=by rw [Heap.get_set,if_pos rfl]
 have side:∀ j,((H.set id .dead).get j).live=true->j ≠ id/\(H.get j).live=true:=fun j hj=>by
  by_cases e:j=id
  . subst e;rw [hgeti] at hj;simp [ABlk.live] at hj
  . rw [hget j e] at hj;exact ⟨e,hj⟩
 refine Kt (fun hE=>⟨?_, ?_, ?_, ?_, ?_, ?_, ?_,hR.gsz_ext hE⟩) ?_
 . intro j hj;by_cases e:j=id
   . subst e;rw [hgeti];trivial
   . rw [hget j e];exact (hR.blk j hj).mono (Nat.le_refl _) hle rfl
 . intro j hj;simp only [Heap.n_set] at hj;rw [hget j (by omega)];exact hR.out j hj
 . intro j hj hlv;exact hR.lt j hj (side j hlv).2
 . intro i j hi hj hli hlj hne;exact hR.inj i j hi hj (side i hli).2 (side j hlj).2 hne
 . intro b o v hk;simp only [] at hk;split at hk
   . rename_i e;subst e;exact hKn o v hk
   . exact hR.know b o v hk
 . intro j hj hlv o v hk;obtain ⟨hne,hlv'⟩:=side j hlv;simp only [] at hk;rw [if_neg (hR.inj j id hj hid hlv' hl hne)] at hk;exact hR.apart j hj hlv' o v hk
 . intro x cs hx;obtain ⟨vals,h4,h5⟩:=hR.glob x cs hx;exact ⟨vals,h4.mono (Nat.le_refl _) (hle.mono (zero_le _)),fun i v hi=>hle.K _ _ _ (h5 i v hi)⟩
 . refine ⟨hle,by simp,fun j _ hj2=>hget j (by omega), ?_, ?_,fun _ _ _=>rfl,Nat.le_refl _,rfl,rfl,rfl⟩
   . rintro b ⟨j,hj,hlv,rfl⟩;exact .inl ⟨j,hj,(side j hlv).2,rfl⟩
   . intro b o v hk;simp only [] at hk;split at hk
     . rename_i e;exact .inr (.inl ⟨id,hid,hl,e.symm⟩)
     . exact .inl hk
theorem AE:∀ (m:Nat) (cs:List AV) (rx:List (List AV)),XY sz m cs=some rx->rx.length=m/\(∀ r ∈ rx,r.length=sz)/\(cs.length=m * sz->rx.flatten=cs):=by
 intro m
 induction m with
 | zero=>intro cs rx h;simp [XY] at h;subst h;exact ⟨rfl,by simp,fun h=>by simp at h;simp [h]⟩
 | succ m ih =>
   intro cs rx h;unfold XY at h;split at h
   . rename_i hle
     split at h
     . rename_i l hl
       simp at h;subst h;obtain ⟨h1,h2,h3⟩:=ih _ _ hl;refine ⟨by simp [h1],fun r hr => ?_,fun hlen => ?_⟩
       . rcases mem_cons.1 hr with rfl | hr
         . simp;omega
         . exact h2 r hr
       . simp only [flatten_cons];rw [h3 (by simp [hlen,succ_mul]),take_append_drop]
     . cases h
   . cases h
theorem Fa (hR:Rel C g H w) {r:AV} (h:QI lo H v=some (r,H')) (hv:VRel g H.n v cv):ZI C lo g H w r H' cv w:=by
 unfold QI at h;split at h
 . rename_i id off k sz cap
   split at h
   . rename_i hlo
     split at h
     . rename_i cs hcs
       split at h
       . rename_i rows hrows
         split at h
         . rename_i hpure
           simp at h;obtain ⟨rfl,rfl⟩:=h;cases hv with
           | @rs _ _ _ _ _ c _ hid hlen hcap =>
             obtain ⟨ad,vs,had,hsp,hvs,hat,hlen2⟩:=UI hR hcs (VRel.ptr (off:=off) hid);simp at had;subst had;obtain ⟨h1,h2,h3⟩:=AE _ _ _ hrows;have hfl:=h3 hlen2;have hl:(H.get id).live=true:=by
              unfold YB at hcs;simp only [] at hcs;split at hcs
              . rename_i cs0 hb;exact A8 hb
              . cases hcs
             have hrel:Zb g 0 (rows.map (List.map AV.strip0)).flatten vs:=Ay (by rw [hfl];exact hvs) hpure;obtain ⟨f1,f2⟩:=hR.freeze (of_decide_eq_true hlo) hid hl (fun o=>match g.K (g.L id).b o with | some v=>some v | none=>Q2 vs ((g.L id).o+off) o) (fun o v hk=>by
              split at hk
              . rename_i v' hv'
                simp at hk;subst hk;exact hR.know _ _ _ hv'
              . unfold Q2 at hk;split at hk
                . rename_i hge
                  have:=hat _ v hk;simpa [add_sub_cancel' hge] using this
                . cases hk) (fun o v hk=>by simp [hk])
             refine ⟨_,f1,f2, ?_⟩;have hlr:(rows.map (List.map AV.strip0)).length=k:=by simp [h1]
             have hlr2:=hlr.symm;subst hlr2;refine .ps (sz:=sz) vs ?_ hrel.1 (fun i v hi => ?_) (fun i c v hc hvv=>(hrel.2 i c v hc hvv).any f2.le.K) (by simpa using hlen) trivial
             . intro r hr;obtain ⟨r0,hr0,rfl⟩:=mem_map.1 hr;simpa using h2 r0 hr0
             . show (if (g.L id).b=(g.L id).b then _ else _)=_
               rw [if_pos rfl];have hnone:g.K (g.L id).b ((g.L id).o+off+i)=none:=by
                cases hg:g.K (g.L id).b ((g.L id).o+off+i) with
                | none=>rfl
                | some u =>
                  have:=hR.apart id hid hl _ u hg;omega
               rw [hnone];exact F5 _ hi
         . cases h
       . cases h
     . cases h
   . cases h
 . simp at h;obtain ⟨rfl,rfl⟩:=h;exact ZI.same hR hv
theorem AF {kt:TypeId} {k k' v:AV}:∀ {es:List (AV × AV)} {j i:Nat},X6 P kt k es j=some (some (i,k',v))->j<=i/\es[i - j]? = some (k',v)
 | [],j,i,h=>by simp [X6] at h
 | (k0,v0)::es,j,i,h=>by
   unfold X6 at h;split at h
   . simp at h;obtain ⟨rfl,rfl,rfl⟩:=h;exact ⟨Nat.le_refl _,by simp⟩
   . obtain ⟨h1,h2⟩:=AF h;refine ⟨by omega, ?_⟩;rw [show i - j=i - (j+1)+1 by omega];simpa using h2
   . cases h
theorem M8 {a b:Int} (h:eqI a b=true):a=b:=by
 rw [VJ] at h;simpa using h
theorem AG (h:Uz x y=true) (hx:VRel g n x a) (hy:VRel g n y b):a=b /\ ∀ k,Instr.sameBits k a a=true:=by
 unfold Uz at h;split at h
 . cases hx;cases hy;simp at h;subst h;exact ⟨rfl,fun k=>by cases k<;>simp [Instr.sameBits]⟩
 . cases hx;cases hy;simp only [and_eq_true] at h;have h1:=UJ h.1;have h2:=M8 h.2;subst h1 h2;exact ⟨rfl,fun k=>by cases k<;>simp [Instr.sameBits]⟩
 . cases hx with
   | str hx =>
   cases hy with
   | str hy =>
   rw [JP] at h;have h:=eq_of_beq h;subst hx hy;have:=Ae h;subst this;exact ⟨rfl,fun k=>by cases k<;>simp [Instr.sameBits,MapKept.bytes_beq]⟩
 . cases h
theorem AH : ∀ {xs ys : List AV} {as bs : List Value}, UA xs ys = true → Zb g n xs as → Zb g n ys bs → as = bs ∧ ∀ k, ∀ p ∈ as.zip as, Instr.sameBits k p.1 p.2 = true
  | [], [], as, bs, _, hx, hy => by rw [hx.nil_left, hy.nil_left]; exact ⟨rfl, by simp⟩
  | x :: xs, y :: ys, as, bs, h, hx, hy => by
    obtain ⟨a, as', rfl, h1, h2⟩ := hx.cons_left
    obtain ⟨b, bs', rfl, h3, h4⟩ := hy.cons_left
    simp only [UA, and_eq_true] at h
    obtain ⟨e1, e2⟩ := AG h.1 h1 h3
    obtain ⟨e3, e4⟩ := AH h.2 h2 h4
    subst e1 e3
    refine ⟨rfl, fun k p hp => ?_⟩
    simp only [zip_cons_cons, mem_cons] at hp
    rcases hp with rfl | hp
    · exact e2 k
    · exact e4 k p hp
  | [], _ :: _, _, _, h, _, _ => by cases h
  | _ :: _, [], _, _, h, _, _ => by cases h
theorem M9 (h : GH x y = true) (hx : VRel g n x a) (hy : VRel g n y b) : a = b ∧ ∀ k, Instr.sameBits (k + 1) a a = true := by
  unfold GH at h
  split at h
  · obtain ⟨as, rfl, h1⟩ := hx.inv_agg
    obtain ⟨bs, rfl, h2⟩ := hy.inv_agg
    obtain ⟨e1, e2⟩ := AH h h1 h2
    subst e1
    refine ⟨rfl, fun k => ?_⟩
    simp only [Instr.sameBits, beq_self_eq_true, Bool.true_and, all_eq_true]
    intro p hp
    exact e2 k p hp
  · obtain ⟨e1, e2⟩ := AG h hx hy
    exact ⟨e1, fun k => e2 _⟩
theorem AI {α:Type} (f:α->α):∀ (l:List α) (i:Nat) (a:α),l[i]? = some a->l.modify i f=l.set i (f a)
 | [],i,a,h=>by simp at h
 | x::l,0,a,h=>by simp at h;subst h;simp
 | x::l,i+1,a,h=>by
   have:=AI f l i a (by simpa using h);simp [this]
theorem Ma {α β:Type} {R:α->β->Prop} {l:List α} {m:List β} (h:Zh R l m) (i:Nat) {a:α} {b:β} (hab:R a b):Zh R (l.set i a) (m.set i b) :=
 ⟨by simp [h.1],fun j x y hx hy=>by
   rw [getElem?_set] at hx hy;split at hx
   . rename_i e;subst e
     split at hx
     . rename_i hlt
       rw [if_pos rfl,if_pos (by rw [<- h.1];exact hlt)] at hy;simp at hx hy;subst hx hy;exact hab
     . cases hx
   . rename_i e
     rw [if_neg e] at hy;exact h.2 j x y hx hy⟩
theorem Rel.putMap (hR:Rel C g H w) (hlo:lo<=id) (hid:id < H.n) {es es':List (AV × AV)} (he:H.get id=.map es) {ents:Array MapEntry} {clk:Nat} (hall:Zh (Kv g H.n) es' ents.toList) :
 Rel C g (H.set id (.map es')) (w.putObj (g.L id).b (.map ents clk))/\Ext lo g H w g (H.set id (.map es')) (w.putObj (g.L id).b (.map ents clk)):=by
 obtain ⟨ents0,clk0,hb0,_⟩:=UL hR he hid;have hlt:(g.L id).b < w.heap.size:=(Array.getElem?_eq_some_iff.1 hb0).1;have hnew:(w.putObj (g.L id).b (.map ents clk)).heap[(g.L id).b]? = some (.map ents clk):=by
  simp [World.putObj,hlt]
 refine hR.upd hlo hid (by rw [he];rfl) (fun b hb => ?_) (by simp [World.putObj]) rfl rfl rfl ⟨ents,clk,hnew,hall⟩ (fun o v hk => ?_)
 . simp only [World.putObj];rw [Array.getElem?_setIfInBounds_ne (Ne.symm hb)]
 . have:=hR.know _ _ _ hk;unfold World.cell? at this;simp [hb0] at this
theorem AJ (hR:Rel C g H w) {t:TypeId} {m k:AV} (h:Q1 P lo H t m k v=some H') {cm ck:Value} (hm:VRel g H.n m cm) (hk:VRel g H.n k ck) (hv:VRel g H.n v cv) :
 ∃ w',(Instr.mapUpdate t cm ck cv).run P w=.ok () w'/\ZI C lo g H w Y9 H' Go.undef w':=by
 unfold Q1 at h;split at h
 . rename_i kt et id ht
   split at h
   . rename_i hc
     simp only [and_eq_true,decide_eq_true_eq] at hc;obtain ⟨hok,hlo⟩:=hc;have hok':=An hok;cases hm with
     | map hid =>
     have hchk:=Ak (P:=P) (w:=w) 10000 100 kt k k ck false (by omega) hok' hk;split at h
     . rename_i es he
       obtain ⟨ents,clk,hb,hall⟩:=UL hR he hid;have hget:=M6 (P:=P) hb;split at h
       . rename_i i k' v' hf
         split at h
         . rename_i hfl
           simp at h;subst h;obtain ⟨cr,h1,h2⟩:=UN (w:=w) hk hf hall hok';cases cr with
           | none=>exact h2.elim
           | some p =>
             obtain ⟨j,cv'⟩:=p;obtain ⟨rfl,_⟩:=h2;obtain ⟨_,hgi⟩:=AF hf;simp only [sub_zero] at hgi;obtain ⟨me,hme,hr1,hr2⟩:=Zh.get hall hgi;obtain ⟨e1,e2⟩:=M9 hfl hr1 hk;have hme':ents[i]? = some me:=by simpa using hme
             have hlt:i < ents.size:=(Array.getElem?_eq_some_iff.1 hme').1;have hmod:(ents.modify i fun e=>{ e with key:=ck,val:=cv }).toList=ents.toList.set i { me with key:=ck,val:=cv }:=by
              rw [Array.toList_modify];exact AI _ _ _ _ hme
             obtain ⟨p1,p2⟩:=hR.putMap hlo hid he (ents:=ents.modify i fun e=>{ e with key:=ck,val:=cv }) (clk:=clk) (by rw [hmod];exact Ma hall i (a:=(k,v.strip)) (b:={ me with key:=ck,val:=cv }) ⟨hk,hv.strip⟩)
             refine ⟨_, ?_,g,p1,p2,VRel.undef⟩;subst e1;unfold Instr.mapUpdate;simp [Zm ht,hget,hchk,h1,hme',Instr.keyThatStays,e2 9999,AC hb]
         . cases h
       . rename_i hf
         simp at h;subst h;obtain ⟨cr,h1,h2⟩:=UN (w:=w) hk hf hall hok';cases cr with
         | some p=>exact h2.elim
         | none =>
           obtain ⟨p1,p2⟩:=hR.putMap hlo hid he (ents:=ents.push { key:=ck,val:=cv,born:=clk }) (clk:=clk+1) (by
            rw [Array.toList_push];exact Zh.append hall (.cons (a:=(k,v.strip)) (b:=({ key:=ck,val:=cv,born:=clk }:MapEntry)) (R:=Kv g H.n) (⟨hk,hv.strip⟩:Kv g H.n (k,v.strip) { key:=ck,val:=cv,born:=clk }) .nil))
           refine ⟨_, ?_,g,p1,p2,VRel.undef⟩;unfold Instr.mapUpdate;simp [Zm ht,hget,hchk,h1,AC hb]
       . cases h
     . cases h
   . cases h
 . cases h
theorem Mb {bs:ByteArray} {s:List Nat} (hs:bs.data.toList.map UInt8.toNat=s) (i:Nat):Utf8.decode bs i=Qs s i:=by
 have hsz:=JQ hs;have hget:∀ k,(bs.get! k).toNat=s.getD k 0:=fun k=>by
  subst hs;rw [getD_eq_getElem?_getD,getElem?_map,Array.getElem?_toList];show (bs.data[k]!).toNat=_;rw [getElem!_def];cases bs.data[k]? <;> rfl
 unfold Utf8.decode Qs;simp only [hget,hsz]
theorem Mc (hR:Rel C g H w) {it r:AV} {isString:Bool} (h:VF lo H it isString=some (r,H')) {ci:Value} (hi:VRel g H.n it ci) (ty:TypeId) :
 ∃ cv w',(Instr.next ci isString ty).run P w=.ok cv w'/\ZI C lo g H w r H' cv w':=by
 unfold VF at h;split at h
 . rename_i id
   split at h
   . rename_i s pos hs
     split at h
     . rename_i hstr
       subst hstr;cases hi with
       | ptr hid =>
       have hblk:=hR.blk id hid;rw [hs] at hblk;obtain ⟨h0,bs,hb,hbs⟩:=hblk;have hlt:(g.L id).b < w.heap.size:=(Array.getElem?_eq_some_iff.1 hb).1;have hsz:=JQ hbs;split at h
       . rename_i hpos
         split at h
         . rename_i hlo
           simp at h;obtain ⟨rfl,rfl⟩:=h;have hupd:=hR.upd (lo:=lo) (w':=w.putObj (g.L id).b (.stringIter bs (pos+(Qs s pos).2))) (b':=.sit s (pos+(Qs s pos).2)) hlo hid (by rw [hs];rfl)
            (fun b hb=>World.putObj_heap_other hb) World.putObj_size rfl rfl rfl ⟨h0,bs,World.putObj_heap_same hlt,hbs⟩ (fun o v hk=>by
              have:=hR.know _ _ _ hk;unfold World.cell? at this;simp [hb] at this)
           refine ⟨.tuple #[.bool true,goInt pos,.int .i32 (Qs s pos).1],_, ?_,g,hupd.1,hupd.2, ?_⟩
           . unfold Instr.next;have:pos < bs.size:=by omega
             simp [h0,AD hb,this,M7 hb,Mb hbs]
           . exact VRel.tupOf (vs:=[.bool true,goInt pos,.int .i32 (Qs s pos).1]) (.cons (.bool _) (.cons (.int _ _) (.cons (.int _ _) .nil)))
         . cases h
       . rename_i hpos
         simp at h;obtain ⟨rfl,rfl⟩:=h;refine ⟨.tuple #[.bool false],w, ?_,ZI.same hR (VRel.tupOf (vs:=[.bool false]) (.cons (.bool _) .nil))⟩;unfold Instr.next;have:¬ pos < bs.size:=by omega
         simp [h0,AD hb,this]
     . cases h
   . cases h
 . cases h
theorem AK:∀ {rows:List (List AV)} {l:List Nat},KY rows=some l->rows.flatten=l.map (fun n=>AV.int .u8 (Int.ofNat n)) /\ ∀ n ∈ l,n < 256
 | [],l,h=>by simp [KY] at h;subst h;simp
 | r::rs,l,h=>by
   unfold KY at h;split at h
   . rename_i heq;cases heq
   . rename_i n r' heq
     simp only [List.cons.injEq] at heq;obtain ⟨rfl,rfl⟩:=heq;split at h
     . rename_i hn
       split at h
       . rename_i l' hl'
         simp at h;subst h;obtain ⟨h1,h2⟩:=AK hl';refine ⟨by simp [h1],fun m hm => ?_⟩;rcases mem_cons.1 hm with rfl | hm
         . exact hn
         . exact h2 m hm
       . cases h
     . cases h
   . cases h
theorem AL {g:Gh} {n:Nat}:∀ {l:List Nat} {vals:List Value},Zb g n (l.map fun n=>AV.int .u8 (Int.ofNat n)) vals->vals=(l.map fun n=>(Int.ofNat n)).map (Value.int .u8)
 | [],vals,h=>by
   have:=h.1;simp at this;rw [length_eq_zero_iff.1 this.symm];rfl
 | c::l,vals,h=>by
   rw [map_cons] at h;obtain ⟨cv,m,rfl,h1,h2⟩:=h.cons_left;cases h1;rw [AL h2];rfl
theorem AM:∀ (l:List Nat) (b:ByteArray),(∀ n ∈ l,n < 256)->((l.map fun n=>(Int.ofNat n)).foldl (fun r n=>r.push (UInt8.ofNat n.toNat)) b).data.toList.map UInt8.toNat=b.data.toList.map UInt8.toNat++l
 | [],b,_=>by simp
 | c::l,b,h=>by
   have hc:=h c (by simp);rw [map_cons,foldl_cons,AM l _ (fun n hn=>h n (by simp [hn]))];have e:(b.push (UInt8.ofNat (Int.ofNat c).toNat)).data.toList=b.data.toList++[UInt8.ofNat c]:=by
    simp [ByteArray.push]
   rw [e,map_append,map_cons,map_nil,append_assoc];have e2:(UInt8.ofNat c).toNat=c:=by simp [UInt8.toNat_ofNat'];omega
   rw [e2];rfl
theorem Md (hR:Rel C g H w) {r:AV} (h:GM P H s d x=some r) (hx:VRel g H.n x cx):∃ cr,(Go.convert s d cx).run P w=.ok cr w/\VRel g H.n r cr:=by
 unfold GM at h;split at h
 case h_2=>cases h
 rename_i e hs hd
 split at h
 . cases h
 . rename_i x he hne
   split at h
   case h_2=>cases h
   rename_i rows hrows
   split at h
   case h_2=>cases h
   rename_i l hl
   simp at h;subst h;obtain ⟨vals,hread,hv,hlen⟩:=F6 (P:=P) hR hrows hx;obtain ⟨hf,hb⟩:=AK hl;rw [hf] at hv;have hvals:=AL hv;obtain ⟨r1,r2⟩:=hread w rfl;have hsl:(∃ c,cx=.slice none 0 c/\l=[]) \/ ∃ a n c,cx=.slice (some a) n c:=by
    unfold XZ at hrows;cases hx with
    | ps vals'=>exact .inr ⟨_,_,_,rfl⟩
    | psnil hm =>
      refine .inl ⟨_,rfl, ?_⟩;simp at hrows;subst hrows;simp [KY] at hl;exact hl
    | psz hm=>exact .inr ⟨_,_,_,rfl⟩
    | rs=>exact .inr ⟨_,_,_,rfl⟩
    | str hh=>exact (hne _ rfl).elim
    | _=>cases hrows
   rcases hsl with ⟨c,rfl,rfl⟩ | ⟨a,n,c,rfl⟩
   . refine ⟨.string .empty, ?_,.str rfl⟩;rw [run_convert_bytes_string w s d e none 0 c hs he hd];simp [Conv.bytesToString,Sem.run_pure]
   . simp [Builtin.lenOf] at r1;simp only [Builtin.firstCells] at r2;rw [hvals,mul_one] at r2;have hn:n=rows.length:=r1;subst hn;refine ⟨_, ?_,.str (AM l .empty hb)⟩;rw [run_convert_bytes_string w s d e (some a) rows.length c hs he hd];exact run_bytesToString w a rows.length c _ r2
 . cases h
theorem Me (hR:Rel C g H w) {r:AV} (h:UB P H s d x=some r) (hx:VRel g H.n x cx):∃ cr,(Go.convert s d cx).run P w=.ok cr w/\VRel g H.n r cr:=by
 unfold UB at h;split at h
 . exact Md hR h hx
 . exact Lx h hx
theorem QJ.scope {len b o cap:Nat} {tok:Tok} (h:∀ k,tok=.tok k->k < n) (h':QJ g n' len sz b o cap tok):QJ g n len sz b o cap tok:=by
 cases tok with
 | tok k=>exact ⟨h k rfl,h'.2⟩
 | _=>exact h'
theorem VRel.scope {a:AV} {v:Value} (h:VRel g n a v):∀ {g':Gh} {n':Nat} {v':Value},VRel g' n' a v'->VRel g' n a v':=by
 induction h with
 | bool b=>intro _ _ _ h;cases h;exact .bool b
 | int k i=>intro _ _ _ h;cases h;exact .int k i
 | flt k b=>intro _ _ _ h;cases h;exact .flt k b
 | str _=>intro _ _ _ h;cases h with | str h=>exact .str h
 | nilp=>intro _ _ _ h;cases h;exact .nilp
 | ptr hid=>intro _ _ _ h;cases h;exact .ptr hid
 | pptr vals hl hk hv _=>intro _ _ _ h;cases h with | pptr vals hl hk hv=>exact .pptr vals hl hk hv
 | ps vals hsz hl hk hv hcap htok _ =>
   intro _ _ _ h;cases h with
   | ps vals' hsz' hl' hk' hv' hcap' htok' =>
     refine .ps vals' hsz' hl' hk' hv' hcap' (QJ.scope (fun k hk => ?_) htok');subst hk;exact htok.1
   | psnil hm=>exact .psnil hm
   | psz hm=>exact .psz hm
 | psz hm =>
   intro _ _ _ h;cases h with
   | ps vals' hsz' hl' hk' hv' hcap' htok' =>
     refine .ps vals' hsz' hl' hk' hv' hcap' (QJ.scope (fun k hk => ?_) htok');subst hk;exact hm.elim
   | psnil hm=>exact .psnil hm
   | psz hm=>exact .psz hm
 | psnil hm =>
   intro _ _ _ h;cases h with
   | ps vals' hsz' hl' hk' hv' hcap' htok' =>
     refine .ps vals' hsz' hl' hk' hv' hcap' (QJ.scope (fun k hk => ?_) htok');subst hk;exact hm.elim
   | psnil hm=>exact .psnil hm
   | psz hm=>exact .psz hm
 | rs hid _ _=>intro _ _ _ h;cases h with | rs _ h1 h2=>exact .rs hid h1 h2
 | nilm=>intro _ _ _ h;cases h;exact .nilm
 | map hid=>intro _ _ _ h;cases h;exact .map hid
 | fn hl hl' hf hc ihf ihc =>
   intro _ _ _ h;cases h with
   | fn hl2 hl2' hf2 hc2 =>
     refine .fn hl2 hl2' (fun i c v h1 h2 => ?_) fun i c v h1 h2 => ?_
     . have hlt:=(List.getElem?_eq_some_iff.1 h1).1;exact ihf i c _ h1 (getElem?_eq_getElem (by omega)) (hf2 i c v h1 h2)
     . have hlt:=(List.getElem?_eq_some_iff.1 h1).1;exact ihc i c _ h1 (getElem?_eq_getElem (by omega)) (hc2 i c v h1 h2)
 | yld hid=>intro _ _ _ h;cases h;exact .yld hid
 | nilf=>intro _ _ _ h;cases h;exact .nilf
 | nili=>intro _ _ _ h;cases h;exact .nili
 | agg hl hv ih =>
   intro _ _ _ h;obtain ⟨vs,rfl,h2⟩:=h.inv_agg;refine .agg h2.1 fun i c v h3 h4 => ?_
   have hlt:=(List.getElem?_eq_some_iff.1 h3).1;exact ih i c _ h3 (getElem?_eq_getElem (by omega)) (h2.2 i c v h3 h4)
 | tup hl hv ih =>
   intro _ _ _ h;obtain ⟨vs,rfl,h2⟩:=h.inv_tup;refine .tup h2.1 fun i c v h3 h4 => ?_
   have hlt:=(List.getElem?_eq_some_iff.1 h3).1;exact ih i c _ h3 (getElem?_eq_getElem (by omega)) (h2.2 i c v h3 h4)
theorem Yj.scope {l l':Loc} {b:ABlk} (h:Yj C g n w l b) (h':Yj C g' n' w' l' b) (hg:Gh.le n g g'):Yj C g' n w' l' b:=by
 have cells:∀ cs,X7 g n w l cs->X7 g' n' w' l' cs->X7 g' n w' l' cs:=by
  intro cs h h';obtain ⟨⟨c,e,fz,h1,h2,h3⟩,h4⟩:=h;obtain ⟨⟨c',e',fz',h1',h2',h3'⟩,h4'⟩:=h';refine ⟨⟨c',e',fz',h1',fun i a hi => ?_,h3'⟩,h4'⟩;obtain ⟨v,_,hr⟩:=h2 i a hi;obtain ⟨v',hv',hr'⟩:=h2' i a hi;exact ⟨v',hv',hr.scope hr'⟩
 cases b with
 | dead=>trivial
 | cells cs e=>exact ⟨cells cs h.1 h'.1,h'.2⟩
 | row cs sz e=>exact ⟨cells cs h.1 h'.1,h'.2⟩
 | map es =>
   obtain ⟨ents,clk,h1,h2⟩:=h;obtain ⟨ents',clk',h1',h2'⟩:=h';refine ⟨ents',clk',h1',h2'.1,fun i p m hp hm => ?_⟩;obtain ⟨m0,_,hr⟩:=Zh.get h2 hp;obtain ⟨r1,r2⟩:=h2'.2 i p m hp hm;exact ⟨hr.1.scope r1,hr.2.scope r2⟩
 | loop r =>
   obtain ⟨c,h1,h2,h4,h5,h6,h7,h8,h9,h10,h11,h12,h13,h14⟩:=h;obtain ⟨c',k1,k2,k4,k5,k6,k7,k8,k9,k10,k11,k12,k13,k14⟩:=h';exact ⟨c',k1,k2,k4,fun t=>(h5 t).scope (k5 t),k6,k7,k8,k9,h10,k11,k12,k13,k14⟩
 | defr=>exact h'
 | sit s pos=>exact h'
theorem Rel.back (hR:Rel C g H w) (hR':Rel C g' H' w') (hle:Gh.le H.n g g') (hn:H.n<=H'.n) (hget:∀ id,id < H.n->H'.get id=H.get id):Rel C g' H w' where
 blk:=fun id hid=>by
  have h1:=hR.blk id hid;have h2:=hR'.blk id (by omega);rw [hget id hid] at h2;exact h1.scope h2 hle
 out:=hR.out
 lt:=fun id hid hl=>hR'.lt id (by omega) (by rw [hget id hid];exact hl)
 inj:=fun i j hi hj hli hlj hne=>hR'.inj i j (by omega) (by omega) (by rw [hget i hi];exact hli) (by rw [hget j hj];exact hlj) hne
 know:=hR'.know
 apart:=fun id hid hl=>hR'.apart id (by omega) (by rw [hget id hid];exact hl)
 glob:=hR'.glob
 gsz:=fun x cs hx=>let ⟨h1,h2⟩:=hR'.gsz x cs hx;⟨h1,fun ⟨id,hid,hl,e⟩=>h2 ⟨id,by omega,by rw [hget id hid];exact hl,e⟩⟩
theorem Ext.back (h:Ext H.n g H w g' H' w') (lo:Nat):Ext lo g H w g' H w' :=
 ⟨h.le,Nat.le_refl _,fun _ _ _=>rfl,fun b ⟨id,hid,hl,e⟩=>.inl ⟨id,hid,hl,by rw [<- h.le.L id hid];exact e⟩,h.newK,h.frame,h.size,h.os,h.output,h.tape⟩
theorem Rel.back_call (hR:Rel C g H w) (hR':Rel C g' H' w') (hE:Ext H.n g H w g' H' w') (lo:Nat):Rel C g' H w'/\Ext lo g H w g' H w' :=
 ⟨hR.back hR' hE.le hE.n fun id hid=>hE.keep id hid hid,hE.back lo⟩
theorem Rel.join {Hj Hk:Heap} (hj:Rel C g Hj w) (hn:Hk.n<=Hj.n) (hget:∀ id,id < Hk.n->Hj.get id=Hk.get id) (hR':Rel C g' Hk w') (hE:Ext lo g Hk w g' Hk w') (lo':Nat) :
 Rel C ⟨g.L,g'.K⟩ Hj w'/\Ext lo' g Hj w ⟨g.L,g'.K⟩ Hj w' /\ ∀ v cv,VRel g' Hk.n v cv->VRel ⟨g.L,g'.K⟩ Hj.n v cv:=by
 have hle1:Gh.le Hj.n g ⟨g.L,g'.K⟩:=⟨fun _ _=>rfl,hE.le.K⟩;have hle2:Gh.le Hk.n g' ⟨g.L,g'.K⟩:=⟨fun id hid=>(hE.le.L id hid).symm,fun _ _ _ h=>h⟩;have own:∀ id,id < Hj.n->Hk.n<=id->(Hj.get id).live=true -> ¬ Own g Hk (g.L id).b:=by
  rintro id hid hge hl ⟨j,hj',hlj,e⟩;exact hj.inj j id (by omega) hid (by rw [hget j hj'];exact hlj) hl (by omega) e
 refine Lm (fun hX=>⟨?_,hj.out, ?_,hj.inj,hR'.know, ?_, ?_,hj.gsz_ext hX⟩) ?_ (fun v cv h=>(h.mono (Nat.le_refl _) hle2).mono hn (.refl _ _))
 . intro id hid;rcases lt_or_ge id Hk.n with h | h
   . rw [hget id h];have:=hR'.blk id h;rw [hE.le.L id h] at this;exact this.mono hn hle2 rfl
   . cases hl:(Hj.get id).live with
     | true =>
       have hfr:=hE.frame _ (hj.lt id hid hl) (own id hid h hl);exact (hj.blk id hid).mono (Nat.le_refl _) hle1 hfr
     | false=>rw [Jj hl];trivial
 . intro id hid hl;exact lt_of_lt_of_le (hj.lt id hid hl) hE.size
 . intro id hid hl o v hk;rcases lt_or_ge id Hk.n with h | h
   . have:=hR'.apart id h (by rw [<- hget id h];exact hl) o v;rw [hE.le.L id h] at this;exact this hk
   . rcases hE.newK _ o v hk with h1 | h1 | h1
     . exact hj.apart id hid hl o v h1
     . exact absurd h1 (own id hid h hl)
     . exact absurd (hj.lt id hid hl) (by simp only [] at h1;omega)
 . intro x cs hx;obtain ⟨vals,h4,h5⟩:=hR'.glob x cs hx;exact ⟨vals,h4.mono (Nat.le_refl _) (hle2.mono (zero_le _)),h5⟩
 . refine ⟨hle1,Nat.le_refl _,fun _ _ _=>rfl,fun b h=>.inl h, ?_, ?_,hE.size,hE.os,hE.output,hE.tape⟩
   . intro b o v hk;rcases hE.newK b o v hk with h | ⟨id,hid,hl,e⟩ | h
     . exact .inl h
     . exact .inr (.inl ⟨id,by omega,by rw [hget id hid];exact hl,e⟩)
     . exact .inr (.inr h)
   . intro b hb hno;refine hE.frame b hb fun ⟨id,hid,hl,e⟩=>hno ⟨id,by omega,by rw [hget id hid];exact hl,e⟩
end Go.Sim
