/-
Lemmas of one proof, the texts SimView to SimView joined.
-/
import Derived.Test.YtlooccmcmeofhaaGreatDoorT06
import Derived.Below
set_option linter.unusedSimpArgs false
set_option linter.unusedVariables false
set_option maxRecDepth 100000
set_option maxHeartbeats 32000000
noncomputable section
open Go
open List (getElem?_eq_getElem)
open Nat (lt_of_lt_of_le)
variable {g2:Go.Sim.Gh}

namespace Go.Sim
open Go Go.RowKit
section
variable {C:Cfg} {g:Gh} {n:Nat} {H:Heap} {w:World}
theorem Rel.below (hR:Rel C g H w) {w':World} (h:Below w.heap.size w w') (lo:Nat):Rel C g H w'/\Ext lo g H w g H w':=by
 have hb:∀ b,b < w.heap.size->w'.heap[b]? = w.heap[b]?:=h.block;refine Kt (fun hE=>⟨fun id hid => ?_,hR.out,fun id hid hl=>lt_of_lt_of_le (hR.lt id hid hl) h.size,hR.inj,fun b o v hk=>(QY (hb b (JT hR hk))).trans (hR.know b o v hk),hR.apart,hR.glob,hR.gsz_ext hE⟩)
  ⟨.refl _ _,Nat.le_refl _,fun _ _ _=>rfl,fun _ h=>.inl h,fun _ _ _ h=>.inl h,fun b hb' _=>hb b hb',h.size,h.os,h.output,h.tape⟩
 cases hlv:(H.get id).live with
 | true=>exact (hR.blk id hid).mono (Nat.le_refl _) (.refl _ _) (hb _ (hR.lt id hid hlv))
 | false=>rw [Jj hlv];trivial
end
theorem UP {d:AV->Option AV}:∀ {cs l:List AV},YL d cs=some l->l.length=cs.length /\ ∀ (i:Nat) c,cs[i]? = some c -> ∃ x,l[i]? = some x/\d c=some x
 | [],l,h=>by
   simp [YL] at h;subst h;exact ⟨rfl,fun i c hc=>by simp at hc⟩
 | v::r,l,h=>by
   unfold YL at h;split at h
   . rename_i x hx
     split at h
     . rename_i l' hl'
       simp at h;subst h;obtain ⟨h1,h2⟩:=UP hl';refine ⟨by simp [h1],fun i c hc => ?_⟩;cases i with
       | zero=>simp at hc;subst hc;exact ⟨x,rfl,hx⟩
       | succ i=>simp at hc;simpa using h2 i c hc
     . cases h
   . cases h
section
variable {C:Cfg} {g:Gh} {H:Heap} {w:World}
theorem AN (hR:Rel C g H w) (hk:∀ b o v,g.K b o=some v->g2.K b o=some v)
 (ho:∀ id,id < H.n->(H.get id).live=true -> ∀ o v,w.cell? ⟨(g.L id).b,o,none⟩=some v->g2.K (g.L id).b o=some v) :
 ∀ (k:Nat) {v v':AV} {cv:Value},Ye k H v=some v'->VRel g H.n v cv->VRel g2 0 v' cv:=by
 intro k
 induction k with
 | zero=>intro v v' cv h;simp [Ye] at h
 | succ k ih =>
   intro v v' cv h hv;have each:∀ {cs l:List AV} {vs:List Value},YL (Ye k H) cs=some l->Zb g H.n cs vs->Zb g2 0 l vs:=fun {cs l vs} hd hr=>by
    obtain ⟨h1,h2⟩:=UP hd;refine ⟨h1.trans hr.1,fun i x u hx hu => ?_⟩;have hlt:i < cs.length:=by rw [<- h1];exact (List.getElem?_eq_some_iff.1 hx).1
    obtain ⟨y,hy,hd'⟩:=h2 i cs[i] (getElem?_eq_getElem hlt);rw [hx] at hy;cases hy;exact ih hd' (hr.2 i _ u (getElem?_eq_getElem hlt) hu)
   unfold Ye at h;split at h
   . rename_i id off n sz cap
     split at h
     . rename_i cs hcs
       split at h
       . rename_i cs' hcs'
         split at h
         . rename_i rows hrows
           simp at h;subst h;cases hv with
           | @rs _ _ _ _ _ c _ hid hlen hcap =>
             obtain ⟨ad,vs,had,hsp,hvs,hat,hlen2⟩:=UI hR hcs (VRel.ptr (off:=off) hid);simp at had;subst had;obtain ⟨h1,h2,h3⟩:=AE _ _ _ hrows;have hr:=each hcs' hvs;have hfl:=h3 ((UP hcs').1.trans hlen2);have hl:(H.get id).live=true:=by
              unfold YB at hcs;simp only [] at hcs;split at hcs
              . rename_i cs0 hb;exact A8 hb
              . cases hcs
             have hlr2:=h1.symm;subst hlr2;refine .ps (sz:=sz) vs h2 (by rw [hfl];exact hr.1) (fun i u hi=>ho id hid hl _ _ ?_) (fun i c' u hc hu => ?_) hlen trivial
             . have:=hat i u hi;simpa using this
             . rw [hfl] at hc;exact hr.2 i c' u hc hu
         . cases h
       . cases h
     . cases h
   . rename_i tok rows
     simp at h;subst h;cases hv with
     | ps vals hsz hl hk' hv hcap htok=>exact .ps vals hsz hl (fun i u hi=>hk _ _ _ (hk' i u hi)) (fun i c u hc hu=>(hv i c u hc hu).any hk) hcap trivial
     | psnil _=>exact .psnil trivial
     | psz _=>exact .psz trivial
   . rename_i cs
     split at h
     . rename_i l hl
       simp at h;subst h;obtain ⟨vs,rfl,h2⟩:=hv.inv_agg;have:=each hl h2;exact .agg this.1 this.2
     . cases h
   . rename_i cs
     split at h
     . rename_i l hl
       simp at h;subst h;obtain ⟨vs,rfl,h2⟩:=hv.inv_tup;have:=each hl h2;exact .tup this.1 this.2
     . cases h
   . simp at h;subst h;cases hv;exact .bool _
   . simp at h;subst h;cases hv;exact .int _ _
   . simp at h;subst h;cases hv with
     | str hs=>exact .str hs
   . cases h
theorem Mf (hR:Rel C g H w) (hk:∀ b o v,g.K b o=some v->g2.K b o=some v)
 (ho:∀ id,id < H.n->(H.get id).live=true -> ∀ o v,w.cell? ⟨(g.L id).b,o,none⟩=some v->g2.K (g.L id).b o=some v)
 (k:Nat) {cs l:List AV} {vs:List Value} (hd:YL (Ye k H) cs=some l) (hr:Zb g H.n cs vs):Zb g2 0 l vs:=by
 obtain ⟨h1,h2⟩:=UP hd;refine ⟨h1.trans hr.1,fun i x u hx hu => ?_⟩;have hlt:i < cs.length:=by rw [<- h1];exact (List.getElem?_eq_some_iff.1 hx).1
 obtain ⟨y,hy,hd'⟩:=h2 i cs[i] (getElem?_eq_getElem hlt);rw [hx] at hy;cases hy;exact AN hR hk ho k hd' (hr.2 i _ u (getElem?_eq_getElem hlt) hu)
theorem Rel.bare (hR:Rel C g H w) {C2:Cfg} (hG:C2.glob=C.glob) {K:Nat->Nat->Option Value} (hK:∀ b o v,g.K b o=some v->K b o=some v) (hK2:∀ b o v,K b o=some v->w.cell? ⟨b,o,none⟩=some v):Rel C2 ⟨g.L,K⟩ .empty w where
 blk:=fun id hid=>by simp [Heap.empty] at hid
 out:=fun _ _=>rfl
 lt:=fun id hid=>by simp [Heap.empty] at hid
 inj:=fun i j hi=>by simp [Heap.empty] at hi
 know:=hK2
 apart:=fun id hid=>by simp [Heap.empty] at hid
 glob:=fun x cs hx=>by
  rw [hG] at hx;obtain ⟨vals,h1,h2⟩:=hR.glob x cs hx;exact ⟨vals,h1.mono (Nat.le_refl _) ⟨fun _ _=>rfl,hK⟩,fun i v hi=>hK _ _ _ (h2 i v hi)⟩
 gsz:=fun x cs hx=>by
  rw [hG] at hx;exact ⟨(hR.gsz x cs hx).1,fun ⟨id,hid,_⟩=>by simp [Heap.empty] at hid⟩
theorem UQ {g:Gh} {b:Nat}:¬ Own g .empty b:=fun ⟨id,hid,_⟩=>by simp [Heap.empty] at hid
end
end Go.Sim
