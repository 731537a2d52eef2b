/-
The parts SimBuild of one proof, joined: each begins with a remark that says what it shows.
-/
import Derived.Test.YtepaopekeidlmaaGreatDoorT08
import Derived.Shelf.Strings.Builder1
set_option linter.unusedSimpArgs false
set_option linter.unusedVariables false

/-
Contracts of (*strings.Builder).copyCheck and String, for the abstract interpreter.
-/
set_option linter.unusedVariables false
namespace Go.Proofs
open Go.Shelf Go.RowKit
/-! ### unsafe.String anywhere in a row of bytes -/
theorem liesAt_at {P:Program} {e:TypeId} (hc:P.cellsOf e=1) (count o n:Nat) (hn:o+n≤count):liesAt P P.depth e count o e n=true:=by
 have hd:P.depth=(2 * (P.types.size+Made.depth)+1)+1:=rfl
 rw [hd]
 simp only [liesAt,Bool.or_eq_true]
 left
 rw [hd]
 simp [rowAt,hc,hn,sameLayout,Nat.mod_one]
theorem run_unsafeString_at {P:Program} (w:World) (pt it ty e:TypeId) (hp:P.underlying pt=some (.pointer e)) (hc:P.cellsOf e=1) (g o cells:Nat) (hsh:w.shape? g=some (e,cells)) (l:List UInt8) (h0:l ≠ []) (hn:o+l.length≤cells) (h63:l.length≤9223372036854775807)
 (hcell:∀ j x,l[j]? = some x→w.cell? ((⟨g,o,none⟩:Addr).add j)=some (.int .u8 x.toNat)) :
 (Builtin.unsafeString_ #[pt,it] ty #[.pointer (some ⟨g,o,none⟩),.int .i64 l.length]).run P w=.ok (.string ⟨l.toArray⟩) (w.freeze ⟨g,o,none⟩ l.length):=by
 have hl:l.length ≠ 0:=by simpa using h0
 have hlb:=Lib.run_loadBytes (P:=P) w l ⟨g,o,none⟩ .empty hcell
 have hlies:=liesAt_at (P:=P) hc (cells / P.cellsOf e) o l.length (by rw [hc];simpa using hn)
 have h63':¬ (9223372036854775807:Int) < (l.length:Int):=by omega
 have hdef:Builtin.unsafeString_ #[pt,it] ty #[.pointer (some ⟨g,o,none⟩),.int .i64 l.length] =
  (do
    let n ← asInt (.int .i64 l.length)
    if n < 0 then runtimePanic (.error "unsafe.String: len out of range")
    if n > IntKind.i64.max then unsupported (.unsafePointer "String: a length above the largest int")
    if n=0 then pure (.string .empty)
    else if ← variablesAt ⟨g,o,none⟩ (← elemOf pt) n.toNat then do
     let s ← loadBytes ⟨g,o,none⟩ .empty n.toNat
     freeze ⟨g,o,none⟩ n.toNat
     pure (.string s)
    else unsupported (.unsafePointer "String: not so many bytes at ptr")):=rfl
 rw [hdef]
 have hmax:IntKind.i64.max=9223372036854775807:=rfl
 have hneg:¬ (l.length:Int) < 0:=by omega
 simp [asInt,asIntOf,hmax,h63',hneg,hl,variablesAt,hsh,elemOf,run_underlying hp,hlies,hlb]
variable {P:Program} {ρ:Ren}
set_option maxHeartbeats 2000000 in
set_option maxRecDepth 100000 in
theorem Builder_String_at (L:Lays.n169 P ρ) (X:Builder.Extra P ρ) (b g o cap:Nat) (l:List UInt8) (w:World) (cur:Array Value) (fz:Nat × Nat)
 (hb1:w.cell? ⟨b,1,none⟩=some (.slice (some ⟨g,o,none⟩) l.length cap)) (hg:w.heap[g]? = some (.cells cur (ρ.t 5) fz)) (h0:l ≠ []) (hcap:l.length≤cap) (hsz:cur.size=o+cap) (h63:l.length≤9223372036854775807)
 (hcell:∀ j x,l[j]? = some x→w.cell? ⟨g,o+j,none⟩=some (.int .u8 x.toNat)) :
 Calls P (ρ.f 169) #[.pointer (some ⟨b,0,none⟩)] w fun e w'=>e=.returned (.string ⟨l.toArray⟩)∧w'=w.drew.freeze ⟨g,o,none⟩ l.length:=by
 have hl0:l.length ≠ 0:=by simpa using h0
 have c1:w.drew.cell? ⟨b,1,none⟩=some (.slice (some ⟨g,o,none⟩) l.length cap):=hb1
 have hSD:(Builtin.unsafeSliceData_ #[(ρ.t 37)] (ρ.t 127) #[.slice (some ⟨g,o,none⟩) l.length cap]).run P w.drew=.ok (.pointer (some ⟨g,o,none⟩)) w.drew :=
  Lib.run_unsafeSliceData_row _ _ _ _ _ _ (by omega)
 have hUS:(Builtin.unsafeString_ #[(ρ.t 127),(ρ.t 3)] (ρ.t 9) #[.pointer (some ⟨g,o,none⟩),.int .i64 l.length]).run P w.drew=.ok (.string ⟨l.toArray⟩) (w.drew.freeze ⟨g,o,none⟩ l.length):=by
  refine run_unsafeString_at w.drew (ρ.t 127) (ρ.t 3) (ρ.t 9) (ρ.t 5) L.t127 X.cellsByte g o cur.size (by have hg':w.drew.heap[g]? = some (.cells cur (ρ.t 5) fz):=hg;simp [World.shape?,hg']) l h0 (by omega) h63 ?_
  intro j x hx
  have:(⟨g,o,none⟩:Addr).add j=⟨g,o+j,none⟩:=by
   unfold Addr.add
   by_cases h:j=0<;>simp [h]
  rw [this]
  exact hcell j x hx
 clear hb1 hg hcell hcap hsz h63
 have mixed:=L.mixed
 have t72:=L.t72;have a72:=L.a72;have z72:=L.z72;have v72:=L.v72;have u72:=run_underlying L.t72
 have t70:=L.t70;have a70:=L.a70;have z70:=L.z70;have v70:=L.v70;have u70:=run_underlying L.t70
 have t37:=L.t37;have a37:=L.a37;have z37:=L.z37;have v37:=L.v37;have u37:=run_underlying L.t37
 have t127:=L.t127;have a127:=L.a127;have z127:=L.z127;have v127:=L.v127;have u127:=run_underlying L.t127
 have t3:=L.t3;have a3:=L.a3;have z3:=L.z3;have v3:=L.v3;have u3:=run_underlying L.t3
 have t9:=L.t9;have a9:=L.a9;have z9:=L.z9;have v9:=L.v9;have u9:=run_underlying L.t9
 have t5:=X.t5;have a5:=X.a5;have z5:=X.z5;have v5:=X.v5;have u5:=run_underlying X.t5
 go_enter L.f169,Body.n169_ntmps ρ
 go_wp2
 go_region_o
 all_goals (go_wp2;go_ret;exact ⟨rfl,rfl⟩)
set_option maxHeartbeats 2000000 in
set_option maxRecDepth 100000 in
theorem Builder_String_nil_at (L:Lays.n169 P ρ) (X:Builder.Extra P ρ) (b:Nat) (w:World) (hb1:w.cell? ⟨b,1,none⟩=some (.slice none 0 0)) :
 Calls P (ρ.f 169) #[.pointer (some ⟨b,0,none⟩)] w fun e w'=>e=.returned (.string ⟨#[]⟩)∧w'=w.drew:=by
 have hUS:=Any.unsafeString_none L X
 have c1:w.drew.cell? ⟨b,1,none⟩=some (.slice none 0 0):=hb1
 have hSD:(Builtin.unsafeSliceData_ #[(ρ.t 37)] (ρ.t 127) #[.slice none 0 0]).run P w.drew=.ok (.pointer none) w.drew:=rfl
 clear hb1
 have mixed:=L.mixed
 have t72:=L.t72;have a72:=L.a72;have z72:=L.z72;have v72:=L.v72;have u72:=run_underlying L.t72
 have t70:=L.t70;have a70:=L.a70;have z70:=L.z70;have v70:=L.v70;have u70:=run_underlying L.t70
 have t37:=L.t37;have a37:=L.a37;have z37:=L.z37;have v37:=L.v37;have u37:=run_underlying L.t37
 have t127:=L.t127;have a127:=L.a127;have z127:=L.z127;have v127:=L.v127;have u127:=run_underlying L.t127
 have t3:=L.t3;have a3:=L.a3;have z3:=L.z3;have v3:=L.v3;have u3:=run_underlying L.t3
 have t9:=L.t9;have a9:=L.a9;have z9:=L.z9;have v9:=L.v9;have u9:=run_underlying L.t9
 have t5:=X.t5;have a5:=X.a5;have z5:=X.z5;have v5:=X.v5;have u5:=run_underlying X.t5
 go_enter L.f169,Body.n169_ntmps ρ
 go_wp2
 go_region_o
 all_goals (go_wp2;go_ret;exact ⟨rfl,rfl⟩)
end Go.Proofs
namespace Go.Sim
open Go Go.Proofs Go.Shelf Go.RowKit
/-! ### What lies below -/
variable {P:Program} {ρ:Ren}
variable {C:Cfg} {g:Gh} {n:Nat} {H:Heap} {w:World}
theorem Rel.below (hR:Rel C g H w) {w':World} (h:Below w.heap.size w w') (lo:Nat):Rel C g H w'∧Ext lo g H w g H w':=by
 have hb:∀ b,b < w.heap.size→w'.heap[b]? = w.heap[b]?:=h.block
 refine rel_ext (fun hE=>⟨fun id hid => ?_,hR.out,fun id hid hl=>Nat.lt_of_lt_of_le (hR.lt id hid hl) h.size,hR.inj,fun b o v hk=>(cell_heap (hb b (know_lt hR hk))).trans (hR.know b o v hk),hR.apart,hR.glob,hR.gsz_ext hE⟩)
  ⟨.refl _ _,Nat.le_refl _,fun _ _ _=>rfl,fun _ h=>.inl h,fun _ _ _ h=>.inl h,fun b hb' _=>hb b hb',h.size,h.os,h.output,h.tape⟩
 cases hlv:(H.get id).live with
 | true=>exact (hR.blk id hid).mono (Nat.le_refl _) (.refl _ _) (hb _ (hR.lt id hid hlv))
 | false=>rw [dead_of hlv];trivial
theorem freeze_old {w:World} {a:Addr} {k b:Nat} (h:b ≠ a.block):(w.freeze a k).heap[b]? = w.heap[b]?:=by
 unfold World.freeze
 split
 · rfl
 · simp only [Array.getElem?_modify]
   rw [if_neg (Ne.symm h)]
theorem freeze_here {w:World} {b o k:Nat} {c:Array Value} {e:TypeId} {fz:Nat × Nat} (hk:k ≠ 0) (h:w.heap[b]? = some (.cells c e fz)) :
 (w.freeze ⟨b,o,none⟩ k).heap[b]? = some (.cells c e (if fz.1 == fz.2 then (o,o+k) else (min fz.1 o,max fz.2 (o+k)))):=by
 unfold World.freeze
 rw [if_neg hk]
 simp only [Array.getElem?_modify,h]
 simp
theorem Rel.frozen (hR:Rel C g H w) {k sz e:Nat} (hk:k < H.n) (hrow:H.get k=.row [] sz e) {o len:Nat} (hl:len ≠ 0) (ho:o+len≤(g.L k).o) (lo:Nat) :
 Rel C g H (w.freeze ⟨(g.L k).b,o,none⟩ len)∧Ext lo g H w g H (w.freeze ⟨(g.L k).b,o,none⟩ len):=by
 have hlive:(H.get k).live=true:=by rw [hrow];rfl
 have hblk:=hR.blk k hk
 rw [hrow] at hblk
 obtain ⟨⟨⟨_,_,_,_,_,hle⟩,hfree⟩,c,fz,hc,hcs,hfz⟩:=hblk
 have hnew:=freeze_here (o:=o) hl hc
 have hsize:(w.freeze ⟨(g.L k).b,o,none⟩ len).heap.size=w.heap.size:=by
  unfold World.freeze;rw [if_neg hl];simp
 have hcell:∀ a:Addr,(w.freeze ⟨(g.L k).b,o,none⟩ len).cell? a=w.cell? a:=by
  intro a
  by_cases h:a.block=(g.L k).b
  · unfold World.cell?
    rw [h,hnew,hc]
  · exact cell_heap (freeze_old h)
 refine rel_ext (fun hE=>⟨fun id hid => ?_,hR.out,fun id hid hl=>by rw [hsize];exact hR.lt id hid hl,hR.inj,fun b o v hk=>(hcell _).trans (hR.know b o v hk),hR.apart,hR.glob,hR.gsz_ext hE⟩)
  ⟨.refl _ _,Nat.le_refl _,fun _ _ _=>rfl,fun _ h=>.inl h,fun _ _ _ h=>.inl h,fun b hb hno=>freeze_old fun e=>hno ⟨k,hk,hlive,e.symm⟩,by rw [hsize];exact Nat.le_refl _, ?_, ?_, ?_⟩
 · cases hlv:(H.get id).live with
   | false=>rw [dead_of hlv];trivial
   | true =>
     by_cases e:id=k
     · subst e
       rw [hrow]
       refine ⟨⟨⟨c,_,_,hnew,fun i a hi=>by simp at hi,by
        rename_i c0 e0 fz0 h0 _
        rw [hc] at h0;simp at h0;obtain ⟨rfl,_⟩:=h0;simpa using hle⟩,fun x hx => ?_⟩,c,_,hnew,hcs, ?_⟩
       · have hx':=hfree x hx
         have hf:=hfree fz.1
         unfold World.frozen? at hx' hf ⊢
         simp only [hc] at hx' hf
         simp only [hnew]
         simp only [Bool.and_eq_false_iff,decide_eq_false_iff_not] at hx' hf ⊢
         split
         · right;omega
         · rename_i hne
           have hne':fz.1 ≠ fz.2:=by simpa using hne
           right
           simp only [Nat.max_def]
           split<;>omega
       · split
         · simp
         · simp only [Nat.max_def,Nat.min_def]
           split<;>split<;>omega
     · exact (hR.blk id hid).mono (Nat.le_refl _) (.refl _ _) (freeze_old (hR.inj id k hid hk hlv hlive e))
 · unfold World.freeze;rw [if_neg hl]
 · unfold World.freeze;rw [if_neg hl]
 · unfold World.freeze;rw [if_neg hl]
/-! ### The contracts -/
def hCopyCheck (T:TypeId) (lo:Nat) (args:List AV) (H:Heap):Option (AV × Heap) :=
 match args with
 | [.ptr id 0]=>match H.get id with
   | .cells [a,b] e=>if e=T then match a with
     | .nilp=>if lo≤id then some (.tup [],H.set id (.cells [.ptr id 0,b] e)) else none
     | .ptr i 0=>if i=id then some (.tup [],H) else none
     | _=>none else none
   | _=>none
 | _=>none
theorem copyCheck_ok (hP:C.P=P) (L:Lays.n240 P ρ) (X:Builder.X72 P ρ) (hcall:Callable P (ρ.f 240)) {lo:Nat} {args:List AV} {v:AV} {H':Heap}
 (h:hCopyCheck (ρ.t 72) lo args H=some (v,H')):CallOk C lo (ρ.f 240) args H v H':=by
 unfold hCopyCheck at h
 split at h
 · rename_i id
   split at h
   · rename_i a b e hcells
     split at h
     · rename_i he
       subst he
       split at h
       · split at h
         · rename_i hlo
           simp at h
           obtain ⟨rfl,rfl⟩:=h
           refine ⟨hP ▸ hcall,fun g w cargs hR ha => ?_⟩
           obtain ⟨cv,rfl,hv⟩:∃ cv,cargs=[cv]∧VRel g H.n (.ptr id 0) cv:=by
            have:=ha.1
            match cargs,this with
            | [cv],_=>exact ⟨cv,rfl,ha.2 0 _ _ rfl rfl⟩
           cases hv with
           | ptr hid =>
           have hblk:=hR.blk id hid
           rw [hcells] at hblk
           obtain ⟨⟨⟨c0,e0,fz0,h0,h1,h2⟩,hfree⟩,c,fz,hc,hcs,hz,hcsz⟩:=hblk
           rw [hc] at h0;simp at h0;obtain ⟨rfl,rfl,rfl⟩:=h0
           obtain ⟨v0,hv0,hr0⟩:=h1 0 _ rfl
           cases hr0
           rw [hP,callsIn_wide]
           have hcsz:c.size=2:=hcsz
           have hset:setBlk (H.get id) 0 [.ptr id 0]=some (.cells [.ptr id 0,b] (ρ.t 72)):=by rw [hcells];rfl
           obtain ⟨p1,p2,p3⟩:=hR.write (P:=P) (cv:=[.pointer (some ⟨(g.L id).b,0,none⟩)]) hlo hid hset (by
            refine .cons ?_ .nil
            have:=VRel.ptr (g:=g) (n:=H.n) (id:=id) (off:=0) hid
            rw [hz] at this;simpa using this) rfl 0 (o':=(g.L id).o+0) rfl
           have hrun:=Any.Builder_copyCheck_fresh L X (g.L id).b w (by unfold World.cell?;rw [hc];rw [hz] at hv0;simpa using hv0) (by unfold World.shape?;rw [hc];simp [hcsz]) (hfree 0 (by omega))
           rw [hz]
           refine hrun.mono ?_
           rintro e w' ⟨rfl,rfl⟩
           rw [hz] at p2 p3
           exact ⟨g,p2,p3,.tup rfl fun i c v hc=>by simp at hc⟩
         · cases h
       · rename_i i
         split at h
         · rename_i hi
           subst hi
           simp at h
           obtain ⟨rfl,rfl⟩:=h
           refine ⟨hP ▸ hcall,fun g w cargs hR ha => ?_⟩
           obtain ⟨cv,rfl,hv⟩:∃ cv,cargs=[cv]∧VRel g H.n (.ptr i 0) cv:=by
            have:=ha.1
            match cargs,this with
            | [cv],_=>exact ⟨cv,rfl,ha.2 0 _ _ rfl rfl⟩
           cases hv with
           | ptr hid =>
           have hblk:=hR.blk i hid
           rw [hcells] at hblk
           obtain ⟨⟨⟨c0,e0,fz0,h0,h1,h2⟩,hfree⟩,c,fz,hc,hcs,hz,hcsz⟩:=hblk
           rw [hc] at h0;simp at h0;obtain ⟨rfl,rfl,rfl⟩:=h0
           obtain ⟨v0,hv0,hr0⟩:=h1 0 _ rfl
           rw [hP,callsIn_wide]
           have hv0':v0=.pointer (some ⟨(g.L i).b,0,none⟩):=by
            cases hr0;rw [hz]
           have hrun:=Any.Builder_copyCheck_used L X (g.L i).b w (by unfold World.cell?;rw [hc,← hv0'];rw [hz] at hv0;simpa using hv0)
           rw [hz]
           refine hrun.mono ?_
           rintro e w' ⟨rfl,rfl⟩
           exact ⟨g,hR,.refl _ _ _ _,.tup rfl fun i c v hc=>by simp at hc⟩
         · cases h
       · cases h
     · cases h
   · cases h
 · cases h
def bytesIn:List (List AV)→Option (List Nat)
 | []=>some []
 | [.int .u8 (.ofNat n)]::r=>if n < 256 then match bytesIn r with
   | some l=>some (n::l)
   | none=>none else none
 | _=>none
def hString (T B:TypeId) (_:Nat) (args:List AV) (H:Heap):Option (AV × Heap) :=
 match args with
 | [.ptr id 0]=>match H.get id with
   | .cells [_,.ps tok rows] e=>if e=T then match tok,rows with
     | .nil,[]=>some (.str [],H)
     | .tok k,_::_=>match H.get k with
       | .row [] _ e'=>if e'=B∧rows.length≤maxRows then match bytesIn rows with
         | some l=>some (.str l,H)
         | none=>none else none
       | _=>none
     | _,_=>none else none
   | _=>none
 | _=>none
theorem bytesIn_at:∀ {rows:List (List AV)} {l:List Nat},bytesIn rows=some l→l.length=rows.length∧rows.flatten=l.map (fun (n:Nat)=>AV.int .u8 (n:Int)) ∧ ∀ n ∈ l,n < 256
 | [],l,h=>by simp [bytesIn] at h;subst h;simp
 | r::rs,l,h=>by
   unfold bytesIn at h
   split at h
   · rename_i h1;cases h1
   · rename_i n r' heq
     simp only [List.cons.injEq] at heq
     obtain ⟨rfl,rfl⟩:=heq
     split at h
     · rename_i hn
       split at h
       · rename_i l' hl'
         simp at h;subst h
         obtain ⟨h1,h2,h3⟩:=bytesIn_at hl'
         refine ⟨by simp [h1],by simp [h2],fun m hm => ?_⟩
         rcases List.mem_cons.1 hm with rfl | hm
         · exact hn
         · exact h3 m hm
       · cases h
     · cases h
   · cases h
theorem flatten_ones:∀ {rows:List (List AV)} {sz:Nat},(∀ r ∈ rows,r.length=sz)→rows.flatten.length=rows.length * sz
 | [],_,_=>by simp
 | r::rs,sz,h=>by
   have:=flatten_ones (rows:=rs) (sz:=sz) fun x hx=>h x (List.mem_cons_of_mem _ hx)
   simp [h r (List.mem_cons_self ..),this,Nat.add_mul,Nat.add_comm]
theorem string_ok (hP:C.P=P) (L:Lays.n169 P ρ) (X:Builder.Extra P ρ) (hcall:Callable P (ρ.f 169)) {lo:Nat} {args:List AV} {v:AV} {H':Heap}
 (h:hString (ρ.t 72) (ρ.t 5) lo args H=some (v,H')):CallOk C lo (ρ.f 169) args H v H':=by
 unfold hString at h
 split at h
 case h_2=>cases h
 rename_i id
 split at h
 case h_2=>cases h
 rename_i x0 tok rows e hcells
 split at h
 case isFalse=>cases h
 rename_i he
 subst he
 have start:∀ (g:Gh) (w:World) (cargs:List Value),Rel C g H w→VRels g H.n [.ptr id 0] cargs → ∃ sv fz c0,cargs=[.pointer (some ⟨(g.L id).b,0,none⟩)]∧w.heap[(g.L id).b]? = some (.cells #[c0,sv] (ρ.t 72) fz)∧VRel g H.n (.ps tok rows) sv:=by
  intro g w cargs hR ha
  obtain ⟨cv,rfl,hv⟩:∃ cv,cargs=[cv]∧VRel g H.n (.ptr id 0) cv:=by
   have:=ha.1
   match cargs,this with
   | [cv],_=>exact ⟨cv,rfl,ha.2 0 _ _ rfl rfl⟩
  cases hv with
  | ptr hid =>
  have hblk:=hR.blk id hid
  rw [hcells] at hblk
  obtain ⟨⟨⟨c0,e0,fz0,h0,h1,h2⟩,hfree⟩,c,fz,hc,hcs,hz,hcsz⟩:=hblk
  rw [hc] at h0;simp at h0;obtain ⟨rfl,rfl,rfl⟩:=h0
  obtain ⟨v1,hv1,hr1⟩:=h1 1 _ rfl
  rw [hz] at hv1 ⊢
  obtain ⟨v0,hv0⟩:∃ v0,c[0]? = some v0:=⟨c[0]'(by simp at hcsz;omega),by simp⟩
  refine ⟨v1,fz,v0,rfl, ?_,hr1⟩
  rw [hc]
  have:c = #[v0,v1]:=by
   apply Array.ext_getElem?
   intro i
   match i with
   | 0=>simpa using hv0
   | 1=>simpa using hv1
   | i+2=>rw [Array.getElem?_eq_none (by simp at hcsz;omega),Array.getElem?_eq_none (by simp)]
  rw [this]
 split at h
 case h_3=>cases h
 · simp at h
   obtain ⟨rfl,rfl⟩:=h
   refine ⟨hP ▸ hcall,fun g w cargs hR ha => ?_⟩
   obtain ⟨sv,fz,c0,rfl,hc,hv⟩:=start g w cargs hR ha
   rw [hP,callsIn_wide]
   have hsv:sv=.slice none 0 0:=by
    generalize hA:AV.ps Tok.nil []=A at hv
    cases hv<;>cases hA
    · rename_i htok;exact htok.elim
    · rfl
    · rename_i hz;exact hz.elim
   subst hsv
   refine (Builder_String_nil_at L X (g.L id).b w (by unfold World.cell?;rw [hc];rfl)).mono ?_
   rintro e w' ⟨rfl,rfl⟩
   exact ⟨g,hR.congr rfl,Ext.ofHeap rfl rfl rfl rfl,.str rfl⟩
 · rename_i k r1 rr
   split at h
   case h_2=>cases h
   rename_i sz e' hrow
   split at h
   case isFalse=>cases h
   rename_i hcond
   obtain ⟨rfl,hmax⟩:=hcond
   split at h
   case h_2=>cases h
   rename_i l hl
   simp at h
   obtain ⟨rfl,rfl⟩:=h
   refine ⟨hP ▸ hcall,fun g w cargs hR ha => ?_⟩
   obtain ⟨sv,fz,c0,rfl,hc,hv⟩:=start g w cargs hR ha
   rw [hP,callsIn_wide]
   obtain ⟨hlen,hfl,h256⟩:=bytesIn_at hl
   cases hv with
   | @ps _ _ _ b o cap sz' vals hsz hvl hk hvv hcap htok =>
     obtain ⟨hkn,hkb,hko,hke⟩:=htok
     have hsz1:sz'=1:=by
      have h1:=flatten_ones hsz
      rw [hfl] at h1
      simp only [List.length_map] at h1
      rw [hlen] at h1
      simp only [List.length_cons] at h1
      exact (Nat.eq_of_mul_eq_mul_left (Nat.succ_pos rr.length) (by simpa using h1)).symm
     subst hsz1
     have hblk:=hR.blk k hkn
     rw [hrow] at hblk
     obtain ⟨⟨_,_⟩,c,fz2,hc2,hcs2,_⟩:=hblk
     rw [hkb] at hc2
     let bs:List UInt8:=l.map UInt8.ofNat
     have hbl:bs.length=(r1::rr).length:=by simp [bs,hlen]
     have hb0:bs ≠ []:=by
      intro e;rw [e] at hbl;simp at hbl
     have hcellAll:∀ j x,bs[j]? = some x→w.cell? ⟨b,o+j,none⟩=some (.int .u8 x.toNat):=by
      intro j x hx
      simp only [bs,List.getElem?_map,Option.map_eq_some_iff] at hx
      obtain ⟨m,hm,rfl⟩:=hx
      have hm256:=h256 m (List.mem_of_getElem? hm)
      have hfj:(r1::rr).flatten[j]? = some (.int .u8 (m:Int)):=by rw [hfl];simp [hm]
      obtain ⟨vj,hvj⟩:∃ vj,vals[j]? = some vj:=by
       have:j < vals.length:=by rw [← hvl];exact (List.getElem?_eq_some_iff.1 hfj).1
       exact ⟨vals[j],by simp⟩
      have hrel:=hvv j _ _ hfj hvj
      cases hrel
      rw [hR.know _ _ _ (hk j _ hvj)]
      congr 2
      simp only [UInt8.toNat_ofNat']
      omega
     have hrun:=Builder_String_at L X (g.L id).b b o cap bs w c fz2 (by unfold World.cell?;rw [hc,hbl];rfl) hc2 hb0 (by rw [hbl];exact hcap) (by rw [hcs2,hke];omega) (by rw [hbl];unfold maxRows at hmax;omega) hcellAll
     refine hrun.mono ?_
     rintro e w' ⟨rfl,rfl⟩
     have hRd:Rel C g H w.drew:=hR.congr rfl
     have hEd:Ext lo g H w g H w.drew:=Ext.ofHeap rfl rfl rfl rfl
     obtain ⟨q1,q2⟩:=hRd.frozen hkn hrow (o:=o) (len:=bs.length) (by rw [hbl];simp) (by rw [hko,hbl];omega) lo
     rw [hkb] at q1 q2
     refine ⟨g,q1,hEd.trans q2,.str ?_⟩
     simp only [bs,List.map_map]
     conv=>rhs;rw [← List.map_id l]
     apply List.map_congr_left
     intro m hm
     simp only [Function.comp,UInt8.toNat_ofNat',_root_.id]
     have:=h256 m hm
     omega
end Go.Sim
