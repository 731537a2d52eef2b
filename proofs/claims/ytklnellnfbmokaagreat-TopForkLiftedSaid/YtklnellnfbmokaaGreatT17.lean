/-
Lemmas of one proof, the texts FlC to FlC joined.
-/
import Derived.Test.YtklnellnfbmokaaGreatT16
import Derived.Test.YtklnellnfbmokaaGreatRows
import Derived.WalkKit
import Derived.ProofKit
import Derived.Deep.DeepHandedRow
set_option linter.unusedSimpArgs false
set_option linter.unusedVariables false

namespace Go.Sim
open Go Go.Proofs Go.Proofs.YtklnellnfbmokaaGreat Go.ChangeShapes Go.WideShapes Go.ChangeAt Go.RowKit
theorem told (W:World):Rel NC (start W) .empty W:=start_rel (C:=NC) fun x cs hx=>by cases hx
theorem rows_of' {α:Type} {enc:α→List AV} {Q:α→Prop} {l:List Sh} (h:∀ r,Sh.hasAll l r → ∃ x,r=enc x∧Q x):∀ (rows:List (List AV)),(∀ r ∈ rows,Sh.hasAll l r) → ∃ xs:List α,rows=xs.map enc ∧ ∀ x ∈ xs,Q x
 | [],_=>⟨[],rfl,by simp⟩
 | r::rest,hr=>by
   obtain ⟨x,rfl,hq⟩:=h r (hr r (by simp))
   obtain ⟨xs,rfl,hqs⟩:=rows_of' h rest (fun r' h'=>hr r' (by simp [h']))
   exact ⟨x::xs,rfl,fun y hy=>(List.mem_cons.1 hy).elim (fun e=>e ▸ hq) (hqs y)⟩
theorem nat_of {n:Int} {m:Nat} (h:0≤n∧n≤(m:Int)):∃ k:Nat,n=(k:Int)∧k≤m:=by
 obtain ⟨k,rfl⟩:=Int.eq_ofNat_of_zero_le h.1
 exact ⟨k,rfl,by omega⟩
theorem is_by (r:List AV) (h:Sh.hasAll [.int .u8,.int .u8] r):∃ x:Nat × Nat,r=byRow x∧(x.1≤255∧x.2≤255):=by
 simp only [Sh.hasAll,Sh.has] at h
 obtain ⟨_,_,rfl,⟨a,rfl,ha⟩,_,_,rfl,⟨b,rfl,hb⟩,rfl⟩:=h
 obtain ⟨m,rfl,hm⟩:=nat_of (m:=255) (n:=a) ha
 obtain ⟨n,rfl,hn⟩:=nat_of (m:=255) (n:=b) hb
 exact ⟨(m,n),rfl,hm,hn⟩
theorem sh22:shapesOf Tryz.prog 8 22=some [.slc [.int .u8,.int .u8]]:=by kernel_rfl
theorem ga22:aggOf Tryz.prog 22=some false:=by kernel_rfl
theorem sh64:shapesOf Tryz.prog 8 64=some [.int .u8,.int .u8,.int .u8]:=by kernel_rfl
theorem ga64:aggOf Tryz.prog 64=some true:=by kernel_rfl
theorem laidOut:laidOutB Tryz.prog=true:=by kernel_rfl
section
variable {H:Type} {enc:TypeId × Value→H} {W:World} {base:Nat} {v:Value} {d:DataW H} {p:List MemPlace}
set_option maxRecDepth 100000 in
theorem arg_bys (hok:Value.okWide Tryz.prog W .any base 22 v) (h:DataW.Trod enc Tryz.prog W 0 (fun _=>true) true 22 v d p):∃ l:List (Nat × Nat),l.length≤9223372036854775807∧(∀ z ∈ l,z.1≤255∧z.2≤255)∧VRel (start W) 0 (.ps .unk (l.map byRow)) v:=by
 obtain ⟨a,h1,h2⟩:=opened_one (H:=H) (enc:=enc) (base:=0) (held:=true) (P:=Tryz.prog) (w:=W) (r:=.any) (b0:=base) (v:=v) (d:=d) (p:=p) sh22 ga22 hok h
 rw [Sh.has] at h1
 obtain ⟨rows,rfl,hl,hr⟩:=h1
 obtain ⟨m,rfl,hq⟩:=rows_of' is_by rows hr
 exact ⟨m,by simpa using hl,hq,h2⟩
set_option maxRecDepth 100000 in
theorem arg_three (hok:Value.okWide Tryz.prog W .any base 64 v) (h:DataW.Trod enc Tryz.prog W 0 (fun _=>true) true 64 v d p):∃ a b c:Nat,a≤255∧b≤255∧c≤255∧VRel (start W) 0 (.agg [.int .u8 (a:Int),.int .u8 (b:Int),.int .u8 (c:Int)]) v:=by
 obtain ⟨avs,h1,h2⟩:=opened_struct (H:=H) (enc:=enc) (base:=0) (held:=true) (P:=Tryz.prog) (w:=W) (r:=.any) (b0:=base) (v:=v) (d:=d) (p:=p) sh64 ga64 hok h
 simp only [Sh.hasAll,Sh.has] at h1
 obtain ⟨_,_,rfl,⟨a,rfl,ha⟩,_,_,rfl,⟨b,rfl,hb⟩,_,_,rfl,⟨c,rfl,hc⟩,rfl⟩:=h1
 obtain ⟨x,rfl,hx⟩:=nat_of (m:=255) (n:=a) ha
 obtain ⟨y,rfl,hy⟩:=nat_of (m:=255) (n:=b) hb
 obtain ⟨z,rfl,hz⟩:=nat_of (m:=255) (n:=c) hc
 exact ⟨x,y,z,hx,hy,hz,h2⟩
end
theorem own:ownKnob Tryz.prog.godebug=none:=by kernel_rfl
noncomputable def laidWorld (os:Os):World:=World.holding Tryz.prog os ⟨#[],#[],[]⟩
end Go.Sim
