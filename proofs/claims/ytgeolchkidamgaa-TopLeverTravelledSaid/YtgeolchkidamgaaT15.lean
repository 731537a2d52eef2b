/-
Lemmas of one proof, the texts LtJ to LtJ joined.
-/
import Derived.Test.YtgeolchkidamgaaT14
import Derived.Test.YtgeolchkidamgaaRows
import Derived.WalkKit
import Derived.ProofKit
import Derived.Deep.DeepHandedRow
set_option linter.unusedSimpArgs false
set_option linter.unusedVariables false

namespace Go.Sim
open Go Go.Proofs Go.Proofs.Ytgeolchkidamgaa Go.ChangeShapes Go.WideShapes Go.ChangeAt Go.RowKit
theorem told (W:World):Rel NC (start W) .empty W:=start_rel (C:=NC) fun x cs hx=>by cases hx
theorem rows_of {α:Type} {enc:α→List AV} {l:List Sh} (h:∀ r,Sh.hasAll l r → ∃ x,r=enc x):∀ (rows:List (List AV)),(∀ r ∈ rows,Sh.hasAll l r) → ∃ xs:List α,rows=xs.map enc
 | [],_=>⟨[],rfl⟩
 | r::rest,hr=>by
   obtain ⟨x,rfl⟩:=h r (hr r (by simp))
   obtain ⟨xs,rfl⟩:=rows_of h rest (fun r' h'=>hr r' (by simp [h']))
   exact ⟨x::xs,rfl⟩
abbrev shPc:List Sh:=[.int .i64,.int .i64,.bool]
abbrev shLn:List Sh:=[.str,.slc shPc]
abbrev shSw:List Sh:=[.str,.str,.int .i64,.str,.bool]
abbrev shStc:List Sh:=[.str,.str,.str,.int .i64,.int .i64]
abbrev shNet:List Sh:=[.slc shLn,.slc shSw,.slc shStc]
theorem is_pc (r:List AV) (h:Sh.hasAll shPc r):∃ x:Pc,r=x.row:=by
 simp only [Sh.hasAll,Sh.has] at h
 obtain ⟨_,_,rfl,⟨a,rfl,_⟩,_,_,rfl,⟨b,rfl,_⟩,_,_,rfl,⟨c,rfl⟩,rfl⟩:=h
 exact ⟨⟨a,b,c⟩,rfl⟩
theorem is_ln (r:List AV) (h:Sh.hasAll shLn r):∃ x:Ln,r=x.row:=by
 unfold shLn at h
 simp only [Sh.hasAll,Sh.has] at h
 obtain ⟨_,_,rfl,⟨a,rfl,_⟩,_,_,rfl,⟨b,rfl,_,hb⟩,rfl⟩:=h
 obtain ⟨ps,rfl⟩:=rows_of is_pc b (fun r hr=>by simpa only [Sh.hasAll,Sh.has] using hb r hr)
 exact ⟨⟨a,ps⟩,rfl⟩
theorem is_sw (r:List AV) (h:Sh.hasAll shSw r):∃ x:Sw,r=x.row:=by
 simp only [Sh.hasAll,Sh.has] at h
 obtain ⟨_,_,rfl,⟨a,rfl,_⟩,_,_,rfl,⟨b,rfl,_⟩,_,_,rfl,⟨c,rfl,_⟩,_,_,rfl,⟨d,rfl,_⟩,_,_,rfl,⟨e,rfl⟩,rfl⟩:=h
 exact ⟨⟨a,b,c,d,e⟩,rfl⟩
theorem is_stc (r:List AV) (h:Sh.hasAll shStc r):∃ x:Stc,r=x.row:=by
 simp only [Sh.hasAll,Sh.has] at h
 obtain ⟨_,_,rfl,⟨a,rfl,_⟩,_,_,rfl,⟨b,rfl,_⟩,_,_,rfl,⟨c,rfl,_⟩,_,_,rfl,⟨d,rfl,_⟩,_,_,rfl,⟨e,rfl,_⟩,rfl⟩:=h
 exact ⟨⟨a,b,c,d,e⟩,rfl⟩
theorem is_net (r:List AV) (h:Sh.hasAll shNet r):∃ x:Net,r=x.cells:=by
 unfold shNet at h
 rw [Sh.hasAll] at h
 obtain ⟨_,_,rfl,h1,h⟩:=h
 rw [Sh.hasAll] at h
 obtain ⟨_,_,rfl,h2,h⟩:=h
 rw [Sh.hasAll] at h
 obtain ⟨_,_,rfl,h3,h⟩:=h
 rw [Sh.hasAll] at h
 subst h
 rw [Sh.has] at h1 h2 h3
 obtain ⟨a,rfl,_,ha⟩:=h1
 obtain ⟨b,rfl,_,hb⟩:=h2
 obtain ⟨c,rfl,_,hc⟩:=h3
 obtain ⟨ls,rfl⟩:=rows_of is_ln a ha
 obtain ⟨ws,rfl⟩:=rows_of is_sw b hb
 obtain ⟨ss,rfl⟩:=rows_of is_stc c hc
 exact ⟨⟨ls,ws,ss⟩,rfl⟩
theorem shN:shapesOf Try.prog 8 26=some shNet:=by kernel_rfl
theorem gaN:aggOf Try.prog 26=some true:=by kernel_rfl
theorem shB:shapesOf Try.prog 8 28=some [.int .u8,.int .u8,.int .u8,.int .u8]:=by kernel_rfl
theorem gaB:aggOf Try.prog 28=some true:=by kernel_rfl
theorem laidOut:laidOutB Try.prog=true:=by kernel_rfl
section
variable {H:Type} {enc:TypeId × Value→H} {W:World} {base:Nat} {v:Value} {d:DataW H} {p:List MemPlace}
set_option maxRecDepth 100000 in
theorem arg_net (hok:Value.okWide Try.prog W .any base 26 v) (h:DataW.Trod enc Try.prog W 0 (fun _=>true) true 26 v d p):∃ n:Net,VRel (start W) 0 (.agg n.cells) v:=by
 obtain ⟨avs,h1,h2⟩:=opened_struct (H:=H) (enc:=enc) (base:=0) (held:=true) (P:=Try.prog) (w:=W) (r:=.any) (b0:=base) (v:=v) (d:=d) (p:=p) shN gaN hok h
 obtain ⟨n,rfl⟩:=is_net avs h1
 exact ⟨n,h2⟩
set_option maxRecDepth 100000 in
theorem arg_four (hok:Value.okWide Try.prog W .any base 28 v) (h:DataW.Trod enc Try.prog W 0 (fun _=>true) true 28 v d p):∃ a b c e:Int,((0≤a∧a≤255)∧(0≤b∧b≤255)∧(0≤c∧c≤255)∧(0≤e∧e≤255))∧VRel (start W) 0 (.agg [.int .u8 a,.int .u8 b,.int .u8 c,.int .u8 e]) v:=by
 obtain ⟨avs,h1,h2⟩:=opened_struct (H:=H) (enc:=enc) (base:=0) (held:=true) (P:=Try.prog) (w:=W) (r:=.any) (b0:=base) (v:=v) (d:=d) (p:=p) shB gaB hok h
 simp only [Sh.hasAll,Sh.has] at h1
 obtain ⟨_,_,rfl,⟨a,rfl,ha⟩,_,_,rfl,⟨b,rfl,hb⟩,_,_,rfl,⟨c,rfl,hc⟩,_,_,rfl,⟨e,rfl,he⟩,rfl⟩:=h1
 exact ⟨a,b,c,e,⟨ha,hb,hc,he⟩,h2⟩
end
theorem own:ownKnob Try.prog.godebug=none:=by kernel_rfl
noncomputable def laidWorld (os:Os):World:=World.holding Try.prog os ⟨#[],#[],[]⟩
end Go.Sim
