/-
The parts NetJoin, NetJoin3, NetJoin5 of one proof, joined: each begins with a remark that says what it shows.
-/
import Derived.Test.YtepaopekeidlmaaGreatDoorT16
import Derived.Test.YtepaopekeidlmaaGreatDoorCards
import Derived.Test.YtepaopekeidlmaaGreatDoorTie
import Derived.WalkKit
import Derived.ProofKit
import Derived.Deep.DeepHandedRow
set_option linter.unusedSimpArgs false
set_option linter.unusedVariables false

/-
What the rows of this seat list, as the interpreter is told it; a world for the witnesses; what the statements' arguments are.
-/
namespace Go.Sim
open Go Go.Proofs Go.Proofs.YtepaopekeidlmaaGreatDoor
/-! ### The variables -/
theorem rows_of {α:Type} {enc:α→List AV} {l:List Sh} (h:∀ r,Sh.hasAll l r → ∃ x,r=enc x):∀ (rows:List (List AV)),(∀ r ∈ rows,Sh.hasAll l r) → ∃ xs:List α,rows=xs.map enc
 | [],_=>⟨[],rfl⟩
 | r::rest,hr=>by
   obtain ⟨x,rfl⟩:=h r (hr r (by simp))
   obtain ⟨xs,rfl⟩:=rows_of h rest (fun r' h'=>hr r' (by simp [h']))
   exact ⟨x::xs,rfl⟩
abbrev shPc:List Sh:=[.int .i64,.int .i64,.bool]
abbrev shLn:List Sh:=[.str,.slc shPc]
abbrev shSw:List Sh:=[.str,.str,.int .i64,.str,.bool]
abbrev shStc:List Sh:=[.str,.str,.str,.int .i64,.int .i64]
abbrev shNet:List Sh:=[.slc shLn,.slc shSw,.slc shStc]
theorem is_pc (r:List AV) (h:Sh.hasAll shPc r):∃ x:Pc,r=x.row:=by
 simp only [Sh.hasAll,Sh.has] at h
 obtain ⟨_,_,rfl,⟨a,rfl⟩,_,_,rfl,⟨b,rfl⟩,_,_,rfl,⟨c,rfl⟩,rfl⟩:=h
 exact ⟨⟨a,b,c⟩,rfl⟩
theorem is_ln (r:List AV) (h:Sh.hasAll shLn r):∃ x:Ln,r=x.row:=by
 unfold shLn at h
 simp only [Sh.hasAll,Sh.has] at h
 obtain ⟨_,_,rfl,⟨a,rfl⟩,_,_,rfl,⟨b,rfl,_,hb⟩,rfl⟩:=h
 obtain ⟨ps,rfl⟩:=rows_of is_pc b (fun r hr=>by simpa only [Sh.hasAll,Sh.has] using hb r hr)
 exact ⟨⟨a,ps⟩,rfl⟩
theorem is_sw (r:List AV) (h:Sh.hasAll shSw r):∃ x:Sw,r=x.row:=by
 simp only [Sh.hasAll,Sh.has] at h
 obtain ⟨_,_,rfl,⟨a,rfl⟩,_,_,rfl,⟨b,rfl⟩,_,_,rfl,⟨c,rfl⟩,_,_,rfl,⟨d,rfl⟩,_,_,rfl,⟨e,rfl⟩,rfl⟩:=h
 exact ⟨⟨a,b,c,d,e⟩,rfl⟩
theorem is_stc (r:List AV) (h:Sh.hasAll shStc r):∃ x:Stc,r=x.row:=by
 simp only [Sh.hasAll,Sh.has] at h
 obtain ⟨_,_,rfl,⟨a,rfl⟩,_,_,rfl,⟨b,rfl⟩,_,_,rfl,⟨c,rfl⟩,_,_,rfl,⟨d,rfl⟩,_,_,rfl,⟨e,rfl⟩,rfl⟩:=h
 exact ⟨⟨a,b,c,d,e⟩,rfl⟩
theorem is_net (r:List AV) (h:Sh.hasAll shNet r):∃ x:Net,r=x.cells:=by
 unfold shNet at h
 rw [Sh.hasAll] at h
 obtain ⟨_,_,rfl,h1,h⟩:=h
 rw [Sh.hasAll] at h
 obtain ⟨_,_,rfl,h2,h⟩:=h
 rw [Sh.hasAll] at h
 obtain ⟨_,_,rfl,h3,h⟩:=h
 rw [Sh.hasAll] at h
 subst h
 rw [Sh.has] at h1 h2 h3
 obtain ⟨a,rfl,_,ha⟩:=h1
 obtain ⟨b,rfl,_,hb⟩:=h2
 obtain ⟨c,rfl,_,hc⟩:=h3
 obtain ⟨ls,rfl⟩:=rows_of is_ln a ha
 obtain ⟨ws,rfl⟩:=rows_of is_sw b hb
 obtain ⟨ss,rfl⟩:=rows_of is_stc c hc
 exact ⟨⟨ls,ws,ss⟩,rfl⟩
theorem sh26:shapesOf Tryz.prog 8 26=some shNet:=by kernel_rfl
theorem ga26:aggOf Tryz.prog 26=some true:=by kernel_rfl
theorem laidOut:laidOutB Tryz.prog=true:=by kernel_rfl
section
variable {H:Type} {enc:TypeId × Value→H} {W:World} {base:Nat} {v:Value} {d:DataW H} {p:List MemPlace}
set_option maxRecDepth 100000 in
theorem arg_net (hok:Value.okWide Tryz.prog W .any base 26 v) (h:DataW.Trod enc Tryz.prog W 0 (fun _=>true) true 26 v d p):∃ n:Net,VRel (start W) 0 (.agg n.cells) v:=by
 obtain ⟨avs,h1,h2⟩:=opened_struct (H:=H) (enc:=enc) (base:=0) (held:=true) (P:=Tryz.prog) (w:=W) (r:=.any) (b0:=base) (v:=v) (d:=d) (p:=p) sh26 ga26 hok h
 obtain ⟨n,rfl⟩:=is_net avs h1
 exact ⟨n,h2⟩
end
section
variable {H:Type} {enc:TypeId × Value→H} {W:World} {base:Nat} {v:Value} {d:DataW H} {p:List MemPlace}
end
/-! ### A world -/
def litVal:DataW Unit→Value
 | .lit (.int k n)=>.int k n
 | .lit (.string s)=>.string ⟨s.toArray⟩
 | .lit (.bool b)=>.bool b
 | _=>undef
def litVals:DataW Unit→Array Value
 | .agg ds=>(ds.map litVal).toArray
 | _=>#[]
def layAt (x:Nat) (d:DataW Unit) (h:Array Obj):Array Obj:=h.modify x fun
 | .cells _ t frozen=>.cells (litVals d) t frozen
 | o=>o
noncomputable def laidWorld (os:Os):World :=
 { World.holding Tryz.prog os ⟨#[],#[],[]⟩ with
   heap:=layAt 0 Rows.laid_versine_network_ways (layAt 1 Rows.laid_versine_network_sides (layAt 3 Rows.laid_internal_strconv_uint64pow10 (layAt 6 Rows.laid_math_bits_deBruijn32tab (layAt 7 Rows.laid_math_bits_deBruijn64tab (World.holding Tryz.prog os ⟨#[],#[],[]⟩).heap)))) }
theorem own:ownKnob Tryz.prog.godebug=none:=by kernel_rfl
end Go.Sim

/-
What small numbers, strings and integers among the arguments are.
-/
namespace Go.Sim
open Go Go.Proofs Go.Proofs.YtepaopekeidlmaaGreatDoor
theorem sh9:shapesOf Tryz.prog 8 9=some [.str]:=by kernel_rfl
theorem ga9:aggOf Tryz.prog 9=some false:=by kernel_rfl
section
variable {H:Type} {enc:TypeId × Value→H} {W:World} {base:Nat} {v:Value} {d:DataW H} {p:List MemPlace}
set_option maxRecDepth 100000 in
theorem arg_str (hok:Value.okWide Tryz.prog W .any base 9 v) (h:DataW.Trod enc Tryz.prog W 0 (fun _=>true) true 9 v d p):∃ s:List Nat,VRel (start W) 0 (.str s) v:=by
 obtain ⟨a,h1,h2⟩:=opened_one (H:=H) (enc:=enc) (base:=0) (held:=true) (P:=Tryz.prog) (w:=W) (r:=.any) (b0:=base) (v:=v) (d:=d) (p:=p) sh9 ga9 hok h
 rw [Sh.has] at h1
 obtain ⟨a,rfl⟩:=h1
 exact ⟨a,h2⟩
end
end Go.Sim

/-
Statements that read strings: the variables that their rows list, and a world for their witness.
-/
namespace Go.Sim
open Go Go.Proofs Go.Proofs.YtepaopekeidlmaaGreatDoor
abbrev laid7:List (String × DataW Unit):=Rows.networkTextsRow.laid
theorem told7 (W:World) (hL:laidMetH Tryz.prog laid7 W):Rel NC (start W) .empty W:=by
 have hM:laidMet Tryz.prog laid7 W:=by
  rw [MakeChecks.laidMetH_plain _ _ _ (by kernel_rfl)] at hL;exact hL
 refine start_rel (C:=NC) fun x cs hx => ?_
 have h:x=0∨x=1∨x=3:=by
  by_cases h0:x=0
  · exact .inl h0
  by_cases h1:x=1
  · exact .inr (.inl h1)
  by_cases h3:x=3
  · exact .inr (.inr h3)
  have e0:Nat.beq x 0=false:=by rw [← Bool.not_eq_true,Nat.beq_eq];exact h0
  have e1:Nat.beq x 1=false:=by rw [← Bool.not_eq_true,Nat.beq_eq];exact h1
  have e3:Nat.beq x 3=false:=by rw [← Bool.not_eq_true,Nat.beq_eq];exact h3
  simp [NC,e0,e1,e3] at hx
 rcases h with rfl | rfl | rfl
 · obtain rfl:[AV.str [117,112],.str [100,111,119,110]]=cs:=Option.some.inj hx
   exact laid_glob hM (.tail _ (.tail _ (.tail _ (.tail _ (.head _))))) (by kernel_rfl) (by kernel_rfl) Tryz.underlying281 (by kernel_rfl) (by kernel_rfl) (by kernel_rfl) (by kernel_rfl)
 · obtain rfl:[AV.str [102,105,114,115,116],.str [108,97,115,116]]=cs:=Option.some.inj hx
   exact laid_glob hM (.tail _ (.tail _ (.tail _ (.tail _ (.tail _ (.head _)))))) (by kernel_rfl) (by kernel_rfl) Tryz.underlying281 (by kernel_rfl) (by kernel_rfl) (by kernel_rfl) (by kernel_rfl)
 · obtain rfl:powsAV=cs:=Option.some.inj hx
   exact laid_glob hM (.tail _ (.tail _ (.head _))) (by kernel_rfl) (by kernel_rfl) Tryz.underlying399 (by kernel_rfl) (by kernel_rfl) (by kernel_rfl) (by kernel_rfl)
def litPair:DataW Unit→List Value
 | .agg es=>es.map litVal
 | d=>[litVal d]
def layPairs (x:Nat) (d:DataW Unit) (h:Array Obj):Array Obj:=h.modify x fun
 | .cells _ t frozen=>.cells ((match d with
   | .agg ds=>ds.flatMap litPair
   | _=>[]).toArray) t frozen
 | o=>o
noncomputable def laidWorld7 (os:Os):World :=
 { World.holding Tryz.prog os ⟨#[],#[],[]⟩ with
   heap:=layAt 4 Rows.laid_unicode_utf8_first (layPairs 5 Rows.laid_unicode_utf8_acceptRanges (laidWorld os).heap) }
end Go.Sim
