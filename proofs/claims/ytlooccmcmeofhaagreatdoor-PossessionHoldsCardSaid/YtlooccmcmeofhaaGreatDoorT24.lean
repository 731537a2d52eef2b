/-
Lemmas of one proof, the texts PoJ to PoJ joined.
-/
import Derived.Test.YtlooccmcmeofhaaGreatDoorT23
import Derived.Test.YtlooccmcmeofhaaGreatDoorCards
import Derived.Test.YtlooccmcmeofhaaGreatDoorTie
import Derived.WalkKit
import Derived.ProofKit
import Derived.Deep.DeepHandedRow
set_option linter.unusedSimpArgs false
set_option linter.unusedVariables false
set_option maxRecDepth 100000
set_option maxHeartbeats 32000000
noncomputable section
open Go Go.Proofs
open Bool (not_eq_true)
open List (mem_cons)
open Nat (beq_eq)
open Go.Sim.Pos (Ev Nm)

namespace Go.Sim
open Go Go.Proofs Go.Proofs.YtlooccmcmeofhaaGreatDoor
abbrev Lk:List (String × DataW Unit):=Rows.possessionStoriesRow.laid
theorem told (W:World) (hL:laidMetH Tryz.prog Lk W):Rel NC (XB W) .empty W:=by
 have hM:laidMet Tryz.prog Lk W:=by
  rw [MakeChecks.laidMetH_plain _ _ _ (by kernel_rfl)] at hL;exact hL
 refine PN (C:=NC) fun x cs hx => ?_
 have h:x=1:=by
  by_cases h1:x=1
  . exact h1
  have e1:Nat.beq x 1=false:=by rw [<- not_eq_true,beq_eq];exact h1
  simp [NC,e1] at hx
 subst h;obtain rfl:KC=cs:=Option.some.inj hx;exact PS hM (.tail _ (.tail _ (.head _))) (by kernel_rfl) (by kernel_rfl) Tryz.underlying386 (by kernel_rfl) (by kernel_rfl) (by kernel_rfl) (by kernel_rfl)
theorem GF {α:Type} {enc:α->List AV} {Q:α->Prop} {l:List Sh} (h:∀ r,Sh.hasAll l r -> ∃ x,r=enc x/\Q x):∀ (rows:List (List AV)),(∀ r ∈ rows,Sh.hasAll l r) -> ∃ xs:List α,rows=xs.map enc /\ ∀ x ∈ xs,Q x
 | [],_=>⟨[],rfl,by simp⟩
 | r::rest,hr=>by
   obtain ⟨x,rfl,hq⟩:=h r (hr r (by simp));obtain ⟨xs,rfl,hqs⟩:=GF h rest (fun r' h'=>hr r' (by simp [h']));exact ⟨x::xs,rfl,fun y hy=>(mem_cons.1 hy).elim (fun e=>e ▸ hq) (hqs y)⟩
abbrev shEv:List Sh:=[.int .i64,.str,.slc [.str],.slc [.int .i64],.str]
theorem Zd1 (r:List AV) (h:Sh.hasAll [.str] r):∃ x:Nm,r=[.str x]/\True:=by
 simp only [Sh.hasAll,Sh.has] at h;obtain ⟨_,_,rfl,⟨a,rfl,_⟩,rfl⟩:=h;exact ⟨a,rfl,trivial⟩
theorem Zd2 (r:List AV) (h:Sh.hasAll [.int .i64] r):∃ x:Int,r=[i64 x]/\(-9223372036854775808<=x/\x<=9223372036854775807):=by
 simp only [Sh.hasAll,Sh.has] at h;obtain ⟨_,_,rfl,⟨a,rfl,ha⟩,rfl⟩:=h;exact ⟨a,rfl,ha⟩
def EvA (e:Ev):Prop:=(-9223372036854775808<=e.num/\e.num<=9223372036854775807) /\ ∀ v ∈ e.vals, -9223372036854775808<=v/\v<=9223372036854775807
theorem is_ev (r:List AV) (h:Sh.hasAll shEv r):∃ x:Ev,r=x.row/\EvA x:=by
 unfold shEv at h;rw [Sh.hasAll] at h;obtain ⟨_,_,rfl,h1,h⟩:=h;rw [Sh.hasAll] at h;obtain ⟨_,_,rfl,h2,h⟩:=h;rw [Sh.hasAll] at h;obtain ⟨_,_,rfl,h3,h⟩:=h;rw [Sh.hasAll] at h;obtain ⟨_,_,rfl,h4,h⟩:=h;rw [Sh.hasAll] at h;obtain ⟨_,_,rfl,h5,h⟩:=h;rw [Sh.hasAll] at h;subst h;rw [Sh.has] at h1;rw [Sh.has] at h2;rw [Sh.has] at h3;rw [Sh.has] at h4;rw [Sh.has] at h5;obtain ⟨n,rfl,hn⟩:=h1;obtain ⟨k,rfl,_⟩:=h2;obtain ⟨a,rfl,_,ha⟩:=h3;obtain ⟨b,rfl,_,hb⟩:=h4;obtain ⟨t,rfl,_⟩:=h5;obtain ⟨ns,rfl,_⟩:=GF Zd1 a ha;obtain ⟨vs,rfl,hv⟩:=GF Zd2 b hb;exact ⟨⟨n,k,ns,vs,t⟩,rfl,hn,hv⟩
theorem sh22:JZ Tryz.prog 8 22=some [.slc shEv]:=by kernel_rfl
theorem ga22:aggOf Tryz.prog 22=some false:=by kernel_rfl
theorem sh9:JZ Tryz.prog 8 9=some [.str]:=by kernel_rfl
theorem ga9:aggOf Tryz.prog 9=some false:=by kernel_rfl
theorem Zd3:laidOutB Tryz.prog=true:=by kernel_rfl
section
variable {H:Type} {enc:TypeId × Value->H} {W:World} {base:Nat} {v:Value} {d:DataW H} {p:List MemPlace}
set_option maxRecDepth 100000 in
theorem Zd4 (hok:Value.okWide Tryz.prog W .any base 22 v) (h:DataW.Trod enc Tryz.prog W 0 (fun _=>true) true 22 v d p):∃ l:List Ev,l.length<=9223372036854775807/\(∀ e ∈ l,EvA e)/\VRel (XB W) 0 (.ps .unk (l.map Pos.Ev.row)) v:=by
 obtain ⟨a,h1,h2⟩:=BG (H:=H) (enc:=enc) (base:=0) (held:=true) (P:=Tryz.prog) (w:=W) (r:=.any) (b0:=base) (v:=v) (d:=d) (p:=p) sh22 ga22 hok h;rw [Sh.has] at h1;obtain ⟨rows,rfl,hl,hr⟩:=h1;obtain ⟨m,rfl,hq⟩:=GF is_ev rows hr;exact ⟨m,by simpa using hl,hq,h2⟩
set_option maxRecDepth 100000 in
theorem Zd5 (hok:Value.okWide Tryz.prog W .any base 9 v) (h:DataW.Trod enc Tryz.prog W 0 (fun _=>true) true 9 v d p):∃ s:Nm,(∀ c ∈ s,c < 256)/\VRel (XB W) 0 (.str s) v:=by
 obtain ⟨a,h1,h2⟩:=BG (H:=H) (enc:=enc) (base:=0) (held:=true) (P:=Tryz.prog) (w:=W) (r:=.any) (b0:=base) (v:=v) (d:=d) (p:=p) sh9 ga9 hok h;rw [Sh.has] at h1;obtain ⟨a,rfl,_,hb⟩:=h1;exact ⟨a,hb,h2⟩
end
def CZ:DataW Unit->Value
 | .lit (.int k n)=>.int k n
 | .lit (.string s)=>.string ⟨s.toArray⟩
 | .lit (.bool b)=>.bool b
 | _=>undef
def Zd6:DataW Unit->Array Value
 | .agg ds=>(ds.map CZ).toArray
 | _=>#[]
def GG (x:Nat) (d:DataW Unit) (h:Array Obj):Array Obj:=h.modify x fun
 | .cells _ t frozen=>.cells (Zd6 d) t frozen
 | o=>o
def Zd7:DataW Unit->List Value
 | .agg es=>es.map CZ
 | d=>[CZ d]
def Zd8 (x:Nat) (d:DataW Unit) (h:Array Obj):Array Obj:=h.modify x fun
 | .cells _ t frozen=>.cells ((match d with
   | .agg ds=>ds.flatMap Zd7
   | _=>[]).toArray) t frozen
 | o=>o
def A0 (os:Os):World :=
 { World.holding Tryz.prog os ⟨#[],#[],[]⟩ with
   heap:=GG 2 Rows.laid_unicode_utf8_first (Zd8 3 Rows.laid_unicode_utf8_acceptRanges (GG 1 Rows.laid_internal_strconv_uint64pow10 (GG 4 Rows.laid_math_bits_deBruijn32tab (GG 5 Rows.laid_math_bits_deBruijn64tab (World.holding Tryz.prog os ⟨#[],#[],[]⟩).heap)))) }
theorem own:ownKnob Tryz.prog.godebug=none:=by kernel_rfl
end Go.Sim
