/-
Lemmas of one proof, the texts Tab to NetV1 joined.
-/
import Derived.Test.YtgeolchkidamgaaT11
import Derived.Test.YtgeolchkidamgaaProg
import GoSem.Step
set_option linter.unusedSimpArgs false
set_option linter.unusedVariables false
open Nat (reduceEqDiff reduceAdd reduceMul reduceSub reduceLeDiff reduceLT)

namespace Go.Sim
open Go
def goodM:Nat:=9903520314283042199192993788
def freshM:Nat:=19342831560579240016478208
def freeM:Nat:=2475880152357736982075408384
def twiceM:Nat:=18446744073709551616
def refM:Nat:=0
def refT:Nat:=4398050705408
abbrev oD (k m:Nat):OpI:=⟨.data,k,m,[]⟩
abbrev oL (k m:Nat):OpI:=⟨.load,k,m,[]⟩
abbrev oR (k m:Nat):OpI:=⟨.read,k,m,[]⟩
abbrev oF (k m:Nat):OpI:=⟨.fresh,k,m,[]⟩
abbrev oW (k m:Nat):OpI:=⟨.writeAt,k,m,[]⟩
def q3_7:List OpI:=[oD 0 0,oL 0 1,oD 0 0,oD 0 4,oD 0 12,oL 0 28,oD 0 60,oD 0 0,oL 0 128,oR 0 384,oD 0 1020,oD 0 2047,oL 0 4095,oF 0 0,oW 1 16383]
def q3_8:List OpI:=[oD 0 0,oD 0 0,oL 0 2,oD 0 0,oD 0 8,oD 0 24,oL 0 56,oD 0 120,oL 0 0,oR 0 256,oD 0 1016,oD 0 2046,oD 0 4095,oW 0 8191]
def q3_10:List OpI:=[oL 0 0,oR 0 1,oD 0 0,oL 0 4,oD 0 0,oL 0 16,oR 0 63,oD 0 127,oD 0 255,oD 0 255,oD 0 255,oD 0 511,oD 0 3071,oD 0 8191]
def q3_49:List OpI:=[oL 0 0,oR 0 1,oD 0 0,oL 0 4,oD 0 0,oL 0 16,oD 0 0,oL 0 64,oD 0 0,oD 0 0,oD 0 768,oD 0 1984,oD 0 4080,oR 0 8191,oD 0 16383,oD 0 32767,oD 0 32767,oD 0 32767,oD 0 65535,oD 0 393215,oD 0 1048575]
def q4_2:List OpI:=[oL 0 0,oR 0 0,oD 0 0,oR 0 7,oD 0 15,oD 0 31,oD 0 31,oF 0 0,oW 1 191,oD 2 511]
def q4_3:List OpI:=[oL 0 0,oR 0 0,oR 0 3,oD 0 7,oD 0 15,oD 0 15,oD 0 31,oD 0 127]
def q7_7:List OpI:=[oD 0 0,oL 0 1,oD 0 0,oL 0 4,oD 0 3,oD 0 31,oD 0 63]
def q11_1:List OpI:=[oD 0 0,oD 0 0,oL 0 2,oW 0 7,oD 0 0,oD 0 0,⟨.load,0,32,[3]⟩,oW 1 127,oD 2 255,oW 2 511]
def q12_1:List OpI:=[oL 0 0,oD 0 0,oR 0 3,oL 0 0,oR 0 15,oD 0 0,oR 0 63,oD 0 0,oR 0 128,oD 0 384,oR 0 1023,oD 0 2047,oR 0 4095,oD 0 8191]
def q12_10:List OpI:=[oD 0 0,oL 0 1,oL 0 0,oD 0 0,oD 0 0,oD 0 16,oD 0 56,oR 0 124,oD 0 255,oD 0 511]
def q13_1:List OpI:=[oL 0 0,oD 0 0,oR 0 3,oL 0 0,oR 0 15,oD 0 31,oR 0 63,oD 0 127]
def q14_1:List OpI:=[oD 0 0,oL 0 1,oR 0 3,oD 0 0,oL 0 8,oR 0 31,oD 0 63,oR 0 127,oD 0 255]
def q18_19:List OpI:=[oL 0 0,oL 0 0,⟨.writeAt,0,1,[1]⟩,oD 1 7]
def q20_10:List OpI:=[oL 0 0,oL 0 0,oR 0 3,oD 0 7,oR 0 15,oD 0 0,oL 0 32,oD 0 0,oL 0 128,oD 0 480,oD 0 1023,oD 0 2047,oL 0 4095,oD 0 2047,oL 0 10239,oD 0 32767,oD 0 65535,oR 0 131071,oD 0 262143,oR 0 524287,oD 0 1048575]
def q23_5:List OpI:=[oD 0 0,oL 0 1,oD 0 0,oL 0 4,oD 0 15,oD 0 31,oL 0 63,oD 0 0,oL 0 128,oD 0 0,oL 0 512,oD 0 1920,oD 0 3968,oL 0 8064,oD 0 127,oD 0 32767]
def q23_6:List OpI:=[oD 0 0,oL 0 1,oD 0 0,oL 0 4,oD 0 15,oD 0 31,oL 0 63,oD 0 0,oL 0 128,oD 0 0,oL 0 512,oD 0 1920,oD 0 3968,oL 0 8064,oD 0 127,oD 0 32767]
def q23_13:List OpI:=[oD 0 0,oL 0 1,oD 0 0,oL 0 4,oD 0 15,oD 0 31,oL 0 63,oD 0 0,oD 0 255,oD 0 0,oL 0 512,oD 0 0,oL 0 2048,oD 0 7680,oD 0 15872,oL 0 32256,oD 0 65535,oD 0 131071]
def q24_1:List OpI:=[oD 0 0,oL 0 1,oR 0 3,oD 0 0,oL 0 8,oR 0 31,oD 0 63,oR 0 127,oD 0 255]
def q26_1:List OpI:=[oD 0 0,oL 0 1,oD 0 0,oD 0 4,oL 0 12,oD 0 31,oD 0 63,oL 0 127,oD 0 0,oL 0 256,oD 0 0,oD 0 1024,oL 0 3072,oD 0 7936,oD 0 16128,oL 0 32512,oD 0 65535,oD 0 131071]
def q26_2:List OpI:=[oD 0 0,oL 0 1,oD 0 0,oD 0 4,oL 0 12,oD 0 31,oD 0 63,oL 0 127,oD 0 0,oL 0 256,oD 0 0,oD 0 1024,oL 0 3072,oD 0 7936,oD 0 16128,oL 0 32512,oD 0 65535,oD 0 131071]
def q26_3:List OpI:=[oD 0 0,oD 0 0,oR 0 3,oD 0 0,oL 0 8,oD 0 24,oL 0 0,oD 0 0,oR 0 199,oD 0 511,oD 0 1023,oD 0 2047]
def q30_2:List OpI:=[oD 0 0,oL 0 1,oR 0 3,oL 0 0,oD 0 0,oL 0 16,oR 0 63,oD 0 0,oD 0 255,oR 0 511,oD 0 0,oL 0 1024,oR 0 3072,oD 0 7168,oR 0 16383,oD 0 0,oL 0 32768,oR 0 98304,oD 0 229376,oR 0 524287,oD 0 1048575,oR 0 2097151,oD 0 4194303]
def q31_8:List OpI:=[oD 0 0,oL 0 1,oD 0 0,oD 0 7,oD 0 15,oL 0 31,oD 0 0,oL 0 64,oD 0 255]
def q31_10:List OpI:=[oL 0 0,oD 0 0,oL 0 2,oD 0 0,oL 0 8,oR 0 31,oL 0 0,oD 0 0,oL 0 128,oR 0 511,oD 0 1023,oR 0 2047,oD 0 0,oL 0 4096,oD 0 0,oL 0 16384,oD 0 61440,oR 0 131071,oD 0 262143,oR 0 524287,oD 0 1048575]
def q32_8:List OpI:=[oD 0 0,oL 0 1,oD 0 0,oD 0 7,oD 0 15,oL 0 31,oD 0 0,oL 0 64,oD 0 255]
def q32_10:List OpI:=[oD 0 0,oL 0 1,oR 0 3,oD 0 7,oR 0 15,oL 0 0,oD 0 0,oL 0 64,oD 0 0,oL 0 256,oR 0 1023,oD 0 2047,oR 0 4095,oD 0 8191]
def q33_4:List OpI:=[oL 0 0,oR 0 1,oL 0 0,oR 0 7,oD 0 15,oR 0 31,oD 0 63]
def q36_2:List OpI:=[oD 0 0,oD 0 1,oR 0 3,oL 0 0,oD 0 0,oL 0 16,oR 0 63,oD 0 127,oR 0 255,oD 0 511,oR 0 1023,oD 0 2047]
def q38_1:List OpI:=[oD 0 0,oL 0 1,oD 0 0,oL 0 4,oR 0 15,oD 0 0,oL 0 32,oR 0 96,oD 0 0,oL 0 256,oR 0 768,oR 0 2047,oD 0 0,oL 0 4096,oD 0 0,oL 0 16384,oD 0 0,oR 0 131071,oD 0 262143,oR 0 524287,oD 0 1048575]
def q39_1:List OpI:=[oD 0 0,oL 0 1,oF 0 3,oL 0 0,oD 0 8,oW 1 31,oD 0 0,⟨.load,0,64,[5]⟩,⟨.load,0,0,[5]⟩,oR 2 319,oD 2 1023,oD 2 2047,oW 2 4095]
def q42_1:List OpI:=[oD 0 0,oL 0 1,oR 0 3,oR 0 7,oD 0 0,oL 0 16,oR 0 63,oR 0 127,oD 0 255,oR 0 511,oD 0 1023]
def q43_1:List OpI:=[oD 0 0,oL 0 1,oD 0 0,oL 0 4,oD 0 15,oD 0 31,oL 0 63,oD 0 0,oL 0 128,oD 0 0,oL 0 512,oD 0 1920,oD 0 3968,oL 0 8064,oD 0 16383,oD 0 32767]
def q50_1:List OpI:=[oD 0 0,oL 0 1,oR 0 3,oD 0 0,oL 0 8,oR 0 31,oD 0 63,oR 0 127,oD 0 255]
def q52_4:List OpI:=[oD 0 0,oL 0 1,oD 0 3,oD 0 7,oD 0 15,oL 0 31,oD 0 15,oL 0 79,oD 0 255,oD 0 511,oD 0 1023,oD 0 2047,oL 0 4095,oD 0 2047,oL 0 10239,oD 0 2047,oD 0 59391,oL 0 124927,oR 0 255999,oD 0 524287,oD 0 1048575,oR 0 2097151,oD 0 4194303]
def q53_8:List OpI:=[oD 0 0,oL 0 1,oR 0 3,oD 0 0,oD 0 0,oL 0 16,oR 0 56,oR 0 127,oD 0 0,oL 0 256,oR 0 768,oD 0 1792,oR 0 4095,oD 0 0,oL 0 8192,oR 0 24576,oD 0 57344,oR 0 131071,oD 0 262143,oR 0 524287,oD 0 1048575]
def q54_9:List OpI:=[oD 0 0,oL 0 1,oR 0 3,oD 0 0,oD 0 0,oL 0 16,oR 0 56,oR 0 127,oD 0 0,oD 0 256,oR 0 1023,oL 0 0,oD 0 0,oL 0 4096,oR 0 16383,oD 0 32767,oR 0 65535,oD 0 0,oD 0 131072,oR 0 524287,oD 0 0,oL 0 1048576,oD 0 0,oL 0 4194304,oD 0 15728640,oR 0 33554431,oD 0 67108863,oR 0 134217727,oD 0 268435455]
def q55_8:List OpI:=[oD 0 0,oL 0 1,oR 0 3,oD 0 0,oD 0 0,oL 0 16,oR 0 56,oR 0 127,oD 0 0,oL 0 256,oR 0 1023,oD 0 2047,oR 0 4095,oD 0 0,oD 0 8192,oR 0 32767,oL 0 0,oD 0 0,oL 0 131072,oR 0 524287,oD 0 1048575,oR 0 2097151,oD 0 4194303]
def q62_1:List OpI:=[oL 0 0,oD 0 0,oL 0 2,oR 0 7,oL 0 0,oD 0 0,oL 0 32,oR 0 127,oR 0 255,oD 0 0,oL 0 512,oD 0 0,oL 0 2048,oR 0 8191,oD 0 0,oL 0 16384,oD 0 0,oL 0 65536,oR 0 262143,oD 0 524287,oR 0 1048575,oD 0 2097151]
def q68_7:List OpI:=[oD 0 0,oL 0 1,oR 0 3,oD 0 7,oR 0 15,oD 0 0,oL 0 32,oR 0 127,oD 0 0,oL 0 256,oD 0 0,oD 0 1792,oR 0 4095,oD 0 8191,oR 0 16383,oD 0 32767]
def q75_1:List OpI:=[oD 0 0,oL 0 1,oR 0 3,oD 0 0,oL 0 8,oR 0 31,oL 0 0,oR 0 127,oD 0 255,oD 0 511,oL 0 1023,oR 0 2047,oD 0 4095,oD 0 8191,oR 0 16383,oD 0 32767,oR 0 65535,oD 0 131071]
def q79_1:List OpI:=[oD 0 0,oL 0 1,oD 0 0,oL 0 4,oD 0 15,oD 0 31,oL 0 63,oD 0 63,oL 0 191,oR 0 511,oD 0 1023,oD 0 2047,oD 0 4095,oD 0 8191,oL 0 16383,oL 0 8191,oR 0 40959,oD 0 131071,oD 0 262143,oR 0 524287,oD 0 1048575]
def q88_1:List OpI:=[oD 0 0,oL 0 1,oL 0 0,oR 0 4,oD 0 0,oL 0 16,oD 0 48,oD 0 124,oD 0 255,oD 0 511]
noncomputable def planT:TT (List (Nat × List OpI)) :=
 (.node [] (.node [] (.node [(7,q3_7),(8,q3_8),(10,q3_10),(49,q3_49)] (.node [(7,q7_7)] (.node [] (.node [(8,q31_8),(10,q31_10)] .leaf
 .leaf)
 (.node [] (.node [(1,q79_1)] .leaf
 .leaf)
 .leaf))
 (.node [(5,q23_5),(6,q23_6),(13,q23_13)] (.node [(1,q39_1)] .leaf
 .leaf)
 (.node [(8,q55_8)] .leaf
 .leaf)))
 (.node [(1,q11_1)] .leaf
 (.node [] (.node [(1,q43_1)] (.node [(1,q75_1)] .leaf
 .leaf)
 .leaf)
 .leaf)))
 (.node [] (.node [] (.node [] (.node [(4,q33_4)] .leaf
 .leaf)
 .leaf)
 .leaf)
 (.node [(1,q13_1)] (.node [] .leaf
 (.node [(8,q53_8)] .leaf
 .leaf))
 .leaf)))
 (.node [] (.node [(2,q4_2),(3,q4_3)] (.node [] (.node [] (.node [(8,q32_8),(10,q32_10)] .leaf
 .leaf)
 .leaf)
 (.node [(1,q24_1)] .leaf
 (.node [] (.node [(1,q88_1)] .leaf
 .leaf)
 .leaf)))
 (.node [(1,q12_1),(10,q12_10)] (.node [(10,q20_10)] (.node [(2,q36_2)] (.node [(7,q68_7)] .leaf
 .leaf)
 .leaf)
 (.node [(4,q52_4)] .leaf
 .leaf))
 .leaf))
 (.node [] (.node [] (.node [(19,q18_19)] .leaf
 (.node [(1,q50_1)] .leaf
 .leaf))
 (.node [(1,q26_1),(2,q26_2),(3,q26_3)] (.node [(1,q42_1)] .leaf
 .leaf)
 .leaf))
 (.node [(1,q14_1)] (.node [] (.node [(1,q38_1)] .leaf
 .leaf)
 (.node [(9,q54_9)] .leaf
 .leaf))
 (.node [(2,q30_2)] .leaf
 (.node [(1,q62_1)] .leaf
 .leaf))))))
def look2 {α:Type}:List (Nat × List α)→Nat→List α
 | [],_=>[]
 | (i,x)::r,n=>cond (Nat.beq i n) x (look2 r n)
noncomputable def NC:Cfg where
 P:=Proofs.Try.prog
 good:=fun f=>goodM.testBit f
 mode:=fun f=>cond (freshM.testBit f) .fresh (cond (freeM.testBit f) .free .pure)
 refApp:=fun f t=>refM.testBit f && refT.testBit t
 frz:=fun _ _=>false
 glob:=fun _=>none
 memo:=fun _ _=>none
 prim:=fun _=>none
 hprim:=fun _=>none
 twice:=fun f=>twiceM.testBit f
 plans:=fun f id=>look2 (planT.get [] f) id
end Go.Sim

namespace Go.Sim
open Go Go.Proofs
noncomputable def okF (f:Nat):Bool:=match NC.P.funcs[f]? with
 | some fn=>match fn.body with
   | some c=>!(fn.name == "runtime.NumGoroutine") && codeOk NC f fn.ntmps c
   | none=>false
 | none=>false
noncomputable def okChunk:Nat→Nat→Bool
 | _,0=>true
 | a,n+1=>(!goodM.testBit a || okF a) && okChunk (a+1) n
theorem okChunk_at:∀ {a n f:Nat},okChunk a n=true→a≤f→f < a+n→goodM.testBit f=true→okF f=true
 | a,0,f,_,h1,h2,_=>by omega
 | a,n+1,f,h,h1,h2,hg=>by
   unfold okChunk at h
   simp only [Bool.and_eq_true] at h
   by_cases e:f=a
   · subst e
     have:=h.1
     rw [hg] at this
     simpa using this
   · exact okChunk_at h.2 (by omega) (by omega) hg
theorem ok0:okChunk 0 20=true:=by kernel_rfl
theorem ok20:okChunk 20 20=true:=by kernel_rfl
theorem ok40:okChunk 40 20=true:=by kernel_rfl
theorem ok60:okChunk 60 20=true:=by kernel_rfl
theorem ok80:okChunk 80 20=true:=by kernel_rfl
theorem ok100:okChunk 100 20=true:=by kernel_rfl
theorem testBit_big {g a f:Nat} (h:g < 2 ^ a * 2 ^ a) (hf:a+a≤f):g.testBit f=false :=
 Nat.testBit_lt_two_pow (Nat.lt_of_lt_of_le h (by rw [← Nat.pow_add];exact Nat.pow_le_pow_right (by omega) hf))
theorem goodM_lt:goodM < 2 ^ 60 * 2 ^ 60:=by decide +kernel
theorem okAll (f:Nat) (hg:goodM.testBit f=true):okF f=true:=by
 have hlt:f < 120:=by
  rcases Nat.lt_or_ge f 120 with h | h
  · exact h
  · have:goodM.testBit f=false:=testBit_big goodM_lt h
    rw [this] at hg;cases hg
 by_cases h0:f < 20
 · exact okChunk_at ok0 (by omega) (by omega) hg
 by_cases h20:f < 40
 · exact okChunk_at ok20 (by omega) (by omega) hg
 by_cases h40:f < 60
 · exact okChunk_at ok40 (by omega) (by omega) hg
 by_cases h60:f < 80
 · exact okChunk_at ok60 (by omega) (by omega) hg
 by_cases h80:f < 100
 · exact okChunk_at ok80 (by omega) (by omega) hg
 by_cases h100:f < 120
 · exact okChunk_at ok100 (by omega) (by omega) hg
 omega
theorem saneNC:Sane NC where
 depth:=by decide +kernel
 orders:=by kernel_rfl
 good:=fun f hf=>by
  have h:=okAll f hf
  unfold okF at h
  split at h
  · rename_i fn hfn
    split at h
    · rename_i c hc
      simp only [Bool.and_eq_true,Bool.not_eq_true'] at h
      exact ⟨fn,c,hfn,hc,h.1,h.2⟩
    · cases h
  · cases h
 memo:=fun f args v h=>by cases h
 prim:=fun f p args v hp h lo H=>by cases hp
 hprim:=fun f p lo args H v H' hp h hl=>by cases hp
theorem rfP {P:FuncId→Option (List AV→Option AV)} {f:FuncId} {t:TypeId} (h:refM.testBit f=false):(NC.withPrims P).refApp f t=false:=by show (refM.testBit f && refT.testBit t)=false;rw [h];rfl
noncomputable def fplace (t i:Nat):Option (Nat × Nat):=match NC.P.underlying t with
 | some (.struct fs)=>fieldPlaces NC.P fs i
 | _=>none
noncomputable def faOff (t f:Nat):Option Nat:=match fieldOf NC.P t f with
 | some fd=>match szOf NC.P fd.type with
   | some (_+1)=>some fd.offset
   | _=>none
 | none=>none
def faPtr (id off:Nat):Option Nat→Option AV
 | some o=>some (.ptr id (off+o))
 | none=>none
def faPP (cs:List AV):Option Nat→Option AV
 | some o=>some (.pptr (cs.drop o))
 | none=>none
theorem faPtr_some (id off o:Nat):faPtr id off (some o)=some (.ptr id (off+o)):=rfl
theorem faPP_some (cs:List AV) (o:Nat):faPP cs (some o)=some (.pptr (cs.drop o)):=rfl
theorem fa_ptr (t f id off:Nat):afieldAddr NC.P t (.ptr id off) f=faPtr id off (faOff t f):=by
 unfold afieldAddr faOff
 cases fieldOf NC.P t f with
 | none=>rfl
 | some fd=>simp only [];cases szOf NC.P fd.type with
   | none=>rfl
   | some n=>cases n<;>rfl
theorem fa_pp (t f:Nat) (cs:List AV):afieldAddr NC.P t (.pptr cs) f=faPP cs (faOff t f):=by
 unfold afieldAddr faOff
 cases fieldOf NC.P t f with
 | none=>rfl
 | some fd=>simp only [];cases szOf NC.P fd.type with
   | none=>rfl
   | some n=>cases n<;>rfl
theorem sz_26:szOf NC.P 26=some 3:=by kernel_rfl
theorem ag_26:aggOf NC.P 26=some true:=by kernel_rfl
theorem sz_22:szOf NC.P 22=some 1:=by kernel_rfl
theorem ag_22:aggOf NC.P 22=some false:=by kernel_rfl
theorem un_22:NC.P.underlying 22=some (.slice 36):=by kernel_rfl
theorem ze_33:zeroOf NC.P 33=some (.agg [.str [],.int .i64 0,.str [],.int .i64 0]):=by kernel_rfl
theorem un_28:NC.P.underlying 28=some (.array 2 27):=by kernel_rfl
theorem sz_27:szOf NC.P 27=some 2:=by kernel_rfl
theorem un_27:NC.P.underlying 27=some (.array 2 5):=by kernel_rfl
theorem sz_5:szOf NC.P 5=some 1:=by kernel_rfl
theorem ag_5:aggOf NC.P 5=some false:=by kernel_rfl
theorem un_5:NC.P.underlying 5=some (.int .u8):=by kernel_rfl
theorem un_3:NC.P.underlying 3=some (.int .i64):=by kernel_rfl
theorem sz_36:szOf NC.P 36=some 2:=by kernel_rfl
theorem ag_36:aggOf NC.P 36=some true:=by kernel_rfl
theorem ze_36:zeroOf NC.P 36=some (.agg [.str [],.ps .nil []]):=by kernel_rfl
theorem sz_9:szOf NC.P 9=some 1:=by kernel_rfl
theorem ag_9:aggOf NC.P 9=some false:=by kernel_rfl
theorem ze_32:zeroOf NC.P 32=some (.agg [.str [],.int .i64 0]):=by kernel_rfl
theorem bs_32 (parts:List (Nat × AV)):abuild NC.P 32 parts=match afill (fun i=>fplace 32 i) [.str [],.int .i64 0] parts with
 | some cs=>some (.agg cs)
 | none=>none:=by kernel_rfl
theorem fp_32_0:fplace 32 0=some (0,1):=by kernel_rfl
theorem fp_32_1:fplace 32 1=some (1,1):=by kernel_rfl
theorem un_33:NC.P.underlying 33=some (.array 2 32):=by kernel_rfl
theorem sz_32:szOf NC.P 32=some 2:=by kernel_rfl
theorem ag_32:aggOf NC.P 32=some true:=by kernel_rfl
theorem un_38:NC.P.underlying 38=some (.slice 55):=by kernel_rfl
theorem ze_49:zeroOf NC.P 49=some (.agg [.str [],.int .i64 0]):=by kernel_rfl
theorem bs_49 (parts:List (Nat × AV)):abuild NC.P 49 parts=match afill (fun i=>fplace 49 i) [.str [],.int .i64 0] parts with
 | some cs=>some (.agg cs)
 | none=>none:=by kernel_rfl
theorem fp_49_0:fplace 49 0=some (0,1):=by kernel_rfl
theorem fp_49_1:fplace 49 1=some (1,1):=by kernel_rfl
theorem el_50:elemOf NC.P 50=some 49:=by kernel_rfl
theorem sz_49:szOf NC.P 49=some 2:=by kernel_rfl
theorem ze_53:zeroOf NC.P 53=some (.agg [.ps .nil [],.ps .nil []]):=by kernel_rfl
theorem bs_53 (parts:List (Nat × AV)):abuild NC.P 53 parts=match afill (fun i=>fplace 53 i) [.ps .nil [],.ps .nil []] parts with
 | some cs=>some (.agg cs)
 | none=>none:=by kernel_rfl
theorem fp_53_0:fplace 53 0=some (0,1):=by kernel_rfl
theorem fp_53_1:fplace 53 1=some (1,1):=by kernel_rfl
theorem sz_53:szOf NC.P 53=some 2:=by kernel_rfl
theorem sz_55:szOf NC.P 55=some 3:=by kernel_rfl
theorem ag_55:aggOf NC.P 55=some true:=by kernel_rfl
theorem ze_55:zeroOf NC.P 55=some (.agg [.str [],.int .i64 0,.int .i64 0]):=by kernel_rfl
theorem sz_3:szOf NC.P 3=some 1:=by kernel_rfl
theorem ag_3:aggOf NC.P 3=some false:=by kernel_rfl
theorem sz_50:szOf NC.P 50=some 1:=by kernel_rfl
theorem ag_50:aggOf NC.P 50=some false:=by kernel_rfl
theorem un_50:NC.P.underlying 50=some (.slice 49):=by kernel_rfl
theorem by_49:bytesOf NC.P 49=some 24:=by kernel_rfl
theorem ag_49:aggOf NC.P 49=some true:=by kernel_rfl
theorem sz_51:szOf NC.P 51=some 1:=by kernel_rfl
theorem ag_51:aggOf NC.P 51=some false:=by kernel_rfl
theorem ze_57:zeroOf NC.P 57=some (.agg [.str [],.int .i64 0]):=by kernel_rfl
theorem bs_57 (parts:List (Nat × AV)):abuild NC.P 57 parts=match afill (fun i=>fplace 57 i) [.str [],.int .i64 0] parts with
 | some cs=>some (.agg cs)
 | none=>none:=by kernel_rfl
theorem fp_57_0:fplace 57 0=some (0,1):=by kernel_rfl
theorem fp_57_1:fplace 57 1=some (1,1):=by kernel_rfl
theorem el_51:elemOf NC.P 51=some 57:=by kernel_rfl
theorem sz_57:szOf NC.P 57=some 2:=by kernel_rfl
theorem un_51:NC.P.underlying 51=some (.slice 57):=by kernel_rfl
theorem by_57:bytesOf NC.P 57=some 24:=by kernel_rfl
theorem ag_53:aggOf NC.P 53=some true:=by kernel_rfl
theorem el_58:elemOf NC.P 58=some 68:=by kernel_rfl
theorem sz_68:szOf NC.P 68=some 2:=by kernel_rfl
theorem ze_68:zeroOf NC.P 68=some (.agg [.int .i64 0,.int .i64 0]):=by kernel_rfl
theorem un_58:NC.P.underlying 58=some (.slice 68):=by kernel_rfl
theorem by_68:bytesOf NC.P 68=some 16:=by kernel_rfl
theorem bs_68 (parts:List (Nat × AV)):abuild NC.P 68 parts=match afill (fun i=>fplace 68 i) [.int .i64 0,.int .i64 0] parts with
 | some cs=>some (.agg cs)
 | none=>none:=by kernel_rfl
theorem fp_68_0:fplace 68 0=some (0,1):=by kernel_rfl
theorem fp_68_1:fplace 68 1=some (1,1):=by kernel_rfl
theorem ze_70:zeroOf NC.P 70=some (.agg [.int .i64 0,.int .i64 0]):=by kernel_rfl
theorem bs_70 (parts:List (Nat × AV)):abuild NC.P 70 parts=match afill (fun i=>fplace 70 i) [.int .i64 0,.int .i64 0] parts with
 | some cs=>some (.agg cs)
 | none=>none:=by kernel_rfl
theorem fp_70_0:fplace 70 0=some (0,1):=by kernel_rfl
theorem fp_70_1:fplace 70 1=some (1,1):=by kernel_rfl
theorem ze_64:zeroOf NC.P 64=some (.agg [.int .i64 0,.int .i64 0]):=by kernel_rfl
theorem sz_64:szOf NC.P 64=some 2:=by kernel_rfl
theorem un_71:NC.P.underlying 71=some (.slice 106):=by kernel_rfl
theorem ze_75:zeroOf NC.P 75=some (.agg [.int .i64 0,.int .i64 0]):=by kernel_rfl
theorem bs_75 (parts:List (Nat × AV)):abuild NC.P 75 parts=match afill (fun i=>fplace 75 i) [.int .i64 0,.int .i64 0] parts with
 | some cs=>some (.agg cs)
 | none=>none:=by kernel_rfl
theorem fp_75_0:fplace 75 0=some (0,1):=by kernel_rfl
theorem fp_75_1:fplace 75 1=some (1,1):=by kernel_rfl
theorem ag_64:aggOf NC.P 64=some true:=by kernel_rfl
theorem bs_64 (parts:List (Nat × AV)):abuild NC.P 64 parts=match afill (fun i=>fplace 64 i) [.int .i64 0,.int .i64 0] parts with
 | some cs=>some (.agg cs)
 | none=>none:=by kernel_rfl
theorem fp_64_0:fplace 64 0=some (0,1):=by kernel_rfl
theorem fp_64_1:fplace 64 1=some (1,1):=by kernel_rfl
theorem sz_23:szOf NC.P 23=some 1:=by kernel_rfl
theorem ag_23:aggOf NC.P 23=some false:=by kernel_rfl
theorem un_23:NC.P.underlying 23=some (.slice 90):=by kernel_rfl
theorem sz_24:szOf NC.P 24=some 1:=by kernel_rfl
theorem ag_24:aggOf NC.P 24=some false:=by kernel_rfl
theorem un_24:NC.P.underlying 24=some (.slice 95):=by kernel_rfl
theorem sz_34:szOf NC.P 34=some 1:=by kernel_rfl
theorem ag_34:aggOf NC.P 34=some false:=by kernel_rfl
theorem un_34:NC.P.underlying 34=some (.slice 79):=by kernel_rfl
theorem sz_79:szOf NC.P 79=some 3:=by kernel_rfl
theorem sz_46:szOf NC.P 46=some 3:=by kernel_rfl
theorem ag_46:aggOf NC.P 46=some true:=by kernel_rfl
theorem el_112:elemOf NC.P 112=some 32:=by kernel_rfl
theorem un_112:NC.P.underlying 112=some (.slice 32):=by kernel_rfl
theorem ze_82:zeroOf NC.P 82=some (.agg [.ps .nil [],.int .i64 0]):=by kernel_rfl
theorem sz_82:szOf NC.P 82=some 2:=by kernel_rfl
theorem sz_38:szOf NC.P 38=some 1:=by kernel_rfl
theorem ag_38:aggOf NC.P 38=some false:=by kernel_rfl
theorem ze_46:zeroOf NC.P 46=some (.agg [.ps .nil [],.ps .nil [],.ps .nil []]):=by kernel_rfl
theorem ze_87:zeroOf NC.P 87=some (.agg [.str [],.ps .nil []]):=by kernel_rfl
theorem bs_87 (parts:List (Nat × AV)):abuild NC.P 87 parts=match afill (fun i=>fplace 87 i) [.str [],.ps .nil []] parts with
 | some cs=>some (.agg cs)
 | none=>none:=by kernel_rfl
theorem fp_87_0:fplace 87 0=some (0,1):=by kernel_rfl
theorem fp_87_1:fplace 87 1=some (1,1):=by kernel_rfl
theorem sz_87:szOf NC.P 87=some 2:=by kernel_rfl
theorem ag_79:aggOf NC.P 79=some true:=by kernel_rfl
theorem ze_79:zeroOf NC.P 79=some (.agg [.int .i64 0,.int .i64 0,.bool false]):=by kernel_rfl
theorem sz_85:szOf NC.P 85=some 1:=by kernel_rfl
theorem ag_85:aggOf NC.P 85=some false:=by kernel_rfl
theorem el_85:elemOf NC.P 85=some 88:=by kernel_rfl
theorem sz_88:szOf NC.P 88=some 3:=by kernel_rfl
theorem ze_88:zeroOf NC.P 88=some (.agg [.int .i64 0,.int .i64 0,.bool false]):=by kernel_rfl
theorem un_85:NC.P.underlying 85=some (.slice 88):=by kernel_rfl
theorem by_88:bytesOf NC.P 88=some 24:=by kernel_rfl
theorem sz_42:szOf NC.P 42=some 1:=by kernel_rfl
theorem ag_42:aggOf NC.P 42=some false:=by kernel_rfl
theorem ag_87:aggOf NC.P 87=some true:=by kernel_rfl
theorem el_42:elemOf NC.P 42=some 87:=by kernel_rfl
theorem un_42:NC.P.underlying 42=some (.slice 87):=by kernel_rfl
theorem by_87:bytesOf NC.P 87=some 40:=by kernel_rfl
theorem sz_90:szOf NC.P 90=some 5:=by kernel_rfl
theorem ag_90:aggOf NC.P 90=some true:=by kernel_rfl
theorem ze_90:zeroOf NC.P 90=some (.agg [.str [],.str [],.int .i64 0,.str [],.bool false]):=by kernel_rfl
theorem sz_43:szOf NC.P 43=some 1:=by kernel_rfl
theorem ag_43:aggOf NC.P 43=some false:=by kernel_rfl
theorem el_43:elemOf NC.P 43=some 91:=by kernel_rfl
theorem sz_91:szOf NC.P 91=some 5:=by kernel_rfl
theorem ze_91:zeroOf NC.P 91=some (.agg [.str [],.str [],.int .i64 0,.str [],.bool false]):=by kernel_rfl
theorem un_43:NC.P.underlying 43=some (.slice 91):=by kernel_rfl
theorem by_91:bytesOf NC.P 91=some 64:=by kernel_rfl
theorem sz_95:szOf NC.P 95=some 5:=by kernel_rfl
theorem ag_95:aggOf NC.P 95=some true:=by kernel_rfl
theorem ze_95:zeroOf NC.P 95=some (.agg [.str [],.str [],.str [],.int .i64 0,.int .i64 0]):=by kernel_rfl
theorem sz_44:szOf NC.P 44=some 1:=by kernel_rfl
theorem ag_44:aggOf NC.P 44=some false:=by kernel_rfl
theorem el_44:elemOf NC.P 44=some 96:=by kernel_rfl
theorem sz_96:szOf NC.P 96=some 5:=by kernel_rfl
theorem ze_96:zeroOf NC.P 96=some (.agg [.str [],.str [],.str [],.int .i64 0,.int .i64 0]):=by kernel_rfl
theorem un_44:NC.P.underlying 44=some (.slice 96):=by kernel_rfl
theorem by_96:bytesOf NC.P 96=some 64:=by kernel_rfl
theorem un_4:NC.P.underlying 4=some (.bool):=by kernel_rfl
theorem un_39:NC.P.underlying 39=some (.int .i64):=by kernel_rfl
theorem el_114:elemOf NC.P 114=some 39:=by kernel_rfl
theorem sz_39:szOf NC.P 39=some 1:=by kernel_rfl
theorem ze_39:zeroOf NC.P 39=some (.int .i64 0):=by kernel_rfl
theorem un_114:NC.P.underlying 114=some (.slice 39):=by kernel_rfl
theorem sz_70:szOf NC.P 70=some 2:=by kernel_rfl
theorem ag_70:aggOf NC.P 70=some true:=by kernel_rfl
theorem ag_68:aggOf NC.P 68=some true:=by kernel_rfl
theorem ze_104:zeroOf NC.P 104=some (.agg [.int .i64 0,.int .i64 0,.int .i64 0,.int .i64 0]):=by kernel_rfl
theorem un_104:NC.P.underlying 104=some (.array 2 68):=by kernel_rfl
theorem sz_104:szOf NC.P 104=some 4:=by kernel_rfl
theorem ag_104:aggOf NC.P 104=some true:=by kernel_rfl
theorem ze_106:zeroOf NC.P 106=some (.agg [.int .i64 0,.int .i64 0]):=by kernel_rfl
theorem un_106:NC.P.underlying 106=some (.array 2 3):=by kernel_rfl
theorem el_71:elemOf NC.P 71=some 106:=by kernel_rfl
theorem sz_106:szOf NC.P 106=some 2:=by kernel_rfl
theorem by_106:bytesOf NC.P 106=some 16:=by kernel_rfl
theorem el_109:elemOf NC.P 109=some 3:=by kernel_rfl
theorem ze_3:zeroOf NC.P 3=some (.int .i64 0):=by kernel_rfl
theorem un_109:NC.P.underlying 109=some (.slice 3):=by kernel_rfl
theorem un_9:NC.P.underlying 9=some (.string):=by kernel_rfl
theorem ze_4:zeroOf NC.P 4=some (.bool false):=by kernel_rfl
theorem sz_4:szOf NC.P 4=some 1:=by kernel_rfl
theorem bs_82 (parts:List (Nat × AV)):abuild NC.P 82 parts=match afill (fun i=>fplace 82 i) [.ps .nil [],.int .i64 0] parts with
 | some cs=>some (.agg cs)
 | none=>none:=by kernel_rfl
theorem fp_82_0:fplace 82 0=some (0,1):=by kernel_rfl
theorem fp_82_1:fplace 82 1=some (1,1):=by kernel_rfl
theorem bs_55 (parts:List (Nat × AV)):abuild NC.P 55 parts=match afill (fun i=>fplace 55 i) [.str [],.int .i64 0,.int .i64 0] parts with
 | some cs=>some (.agg cs)
 | none=>none:=by kernel_rfl
theorem fp_55_0:fplace 55 0=some (0,1):=by kernel_rfl
theorem fp_55_1:fplace 55 1=some (1,1):=by kernel_rfl
theorem fp_55_2:fplace 55 2=some (2,1):=by kernel_rfl
theorem ag_91:aggOf NC.P 91=some true:=by kernel_rfl
theorem sz_33:szOf NC.P 33=some 4:=by kernel_rfl
theorem ag_33:aggOf NC.P 33=some true:=by kernel_rfl
theorem ze_123:zeroOf NC.P 123=some (.agg [.str [],.int .i64 0,.str [],.int .i64 0,.str [],.int .i64 0,.str [],.int .i64 0]):=by kernel_rfl
theorem un_123:NC.P.underlying 123=some (.array 2 33):=by kernel_rfl
theorem un_120:NC.P.underlying 120=some (.map 32 82):=by kernel_rfl
theorem ag_82:aggOf NC.P 82=some true:=by kernel_rfl
theorem ag_4:aggOf NC.P 4=some false:=by kernel_rfl
theorem ag_39:aggOf NC.P 39=some false:=by kernel_rfl
theorem sz_93:szOf NC.P 93=some 2:=by kernel_rfl
theorem ag_93:aggOf NC.P 93=some true:=by kernel_rfl
theorem by_39:bytesOf NC.P 39=some 8:=by kernel_rfl
theorem el_38:elemOf NC.P 38=some 55:=by kernel_rfl
theorem by_55:bytesOf NC.P 55=some 32:=by kernel_rfl
theorem ze_120:zeroOf NC.P 120=some (.nilm):=by kernel_rfl
theorem sz_120:szOf NC.P 120=some 1:=by kernel_rfl
theorem ag_120:aggOf NC.P 120=some false:=by kernel_rfl
theorem un_145:NC.P.underlying 145=some (.slice 148):=by kernel_rfl
theorem un_154:NC.P.underlying 154=some (.map 9 4):=by kernel_rfl
theorem ag_96:aggOf NC.P 96=some true:=by kernel_rfl
theorem sz_148:szOf NC.P 148=some 2:=by kernel_rfl
theorem ag_148:aggOf NC.P 148=some true:=by kernel_rfl
theorem ze_148:zeroOf NC.P 148=some (.agg [.str [],.int .i64 0]):=by kernel_rfl
theorem el_145:elemOf NC.P 145=some 148:=by kernel_rfl
theorem by_148:bytesOf NC.P 148=some 24:=by kernel_rfl
theorem bs_148 (parts:List (Nat × AV)):abuild NC.P 148 parts=match afill (fun i=>fplace 148 i) [.str [],.int .i64 0] parts with
 | some cs=>some (.agg cs)
 | none=>none:=by kernel_rfl
theorem fp_148_0:fplace 148 0=some (0,1):=by kernel_rfl
theorem fp_148_1:fplace 148 1=some (1,1):=by kernel_rfl
theorem ag_57:aggOf NC.P 57=some true:=by kernel_rfl
theorem ag_88:aggOf NC.P 88=some true:=by kernel_rfl
theorem un_21:NC.P.underlying 21=some (.int .i32):=by kernel_rfl
theorem fa_26_0:faOff 26 0=some 0:=by kernel_rfl
theorem fa_36_0:faOff 36 0=some 0:=by kernel_rfl
theorem fa_55_2:faOff 55 2=some 2:=by kernel_rfl
theorem fa_55_1:faOff 55 1=some 1:=by kernel_rfl
theorem fa_53_0:faOff 53 0=some 0:=by kernel_rfl
theorem fa_49_1:faOff 49 1=some 1:=by kernel_rfl
theorem fa_53_1:faOff 53 1=some 1:=by kernel_rfl
theorem fa_49_0:faOff 49 0=some 0:=by kernel_rfl
theorem fa_55_0:faOff 55 0=some 0:=by kernel_rfl
theorem fa_64_0:faOff 64 0=some 0:=by kernel_rfl
theorem fa_64_1:faOff 64 1=some 1:=by kernel_rfl
theorem fa_26_1:faOff 26 1=some 1:=by kernel_rfl
theorem fa_26_2:faOff 26 2=some 2:=by kernel_rfl
theorem fa_36_1:faOff 36 1=some 1:=by kernel_rfl
theorem fa_79_0:faOff 79 0=some 0:=by kernel_rfl
theorem fa_82_0:faOff 82 0=some 0:=by kernel_rfl
theorem fa_82_1:faOff 82 1=some 1:=by kernel_rfl
theorem fa_87_1:faOff 87 1=some 1:=by kernel_rfl
theorem fa_46_0:faOff 46 0=some 0:=by kernel_rfl
theorem fa_46_1:faOff 46 1=some 1:=by kernel_rfl
theorem fa_46_2:faOff 46 2=some 2:=by kernel_rfl
theorem fa_68_0:faOff 68 0=some 0:=by kernel_rfl
theorem fa_57_1:faOff 57 1=some 1:=by kernel_rfl
theorem fa_68_1:faOff 68 1=some 1:=by kernel_rfl
theorem fa_70_1:faOff 70 1=some 1:=by kernel_rfl
theorem fa_75_0:faOff 75 0=some 0:=by kernel_rfl
theorem fa_75_1:faOff 75 1=some 1:=by kernel_rfl
theorem fa_90_0:faOff 90 0=some 0:=by kernel_rfl
theorem fa_90_1:faOff 90 1=some 1:=by kernel_rfl
theorem fa_90_3:faOff 90 3=some 3:=by kernel_rfl
theorem fa_95_0:faOff 95 0=some 0:=by kernel_rfl
theorem fa_95_1:faOff 95 1=some 1:=by kernel_rfl
theorem fa_95_2:faOff 95 2=some 2:=by kernel_rfl
theorem fa_32_0:faOff 32 0=some 0:=by kernel_rfl
theorem fa_32_1:faOff 32 1=some 1:=by kernel_rfl
theorem fa_70_0:faOff 70 0=some 0:=by kernel_rfl
theorem fa_90_2:faOff 90 2=some 2:=by kernel_rfl
theorem fa_95_3:faOff 95 3=some 3:=by kernel_rfl
theorem fa_91_3:faOff 91 3=some 3:=by kernel_rfl
theorem fa_91_4:faOff 91 4=some 4:=by kernel_rfl
theorem fa_91_1:faOff 91 1=some 1:=by kernel_rfl
theorem fa_91_2:faOff 91 2=some 2:=by kernel_rfl
theorem fa_57_0:faOff 57 0=some 0:=by kernel_rfl
theorem fa_79_1:faOff 79 1=some 1:=by kernel_rfl
theorem fa_93_0:faOff 93 0=some 0:=by kernel_rfl
theorem fa_93_1:faOff 93 1=some 1:=by kernel_rfl
theorem fa_87_0:faOff 87 0=some 0:=by kernel_rfl
theorem fa_91_0:faOff 91 0=some 0:=by kernel_rfl
theorem fa_96_2:faOff 96 2=some 2:=by kernel_rfl
theorem fa_96_0:faOff 96 0=some 0:=by kernel_rfl
theorem fa_96_1:faOff 96 1=some 1:=by kernel_rfl
theorem fa_96_3:faOff 96 3=some 3:=by kernel_rfl
theorem fa_88_0:faOff 88 0=some 0:=by kernel_rfl
theorem fa_148_0:faOff 148 0=some 0:=by kernel_rfl
theorem fa_148_1:faOff 148 1=some 1:=by kernel_rfl
theorem fa_79_2:faOff 79 2=some 2:=by kernel_rfl
theorem fa_88_1:faOff 88 1=some 1:=by kernel_rfl
theorem fa_88_2:faOff 88 2=some 2:=by kernel_rfl
theorem pl_3_7 (P:FuncId→Option (List AV→Option AV)):(NC.withPrims P).plans 3 7=q3_7:=by kernel_rfl
theorem pl_3_8 (P:FuncId→Option (List AV→Option AV)):(NC.withPrims P).plans 3 8=q3_8:=by kernel_rfl
theorem pl_3_10 (P:FuncId→Option (List AV→Option AV)):(NC.withPrims P).plans 3 10=q3_10:=by kernel_rfl
theorem pl_3_49 (P:FuncId→Option (List AV→Option AV)):(NC.withPrims P).plans 3 49=q3_49:=by kernel_rfl
theorem pl_7_7 (P:FuncId→Option (List AV→Option AV)):(NC.withPrims P).plans 7 7=q7_7:=by kernel_rfl
theorem pl_11_1 (P:FuncId→Option (List AV→Option AV)):(NC.withPrims P).plans 11 1=q11_1:=by kernel_rfl
theorem pl_12_1 (P:FuncId→Option (List AV→Option AV)):(NC.withPrims P).plans 12 1=q12_1:=by kernel_rfl
theorem pl_12_10 (P:FuncId→Option (List AV→Option AV)):(NC.withPrims P).plans 12 10=q12_10:=by kernel_rfl
theorem pl_13_1 (P:FuncId→Option (List AV→Option AV)):(NC.withPrims P).plans 13 1=q13_1:=by kernel_rfl
theorem pl_14_1 (P:FuncId→Option (List AV→Option AV)):(NC.withPrims P).plans 14 1=q14_1:=by kernel_rfl
theorem pl_18_19 (P:FuncId→Option (List AV→Option AV)):(NC.withPrims P).plans 18 19=q18_19:=by kernel_rfl
theorem pl_20_10 (P:FuncId→Option (List AV→Option AV)):(NC.withPrims P).plans 20 10=q20_10:=by kernel_rfl
theorem pl_23_5 (P:FuncId→Option (List AV→Option AV)):(NC.withPrims P).plans 23 5=q23_5:=by kernel_rfl
theorem pl_23_6 (P:FuncId→Option (List AV→Option AV)):(NC.withPrims P).plans 23 6=q23_6:=by kernel_rfl
theorem pl_23_13 (P:FuncId→Option (List AV→Option AV)):(NC.withPrims P).plans 23 13=q23_13:=by kernel_rfl
theorem pl_24_1 (P:FuncId→Option (List AV→Option AV)):(NC.withPrims P).plans 24 1=q24_1:=by kernel_rfl
theorem pl_26_1 (P:FuncId→Option (List AV→Option AV)):(NC.withPrims P).plans 26 1=q26_1:=by kernel_rfl
theorem pl_26_2 (P:FuncId→Option (List AV→Option AV)):(NC.withPrims P).plans 26 2=q26_2:=by kernel_rfl
theorem pl_26_3 (P:FuncId→Option (List AV→Option AV)):(NC.withPrims P).plans 26 3=q26_3:=by kernel_rfl
theorem pl_30_2 (P:FuncId→Option (List AV→Option AV)):(NC.withPrims P).plans 30 2=q30_2:=by kernel_rfl
theorem pl_31_8 (P:FuncId→Option (List AV→Option AV)):(NC.withPrims P).plans 31 8=q31_8:=by kernel_rfl
theorem pl_31_10 (P:FuncId→Option (List AV→Option AV)):(NC.withPrims P).plans 31 10=q31_10:=by kernel_rfl
theorem pl_32_8 (P:FuncId→Option (List AV→Option AV)):(NC.withPrims P).plans 32 8=q32_8:=by kernel_rfl
theorem pl_32_10 (P:FuncId→Option (List AV→Option AV)):(NC.withPrims P).plans 32 10=q32_10:=by kernel_rfl
theorem pl_33_4 (P:FuncId→Option (List AV→Option AV)):(NC.withPrims P).plans 33 4=q33_4:=by kernel_rfl
theorem pl_36_2 (P:FuncId→Option (List AV→Option AV)):(NC.withPrims P).plans 36 2=q36_2:=by kernel_rfl
theorem pl_38_1 (P:FuncId→Option (List AV→Option AV)):(NC.withPrims P).plans 38 1=q38_1:=by kernel_rfl
theorem pl_39_1 (P:FuncId→Option (List AV→Option AV)):(NC.withPrims P).plans 39 1=q39_1:=by kernel_rfl
theorem pl_42_1 (P:FuncId→Option (List AV→Option AV)):(NC.withPrims P).plans 42 1=q42_1:=by kernel_rfl
theorem pl_43_1 (P:FuncId→Option (List AV→Option AV)):(NC.withPrims P).plans 43 1=q43_1:=by kernel_rfl
theorem pl_50_1 (P:FuncId→Option (List AV→Option AV)):(NC.withPrims P).plans 50 1=q50_1:=by kernel_rfl
theorem pl_52_4 (P:FuncId→Option (List AV→Option AV)):(NC.withPrims P).plans 52 4=q52_4:=by kernel_rfl
theorem pl_53_8 (P:FuncId→Option (List AV→Option AV)):(NC.withPrims P).plans 53 8=q53_8:=by kernel_rfl
theorem pl_54_9 (P:FuncId→Option (List AV→Option AV)):(NC.withPrims P).plans 54 9=q54_9:=by kernel_rfl
theorem pl_55_8 (P:FuncId→Option (List AV→Option AV)):(NC.withPrims P).plans 55 8=q55_8:=by kernel_rfl
theorem pl_62_1 (P:FuncId→Option (List AV→Option AV)):(NC.withPrims P).plans 62 1=q62_1:=by kernel_rfl
theorem pl_68_7 (P:FuncId→Option (List AV→Option AV)):(NC.withPrims P).plans 68 7=q68_7:=by kernel_rfl
theorem pl_75_1 (P:FuncId→Option (List AV→Option AV)):(NC.withPrims P).plans 75 1=q75_1:=by kernel_rfl
theorem pl_79_1 (P:FuncId→Option (List AV→Option AV)):(NC.withPrims P).plans 79 1=q79_1:=by kernel_rfl
theorem pl_88_1 (P:FuncId→Option (List AV→Option AV)):(NC.withPrims P).plans 88 1=q88_1:=by kernel_rfl
theorem rf_3 (P:FuncId→Option (List AV→Option AV)) (t:TypeId):(NC.withPrims P).refApp 3 t=false:=Eq.trans (rfP (by decide +kernel)) rfl
theorem rf_8 (P:FuncId→Option (List AV→Option AV)) (t:TypeId):(NC.withPrims P).refApp 8 t=false:=Eq.trans (rfP (by decide +kernel)) rfl
theorem rf_9 (P:FuncId→Option (List AV→Option AV)) (t:TypeId):(NC.withPrims P).refApp 9 t=false:=Eq.trans (rfP (by decide +kernel)) rfl
theorem rf_11 (P:FuncId→Option (List AV→Option AV)) (t:TypeId):(NC.withPrims P).refApp 11 t=false:=Eq.trans (rfP (by decide +kernel)) rfl
theorem rf_13 (P:FuncId→Option (List AV→Option AV)) (t:TypeId):(NC.withPrims P).refApp 13 t=false:=Eq.trans (rfP (by decide +kernel)) rfl
theorem rf_35 (P:FuncId→Option (List AV→Option AV)) (t:TypeId):(NC.withPrims P).refApp 35 t=false:=Eq.trans (rfP (by decide +kernel)) rfl
theorem rf_39 (P:FuncId→Option (List AV→Option AV)) (t:TypeId):(NC.withPrims P).refApp 39 t=false:=Eq.trans (rfP (by decide +kernel)) rfl
theorem rf_64 (P:FuncId→Option (List AV→Option AV)) (t:TypeId):(NC.withPrims P).refApp 64 t=false:=Eq.trans (rfP (by decide +kernel)) rfl
theorem rf_69 (P:FuncId→Option (List AV→Option AV)) (t:TypeId):(NC.withPrims P).refApp 69 t=false:=Eq.trans (rfP (by decide +kernel)) rfl
theorem rf_71 (P:FuncId→Option (List AV→Option AV)) (t:TypeId):(NC.withPrims P).refApp 71 t=false:=Eq.trans (rfP (by decide +kernel)) rfl
theorem rf_77 (P:FuncId→Option (List AV→Option AV)) (t:TypeId):(NC.withPrims P).refApp 77 t=false:=Eq.trans (rfP (by decide +kernel)) rfl
theorem ks_0 {C:Cfg} {T:TT AV}:evalO C T (.const (.string { data:=#[98,101,103,105,110] }))=some (.str [98,101,103,105,110]):=rfl
theorem ks_1 {C:Cfg} {T:TT AV}:evalO C T (.const (.string { data:=#[101,110,100] }))=some (.str [101,110,100]):=rfl
theorem ks_2 {C:Cfg} {T:TT AV}:evalO C T (.const (.string { data:=#[115,119,105,116,99,104] }))=some (.str [115,119,105,116,99,104]):=rfl
structure Pc where
 len:Int
 post:Int
 back:Bool
structure Ln where
 name:List Nat
 ps:List Pc
structure Sw where
 name:List Nat
 line:List Nat
 metre:Int
 other:List Nat
 last:Bool
structure Stc where
 name:List Nat
 kind:List Nat
 line:List Nat
 fr:Int
 till:Int
structure Net where
 lines:List Ln
 sws:List Sw
 sts:List Stc
abbrev i64 (n:Int):AV:=.int .i64 n
def Pc.row (p:Pc):List AV:=[i64 p.len,i64 p.post,.bool p.back]
def Ln.row (l:Ln):List AV:=[.str l.name,.ps .unk (l.ps.map Pc.row)]
def Sw.row (s:Sw):List AV:=[.str s.name,.str s.line,i64 s.metre,.str s.other,.bool s.last]
def Stc.row (s:Stc):List AV:=[.str s.name,.str s.kind,.str s.line,i64 s.fr,i64 s.till]
def Net.cells (n:Net):List AV:=[.ps .unk (n.lines.map Ln.row),.ps .unk (n.sws.map Sw.row),.ps .unk (n.sts.map Stc.row)]
theorem map_inj {α β:Type} {f:α→β} (h:∀ a b,f a=f b→a=b):∀ {l m:List α},l.map f=m.map f→l=m
 | [],[],_=>rfl
 | [],_::_,e=>by simp at e
 | _::_,[],e=>by simp at e
 | a::l,b::m,e=>by
   simp only [List.map_cons,List.cons.injEq] at e
   rw [h a b e.1,map_inj h e.2]
theorem Pc.row_inj (a b:Pc) (h:a.row=b.row):a=b:=by
 cases a;cases b;simp [Pc.row] at h;obtain ⟨rfl,rfl,rfl⟩:=h;rfl
theorem Ln.row_inj (a b:Ln) (h:a.row=b.row):a=b:=by
 cases a;cases b
 simp only [Ln.row,List.cons.injEq,AV.str.injEq,AV.ps.injEq,and_true,true_and] at h
 rw [h.1,map_inj Pc.row_inj h.2]
theorem Sw.row_inj (a b:Sw) (h:a.row=b.row):a=b:=by
 cases a;cases b;simp [Sw.row] at h;obtain ⟨rfl,rfl,rfl,rfl,rfl⟩:=h;rfl
theorem Stc.row_inj (a b:Stc) (h:a.row=b.row):a=b:=by
 cases a;cases b;simp [Stc.row] at h;obtain ⟨rfl,rfl,rfl,rfl,rfl⟩:=h;rfl
theorem Net.cells_inj (a b:Net) (h:a.cells=b.cells):a=b:=by
 cases a;cases b
 simp only [Net.cells,List.cons.injEq,AV.ps.injEq,and_true,true_and] at h
 rw [map_inj Ln.row_inj h.1,map_inj Sw.row_inj h.2.1,map_inj Stc.row_inj h.2.2]
theorem Pc.row_len (p:Pc):p.row.length=3:=rfl
theorem Ln.row_len (p:Ln):p.row.length=2:=rfl
theorem Sw.row_len (p:Sw):p.row.length=5:=rfl
theorem Stc.row_len (p:Stc):p.row.length=5:=rfl
open Classical in
noncomputable def primOf {α:Type} (enc:α→List AV) (pre:α→Prop) (spec:α→AV):List AV→Option AV:=fun args =>
 if h:∃ x,enc x=args∧pre x then some (spec h.choose) else none
theorem primOf_inv {α:Type} {enc:α→List AV} {pre:α→Prop} {spec:α→AV} {args:List AV} {v:AV} (h:primOf enc pre spec args=some v):∃ x,args=enc x∧pre x∧v=spec x:=by
 unfold primOf at h
 split at h
 · rename_i hx
   simp at h
   exact ⟨hx.choose,hx.choose_spec.1.symm,hx.choose_spec.2,h.symm⟩
 · cases h
theorem primOf_enc {α:Type} {enc:α→List AV} {pre:α→Prop} {spec:α→AV} (hi:∀ x y,enc x=enc y→x=y) (x:α) (hp:pre x):primOf enc pre spec (enc x)=some (spec x):=by
 unfold primOf
 have hx:∃ y,enc y=enc x∧pre y:=⟨x,rfl,hp⟩
 rw [dif_pos hx]
 rw [hi _ _ hx.choose_spec.1]
def firstI:List Int→Int
 | []=>0
 | e::r=>if e=0 then firstI r else e
def whenI (b:Bool) (e:Int):Int:=if b then e else 0
theorem withPrims_P (P:FuncId→Option (List AV→Option AV)):(NC.withPrims P).P=NC.P:=rfl
theorem frzP (P:FuncId→Option (List AV→Option AV)) (f:FuncId) (t:TypeId):(NC.withPrims P).frz f t=false:=Eq.trans rfl rfl
theorem litP (P:FuncId→Option (List AV→Option AV)) (f:FuncId) (t:TypeId):(NC.withPrims P).lit f t=false:=Eq.trans rfl rfl
attribute [go_sem ↓] W_seq W_block W_region W_draw draw_nil draw_data draw_load draw_read draw_fresh draw_writeAt draw_write draw_guard
attribute [go_sem ↓] okO_false W_skip W_cond W_ret W_exit next_nrm next_ret next_ext shut_nrm shut_ret shut_ext branch_true
attribute [go_sem ↓] branch_false WO_some VO_some AO_some OO_some aops_op aops_guard dstG_some aops_nil op_move op_assign op_pick
attribute [go_sem ↓] pickO_true pickO_false op_alloc op_box op_load op_store op_bin op_un op_conv op_build op_buildSlice op_makeFunc
attribute [go_sem ↓] op_makeMap op_fieldAddr op_field op_indexAddr op_index op_range op_next op_lookup op_mapUpdate op_extract op_len op_append
attribute [go_sem ↓] op_callF op_callT fnO_fn fnO_yld op_slice op_max2 op_min2 op_max3 guardO_tt guardO_tf guardO_ff guardO_ft
attribute [go_sem ↓] guardO_undef
attribute [go_sem] clashes_nil clashes_none clashes_some acc_load acc_read acc_store acc_fresh acc_mapUpdate accM_map acc_append accS_tok accS_nil
attribute [go_sem] accS_exact accS_rs accP_rd accP_wr accP_pptr record_some record_none apart_rw apart_wr apart_aw apart_wa List.any_cons
attribute [go_sem] List.any_nil List.contains_cons List.contains_nil Bool.not_eq_true' backH_zero backH_s below_load below_callF below_len below_lookup belowL_nil belowL_cons
attribute [go_sem] belowO under_int under_bool under_str under_unk under_nil under_exact under_agg under_map under_ptr under_fn underAll_nil
attribute [go_sem] underAll_cons blt_dec pure_int pure_bool pure_str pure_unk pure_nil abuildSlice rowsOf Option.isSome_some afill dstOf
attribute [go_sem] putT_some putT_none frzP litP withPrims_P arange anext evalOpt_none evalOpt_some amax_int amin_int amax3_int
attribute [go_sem] tupO_tup evalO_tmp evalO_int evalO_bool evalO_func evalO_nils evalOs_nil evalOs_cons evalParts_nil evalParts_cons getT_setT Heap.get_set
attribute [go_sem] Heap.get_push hn_set hn_push Nat.lt_add_one Nat.add_zero Nat.zero_add Bool.false_eq_true if_true if_false ite_true ite_false and_true
attribute [go_sem] true_and and_self aload readCells blkCells sub? loadV alen abin aun_not kcode ibin
attribute [go_sem] ltI_iff eqI_iff List.length_cons List.length_nil List.drop_succ_cons List.drop_zero List.drop_nil List.take_succ_cons List.take_zero List.take_nil List.getElem?_cons_zero List.getElem?_cons_succ
attribute [go_sem] afield aindexAddr aindex part? natOf_cast natOf_0 natOf_1 decide_true decide_false AV.cells AV.one List.all_cons
attribute [go_sem] List.all_nil Bool.and_true Bool.true_and Bool.and_self astore setBlk over List.append_nil List.nil_append List.cons_append List.map_cons List.map_nil
attribute [go_sem] cond_true cond_false Nat.beq_refl not_true_eq_false not_false_eq_true i64 bodyPost shutMarks_nil ar_nil ar_tmp ar_cell empty_n
attribute [go_sem] argsT_nil argsT_cons AV.strip AV.strip0 Cls.chain or_true true_or Bool.not_true Bool.not_false Bool.or_true Bool.or_false Bool.true_or
attribute [go_sem] Bool.false_or Bool.and_false Bool.false_and Int.ofNat_lt cast0 eq_self List.length_map ofVal_v ofVal_H eqs_01 lts_01 eqs_02
attribute [go_sem] lts_02 eqs_03 lts_03 eqs_04 lts_04 eqs_10 eqs_12 lts_12 eqs_13 lts_13 eqs_14 lts_14
attribute [go_sem] eqs_20 eqs_21 eqs_23 lts_23 eqs_24 lts_24 eqs_30 eqs_31 eqs_32 eqs_34 lts_34 self_eq_add
attribute [go_sem] add_eq_self Nat.zero_le Nat.le_refl isIntT_slice rowsIn
attribute [go_sem] oD oL oR oF oW fa_ptr fa_pp faPtr_some faPP_some sz_26 ag_26 sz_22
attribute [go_sem] ag_22 un_22 ze_33 un_28 sz_27 un_27 sz_5 ag_5 un_5 un_3 sz_36 ag_36
attribute [go_sem] ze_36 sz_9 ag_9 ze_32 bs_32 fp_32_0 fp_32_1 un_33 sz_32 ag_32 un_38 ze_49
attribute [go_sem] bs_49 fp_49_0 fp_49_1 el_50 sz_49 ze_53 bs_53 fp_53_0 fp_53_1 sz_53 sz_55 ag_55
attribute [go_sem] ze_55 sz_3 ag_3 sz_50 ag_50 un_50 by_49 ag_49 sz_51 ag_51 ze_57 bs_57
attribute [go_sem] fp_57_0 fp_57_1 el_51 sz_57 un_51 by_57 ag_53 el_58 sz_68 ze_68 un_58 by_68
attribute [go_sem] bs_68 fp_68_0 fp_68_1 ze_70 bs_70 fp_70_0 fp_70_1 ze_64 sz_64 un_71 ze_75 bs_75
attribute [go_sem] fp_75_0 fp_75_1 ag_64 bs_64 fp_64_0 fp_64_1 sz_23 ag_23 un_23 sz_24 ag_24 un_24
attribute [go_sem] sz_34 ag_34 un_34 sz_79 sz_46 ag_46 el_112 un_112 ze_82 sz_82 sz_38 ag_38
attribute [go_sem] ze_46 ze_87 bs_87 fp_87_0 fp_87_1 sz_87 ag_79 ze_79 sz_85 ag_85 el_85 sz_88
attribute [go_sem] ze_88 un_85 by_88 sz_42 ag_42 ag_87 el_42 un_42 by_87 sz_90 ag_90 ze_90
attribute [go_sem] sz_43 ag_43 el_43 sz_91 ze_91 un_43 by_91 sz_95 ag_95 ze_95 sz_44 ag_44
attribute [go_sem] el_44 sz_96 ze_96 un_44 by_96 un_4 un_39 el_114 sz_39 ze_39 un_114 sz_70
attribute [go_sem] ag_70 ag_68 ze_104 un_104 sz_104 ag_104 ze_106 un_106 el_71 sz_106 by_106 el_109
attribute [go_sem] ze_3 un_109 un_9 ze_4 sz_4 bs_82 fp_82_0 fp_82_1 bs_55 fp_55_0 fp_55_1 fp_55_2
attribute [go_sem] ag_91 sz_33 ag_33 ze_123 un_123 un_120 ag_82 ag_4 ag_39 sz_93 ag_93 by_39
attribute [go_sem] el_38 by_55 ze_120 sz_120 ag_120 un_145 un_154 ag_96 sz_148 ag_148 ze_148 el_145
attribute [go_sem] by_148 bs_148 fp_148_0 fp_148_1 ag_57 ag_88 un_21 fa_26_0 fa_36_0 fa_55_2 fa_55_1 fa_53_0
attribute [go_sem] fa_49_1 fa_53_1 fa_49_0 fa_55_0 fa_64_0 fa_64_1 fa_26_1 fa_26_2 fa_36_1 fa_79_0 fa_82_0 fa_82_1
attribute [go_sem] fa_87_1 fa_46_0 fa_46_1 fa_46_2 fa_68_0 fa_57_1 fa_68_1 fa_70_1 fa_75_0 fa_75_1 fa_90_0 fa_90_1
attribute [go_sem] fa_90_3 fa_95_0 fa_95_1 fa_95_2 fa_32_0 fa_32_1 fa_70_0 fa_90_2 fa_95_3 fa_91_3 fa_91_4 fa_91_1
attribute [go_sem] fa_91_2 fa_57_0 fa_79_1 fa_93_0 fa_93_1 fa_87_0 fa_91_0 fa_96_2 fa_96_0 fa_96_1 fa_96_3 fa_88_0
attribute [go_sem] fa_148_0 fa_148_1 fa_79_2 fa_88_1 fa_88_2 q3_7 pl_3_7 q3_8 pl_3_8 q3_10 pl_3_10 q3_49
attribute [go_sem] pl_3_49 q4_2 q4_3 q7_7 pl_7_7 q11_1 pl_11_1 q12_1 pl_12_1 q12_10
attribute [go_sem] pl_12_10 q13_1 pl_13_1 q14_1 pl_14_1 q18_19 pl_18_19 q20_10 pl_20_10 q23_5 pl_23_5 q23_6
attribute [go_sem] pl_23_6 q23_13 pl_23_13 q24_1 pl_24_1 q26_1 pl_26_1 q26_2 pl_26_2 q26_3 pl_26_3 q30_2
attribute [go_sem] pl_30_2 q31_8 pl_31_8 q31_10 pl_31_10 q32_8 pl_32_8 q32_10 pl_32_10 q33_4 pl_33_4 q36_2
attribute [go_sem] pl_36_2 q38_1 pl_38_1 q39_1 pl_39_1 q42_1 pl_42_1 q43_1 pl_43_1 q50_1 pl_50_1 q52_4
attribute [go_sem] pl_52_4 q53_8 pl_53_8 q54_9 pl_54_9 q55_8 pl_55_8 q62_1 pl_62_1 q68_7 pl_68_7 q75_1
attribute [go_sem] pl_75_1 q79_1 pl_79_1 q88_1 pl_88_1 rf_3 rf_8 rf_9 rf_11 rf_13 rf_35 rf_39
attribute [go_sem] rf_64 rf_69 rf_71 rf_77 ks_0 ks_1 ks_2
end Go.Sim

namespace Go.Sim
open Go Go.Proofs
set_option maxRecDepth 100000
set_option maxHeartbeats 1000000
theorem c121 (b:Bool) (e:Int):∀ lo H,CallOk NC lo 57 [.bool b,i64 e] H (i64 (whenI b e)) H:=by
 refine contract saneNC primsOk_none (fn:=Try.f57) (by kernel_rfl) Try.func57 rfl rfl (by rfl) (by rfl) ?_
 cases b<;>simp only [go_sem,reduceIte,reduceEqDiff,reduceAdd,reduceMul,reduceSub,reduceLeDiff,reduceLT,Nat.reduceBEq,reduceCtorEq]<;>simp [whenI]
theorem c48 (b:Bool) (e:Int):∀ lo H,CallOk NC lo 47 [.bool b,i64 e] H (i64 (whenI b e)) H:=by
 refine contract saneNC primsOk_none (fn:=Try.f47) (by kernel_rfl) Try.func47 rfl rfl (by rfl) (by rfl) ?_
 cases b<;>simp only [go_sem,reduceIte,reduceEqDiff,reduceAdd,reduceMul,reduceSub,reduceLeDiff,reduceLT,Nat.reduceBEq,reduceCtorEq]<;>simp [whenI]
def stepI (b:Bool):Int:=if b then -1 else 1
theorem c178 (p:Pc):∀ lo H,CallOk NC lo 92 [.agg p.row] H (i64 (stepI p.back)) H:=by
 refine contract saneNC primsOk_none (fn:=Try.f92) (by kernel_rfl) Try.func92 rfl rfl (by rfl) (by rfl) ?_
 obtain ⟨l,q,b⟩:=p
 cases b<;>simp only [go_sem,reduceIte,reduceEqDiff,reduceAdd,reduceMul,reduceSub,reduceLeDiff,reduceLT,Nat.reduceBEq,reduceCtorEq,Pc.row]<;>simp [stepI]
def shortB (s:List Nat):Bool:=!decide ((40:Int) < (s.length:Int))
theorem c97 (s:List Nat):∀ lo H,CallOk NC lo 29 [.str s] H (.bool (shortB s)) H:=by
 refine contract saneNC primsOk_none (fn:=Try.f29) (by kernel_rfl) Try.func29 rfl rfl (by rfl) (by rfl) ?_
 simp only [go_sem,reduceIte,reduceEqDiff,reduceAdd,reduceMul,reduceSub,reduceLeDiff,reduceLT,Nat.reduceBEq,reduceCtorEq]
 rfl
def postI (p:Pc) (i:Int):Int:=if p.back then wrapq .i64 (p.post - i) else wrapq .i64 (p.post+i)
theorem c109 (p:Pc) (i:Int):∀ lo H,CallOk NC lo 74 [.agg p.row,i64 i] H (i64 (postI p i)) H:=by
 refine contract saneNC primsOk_none (fn:=Try.f74) (by kernel_rfl) Try.func74 rfl rfl (by rfl) (by rfl) ?_
 obtain ⟨l,q,b⟩:=p
 cases b<;>simp only [go_sem,reduceIte,reduceEqDiff,reduceAdd,reduceMul,reduceSub,reduceLeDiff,reduceLT,Nat.reduceBEq,reduceCtorEq,Pc.row]<;>simp [postI]<;>rfl
def intRows (es:List Int):List (List AV):=es.map fun e=>[i64 e]
theorem intRows_at {es:List Int} {k:Nat} {e:Int} (h:es[k]? = some e):(intRows es)[k]? = some [i64 e]:=by simp [intRows,h]
theorem intRows_len (es:List Int):(intRows es).length=es.length:=by simp [intRows]
theorem firstI_drop {es:List Int} {k:Nat} {e:Int} (h:es[k]? = some e):firstI (es.drop k)=if e=0 then firstI (es.drop (k+1)) else e:=by
 have hlt:=(List.getElem?_eq_some_iff.1 h).1
 have:es.drop k=e::es.drop (k+1):=by
  rw [List.drop_eq_getElem_cons hlt]
  rw [(List.getElem?_eq_some_iff.1 h).2]
 rw [this];rfl
theorem c34 (es:List Int) (hl:es.length≤maxRows):∀ lo H,CallOk NC lo 27 [.ps .unk (intRows es)] H (i64 (firstI es)) H:=by
 refine contract saneNC primsOk_none (fn:=Try.f27) (by kernel_rfl) Try.func27 rfl rfl (by rfl) (by rfl) ?_
 simp only [go_sem,reduceIte,reduceEqDiff,reduceAdd,reduceMul,reduceSub,reduceLeDiff,reduceLT,Nat.reduceBEq,reduceCtorEq]
 refine W_for (fun k T H M=>M=[]∧getT T 0=.ps .unk (intRows es)∧getT T 3=i64 k∧firstI es=firstI (es.drop k)) es.length ?_ ?_ ?_
 · simp only [go_sem,reduceIte,reduceEqDiff,reduceAdd,reduceMul,reduceSub,reduceLeDiff,reduceLT,Nat.reduceBEq,reduceCtorEq,List.drop_zero]
 · rintro k T H M hk ⟨rfl,h0,h3,hf⟩
   obtain ⟨e,he⟩:∃ e,es[k]? = some e:=⟨es[k],by simp⟩
   have hr:=intRows_at he
   have hw:=wrap_succ hk hl
   have hfd:=firstI_drop he
   by_cases hz:e=0
   · simp only [go_sem,reduceIte,reduceEqDiff,reduceAdd,reduceMul,reduceSub,reduceLeDiff,reduceLT,Nat.reduceBEq,reduceCtorEq,h0,h3,hr,intRows_len,Int.ofNat_lt,hk,hw,hz]
     simp [hf,hfd,hz]
   · simp only [go_sem,reduceIte,reduceEqDiff,reduceAdd,reduceMul,reduceSub,reduceLeDiff,reduceLT,Nat.reduceBEq,reduceCtorEq,h0,h3,hr,intRows_len,Int.ofNat_lt,hk,hw,hz]
     simp [hf,hfd,hz]
 · rintro T H M ⟨rfl,h0,h3,hf⟩
   simp only [go_sem,reduceIte,reduceEqDiff,reduceAdd,reduceMul,reduceSub,reduceLeDiff,reduceLT,Nat.reduceBEq,reduceCtorEq,h0,h3,intRows_len,Int.ofNat_lt,Nat.lt_irrefl]
   simp [hf,firstI]
theorem c111 (es:List Int) (hl:es.length≤maxRows):∀ lo H,CallOk NC lo 34 [.ps .unk (intRows es)] H (i64 (firstI es)) H:=by
 refine contract saneNC primsOk_none (fn:=Try.f34) (by kernel_rfl) Try.func34 rfl rfl (by rfl) (by rfl) ?_
 simp only [go_sem,reduceIte,reduceEqDiff,reduceAdd,reduceMul,reduceSub,reduceLeDiff,reduceLT,Nat.reduceBEq,reduceCtorEq]
 refine W_for (fun k T H M=>M=[]∧getT T 5=.ps .unk (intRows es)∧getT T 6=i64 (es.length:Nat)∧getT T 7=i64 k∧firstI es=firstI (es.drop k)) es.length ?_ ?_ ?_
 · simp only [go_sem,reduceIte,reduceEqDiff,reduceAdd,reduceMul,reduceSub,reduceLeDiff,reduceLT,Nat.reduceBEq,reduceCtorEq,intRows_len,List.drop_zero]
 · rintro k T H M hk ⟨rfl,h0,h1,h3,hf⟩
   obtain ⟨e,he⟩:∃ e,es[k]? = some e:=⟨es[k],by simp⟩
   have hr:=intRows_at he
   have hw:=wrap_succ hk hl
   have hfd:=firstI_drop he
   by_cases hz:e=0
   · simp only [go_sem,reduceIte,reduceEqDiff,reduceAdd,reduceMul,reduceSub,reduceLeDiff,reduceLT,Nat.reduceBEq,reduceCtorEq,h0,h1,h3,hr,intRows_len,hk,hw,hz]
     simp [hf,hfd,hz]
   · simp only [go_sem,reduceIte,reduceEqDiff,reduceAdd,reduceMul,reduceSub,reduceLeDiff,reduceLT,Nat.reduceBEq,reduceCtorEq,h0,h1,h3,hr,intRows_len,hk,hw,hz]
     simp [hf,hfd,hz]
 · rintro T H M ⟨rfl,h0,h1,h3,hf⟩
   simp only [go_sem,reduceIte,reduceEqDiff,reduceAdd,reduceMul,reduceSub,reduceLeDiff,reduceLT,Nat.reduceBEq,reduceCtorEq,h0,h1,h3,intRows_len,Nat.lt_irrefl]
   simp [hf,firstI]
def sumW:List Pc→Int→Int
 | [],s=>s
 | p::r,s=>sumW r (wrapq .i64 (Int.add s p.len))
theorem drop_at {α:Type} {l:List α} {k:Nat} {x:α} (h:l[k]? = some x):l.drop k=x::l.drop (k+1):=by
 have hlt:=(List.getElem?_eq_some_iff.1 h).1
 rw [List.drop_eq_getElem_cons hlt,(List.getElem?_eq_some_iff.1 h).2]
theorem map_at {α β:Type} {f:α→β} {l:List α} {k:Nat} {x:α} (h:l[k]? = some x):(l.map f)[k]? = some (f x):=by simp [h]
theorem c26 (l:Ln) (hl:l.ps.length≤maxRows):∀ lo H,CallOk NC lo 6 [.agg l.row] H (i64 (sumW l.ps 0)) H:=by
 refine contract saneNC primsOk_none (fn:=Try.f6) (by kernel_rfl) Try.func6 rfl rfl (by rfl) (by rfl) ?_
 simp only [go_sem,reduceIte,reduceEqDiff,reduceAdd,reduceMul,reduceSub,reduceLeDiff,reduceLT,Nat.reduceBEq,reduceCtorEq,Ln.row]
 refine W_for (fun k T H M=>M=[]∧getT T 1=.ptr 0 0∧H.get 0=.cells [.str l.name,.ps .unk (l.ps.map Pc.row)] 36∧getT T 4=i64 k ∧ ∃ s,getT T 3=i64 s∧sumW l.ps 0=sumW (l.ps.drop k) s) l.ps.length ?_ ?_ ?_
 · simp only [go_sem,reduceIte,reduceEqDiff,reduceAdd,reduceMul,reduceSub,reduceLeDiff,reduceLT,Nat.reduceBEq,reduceCtorEq];exact ⟨0,rfl,rfl⟩
 · rintro k T H M hk ⟨rfl,h1,hH,h4,s,h3,hs⟩
   obtain ⟨p,hp⟩:∃ p,l.ps[k]? = some p:=⟨l.ps[k],by simp⟩
   have hr:=map_at (f:=Pc.row) hp
   have hw:=wrap_succ hk hl
   rw [drop_at hp] at hs
   simp only [go_sem,reduceIte,reduceEqDiff,reduceAdd,reduceMul,reduceSub,reduceLeDiff,reduceLT,Nat.reduceBEq,reduceCtorEq,h1,hH,h3,h4,List.length_map,hk,hr,hw,Pc.row]
   exact ⟨_,rfl,hs⟩
 · rintro T H M ⟨rfl,h1,hH,h4,s,h3,hs⟩
   simp only [go_sem,reduceIte,reduceEqDiff,reduceAdd,reduceMul,reduceSub,reduceLeDiff,reduceLT,Nat.reduceBEq,reduceCtorEq,h1,hH,h3,h4,List.length_map,Nat.lt_irrefl]
   simp [hs,sumW]
def findL (ls:List Ln) (s:List Nat):Option Nat:=ls.findIdx? fun l=>beqL l.name s
def findI (ls:List Ln) (s:List Nat):Int:=match findL ls s with
 | some i=>(i:Int)
 | none=>-1
theorem findL_drop {ls:List Ln} {s:List Nat} {k:Nat} (h:∀ j l,j < k→ls[j]? = some l→beqL l.name s=false) {l:Ln} (hk:ls[k]? = some l) (hb:beqL l.name s=true):findL ls s=some k:=by
 unfold findL
 rw [List.findIdx?_eq_some_iff_getElem]
 obtain ⟨hlt,he⟩:=List.getElem?_eq_some_iff.1 hk
 refine ⟨hlt,by rw [he];exact hb,fun j hj => ?_⟩
 have:=h j (ls[j]'(by omega)) hj (by simp)
 rw [this];simp
theorem findL_none {ls:List Ln} {s:List Nat} (h:∀ j l,j < ls.length→ls[j]? = some l→beqL l.name s=false):findL ls s=none:=by
 unfold findL
 rw [List.findIdx?_eq_none_iff]
 intro l hl
 obtain ⟨j,hj⟩:=List.mem_iff_getElem?.1 hl
 exact h j l (List.getElem?_eq_some_iff.1 hj).1 hj
theorem c27 (n:Net) (s:List Nat) (hl:n.lines.length≤maxRows):∀ lo H,CallOk NC lo 49 [.agg n.cells,.str s] H (i64 (findI n.lines s)) H:=by
 refine contract saneNC primsOk_none (fn:=Try.f49) (by kernel_rfl) Try.func49 rfl rfl (by rfl) (by rfl) ?_
 simp only [go_sem,reduceIte,reduceEqDiff,reduceAdd,reduceMul,reduceSub,reduceLeDiff,reduceLT,Nat.reduceBEq,reduceCtorEq,Net.cells]
 refine W_for (fun k T H M=>M=[]∧getT T 2=.ptr 0 0∧H.get 0=.cells n.cells 26∧getT T 1=.str s∧getT T 5=i64 k ∧ ∀ j l,j < k→n.lines[j]? = some l→beqL l.name s=false) n.lines.length ?_ ?_ ?_
 · simp only [go_sem,reduceIte,reduceEqDiff,reduceAdd,reduceMul,reduceSub,reduceLeDiff,reduceLT,Nat.reduceBEq,reduceCtorEq];exact ⟨rfl,fun j l hj=>by omega⟩
 · rintro k T H M hk ⟨rfl,h2,hH,h1,h5,hf⟩
   obtain ⟨l,hp⟩:∃ p,n.lines[k]? = some p:=⟨n.lines[k],by simp⟩
   have hr:=map_at (f:=Ln.row) hp
   have hw:=wrap_succ hk hl
   cases hb:beqL l.name s with
   | true =>
     simp only [go_sem,reduceIte,reduceEqDiff,reduceAdd,reduceMul,reduceSub,reduceLeDiff,reduceLT,Nat.reduceBEq,reduceCtorEq,h1,h2,hH,h5,List.length_map,hk,hr,hw,Ln.row,Net.cells,hb]
     simp [findI,findL_drop hf hp hb]
   | false =>
     simp only [go_sem,reduceIte,reduceEqDiff,reduceAdd,reduceMul,reduceSub,reduceLeDiff,reduceLT,Nat.reduceBEq,reduceCtorEq,h1,h2,hH,h5,List.length_map,hk,hr,hw,Ln.row,Net.cells,hb]
     intro j l' hj hl'
     by_cases e:j=k
     · subst e;rw [hp] at hl';cases hl';exact hb
     · exact hf j l' (by omega) hl'
 · rintro T H M ⟨rfl,h2,hH,h1,h5,hf⟩
   simp only [go_sem,reduceIte,reduceEqDiff,reduceAdd,reduceMul,reduceSub,reduceLeDiff,reduceLT,Nat.reduceBEq,reduceCtorEq,h1,h2,hH,h5,List.length_map,Net.cells,Nat.lt_irrefl]
   simp [findI,findL_none hf]
def letB (x:Int):Bool:=!decide (x < 65) && !decide (90 < x) || !decide (x < 97) && !decide (122 < x)
def digB (x:Int):Bool:=!decide (x < 48) && !decide (57 < x)
theorem c189 (x:Int):∀ lo H,CallOk NC lo 85 [.int .u8 x] H (.bool (letB x)) H:=by
 refine contract saneNC primsOk_none (fn:=Try.f85) (by kernel_rfl) Try.func85 rfl rfl (by rfl) (by rfl) ?_
 by_cases h1:x < 65<;>by_cases h2:90 < x<;>by_cases h3:x < 97<;>by_cases h4:122 < x<;>simp only [go_sem,reduceIte,reduceEqDiff,reduceAdd,reduceMul,reduceSub,reduceLeDiff,reduceLT,Nat.reduceBEq,reduceCtorEq,h1,h2,h3,h4]<;>simp [letB,h1,h2,h3,h4]
theorem c190 (x:Int):∀ lo H,CallOk NC lo 86 [.int .u8 x] H (.bool (digB x)) H:=by
 refine contract saneNC primsOk_none (fn:=Try.f86) (by kernel_rfl) Try.func86 rfl rfl (by rfl) (by rfl) ?_
 by_cases h1:x < 48<;>by_cases h2:57 < x<;>simp only [go_sem,reduceIte,reduceEqDiff,reduceAdd,reduceMul,reduceSub,reduceLeDiff,reduceLT,Nat.reduceBEq,reduceCtorEq,h1,h2]<;>simp [digB,h1,h2]
theorem c227 (x:Int):∀ lo H,CallOk NC lo 89 [.int .i32 x] H (.bool (letB x)) H:=by
 refine contract saneNC primsOk_none (fn:=Try.f89) (by kernel_rfl) Try.func89 rfl rfl (by rfl) (by rfl) ?_
 by_cases h1:x < 65<;>by_cases h2:90 < x<;>by_cases h3:x < 97<;>by_cases h4:122 < x<;>simp only [go_sem,reduceIte,reduceEqDiff,reduceAdd,reduceMul,reduceSub,reduceLeDiff,reduceLT,Nat.reduceBEq,reduceCtorEq,h1,h2,h3,h4]<;>simp [letB,h1,h2,h3,h4]
theorem c228 (x:Int):∀ lo H,CallOk NC lo 90 [.int .i32 x] H (.bool (digB x)) H:=by
 refine contract saneNC primsOk_none (fn:=Try.f90) (by kernel_rfl) Try.func90 rfl rfl (by rfl) (by rfl) ?_
 by_cases h1:x < 48<;>by_cases h2:57 < x<;>simp only [go_sem,reduceIte,reduceEqDiff,reduceAdd,reduceMul,reduceSub,reduceLeDiff,reduceLT,Nat.reduceBEq,reduceCtorEq,h1,h2]<;>simp [digB,h1,h2]
noncomputable def p189:List AV→Option AV:=primOf (α:=Int) (fun x=>[.int .u8 x]) (fun _=>True) (fun x=>.bool (letB x))
theorem pok189:∀ args v,p189 args=some v → ∀ lo H,CallOk NC lo 85 args H v H:=by
 intro args v h
 obtain ⟨x,rfl,hp,rfl⟩:=primOf_inv h
 clear h
 revert x
 intro x;exact c189 x
theorem pe189 (x:Int) (hp:(fun _=>True) x):p189 ((fun x=>[.int .u8 x]) x)=some ((fun x=>.bool (letB x)) x):=primOf_enc (by intro x y h;simpa using h) x hp
noncomputable def p190:List AV→Option AV:=primOf (α:=Int) (fun x=>[.int .u8 x]) (fun _=>True) (fun x=>.bool (digB x))
theorem pok190:∀ args v,p190 args=some v → ∀ lo H,CallOk NC lo 86 args H v H:=by
 intro args v h
 obtain ⟨x,rfl,hp,rfl⟩:=primOf_inv h
 clear h
 revert x
 intro x;exact c190 x
theorem pe190 (x:Int) (hp:(fun _=>True) x):p190 ((fun x=>[.int .u8 x]) x)=some ((fun x=>.bool (digB x)) x):=primOf_enc (by intro x y h;simpa using h) x hp
noncomputable def p227:List AV→Option AV:=primOf (α:=Int) (fun x=>[.int .i32 x]) (fun _=>True) (fun x=>.bool (letB x))
theorem pok227:∀ args v,p227 args=some v → ∀ lo H,CallOk NC lo 89 args H v H:=by
 intro args v h
 obtain ⟨x,rfl,hp,rfl⟩:=primOf_inv h
 clear h
 revert x
 intro x;exact c227 x
theorem pe227 (x:Int) (hp:(fun _=>True) x):p227 ((fun x=>[.int .i32 x]) x)=some ((fun x=>.bool (letB x)) x):=primOf_enc (by intro x y h;simpa using h) x hp
noncomputable def p228:List AV→Option AV:=primOf (α:=Int) (fun x=>[.int .i32 x]) (fun _=>True) (fun x=>.bool (digB x))
theorem pok228:∀ args v,p228 args=some v → ∀ lo H,CallOk NC lo 90 args H v H:=by
 intro args v h
 obtain ⟨x,rfl,hp,rfl⟩:=primOf_inv h
 clear h
 revert x
 intro x;exact c228 x
theorem pe228 (x:Int) (hp:(fun _=>True) x):p228 ((fun x=>[.int .i32 x]) x)=some ((fun x=>.bool (digB x)) x):=primOf_enc (by intro x y h;simpa using h) x hp
theorem e189 (x:Int):p189 [.int .u8 x]=some (.bool (letB x)):=pe189 x trivial
theorem e190 (x:Int):p190 [.int .u8 x]=some (.bool (digB x)):=pe190 x trivial
theorem e227 (x:Int):p227 [.int .i32 x]=some (.bool (letB x)):=pe227 x trivial
theorem e228 (x:Int):p228 [.int .i32 x]=some (.bool (digB x)):=pe228 x trivial
noncomputable def PPA:FuncId→Option (List AV→Option AV):=addPrim 90 p228 (addPrim 89 p227 (addPrim 86 p190 (addPrim 85 p189 (fun _=>none))))
theorem primsA:PrimsOk NC PPA:=primsOk_add (primsOk_add (primsOk_add (primsOk_add (primsOk_none) (by kernel_rfl) (by kernel_rfl) pok189) (by kernel_rfl) (by kernel_rfl) pok190) (by kernel_rfl) (by kernel_rfl) pok227) (by kernel_rfl) (by kernel_rfl) pok228
/-- A function is known by a contract. -/
abbrev En (P:FuncId→Option (List AV→Option AV)) (f:FuncId) (p:List AV→Option AV):Prop:=∀ {rec:Rec} {lo:Nat} {args:List AV} {H:Heap} {K:AV→Heap→Prop},VO (aenter (NC.withPrims P) rec lo f args H) K=AO (p args) fun v=>K v H
theorem enA_189:En PPA 85 p189:=enter_prim (by rfl) (by kernel_rfl)
theorem enA_190:En PPA 86 p190:=enter_prim (by rfl) (by kernel_rfl)
theorem enA_227:En PPA 89 p227:=enter_prim (by rfl) (by kernel_rfl)
theorem enA_228:En PPA 90 p228:=enter_prim (by rfl) (by kernel_rfl)
attribute [go_sem ↓] enA_189 enA_190 enA_227 enA_228
def restB (x:Int):Bool:=letB x || digB x || decide (x=95)
def nameB:List Nat→Bool
 | []=>false
 | c::r=>decide ((c::r).length≤24) && letB c && r.all fun x=>restB x
theorem nameB_at {s:List Nat} (h0:s ≠ []) (h1:s.length≤24) (h2:∀ c:Nat,s[0]? = some c→letB c=true) (h3:∀ (i c:Nat),1≤i→s[i]? = some c→restB c=true):nameB s=true:=by
 cases s with
 | nil=>exact absurd rfl h0
 | cons c r =>
   unfold nameB
   simp only [Bool.and_eq_true,decide_eq_true_eq,List.all_eq_true]
   refine ⟨⟨h1,h2 c rfl⟩,fun x hx => ?_⟩
   obtain ⟨i,hi⟩:=List.mem_iff_getElem?.1 hx
   exact h3 (i+1) x (by omega) (by simpa using hi)
theorem nameB_not0 {s:List Nat} {c:Nat} (h:s[0]? = some c) (hl:letB c=false):nameB s=false:=by
 cases s with
 | nil=>simp at h
 | cons d r=>simp at h;subst h;simp [nameB,hl]
theorem nameB_not {s:List Nat} {i c:Nat} (hi:1≤i) (h:s[i]? = some c) (hl:restB c=false):nameB s=false:=by
 cases s with
 | nil=>simp at h
 | cons d r =>
   unfold nameB
   have:(r.all fun x=>restB x)=false:=by
    rw [List.all_eq_false]
    refine ⟨c, ?_,by simp [hl]⟩
    obtain ⟨j,rfl⟩:∃ j,i=j+1:=⟨i - 1,by omega⟩
    exact List.mem_of_getElem? (by simpa using h)
   simp [this]
theorem c122 (s:List Nat):∀ lo H,CallOk NC lo 73 [.str s] H (.bool (nameB s)) H:=by
 refine contract saneNC primsA (fn:=Try.f73) (by kernel_rfl) Try.func73 rfl rfl (by rfl) (by rfl) ?_
 by_cases h0:s.length=0
 · have:s=[]:=List.length_eq_zero_iff.1 h0
   subst this
   simp only [go_sem,reduceIte,reduceEqDiff,reduceAdd,reduceMul,reduceSub,reduceLeDiff,reduceLT,Nat.reduceBEq,reduceCtorEq]
   simp [nameB]
 · have h0':¬ ((s.length:Int)=0):=by omega
   by_cases h1:(24:Int) < s.length
   · simp only [go_sem,reduceIte,reduceEqDiff,reduceAdd,reduceMul,reduceSub,reduceLeDiff,reduceLT,Nat.reduceBEq,reduceCtorEq,h0',h1]
     cases s with
     | nil=>simp [nameB]
     | cons c r=>simp [nameB];intro h;simp at h1;omega
   · obtain ⟨c,hc⟩:∃ c,s[0]? = some c:=⟨s[0]'(by omega),by simp⟩
     have hlt:0 < s.length:=by omega
     cases hb:letB c with
     | false =>
       simp only [go_sem,reduceIte,reduceEqDiff,reduceAdd,reduceMul,reduceSub,reduceLeDiff,reduceLT,Nat.reduceBEq,reduceCtorEq,h0',h1,hlt,hc,hb,e189]
       simp [nameB_not0 hc hb]
     | true =>
       simp only [go_sem,reduceIte,reduceEqDiff,reduceAdd,reduceMul,reduceSub,reduceLeDiff,reduceLT,Nat.reduceBEq,reduceCtorEq,h0',h1,hlt,hc,hb,e189]
       refine W_for (fun k T H M=>M=[]∧getT T 0=.str s∧getT T 3=i64 ((k+1:Nat):Int) ∧ ∀ (i c:Nat),1≤i→i < k+1→s[i]? = some c→restB c=true) (s.length - 1) ?_ ?_ ?_
       · simp only [go_sem,reduceIte,reduceEqDiff,reduceAdd,reduceMul,reduceSub,reduceLeDiff,reduceLT,Nat.reduceBEq,reduceCtorEq];exact ⟨rfl,fun i c h1 h2=>by omega⟩
       · rintro k T H M hk ⟨rfl,g0,g3,hf⟩
         have hk':k+1 < s.length:=by omega
         obtain ⟨c',hc'⟩:∃ c,s[k+1]? = some c:=⟨s[k+1],by simp⟩
         have hw:=wrap_succ (k:=k+1) (n:=24) (by omega) (by unfold maxRows;omega)
         by_cases q1:letB c'=true
         · simp only [go_sem,reduceIte,reduceEqDiff,reduceAdd,reduceMul,reduceSub,reduceLeDiff,reduceLT,Nat.reduceBEq,reduceCtorEq,g0,g3,hk',hc',hw,e189,q1]
           intro i d hi hj hd
           by_cases e:i=k+1
           · subst e;rw [hc'] at hd;cases hd;simp [restB,q1]
           · exact hf i d hi (by omega) hd
         · rw [Bool.not_eq_true] at q1
           by_cases q2:digB c'=true
           · simp only [go_sem,reduceIte,reduceEqDiff,reduceAdd,reduceMul,reduceSub,reduceLeDiff,reduceLT,Nat.reduceBEq,reduceCtorEq,g0,g3,hk',hc',hw,e189,e190,q1,q2]
             intro i d hi hj hd
             by_cases e:i=k+1
             · subst e;rw [hc'] at hd;cases hd;simp [restB,q2]
             · exact hf i d hi (by omega) hd
           · rw [Bool.not_eq_true] at q2
             rcases Classical.propComplete (((c':Nat):Int)=95) with q3 | q3
             · simp only [go_sem,reduceIte,reduceEqDiff,reduceAdd,reduceMul,reduceSub,reduceLeDiff,reduceLT,Nat.reduceBEq,reduceCtorEq,g0,g3,hk',hc',hw,e189,e190,q1,q2,q3]
               intro i d hi hj hd
               by_cases e:i=k+1
               · subst e;rw [hc'] at hd;cases hd;simp [restB,q3]
               · exact hf i d hi (by omega) hd
             · simp only [go_sem,reduceIte,reduceEqDiff,reduceAdd,reduceMul,reduceSub,reduceLeDiff,reduceLT,Nat.reduceBEq,reduceCtorEq,g0,g3,hk',hc',hw,e189,e190,q1,q2,q3]
               simp [nameB_not (by omega) hc' (show restB c'=false by simp [restB,q1,q2,q3])]
       · rintro T H M ⟨rfl,g0,g3,hf⟩
         have hn:¬ (s.length - 1+1 < s.length):=by omega
         simp only [go_sem,reduceIte,reduceEqDiff,reduceAdd,reduceMul,reduceSub,reduceLeDiff,reduceLT,Nat.reduceBEq,reduceCtorEq,g0,g3,hn]
         have:=nameB_at (s:=s) (by intro e;rw [e] at h0;simp at h0) (by omega) (fun d hd=>by rw [hc] at hd;cases hd;exact hb) (fun i d hi hd=>hf i d hi (by have:=(List.getElem?_eq_some_iff.1 hd).1;omega) hd)
         simp [this]
theorem dec_ascii {s:List Nat} {k c:Nat} (h:s[k]? = some c) (hc:c < 128):adecode s k=(c,1):=by
 unfold adecode
 have:s.getD (k+0) 0=c:=by simp [h]
 simp only [this]
 rw [if_pos hc]
theorem dec_high {s:List Nat} {k c:Nat} (h:s[k]? = some c) (hc:¬ c < 128):128≤(adecode s k).1:=by
 unfold adecode
 have h0:s.getD (k+0) 0=c:=by simp [h]
 simp only [h0]
 rw [if_neg hc]
 have he:(128:Nat)≤Utf8.runeError:=by decide
 split
 · split
   · rename_i h1;exact h1
   · exact he
 · split
   · split
     · rename_i h1;simp only [Bool.and_eq_true,decide_eq_true_eq] at h1;exact Nat.le_trans (by decide) h1.1
     · exact he
   · split
     · split
       · rename_i h1;simp only [Bool.and_eq_true,decide_eq_true_eq] at h1;exact Nat.le_trans (by decide) h1.1
       · exact he
     · exact he
theorem letB_high {x:Nat} (h:128≤x):letB x=false:=by
 have h1:¬ ((x:Int) < 65):=by omega
 have h2:(90:Int) < x:=by omega
 have h3:¬ ((x:Int) < 97):=by omega
 have h4:(122:Int) < x:=by omega
 simp [letB,h2,h4]
theorem digB_high {x:Nat} (h:128≤x):digB x=false:=by
 have h2:(57:Int) < x:=by omega
 simp [digB,h2]
theorem c182 (s:List Nat) (hl:s.length≤maxRows):∀ lo H,CallOk NC lo 78 [.str s] H (.bool (nameB s)) H:=by
 refine contract saneNC primsA (fn:=Try.f78) (by kernel_rfl) Try.func78 rfl rfl (by rfl) (by rfl) ?_
 simp only [go_sem,reduceIte,reduceEqDiff,reduceAdd,reduceMul,reduceSub,reduceLeDiff,reduceLT,Nat.reduceBEq,reduceCtorEq]
 refine W_for (fun k T H M=>M=[]∧getT T 0=.str s∧getT T 6=.ptr 0 0∧H.get 0=.sit s k∧(∀ c,0 < k→s[0]? = some c→letB (c:Nat)=true) ∧ ∀ (i c:Nat),1≤i→i < k→s[i]? = some c→restB c=true) s.length ?_ ?_ ?_
 · simp only [go_sem,reduceIte,reduceEqDiff,reduceAdd,reduceMul,reduceSub,reduceLeDiff,reduceLT,Nat.reduceBEq,reduceCtorEq];exact ⟨fun c h=>h.elim,fun i c h1 h2=>by omega⟩
 · rintro k T H M hk ⟨rfl,g0,g6,gH,hf0,hf⟩
   obtain ⟨c,hc⟩:∃ c,s[k]? = some c:=⟨s[k],by simp⟩
   by_cases hasc:c < 128
   · have hd:=dec_ascii hc hasc
     cases q1:letB (c:Nat) with
     | true =>
       simp only [go_sem,reduceIte,reduceEqDiff,reduceAdd,reduceMul,reduceSub,reduceLeDiff,reduceLT,Nat.reduceBEq,reduceCtorEq,g0,g6,gH,hk,hd,e227,e228,q1]
       refine ⟨fun d _ hd0 => ?_,fun i d hi hj hdi => ?_⟩
       · by_cases e:k=0
         · subst e;rw [hc] at hd0;cases hd0;exact q1
         · exact hf0 d (by omega) hd0
       · by_cases e:i=k
         · subst e;rw [hc] at hdi;cases hdi;simp [restB,q1]
         · exact hf i d hi (by omega) hdi
     | false =>
       by_cases e:k=0
       · subst e
         simp only [go_sem,reduceIte,reduceEqDiff,reduceAdd,reduceMul,reduceSub,reduceLeDiff,reduceLT,Nat.reduceBEq,reduceCtorEq,g0,g6,gH,hk,hd,e227,e228,q1]
         simp [nameB_not0 hc q1]
       · have e':((k:Int)=0)=False:=by simp;omega
         cases q2:digB (c:Nat) with
         | true =>
           simp only [go_sem,reduceIte,reduceEqDiff,reduceAdd,reduceMul,reduceSub,reduceLeDiff,reduceLT,Nat.reduceBEq,reduceCtorEq,g0,g6,gH,hk,hd,e227,e228,q1,q2,e']
           refine ⟨fun d _ hd0=>hf0 d (by omega) hd0,fun i d hi hj hdi => ?_⟩
           by_cases e:i=k
           · subst e;rw [hc] at hdi;cases hdi;simp [restB,q2]
           · exact hf i d hi (by omega) hdi
         | false =>
           rcases Classical.propComplete (((c:Nat):Int)=95) with q3 | q3
           · simp only [go_sem,reduceIte,reduceEqDiff,reduceAdd,reduceMul,reduceSub,reduceLeDiff,reduceLT,Nat.reduceBEq,reduceCtorEq,g0,g6,gH,hk,hd,e227,e228,q1,q2,q3,e']
             refine ⟨fun d _ hd0=>hf0 d (by omega) hd0,fun i d hi hj hdi => ?_⟩
             by_cases e:i=k
             · subst e;rw [hc] at hdi;cases hdi;simp [restB,q3]
             · exact hf i d hi (by omega) hdi
           · simp only [go_sem,reduceIte,reduceEqDiff,reduceAdd,reduceMul,reduceSub,reduceLeDiff,reduceLT,Nat.reduceBEq,reduceCtorEq,g0,g6,gH,hk,hd,e227,e228,q1,q2,q3,e']
             simp [nameB_not (by omega) hc (show restB (c:Nat)=false by simp [restB,q1,q2,q3])]
   · have hd:=dec_high hc hasc
     have q1:=letB_high hd
     have q2:=digB_high hd
     have q3:(((adecode s k).1:Int)=95)=False:=by simp;omega
     have r1:letB (c:Nat)=false:=letB_high (by omega)
     have r2:digB (c:Nat)=false:=digB_high (by omega)
     have r3:¬ ((c:Int)=95):=by omega
     by_cases e:k=0
     · subst e
       simp only [go_sem,reduceIte,reduceEqDiff,reduceAdd,reduceMul,reduceSub,reduceLeDiff,reduceLT,Nat.reduceBEq,reduceCtorEq,g0,g6,gH,hk,e227,e228,q1]
       simp [nameB_not0 hc r1]
     · have e':((k:Int)=0)=False:=by simp;omega
       simp only [go_sem,reduceIte,reduceEqDiff,reduceAdd,reduceMul,reduceSub,reduceLeDiff,reduceLT,Nat.reduceBEq,reduceCtorEq,g0,g6,gH,hk,e227,e228,q1,q2,q3,e']
       simp [nameB_not (by omega) hc (show restB (c:Nat)=false by simp [restB,r1,r2,r3])]
 · rintro T H M ⟨rfl,g0,g6,gH,hf0,hf⟩
   rcases Classical.propComplete ((0:Int) < (s.length:Int)) with h1 | h1
   · rcases Classical.propComplete ((24:Int) < (s.length:Int)) with h2 | h2
     · simp only [go_sem,reduceIte,reduceEqDiff,reduceAdd,reduceMul,reduceSub,reduceLeDiff,reduceLT,Nat.reduceBEq,reduceCtorEq,g0,g6,gH,Nat.lt_irrefl,h1,h2]
       have h2':=of_eq_true h2
       cases s with
       | nil=>simp [nameB]
       | cons c r=>simp [nameB];intro h;simp at h2';omega
     · simp only [go_sem,reduceIte,reduceEqDiff,reduceAdd,reduceMul,reduceSub,reduceLeDiff,reduceLT,Nat.reduceBEq,reduceCtorEq,g0,g6,gH,Nat.lt_irrefl,h1,h2]
       have h1':=of_eq_true h1
       have h2':=of_eq_false h2
       have:=nameB_at (s:=s) (by intro e;rw [e] at h1';simp at h1') (by omega) (fun d hd=>hf0 d (by omega) hd) (fun i d hi hd=>hf i d hi (List.getElem?_eq_some_iff.1 hd).1 hd)
       simp [this]
   · simp only [go_sem,reduceIte,reduceEqDiff,reduceAdd,reduceMul,reduceSub,reduceLeDiff,reduceLT,Nat.reduceBEq,reduceCtorEq,g0,g6,gH,Nat.lt_irrefl,h1]
     have h1':=of_eq_false h1
     have:s=[]:=List.length_eq_zero_iff.1 (by omega)
     subst this
     simp [nameB]
theorem pair_inj {f:Bool × Int→List AV} (hf:f=fun x=>[.bool x.1,i64 x.2]) (x y:Bool × Int) (h:f x=f y):x=y:=by
 subst hf;obtain ⟨a,b⟩:=x;obtain ⟨c,d⟩:=y;simp at h;obtain ⟨rfl,rfl⟩:=h;rfl
theorem intRows_inj (x y:List Int) (h:[AV.ps .unk (intRows x)]=[AV.ps .unk (intRows y)]):x=y:=by
 simp only [List.cons.injEq,AV.ps.injEq,and_true,true_and] at h
 exact map_inj (by intro a b e;simpa using e) h
theorem row1_inj (x y:Ln) (h:[AV.agg x.row]=[AV.agg y.row]):x=y:=by
 simp only [List.cons.injEq,AV.agg.injEq,and_true] at h;exact Ln.row_inj _ _ h
theorem pc1_inj (x y:Pc) (h:[AV.agg x.row]=[AV.agg y.row]):x=y:=by
 simp only [List.cons.injEq,AV.agg.injEq,and_true] at h;exact Pc.row_inj _ _ h
noncomputable def p48:List AV→Option AV:=primOf (α:=Bool × Int) (fun x=>[.bool x.1,i64 x.2]) (fun _=>True) (fun x=>i64 (whenI x.1 x.2))
theorem pok48:∀ args v,p48 args=some v → ∀ lo H,CallOk NC lo 47 args H v H:=by
 intro args v h
 obtain ⟨x,rfl,hp,rfl⟩:=primOf_inv h
 clear h
 revert x
 intro x;exact c48 x.1 x.2
theorem pe48 (x:Bool × Int) (hp:(fun _=>True) x):p48 ((fun x=>[.bool x.1,i64 x.2]) x)=some ((fun x=>i64 (whenI x.1 x.2)) x):=primOf_enc (by intro x y h;exact pair_inj rfl x y h) x hp
theorem e48 (b:Bool) (e:Int):p48 [.bool b,.int .i64 e]=some (.int .i64 (whenI b e)):=pe48 (b,e) trivial
noncomputable def p121:List AV→Option AV:=primOf (α:=Bool × Int) (fun x=>[.bool x.1,i64 x.2]) (fun _=>True) (fun x=>i64 (whenI x.1 x.2))
theorem pok121:∀ args v,p121 args=some v → ∀ lo H,CallOk NC lo 57 args H v H:=by
 intro args v h
 obtain ⟨x,rfl,hp,rfl⟩:=primOf_inv h
 clear h
 revert x
 intro x;exact c121 x.1 x.2
theorem pe121 (x:Bool × Int) (hp:(fun _=>True) x):p121 ((fun x=>[.bool x.1,i64 x.2]) x)=some ((fun x=>i64 (whenI x.1 x.2)) x):=primOf_enc (by intro x y h;exact pair_inj rfl x y h) x hp
theorem e121 (b:Bool) (e:Int):p121 [.bool b,.int .i64 e]=some (.int .i64 (whenI b e)):=pe121 (b,e) trivial
noncomputable def p34:List AV→Option AV:=primOf (α:=List Int) (fun x=>[.ps .unk (intRows x)]) (fun x=>x.length≤maxRows) (fun x=>i64 (firstI x))
theorem pok34:∀ args v,p34 args=some v → ∀ lo H,CallOk NC lo 27 args H v H:=by
 intro args v h
 obtain ⟨x,rfl,hp,rfl⟩:=primOf_inv h
 clear h
 revert x
 intro x hx;exact c34 x hx
theorem pe34 (x:List Int) (hp:(fun x=>x.length≤maxRows) x):p34 ((fun x=>[.ps .unk (intRows x)]) x)=some ((fun x=>i64 (firstI x)) x):=primOf_enc (by intro x y h;exact intRows_inj x y h) x hp
theorem e34_2 (a b:Int):p34 [.ps .unk [[.int .i64 a],[.int .i64 b]]]=some (.int .i64 (firstI [a,b])):=pe34 [a,b] (by show 2≤1073741824;decide)
theorem e34_3 (a b c:Int):p34 [.ps .unk [[.int .i64 a],[.int .i64 b],[.int .i64 c]]]=some (.int .i64 (firstI [a,b,c])):=pe34 [a,b,c] (by show 3≤1073741824;decide)
theorem e34_4 (a b c d:Int):p34 [.ps .unk [[.int .i64 a],[.int .i64 b],[.int .i64 c],[.int .i64 d]]]=some (.int .i64 (firstI [a,b,c,d])):=pe34 [a,b,c,d] (by show 4≤1073741824;decide)
noncomputable def p111:List AV→Option AV:=primOf (α:=List Int) (fun x=>[.ps .unk (intRows x)]) (fun x=>x.length≤maxRows) (fun x=>i64 (firstI x))
theorem pok111:∀ args v,p111 args=some v → ∀ lo H,CallOk NC lo 34 args H v H:=by
 intro args v h
 obtain ⟨x,rfl,hp,rfl⟩:=primOf_inv h
 clear h
 revert x
 intro x hx;exact c111 x hx
theorem pe111 (x:List Int) (hp:(fun x=>x.length≤maxRows) x):p111 ((fun x=>[.ps .unk (intRows x)]) x)=some ((fun x=>i64 (firstI x)) x):=primOf_enc (by intro x y h;exact intRows_inj x y h) x hp
theorem e111_2 (a b:Int):p111 [.ps .unk [[.int .i64 a],[.int .i64 b]]]=some (.int .i64 (firstI [a,b])):=pe111 [a,b] (by show 2≤1073741824;decide)
theorem e111_3 (a b c:Int):p111 [.ps .unk [[.int .i64 a],[.int .i64 b],[.int .i64 c]]]=some (.int .i64 (firstI [a,b,c])):=pe111 [a,b,c] (by show 3≤1073741824;decide)
theorem e111_4 (a b c d:Int):p111 [.ps .unk [[.int .i64 a],[.int .i64 b],[.int .i64 c],[.int .i64 d]]]=some (.int .i64 (firstI [a,b,c,d])):=pe111 [a,b,c,d] (by show 4≤1073741824;decide)
theorem e111_5 (a b c d e:Int):p111 [.ps .unk [[.int .i64 a],[.int .i64 b],[.int .i64 c],[.int .i64 d],[.int .i64 e]]]=some (.int .i64 (firstI [a,b,c,d,e])):=pe111 [a,b,c,d,e] (by show 5≤1073741824;decide)
theorem e111_6 (a b c d e f:Int):p111 [.ps .unk [[.int .i64 a],[.int .i64 b],[.int .i64 c],[.int .i64 d],[.int .i64 e],[.int .i64 f]]]=some (.int .i64 (firstI [a,b,c,d,e,f])):=pe111 [a,b,c,d,e,f] (by show 6≤1073741824;decide)
noncomputable def p26:List AV→Option AV:=primOf (α:=Ln) (fun x=>[.agg x.row]) (fun x=>x.ps.length≤maxRows) (fun x=>i64 (sumW x.ps 0))
theorem pok26:∀ args v,p26 args=some v → ∀ lo H,CallOk NC lo 6 args H v H:=by
 intro args v h
 obtain ⟨x,rfl,hp,rfl⟩:=primOf_inv h
 clear h
 revert x
 intro x hx;exact c26 x hx
theorem pe26 (x:Ln) (hp:(fun x=>x.ps.length≤maxRows) x):p26 ((fun x=>[.agg x.row]) x)=some ((fun x=>i64 (sumW x.ps 0)) x):=primOf_enc (by intro x y h;exact row1_inj x y h) x hp
noncomputable def p178:List AV→Option AV:=primOf (α:=Pc) (fun x=>[.agg x.row]) (fun _=>True) (fun x=>i64 (stepI x.back))
theorem pok178:∀ args v,p178 args=some v → ∀ lo H,CallOk NC lo 92 args H v H:=by
 intro args v h
 obtain ⟨x,rfl,hp,rfl⟩:=primOf_inv h
 clear h
 revert x
 intro x;exact c178 x
theorem pe178 (x:Pc) (hp:(fun _=>True) x):p178 ((fun x=>[.agg x.row]) x)=some ((fun x=>i64 (stepI x.back)) x):=primOf_enc (by intro x y h;exact pc1_inj x y h) x hp
theorem e178 (l q:Int) (b:Bool):p178 [.agg [.int .i64 l,.int .i64 q,.bool b]]=some (.int .i64 (stepI b)):=pe178 ⟨l,q,b⟩ trivial
noncomputable def p109:List AV→Option AV:=primOf (α:=Pc × Int) (fun x=>[.agg x.1.row,i64 x.2]) (fun _=>True) (fun x=>i64 (postI x.1 x.2))
theorem pok109:∀ args v,p109 args=some v → ∀ lo H,CallOk NC lo 74 args H v H:=by
 intro args v h
 obtain ⟨x,rfl,hp,rfl⟩:=primOf_inv h
 clear h
 revert x
 intro x;exact c109 x.1 x.2
theorem pe109 (x:Pc × Int) (hp:(fun _=>True) x):p109 ((fun x=>[.agg x.1.row,i64 x.2]) x)=some ((fun x=>i64 (postI x.1 x.2)) x):=primOf_enc (by intro x y h;(obtain ⟨a,b⟩:=x;obtain ⟨c,d⟩:=y;simp only [List.cons.injEq,AV.agg.injEq,AV.int.injEq,true_and,and_true] at h;obtain ⟨h1,rfl⟩:=h;rw [Pc.row_inj _ _ h1])) x hp
theorem e109 (l q:Int) (b:Bool) (i:Int):p109 [.agg [.int .i64 l,.int .i64 q,.bool b],.int .i64 i]=some (.int .i64 (postI ⟨l,q,b⟩ i)):=pe109 (⟨l,q,b⟩,i) trivial
noncomputable def p27:List AV→Option AV:=primOf (α:=Net × List Nat) (fun x=>[.agg x.1.cells,.str x.2]) (fun x=>x.1.lines.length≤maxRows) (fun x=>i64 (findI x.1.lines x.2))
theorem pok27:∀ args v,p27 args=some v → ∀ lo H,CallOk NC lo 49 args H v H:=by
 intro args v h
 obtain ⟨x,rfl,hp,rfl⟩:=primOf_inv h
 clear h
 revert x
 intro x hx;exact c27 x.1 x.2 hx
theorem pe27 (x:Net × List Nat) (hp:(fun x=>x.1.lines.length≤maxRows) x):p27 ((fun x=>[.agg x.1.cells,.str x.2]) x)=some ((fun x=>i64 (findI x.1.lines x.2)) x):=primOf_enc (by intro x y h;(obtain ⟨a,b⟩:=x;obtain ⟨c,d⟩:=y;simp only [List.cons.injEq,AV.agg.injEq,AV.str.injEq,true_and,and_true] at h;obtain ⟨h1,rfl⟩:=h;rw [Net.cells_inj _ _ h1])) x hp
noncomputable def p97:List AV→Option AV:=primOf (α:=List Nat) (fun x=>[.str x]) (fun _=>True) (fun x=>.bool (shortB x))
theorem pok97:∀ args v,p97 args=some v → ∀ lo H,CallOk NC lo 29 args H v H:=by
 intro args v h
 obtain ⟨x,rfl,hp,rfl⟩:=primOf_inv h
 clear h
 revert x
 intro x;exact c97 x
theorem pe97 (x:List Nat) (hp:(fun _=>True) x):p97 ((fun x=>[.str x]) x)=some ((fun x=>.bool (shortB x)) x):=primOf_enc (by intro x y h;simpa using h) x hp
theorem e97 (s:List Nat):p97 [.str s]=some (.bool (shortB s)):=pe97 s trivial
noncomputable def p122:List AV→Option AV:=primOf (α:=List Nat) (fun x=>[.str x]) (fun _=>True) (fun x=>.bool (nameB x))
theorem pok122:∀ args v,p122 args=some v → ∀ lo H,CallOk NC lo 73 args H v H:=by
 intro args v h
 obtain ⟨x,rfl,hp,rfl⟩:=primOf_inv h
 clear h
 revert x
 intro x;exact c122 x
theorem pe122 (x:List Nat) (hp:(fun _=>True) x):p122 ((fun x=>[.str x]) x)=some ((fun x=>.bool (nameB x)) x):=primOf_enc (by intro x y h;simpa using h) x hp
theorem e122 (s:List Nat):p122 [.str s]=some (.bool (nameB s)):=pe122 s trivial
noncomputable def p182:List AV→Option AV:=primOf (α:=List Nat) (fun x=>[.str x]) (fun x=>x.length≤maxRows) (fun x=>.bool (nameB x))
theorem pok182:∀ args v,p182 args=some v → ∀ lo H,CallOk NC lo 78 args H v H:=by
 intro args v h
 obtain ⟨x,rfl,hp,rfl⟩:=primOf_inv h
 clear h
 revert x
 intro x hx;exact c182 x hx
theorem pe182 (x:List Nat) (hp:(fun x=>x.length≤maxRows) x):p182 ((fun x=>[.str x]) x)=some ((fun x=>.bool (nameB x)) x):=primOf_enc (by intro x y h;simpa using h) x hp
theorem e182 (s:List Nat) (hs:s.length≤maxRows):p182 [.str s]=some (.bool (nameB s)):=pe182 s hs
noncomputable def PPB:FuncId→Option (List AV→Option AV):=addPrim 78 p182 (addPrim 73 p122 (addPrim 29 p97 (addPrim 49 p27 (addPrim 74 p109 (addPrim 92 p178 (addPrim 6 p26 (addPrim 34 p111 (addPrim 27 p34 (addPrim 57 p121 (addPrim 47 p48 (fun _=>none)))))))))))
theorem primsB:PrimsOk NC PPB:=primsOk_add (primsOk_add (primsOk_add (primsOk_add (primsOk_add (primsOk_add (primsOk_add (primsOk_add (primsOk_add (primsOk_add (primsOk_add (primsOk_none) (by kernel_rfl) (by kernel_rfl) pok48) (by kernel_rfl) (by kernel_rfl) pok121) (by kernel_rfl) (by kernel_rfl) pok34) (by kernel_rfl) (by kernel_rfl) pok111) (by kernel_rfl) (by kernel_rfl) pok26) (by kernel_rfl) (by kernel_rfl) pok178) (by kernel_rfl) (by kernel_rfl) pok109) (by kernel_rfl) (by kernel_rfl) pok27) (by kernel_rfl) (by kernel_rfl) pok97) (by kernel_rfl) (by kernel_rfl) pok122) (by kernel_rfl) (by kernel_rfl) pok182
theorem enB_48:En PPB 47 p48:=enter_prim (by rfl) (by kernel_rfl)
theorem enB_121:En PPB 57 p121:=enter_prim (by rfl) (by kernel_rfl)
theorem enB_26:En PPB 6 p26:=enter_prim (by rfl) (by kernel_rfl)
theorem enB_27:En PPB 49 p27:=enter_prim (by rfl) (by kernel_rfl)
theorem enB_122:En PPB 73 p122:=enter_prim (by rfl) (by kernel_rfl)
theorem enB_182:En PPB 78 p182:=enter_prim (by rfl) (by kernel_rfl)
attribute [go_sem ↓] enB_48 enB_121 enB_26 enB_27 enB_122 enB_182
def rangeI (n a b:Int):Int:=whenI (decide (n < a) || decide (b < n)) 3
theorem c35 (n a b:Int):∀ lo H,CallOk NC lo 28 [i64 n,i64 a,i64 b] H (i64 (rangeI n a b)) H:=by
 refine contract saneNC primsB (fn:=Try.f28) (by kernel_rfl) Try.func28 rfl rfl (by rfl) (by rfl) ?_
 rcases Classical.propComplete (n < a) with h1 | h1<;>rcases Classical.propComplete (b < n) with h2 | h2<;>simp only [go_sem,reduceIte,reduceEqDiff,reduceAdd,reduceMul,reduceSub,reduceLeDiff,reduceLT,Nat.reduceBEq,reduceCtorEq,e48,h1,h2]<;>simp [rangeI,h1,h2]
theorem c115 (n a b:Int):∀ lo H,CallOk NC lo 87 [i64 n,i64 a,i64 b] H (i64 (rangeI n a b)) H:=by
 refine contract saneNC primsB (fn:=Try.f87) (by kernel_rfl) Try.func87 rfl rfl (by rfl) (by rfl) ?_
 rcases Classical.propComplete (n < a) with h1 | h1<;>rcases Classical.propComplete (b < n) with h2 | h2<;>simp only [go_sem,reduceIte,reduceEqDiff,reduceAdd,reduceMul,reduceSub,reduceLeDiff,reduceLT,Nat.reduceBEq,reduceCtorEq,e121,h1,h2]<;>simp [rangeI,h1,h2]
theorem c36 (s:List Nat):∀ lo H,CallOk NC lo 48 [.str s] H (i64 (whenI (!nameB s) 8)) H:=by
 refine contract saneNC primsB (fn:=Try.f48) (by kernel_rfl) Try.func48 rfl rfl (by rfl) (by rfl) ?_
 simp only [go_sem,reduceIte,reduceEqDiff,reduceAdd,reduceMul,reduceSub,reduceLeDiff,reduceLT,Nat.reduceBEq,reduceCtorEq,e122,e48]
theorem c120 (s:List Nat) (hs:s.length≤maxRows):∀ lo H,CallOk NC lo 76 [.str s] H (i64 (whenI (!nameB s) 8)) H:=by
 refine contract saneNC primsB (fn:=Try.f76) (by kernel_rfl) Try.func76 rfl rfl (by rfl) (by rfl) ?_
 simp only [go_sem,reduceIte,reduceEqDiff,reduceAdd,reduceMul,reduceSub,reduceLeDiff,reduceLT,Nat.reduceBEq,reduceCtorEq,e182 s hs,e121]
theorem findL_at {ls:List Ln} {s:List Nat} {i:Nat} (h:findL ls s=some i):∃ l,ls[i]? = some l∧i < ls.length∧l ∈ ls:=by
 unfold findL at h
 rw [List.findIdx?_eq_some_iff_getElem] at h
 obtain ⟨hlt,_⟩:=h
 exact ⟨ls[i],by simp,hlt,List.getElem_mem _⟩
def hasI (ls:List Ln) (s:List Nat) (m:Int):Int:=match findL ls s with
 | none=>10
 | some i=>match ls[i]? with
   | some l=>whenI (decide (m < 0) || !decide (m < sumW l.ps 0)) 14
   | none=>0
def Net.fits (n:Net):Prop:=n.lines.length≤maxRows ∧ ∀ l ∈ n.lines,l.ps.length≤maxRows
theorem neg_cast (i:Nat):((i:Int) < 0)=False:=by simp
theorem neg_one:((-1:Int) < 0)=True:=by decide
theorem c106 (n:Net) (s:List Nat) (m:Int) (hn:n.fits):∀ lo H,CallOk NC lo 51 [.agg n.cells,.str s,i64 m] H (i64 (hasI n.lines s m)) H:=by
 refine contract saneNC primsB (fn:=Try.f51) (by kernel_rfl) Try.func51 rfl rfl (by rfl) (by rfl) ?_
 have e27:=pe27 (n,s) hn.1
 cases hf:findL n.lines s with
 | none =>
   simp only [findI,hf] at e27
   simp only [Net.cells] at e27
   simp only [go_sem,reduceIte,reduceEqDiff,reduceAdd,reduceMul,reduceSub,reduceLeDiff,reduceLT,Nat.reduceBEq,reduceCtorEq,Net.cells,e27,neg_one]
   simp [hasI,hf]
 | some i =>
   obtain ⟨l,hl,hlt,hmem⟩:=findL_at hf
   simp only [findI,hf] at e27
   simp only [Net.cells] at e27
   have e26:=pe26 l (hn.2 l hmem)
   simp only [Ln.row] at e26
   have hr:=map_at (f:=Ln.row) hl
   simp only [Ln.row] at hr
   rcases Classical.propComplete (m < 0) with h1 | h1<;>rcases Classical.propComplete (m < sumW l.ps 0) with h2 | h2<;>simp only [go_sem,reduceIte,reduceEqDiff,reduceAdd,reduceMul,reduceSub,reduceLeDiff,reduceLT,Nat.reduceBEq,reduceCtorEq,Net.cells,e27,neg_cast,List.length_map,hlt,hr,e26,h1,h2,e48]<;>simp [hasI,hf,hl,h1,h2]
noncomputable def p35:List AV→Option AV:=primOf (α:=Int × Int × Int) (fun x=>[i64 x.1,i64 x.2.1,i64 x.2.2]) (fun _=>True) (fun x=>i64 (rangeI x.1 x.2.1 x.2.2))
theorem pok35:∀ args v,p35 args=some v → ∀ lo H,CallOk NC lo 28 args H v H:=by
 intro args v h
 obtain ⟨x,rfl,hp,rfl⟩:=primOf_inv h
 clear h
 revert x
 intro x;exact c35 x.1 x.2.1 x.2.2
theorem pe35 (x:Int × Int × Int) (hp:(fun _=>True) x):p35 ((fun x=>[i64 x.1,i64 x.2.1,i64 x.2.2]) x)=some ((fun x=>i64 (rangeI x.1 x.2.1 x.2.2)) x):=primOf_enc (by intro x y h;(obtain ⟨a,b,c⟩:=x;obtain ⟨d,e,f⟩:=y;simp at h;obtain ⟨rfl,rfl,rfl⟩:=h;rfl)) x hp
theorem e35 (n a b:Int):p35 [.int .i64 n,.int .i64 a,.int .i64 b]=some (.int .i64 (rangeI n a b)):=pe35 (n,a,b) trivial
noncomputable def p115:List AV→Option AV:=primOf (α:=Int × Int × Int) (fun x=>[i64 x.1,i64 x.2.1,i64 x.2.2]) (fun _=>True) (fun x=>i64 (rangeI x.1 x.2.1 x.2.2))
theorem pok115:∀ args v,p115 args=some v → ∀ lo H,CallOk NC lo 87 args H v H:=by
 intro args v h
 obtain ⟨x,rfl,hp,rfl⟩:=primOf_inv h
 clear h
 revert x
 intro x;exact c115 x.1 x.2.1 x.2.2
theorem pe115 (x:Int × Int × Int) (hp:(fun _=>True) x):p115 ((fun x=>[i64 x.1,i64 x.2.1,i64 x.2.2]) x)=some ((fun x=>i64 (rangeI x.1 x.2.1 x.2.2)) x):=primOf_enc (by intro x y h;(obtain ⟨a,b,c⟩:=x;obtain ⟨d,e,f⟩:=y;simp at h;obtain ⟨rfl,rfl,rfl⟩:=h;rfl)) x hp
theorem e115 (n a b:Int):p115 [.int .i64 n,.int .i64 a,.int .i64 b]=some (.int .i64 (rangeI n a b)):=pe115 (n,a,b) trivial
noncomputable def p36:List AV→Option AV:=primOf (α:=List Nat) (fun x=>[.str x]) (fun _=>True) (fun x=>i64 (whenI (!nameB x) 8))
theorem pok36:∀ args v,p36 args=some v → ∀ lo H,CallOk NC lo 48 args H v H:=by
 intro args v h
 obtain ⟨x,rfl,hp,rfl⟩:=primOf_inv h
 clear h
 revert x
 intro x;exact c36 x
theorem pe36 (x:List Nat) (hp:(fun _=>True) x):p36 ((fun x=>[.str x]) x)=some ((fun x=>i64 (whenI (!nameB x) 8)) x):=primOf_enc (by intro x y h;simpa using h) x hp
theorem e36 (s:List Nat):p36 [.str s]=some (.int .i64 (whenI (!nameB s) 8)):=pe36 s trivial
noncomputable def p120:List AV→Option AV:=primOf (α:=List Nat) (fun x=>[.str x]) (fun x=>x.length≤maxRows) (fun x=>i64 (whenI (!nameB x) 8))
theorem pok120:∀ args v,p120 args=some v → ∀ lo H,CallOk NC lo 76 args H v H:=by
 intro args v h
 obtain ⟨x,rfl,hp,rfl⟩:=primOf_inv h
 clear h
 revert x
 intro x hx;exact c120 x hx
theorem pe120 (x:List Nat) (hp:(fun x=>x.length≤maxRows) x):p120 ((fun x=>[.str x]) x)=some ((fun x=>i64 (whenI (!nameB x) 8)) x):=primOf_enc (by intro x y h;simpa using h) x hp
theorem e120 (s:List Nat) (hs:s.length≤maxRows):p120 [.str s]=some (.int .i64 (whenI (!nameB s) 8)):=pe120 s hs
noncomputable def p106:List AV→Option AV:=primOf (α:=Net × List Nat × Int) (fun x=>[.agg x.1.cells,.str x.2.1,i64 x.2.2]) (fun x=>x.1.fits) (fun x=>i64 (hasI x.1.lines x.2.1 x.2.2))
theorem pok106:∀ args v,p106 args=some v → ∀ lo H,CallOk NC lo 51 args H v H:=by
 intro args v h
 obtain ⟨x,rfl,hp,rfl⟩:=primOf_inv h
 clear h
 revert x
 intro x hx;exact c106 x.1 x.2.1 x.2.2 hx
theorem pe106 (x:Net × List Nat × Int) (hp:(fun x=>x.1.fits) x):p106 ((fun x=>[.agg x.1.cells,.str x.2.1,i64 x.2.2]) x)=some ((fun x=>i64 (hasI x.1.lines x.2.1 x.2.2)) x):=primOf_enc (by intro x y h;(obtain ⟨a,b,c⟩:=x;obtain ⟨d,e,f⟩:=y;simp only [List.cons.injEq,AV.agg.injEq,AV.str.injEq,AV.int.injEq,true_and,and_true] at h;obtain ⟨h1,rfl,rfl⟩:=h;rw [Net.cells_inj _ _ h1])) x hp
noncomputable def PPC:FuncId→Option (List AV→Option AV):=addPrim 51 p106 (addPrim 76 p120 (addPrim 48 p36 (addPrim 87 p115 (addPrim 28 p35 (PPB)))))
theorem primsC:PrimsOk NC PPC:=primsOk_add (primsOk_add (primsOk_add (primsOk_add (primsOk_add (primsB) (by kernel_rfl) (by kernel_rfl) pok35) (by kernel_rfl) (by kernel_rfl) pok115) (by kernel_rfl) (by kernel_rfl) pok36) (by kernel_rfl) (by kernel_rfl) pok120) (by kernel_rfl) (by kernel_rfl) pok106
theorem enC_48:En PPC 47 p48:=enter_prim (by rfl) (by kernel_rfl)
theorem enC_34:En PPC 27 p34:=enter_prim (by rfl) (by kernel_rfl)
theorem enC_26:En PPC 6 p26:=enter_prim (by rfl) (by kernel_rfl)
theorem enC_178:En PPC 92 p178:=enter_prim (by rfl) (by kernel_rfl)
theorem enC_109:En PPC 74 p109:=enter_prim (by rfl) (by kernel_rfl)
theorem enC_27:En PPC 49 p27:=enter_prim (by rfl) (by kernel_rfl)
theorem enC_35:En PPC 28 p35:=enter_prim (by rfl) (by kernel_rfl)
attribute [go_sem ↓] enC_48 enC_34 enC_26 enC_178 enC_109 enC_27 enC_35
def metresI (ls:List Ln) (s:List Nat) (fr till:Int):Int:=match findL ls s with
 | none=>10
 | some i=>match ls[i]? with
   | some l=>whenI (decide (fr < 0) || !decide (fr < till) || decide (sumW l.ps 0 < till)) 14
   | none=>0
theorem c126 (n:Net) (s:List Nat) (fr till:Int) (hn:n.fits):∀ lo H,CallOk NC lo 52 [.agg n.cells,.str s,.agg [i64 fr,i64 till]] H (i64 (metresI n.lines s fr till)) H:=by
 refine contract saneNC primsC (fn:=Try.f52) (by kernel_rfl) Try.func52 rfl rfl (by rfl) (by rfl) ?_
 have e27:=pe27 (n,s) hn.1
 cases hf:findL n.lines s with
 | none =>
   simp only [findI,hf] at e27
   simp only [Net.cells] at e27
   simp only [go_sem,reduceIte,reduceEqDiff,reduceAdd,reduceMul,reduceSub,reduceLeDiff,reduceLT,Nat.reduceBEq,reduceCtorEq,Net.cells,e27,neg_one]
   simp [metresI,hf]
 | some i =>
   obtain ⟨l,hl,hlt,hmem⟩:=findL_at hf
   simp only [findI,hf] at e27
   simp only [Net.cells] at e27
   have e26:=pe26 l (hn.2 l hmem)
   simp only [Ln.row] at e26
   have hr:=map_at (f:=Ln.row) hl
   simp only [Ln.row] at hr
   rcases Classical.propComplete (fr < 0) with h1 | h1<;>rcases Classical.propComplete (fr < till) with h2 | h2<;>rcases Classical.propComplete (sumW l.ps 0 < till) with h3 | h3<;>simp only [go_sem,reduceIte,reduceEqDiff,reduceAdd,reduceMul,reduceSub,reduceLeDiff,reduceLT,Nat.reduceBEq,reduceCtorEq,Net.cells,e27,neg_cast,List.length_map,hlt,hr,e26,h1,h2,h3,e48]<;>simp [metresI,hf,hl,h1,h2,h3]
def pieceR (p:Pc):Int :=
 let e:=firstI [rangeI p.len 1 100000,rangeI p.post 0 9999999]
 if e=0 then whenI (decide (postI p (wrapq .i64 (Int.sub p.len 1)) < 0) || decide (9999999 < postI p (wrapq .i64 (Int.sub p.len 1)))) 4 else e
theorem c179 (p:Pc):∀ lo H,CallOk NC lo 50 [.agg p.row] H (i64 (pieceR p)) H:=by
 refine contract saneNC primsC (fn:=Try.f50) (by kernel_rfl) Try.func50 rfl rfl (by rfl) (by rfl) ?_
 obtain ⟨l,q,b⟩:=p
 generalize hE:firstI [rangeI l 1 100000,rangeI q 0 9999999]=E
 generalize hF:postI ⟨l,q,b⟩ (wrapq .i64 (Int.sub l 1))=F
 rcases Classical.propComplete (E=0) with h0 | h0<;>rcases Classical.propComplete (F < 0) with h1 | h1<;>rcases Classical.propComplete (9999999 < F) with h2 | h2<;>simp only [go_sem,reduceIte,reduceEqDiff,reduceAdd,reduceMul,reduceSub,reduceLeDiff,reduceLT,Nat.reduceBEq,reduceCtorEq,Pc.row,e35,e34_2,e109,e48,hE,hF,h0,h1,h2,AV.strip0]<;>simp [pieceR,hE,hF,h0,h1,h2]
def lastI (p:Pc):Int:=wrapq .i64 (Int.add p.post (wrapq .i64 (Int.mul (stepI p.back) (wrapq .i64 (Int.sub p.len 1)))))
theorem c226 (p:Pc):∀ lo H,CallOk NC lo 88 [.agg p.row] H (i64 (lastI p)) H:=by
 refine contract saneNC primsC (fn:=Try.f88) (by kernel_rfl) Try.func88 rfl rfl (by rfl) (by rfl) ?_
 obtain ⟨l,q,b⟩:=p
 simp only [go_sem,reduceIte,reduceEqDiff,reduceAdd,reduceMul,reduceSub,reduceLeDiff,reduceLT,Nat.reduceBEq,reduceCtorEq,Pc.row,e178]
 rfl
end Go.Sim

namespace Go.Sim
open Go Go.Proofs
set_option maxRecDepth 100000
set_option maxHeartbeats 2000000
noncomputable def p179:List AV→Option AV:=primOf (α:=Pc) (fun x=>[.agg x.row]) (fun _=>True) (fun x=>i64 (pieceR x))
theorem pok179:∀ args v,p179 args=some v → ∀ lo H,CallOk NC lo 50 args H v H:=by
 intro args v h
 obtain ⟨x,rfl,hp,rfl⟩:=primOf_inv h
 clear h
 revert x
 intro x;exact c179 x
theorem pe179 (x:Pc) (hp:(fun _=>True) x):p179 ((fun x=>[.agg x.row]) x)=some ((fun x=>i64 (pieceR x)) x):=primOf_enc (by intro x y h;exact pc1_inj x y h) x hp
theorem e179 (l q:Int) (b:Bool):p179 [.agg [.int .i64 l,.int .i64 q,.bool b]]=some (.int .i64 (pieceR ⟨l,q,b⟩)):=pe179 ⟨l,q,b⟩ trivial
noncomputable def p126:List AV→Option AV:=primOf (α:=Net × List Nat × Int × Int) (fun x=>[.agg x.1.cells,.str x.2.1,.agg [i64 x.2.2.1,i64 x.2.2.2]]) (fun x=>x.1.fits) (fun x=>i64 (metresI x.1.lines x.2.1 x.2.2.1 x.2.2.2))
theorem pok126:∀ args v,p126 args=some v → ∀ lo H,CallOk NC lo 52 args H v H:=by
 intro args v h
 obtain ⟨x,rfl,hp,rfl⟩:=primOf_inv h
 clear h
 revert x
 intro x hx;exact c126 x.1 x.2.1 x.2.2.1 x.2.2.2 hx
theorem pe126 (x:Net × List Nat × Int × Int) (hp:(fun x=>x.1.fits) x):p126 ((fun x=>[.agg x.1.cells,.str x.2.1,.agg [i64 x.2.2.1,i64 x.2.2.2]]) x)=some ((fun x=>i64 (metresI x.1.lines x.2.1 x.2.2.1 x.2.2.2)) x):=primOf_enc (by intro x y h;(obtain ⟨a,b,c,d⟩:=x;obtain ⟨a',b',c',d'⟩:=y;simp only [List.cons.injEq,AV.agg.injEq,AV.str.injEq,AV.int.injEq,true_and,and_true] at h;obtain ⟨h1,rfl,rfl,rfl⟩:=h;rw [Net.cells_inj _ _ h1])) x hp
noncomputable def PPD:FuncId→Option (List AV→Option AV):=addPrim 52 p126 (addPrim 50 p179 (PPC))
theorem primsD:PrimsOk NC PPD:=primsOk_add (primsOk_add (primsC) (by kernel_rfl) (by kernel_rfl) pok179) (by kernel_rfl) (by kernel_rfl) pok126
theorem enD_48:En PPD 47 p48:=enter_prim (by rfl) (by kernel_rfl)
theorem enD_34:En PPD 27 p34:=enter_prim (by rfl) (by kernel_rfl)
theorem enD_27:En PPD 49 p27:=enter_prim (by rfl) (by kernel_rfl)
theorem enD_36:En PPD 48 p36:=enter_prim (by rfl) (by kernel_rfl)
theorem enD_106:En PPD 51 p106:=enter_prim (by rfl) (by kernel_rfl)
theorem enD_179:En PPD 50 p179:=enter_prim (by rfl) (by kernel_rfl)
theorem enD_126:En PPD 52 p126:=enter_prim (by rfl) (by kernel_rfl)
attribute [go_sem ↓] enD_48 enD_34 enD_27
attribute [go_sem ↓] enD_36 enD_106 enD_179 enD_126
theorem errs_at {f:Nat→Int} {n k:Nat} (h:k < n):((List.range n).map f)[k]? = some (f k):=by simp [h]
def lineR (n:Net) (i:Nat):Int:=match n.lines[i]? with
 | none=>0
 | some l =>
   let e:=firstI [whenI (!nameB l.name) 8,whenI (decide (findI n.lines l.name < i)) 9,whenI (decide ((l.ps.length:Int)=0)) 12,whenI (decide ((8:Int) < l.ps.length)) 5]
   if e=0 then firstI (l.ps.map pieceR) else e
theorem c103 (n:Net) (i:Nat) (hn:n.fits) (hi:i < n.lines.length):∀ lo H,CallOk NC lo 30 [.agg n.cells,i64 i] H (i64 (lineR n i)) H:=by
 refine contract saneNC primsD (fn:=Try.f30) (by kernel_rfl) Try.func30 rfl rfl (by rfl) (by rfl) ?_
 obtain ⟨l,hl⟩:∃ l,n.lines[i]? = some l:=⟨n.lines[i],by simp⟩
 have hfit:l.ps.length≤maxRows:=hn.2 l (List.mem_of_getElem? hl)
 have e27:=pe27 (n,l.name) hn.1
 simp only [Net.cells,i64] at e27
 have hr:=map_at (f:=Ln.row) hl
 simp only [Ln.row] at hr
 generalize hE:firstI [whenI (!nameB l.name) 8,whenI (decide (findI n.lines l.name < i)) 9,whenI (decide ((l.ps.length:Int)=0)) 12,whenI (decide ((8:Int) < l.ps.length)) 5]=E
 have hsp:lineR n i=if E=0 then firstI (l.ps.map pieceR) else E:=by
  unfold lineR
  simp only [hl,hE]
 rcases Classical.propComplete (E=0) with h0 | h0
 · simp only [go_sem,reduceIte,reduceEqDiff,reduceAdd,reduceMul,reduceSub,reduceLeDiff,reduceLT,Nat.reduceBEq,reduceCtorEq,Net.cells,List.length_map,hi,hr,e36,e27,e48,e34_4,hE,h0]
   refine W_for (fun k T H M=>M=[]∧getT T 5=.ptr 1 0∧H.get 1=.cells [.str l.name,.ps .unk (l.ps.map Pc.row)] 36∧getT T 7=i64 k∧firstI (l.ps.map pieceR)=firstI ((l.ps.map pieceR).drop k)) l.ps.length ?_ ?_ ?_
   · simp only [go_sem,reduceIte,reduceEqDiff,reduceAdd,reduceMul,reduceSub,reduceLeDiff,reduceLT,Nat.reduceBEq,reduceCtorEq]
   · rintro k T H M hk ⟨rfl,g5,gH,g7,hf⟩
     obtain ⟨p,hp⟩:∃ p,l.ps[k]? = some p:=⟨l.ps[k],by simp⟩
     have hpr:=map_at (f:=Pc.row) hp
     have hw:=wrap_succ hk hfit
     have hfd:=firstI_drop (map_at (f:=pieceR) hp)
     obtain ⟨pl,pq,pb⟩:=p
     generalize hF:pieceR ⟨pl,pq,pb⟩=F at hfd
     simp only [Pc.row] at hpr
     rcases Classical.propComplete (F=0) with h1 | h1
     · simp only [go_sem,reduceIte,reduceEqDiff,reduceAdd,reduceMul,reduceSub,reduceLeDiff,reduceLT,Nat.reduceBEq,reduceCtorEq,g5,gH,g7,List.length_map,hk,hpr,hw,e179,hF,h1]
       simp [hf,hfd,h1]
     · simp only [go_sem,reduceIte,reduceEqDiff,reduceAdd,reduceMul,reduceSub,reduceLeDiff,reduceLT,Nat.reduceBEq,reduceCtorEq,g5,gH,g7,List.length_map,hk,hpr,hw,e179,hF,h1]
       simp [hsp,h0,hf,hfd,h1]
   · rintro T H M ⟨rfl,g5,gH,g7,hf⟩
     simp only [go_sem,reduceIte,reduceEqDiff,reduceAdd,reduceMul,reduceSub,reduceLeDiff,reduceLT,Nat.reduceBEq,reduceCtorEq,g5,gH,g7,List.length_map,Nat.lt_irrefl]
     rw [List.drop_eq_nil_of_le (by simp)] at hf
     simp [hsp,h0,hf,firstI]
 · simp only [go_sem,reduceIte,reduceEqDiff,reduceAdd,reduceMul,reduceSub,reduceLeDiff,reduceLT,Nat.reduceBEq,reduceCtorEq,Net.cells,List.length_map,hi,hr,e36,e27,e48,e34_4,hE,h0]
   simp [hsp,h0]
def dupB {α:Type} (nm:α→List Nat) (l:List α) (i:Nat) (s:List Nat):Bool:=(l.take i).any fun x=>beqL (nm x) s
theorem dupB_true {α:Type} {nm:α→List Nat} {l:List α} {i k:Nat} {s:List Nat} {x:α} (hk:k < i) (h:l[k]? = some x) (hb:beqL (nm x) s=true):dupB nm l i s=true:=by
 unfold dupB
 rw [List.any_eq_true]
 exact ⟨x,List.mem_of_getElem? (i:=k) (by rw [List.getElem?_take_of_lt hk];exact h),hb⟩
theorem dupB_false {α:Type} {nm:α→List Nat} {l:List α} {i:Nat} {s:List Nat} (h:∀ (j:Nat) (x:α),j < i→l[j]? = some x→beqL (nm x) s=false):dupB nm l i s=false:=by
 unfold dupB
 rw [List.any_eq_false]
 intro x hx
 obtain ⟨j,hj⟩:=List.mem_iff_getElem?.1 hx
 rw [List.getElem?_take] at hj
 split at hj
 · rename_i hlt;simp [h j x hlt hj]
 · cases hj
def switchR (n:Net) (i:Nat):Int:=match n.sws[i]? with
 | none=>0
 | some s =>
   let e:=whenI (!nameB s.name) 8
   if e=0 then (if dupB Sw.name n.sws i s.name then 9 else firstI [hasI n.lines s.line s.metre,whenI (decide (findI n.lines s.other < 0)) 10,whenI (beqL s.line s.other) 24]) else e
theorem c104 (n:Net) (i:Nat) (hn:n.fits) (hi:i < n.sws.length) (hs:n.sws.length≤maxRows):∀ lo H,CallOk NC lo 31 [.agg n.cells,i64 i] H (i64 (switchR n i)) H:=by
 refine contract saneNC primsD (fn:=Try.f31) (by kernel_rfl) Try.func31 rfl rfl (by rfl) (by rfl) ?_
 obtain ⟨s,hl⟩:∃ s,n.sws[i]? = some s:=⟨n.sws[i],by simp⟩
 have e27:=pe27 (n,s.other) hn.1
 simp only [Net.cells,i64] at e27
 have e106:=pe106 (n,s.line,s.metre) hn
 simp only [Net.cells,i64] at e106
 have hr:=map_at (f:=Sw.row) hl
 simp only [Sw.row] at hr
 generalize hE:whenI (!nameB s.name) 8=E
 rcases Classical.propComplete (E=0) with h0 | h0
 · simp only [go_sem,reduceIte,reduceEqDiff,reduceAdd,reduceMul,reduceSub,reduceLeDiff,reduceLT,Nat.reduceBEq,reduceCtorEq,Net.cells,List.length_map,hi,hr,e36,hE,h0]
   refine W_for (fun k T H M=>M=[]∧getT T 2=.ptr 0 0∧getT T 5=.ptr 1 0∧H.get 0=.cells n.cells 26∧H.get 1=.cells s.row 90∧getT T 1=i64 i∧getT T 7=i64 k ∧ ∀ (j:Nat) (x:Sw),j < k→n.sws[j]? = some x→beqL x.name s.name=false) i ?_ ?_ ?_
   · simp only [go_sem,reduceIte,reduceEqDiff,reduceAdd,reduceMul,reduceSub,reduceLeDiff,reduceLT,Nat.reduceBEq,reduceCtorEq];exact ⟨rfl,rfl,fun j x hj=>by omega⟩
   · rintro k T H M hk ⟨rfl,g2,g5,gH,gH1,g1,g7,hf⟩
     have hk':k < n.sws.length:=by omega
     obtain ⟨x,hx⟩:∃ p,n.sws[k]? = some p:=⟨n.sws[k],by simp⟩
     have hxr:=map_at (f:=Sw.row) hx
     have hw:=wrap_succ hk' hs
     simp only [Sw.row] at hxr
     cases hb:beqL x.name s.name with
     | true =>
       simp only [go_sem,reduceIte,reduceEqDiff,reduceAdd,reduceMul,reduceSub,reduceLeDiff,reduceLT,Nat.reduceBEq,reduceCtorEq,g1,g2,g5,gH,gH1,g7,Net.cells,Sw.row,List.length_map,hk,hk',hxr,hw,hb]
       simp [switchR,hl,hE,h0,dupB_true hk hx hb]
     | false =>
       simp only [go_sem,reduceIte,reduceEqDiff,reduceAdd,reduceMul,reduceSub,reduceLeDiff,reduceLT,Nat.reduceBEq,reduceCtorEq,g1,g2,g5,gH,gH1,g7,Net.cells,Sw.row,List.length_map,hk,hk',hxr,hw,hb]
       intro j y hj hy
       by_cases e:j=k
       · subst e;rw [hx] at hy;cases hy;exact hb
       · exact hf j y (by omega) hy
   · rintro T H M ⟨rfl,g2,g5,gH,gH1,g1,g7,hf⟩
     have hd:=dupB_false hf
     simp only [go_sem,reduceIte,reduceEqDiff,reduceAdd,reduceMul,reduceSub,reduceLeDiff,reduceLT,Nat.reduceBEq,reduceCtorEq,g1,g2,g5,gH,gH1,g7,Net.cells,Sw.row,Nat.lt_irrefl,e106,e27,e48,e34_3]
     simp [switchR,hl,hE,h0,hd]
 · simp only [go_sem,reduceIte,reduceEqDiff,reduceAdd,reduceMul,reduceSub,reduceLeDiff,reduceLT,Nat.reduceBEq,reduceCtorEq,Net.cells,List.length_map,hi,hr,e36,hE,h0]
   simp [switchR,hl,hE,h0]
def structR (n:Net) (i:Nat):Int:=match n.sts[i]? with
 | none=>0
 | some s =>
   let e:=whenI (!nameB s.name) 8
   if e=0 then (if dupB Stc.name n.sts i s.name then 9 else firstI [whenI (!decide (whenI (!nameB s.kind) 8=0)) 13,metresI n.lines s.line s.fr s.till]) else e
theorem c105 (n:Net) (i:Nat) (hn:n.fits) (hi:i < n.sts.length) (hs:n.sts.length≤maxRows):∀ lo H,CallOk NC lo 32 [.agg n.cells,i64 i] H (i64 (structR n i)) H:=by
 refine contract saneNC primsD (fn:=Try.f32) (by kernel_rfl) Try.func32 rfl rfl (by rfl) (by rfl) ?_
 obtain ⟨s,hl⟩:∃ s,n.sts[i]? = some s:=⟨n.sts[i],by simp⟩
 have e126:=pe126 (n,s.line,s.fr,s.till) hn
 simp only [Net.cells,i64] at e126
 have hr:=map_at (f:=Stc.row) hl
 simp only [Stc.row] at hr
 generalize hE:whenI (!nameB s.name) 8=E
 rcases Classical.propComplete (E=0) with h0 | h0
 · simp only [go_sem,reduceIte,reduceEqDiff,reduceAdd,reduceMul,reduceSub,reduceLeDiff,reduceLT,Nat.reduceBEq,reduceCtorEq,Net.cells,List.length_map,hi,hr,e36,hE,h0]
   refine W_for (fun k T H M=>M=[]∧getT T 2=.ptr 0 0∧getT T 5=.ptr 1 0∧H.get 0=.cells n.cells 26∧H.get 1=.cells s.row 95∧getT T 1=i64 i∧getT T 7=i64 k ∧ ∀ (j:Nat) (x:Stc),j < k→n.sts[j]? = some x→beqL x.name s.name=false) i ?_ ?_ ?_
   · simp only [go_sem,reduceIte,reduceEqDiff,reduceAdd,reduceMul,reduceSub,reduceLeDiff,reduceLT,Nat.reduceBEq,reduceCtorEq];exact ⟨rfl,rfl,fun j x hj=>by omega⟩
   · rintro k T H M hk ⟨rfl,g2,g5,gH,gH1,g1,g7,hf⟩
     have hk':k < n.sts.length:=by omega
     obtain ⟨x,hx⟩:∃ p,n.sts[k]? = some p:=⟨n.sts[k],by simp⟩
     have hxr:=map_at (f:=Stc.row) hx
     have hw:=wrap_succ hk' hs
     simp only [Stc.row] at hxr
     cases hb:beqL x.name s.name with
     | true =>
       simp only [go_sem,reduceIte,reduceEqDiff,reduceAdd,reduceMul,reduceSub,reduceLeDiff,reduceLT,Nat.reduceBEq,reduceCtorEq,g1,g2,g5,gH,gH1,g7,Net.cells,Stc.row,List.length_map,hk,hk',hxr,hw,hb]
       simp [structR,hl,hE,h0,dupB_true hk hx hb]
     | false =>
       simp only [go_sem,reduceIte,reduceEqDiff,reduceAdd,reduceMul,reduceSub,reduceLeDiff,reduceLT,Nat.reduceBEq,reduceCtorEq,g1,g2,g5,gH,gH1,g7,Net.cells,Stc.row,List.length_map,hk,hk',hxr,hw,hb]
       intro j y hj hy
       by_cases e:j=k
       · subst e;rw [hx] at hy;cases hy;exact hb
       · exact hf j y (by omega) hy
   · rintro T H M ⟨rfl,g2,g5,gH,gH1,g1,g7,hf⟩
     have hd:=dupB_false hf
     simp only [go_sem,reduceIte,reduceEqDiff,reduceAdd,reduceMul,reduceSub,reduceLeDiff,reduceLT,Nat.reduceBEq,reduceCtorEq,g1,g2,g5,gH,gH1,g7,Net.cells,Stc.row,Nat.lt_irrefl,e36,e126,e48,e34_2]
     simp [structR,hl,hE,h0,hd]
 · simp only [go_sem,reduceIte,reduceEqDiff,reduceAdd,reduceMul,reduceSub,reduceLeDiff,reduceLT,Nat.reduceBEq,reduceCtorEq,Net.cells,List.length_map,hi,hr,e36,hE,h0]
   simp [structR,hl,hE,h0]
noncomputable def p103:List AV→Option AV:=primOf (α:=Net × Nat) (fun x=>[.agg x.1.cells,i64 x.2]) (fun x=>x.1.fits∧x.2 < x.1.lines.length) (fun x=>i64 (lineR x.1 x.2))
theorem pok103:∀ args v,p103 args=some v → ∀ lo H,CallOk NC lo 30 args H v H:=by
 intro args v h
 obtain ⟨x,rfl,hp,rfl⟩:=primOf_inv h
 clear h
 revert x
 intro x hx;exact c103 x.1 x.2 hx.1 hx.2
theorem pe103 (x:Net × Nat) (hp:(fun x=>x.1.fits∧x.2 < x.1.lines.length) x):p103 ((fun x=>[.agg x.1.cells,i64 x.2]) x)=some ((fun x=>i64 (lineR x.1 x.2)) x):=primOf_enc (by intro x y h;(obtain ⟨a,b⟩:=x;obtain ⟨c,d⟩:=y;simp only [List.cons.injEq,AV.agg.injEq,AV.int.injEq,true_and,and_true] at h;obtain ⟨h1,h2⟩:=h;rw [Net.cells_inj _ _ h1,Int.ofNat.inj h2])) x hp
noncomputable def p104:List AV→Option AV:=primOf (α:=Net × Nat) (fun x=>[.agg x.1.cells,i64 x.2]) (fun x=>x.1.fits∧x.2 < x.1.sws.length∧x.1.sws.length≤maxRows) (fun x=>i64 (switchR x.1 x.2))
theorem pok104:∀ args v,p104 args=some v → ∀ lo H,CallOk NC lo 31 args H v H:=by
 intro args v h
 obtain ⟨x,rfl,hp,rfl⟩:=primOf_inv h
 clear h
 revert x
 intro x hx;exact c104 x.1 x.2 hx.1 hx.2.1 hx.2.2
theorem pe104 (x:Net × Nat) (hp:(fun x=>x.1.fits∧x.2 < x.1.sws.length∧x.1.sws.length≤maxRows) x):p104 ((fun x=>[.agg x.1.cells,i64 x.2]) x)=some ((fun x=>i64 (switchR x.1 x.2)) x):=primOf_enc (by intro x y h;(obtain ⟨a,b⟩:=x;obtain ⟨c,d⟩:=y;simp only [List.cons.injEq,AV.agg.injEq,AV.int.injEq,true_and,and_true] at h;obtain ⟨h1,h2⟩:=h;rw [Net.cells_inj _ _ h1,Int.ofNat.inj h2])) x hp
noncomputable def p105:List AV→Option AV:=primOf (α:=Net × Nat) (fun x=>[.agg x.1.cells,i64 x.2]) (fun x=>x.1.fits∧x.2 < x.1.sts.length∧x.1.sts.length≤maxRows) (fun x=>i64 (structR x.1 x.2))
theorem pok105:∀ args v,p105 args=some v → ∀ lo H,CallOk NC lo 32 args H v H:=by
 intro args v h
 obtain ⟨x,rfl,hp,rfl⟩:=primOf_inv h
 clear h
 revert x
 intro x hx;exact c105 x.1 x.2 hx.1 hx.2.1 hx.2.2
theorem pe105 (x:Net × Nat) (hp:(fun x=>x.1.fits∧x.2 < x.1.sts.length∧x.1.sts.length≤maxRows) x):p105 ((fun x=>[.agg x.1.cells,i64 x.2]) x)=some ((fun x=>i64 (structR x.1 x.2)) x):=primOf_enc (by intro x y h;(obtain ⟨a,b⟩:=x;obtain ⟨c,d⟩:=y;simp only [List.cons.injEq,AV.agg.injEq,AV.int.injEq,true_and,and_true] at h;obtain ⟨h1,h2⟩:=h;rw [Net.cells_inj _ _ h1,Int.ofNat.inj h2])) x hp
noncomputable def PPE:FuncId→Option (List AV→Option AV):=addPrim 32 p105 (addPrim 31 p104 (addPrim 30 p103 (PPD)))
theorem primsE:PrimsOk NC PPE:=primsOk_add (primsOk_add (primsOk_add (primsD) (by kernel_rfl) (by kernel_rfl) pok103) (by kernel_rfl) (by kernel_rfl) pok104) (by kernel_rfl) (by kernel_rfl) pok105
theorem enE_103:En PPE 30 p103:=enter_prim (by rfl) (by kernel_rfl)
theorem enE_104:En PPE 31 p104:=enter_prim (by rfl) (by kernel_rfl)
theorem enE_105:En PPE 32 p105:=enter_prim (by rfl) (by kernel_rfl)
attribute [go_sem ↓] enE_103 enE_104 enE_105
def allR (f:Nat→Int) (n:Nat):Int:=firstI ((List.range n).map f)
theorem allR_step {f:Nat→Int} {n k:Nat} (h:k < n):firstI (((List.range n).map f).drop k)=if f k=0 then firstI (((List.range n).map f).drop (k+1)) else f k:=firstI_drop (errs_at h)
theorem allR_end (f:Nat→Int) (n:Nat):firstI (((List.range n).map f).drop n)=0:=by
 rw [List.drop_eq_nil_of_le (by simp)];rfl
def netR (n:Net):Int :=
 if (8:Int) < n.lines.length then 5 else
 if allR (lineR n) n.lines.length=0 then
  if (8:Int) < n.sws.length then 5 else
  if allR (switchR n) n.sws.length=0 then
   if (16:Int) < n.sts.length then 5 else allR (structR n) n.sts.length
  else allR (switchR n) n.sws.length
 else allR (lineR n) n.lines.length
theorem c22 (n : Net) (hn : n.fits) (h1 : n.sws.length ≤ maxRows) (h2 : n.sts.length ≤ maxRows) : ∀ lo H, CallOk NC lo 16 [.agg n.cells] H (i64 (netR n)) H := by
 refine contract saneNC primsE (fn := Try.f16) (by kernel_rfl) Try.func16 rfl rfl (by rfl) (by rfl) ?_
 have e103 : ∀ k, k < n.lines.length → p103 [.agg [.ps .unk (n.lines.map Ln.row), .ps .unk (n.sws.map Sw.row), .ps .unk (n.sts.map Stc.row)], .int .i64 (k : Nat)] = some (.int .i64 (lineR n k)) := fun k hk => pe103 (n, k) ⟨hn, hk⟩
 have e104 : ∀ k, k < n.sws.length → p104 [.agg [.ps .unk (n.lines.map Ln.row), .ps .unk (n.sws.map Sw.row), .ps .unk (n.sts.map Stc.row)], .int .i64 (k : Nat)] = some (.int .i64 (switchR n k)) := fun k hk => pe104 (n, k) ⟨hn, hk, h1⟩
 have e105 : ∀ k, k < n.sts.length → p105 [.agg [.ps .unk (n.lines.map Ln.row), .ps .unk (n.sws.map Sw.row), .ps .unk (n.sts.map Stc.row)], .int .i64 (k : Nat)] = some (.int .i64 (structR n k)) := fun k hk => pe105 (n, k) ⟨hn, hk, h2⟩
 rcases Classical.propComplete ((8 : Int) < n.lines.length) with q1 | q1
 · simp only [go_sem, reduceIte, reduceEqDiff, reduceAdd, reduceMul, reduceSub, reduceLeDiff, reduceLT, Nat.reduceBEq, reduceCtorEq, Net.cells, List.length_map, q1]
   simp [netR, q1]
 simp only [go_sem, reduceIte, reduceEqDiff, reduceAdd, reduceMul, reduceSub, reduceLeDiff, reduceLT, Nat.reduceBEq, reduceCtorEq, Net.cells, List.length_map, q1]
 refine W_for (fun k T H M => M = [] ∧ getT T 1 = .ptr 0 0 ∧ H.get 0 = .cells n.cells 26 ∧ getT T 3 = i64 k ∧ allR (lineR n) n.lines.length = firstI (((List.range n.lines.length).map (lineR n)).drop k)) n.lines.length ?_ ?_ ?_
 · simp only [go_sem, reduceIte, reduceEqDiff, reduceAdd, reduceMul, reduceSub, reduceLeDiff, reduceLT, Nat.reduceBEq, reduceCtorEq]; exact ⟨rfl, rfl⟩
 · rintro k T H M hk ⟨rfl, g1, gH, g3, hf⟩
   have hw := wrap_succ hk hn.1
   have hfd := allR_step (f := lineR n) hk
   rcases Classical.propComplete (lineR n k = 0) with z | z
   · simp only [go_sem, reduceIte, reduceEqDiff, reduceAdd, reduceMul, reduceSub, reduceLeDiff, reduceLT, Nat.reduceBEq, reduceCtorEq, g1, gH, g3, Net.cells, List.length_map, hk, e103 k hk, hw, z]
     simp [hf, hfd, z]
   · simp only [go_sem, reduceIte, reduceEqDiff, reduceAdd, reduceMul, reduceSub, reduceLeDiff, reduceLT, Nat.reduceBEq, reduceCtorEq, g1, gH, g3, Net.cells, List.length_map, hk, e103 k hk, hw, z]
     simp [netR, q1, hf, hfd, z]
 rintro T H M ⟨rfl, g1, gH, g3, hf⟩
 rw [allR_end] at hf
 rcases Classical.propComplete ((8 : Int) < n.sws.length) with q2 | q2
 · simp only [go_sem, reduceIte, reduceEqDiff, reduceAdd, reduceMul, reduceSub, reduceLeDiff, reduceLT, Nat.reduceBEq, reduceCtorEq, g1, gH, g3, Net.cells, List.length_map, Nat.lt_irrefl, q2]
   simp [netR, q1, hf, q2]
 simp only [go_sem, reduceIte, reduceEqDiff, reduceAdd, reduceMul, reduceSub, reduceLeDiff, reduceLT, Nat.reduceBEq, reduceCtorEq, g1, gH, g3, Net.cells, List.length_map, Nat.lt_irrefl, q2]
 refine W_for (fun k T H M => M = [] ∧ getT T 1 = .ptr 0 0 ∧ H.get 0 = .cells n.cells 26 ∧ getT T 5 = i64 k ∧ allR (switchR n) n.sws.length = firstI (((List.range n.sws.length).map (switchR n)).drop k)) n.sws.length ?_ ?_ ?_
 · simp only [go_sem, reduceIte, reduceEqDiff, reduceAdd, reduceMul, reduceSub, reduceLeDiff, reduceLT, Nat.reduceBEq, reduceCtorEq, g1, gH, Net.cells]; rfl
 · rintro k T H M hk ⟨rfl, g1, gH, g3, hf2⟩
   have hw := wrap_succ hk h1
   have hfd := allR_step (f := switchR n) hk
   rcases Classical.propComplete (switchR n k = 0) with z | z
   · simp only [go_sem, reduceIte, reduceEqDiff, reduceAdd, reduceMul, reduceSub, reduceLeDiff, reduceLT, Nat.reduceBEq, reduceCtorEq, g1, gH, g3, Net.cells, List.length_map, hk, e104 k hk, hw, z]
     simp [hf2, hfd, z]
   · simp only [go_sem, reduceIte, reduceEqDiff, reduceAdd, reduceMul, reduceSub, reduceLeDiff, reduceLT, Nat.reduceBEq, reduceCtorEq, g1, gH, g3, Net.cells, List.length_map, hk, e104 k hk, hw, z]
     simp [netR, q1, hf, q2, hf2, hfd, z]
 rintro T H M ⟨rfl, g1, gH, g3, hf2⟩
 rw [allR_end] at hf2
 rcases Classical.propComplete ((16 : Int) < n.sts.length) with q3 | q3
 · simp only [go_sem, reduceIte, reduceEqDiff, reduceAdd, reduceMul, reduceSub, reduceLeDiff, reduceLT, Nat.reduceBEq, reduceCtorEq, g1, gH, g3, Net.cells, List.length_map, Nat.lt_irrefl, q3]
   simp [netR, q1, hf, q2, hf2, q3]
 simp only [go_sem, reduceIte, reduceEqDiff, reduceAdd, reduceMul, reduceSub, reduceLeDiff, reduceLT, Nat.reduceBEq, reduceCtorEq, g1, gH, g3, Net.cells, List.length_map, Nat.lt_irrefl, q3]
 refine W_for (fun k T H M => M = [] ∧ getT T 1 = .ptr 0 0 ∧ H.get 0 = .cells n.cells 26 ∧ getT T 7 = i64 k ∧ allR (structR n) n.sts.length = firstI (((List.range n.sts.length).map (structR n)).drop k)) n.sts.length ?_ ?_ ?_
 · simp only [go_sem, reduceIte, reduceEqDiff, reduceAdd, reduceMul, reduceSub, reduceLeDiff, reduceLT, Nat.reduceBEq, reduceCtorEq, g1, gH, Net.cells]; rfl
 · rintro k T H M hk ⟨rfl, g1, gH, g3, hf3⟩
   have hw := wrap_succ hk h2
   have hfd := allR_step (f := structR n) hk
   rcases Classical.propComplete (structR n k = 0) with z | z
   · simp only [go_sem, reduceIte, reduceEqDiff, reduceAdd, reduceMul, reduceSub, reduceLeDiff, reduceLT, Nat.reduceBEq, reduceCtorEq, g1, gH, g3, Net.cells, List.length_map, hk, e105 k hk, hw, z]
     simp [hf3, hfd, z]
   · simp only [go_sem, reduceIte, reduceEqDiff, reduceAdd, reduceMul, reduceSub, reduceLeDiff, reduceLT, Nat.reduceBEq, reduceCtorEq, g1, gH, g3, Net.cells, List.length_map, hk, e105 k hk, hw, z]
     simp [netR, q1, hf, q2, hf2, q3, hf3, hfd, z]
 rintro T H M ⟨rfl, g1, gH, g3, hf3⟩
 rw [allR_end] at hf3
 simp only [go_sem, reduceIte, reduceEqDiff, reduceAdd, reduceMul, reduceSub, reduceLeDiff, reduceLT, Nat.reduceBEq, reduceCtorEq, g1, gH, g3, Net.cells, List.length_map, Nat.lt_irrefl]
 simp [netR, q1, hf, q2, hf2, q3, hf3]
def begI (l:Ln) (k:Nat):Int:=sumW (l.ps.take k) 0
theorem sumW_append (a b:List Pc) (s:Int):sumW (a++b) s=sumW b (sumW a s):=by
 induction a generalizing s with
 | nil=>rfl
 | cons x r ih=>simp only [List.cons_append,sumW,ih]
theorem begI_succ {l:Ln} {k:Nat} {p:Pc} (h:l.ps[k]? = some p):begI l (k+1)=wrapq .i64 (Int.add (begI l k) p.len):=by
 unfold begI
 have:l.ps.take (k+1)=l.ps.take k++[p]:=by rw [List.take_add_one,h];rfl
 rw [this,sumW_append];rfl
theorem begI_all (l:Ln):begI l l.ps.length=sumW l.ps 0:=by unfold begI;rw [List.take_length]
variable {P:FuncId→Option (List AV→Option AV)}
theorem pieces_run {lo y c base:Nat} {l:Ln} {H:Heap} (hl:l.ps.length≤maxRows) (hlo:lo≤base) (J:Nat→Heap→Prop) (E:Heap→Prop)
 (hJ0:J 0 H) (hb0:base≤H.n) (hJc:∀ k H,J k H→H.get c=.cells l.row 87)
 (hJp:∀ k H b,J k H→base≤H.n→J k (H.push b)) (hJs:∀ k H b j,J k H→base≤j→J k (H.set j b))
 (hy:∀ k p H,l.ps[k]? = some p→J k H→base≤H.n → ∃ v H',R (NC.withPrims P) (.yield lo y [i64 (begI l k),.agg p.row] H)=some (.ofVal (.bool v) H')∧(if v then J (k+1) H' else E H')∧H.n≤H'.n ∧ ∀ j,base≤j→j < H.n→H'.get j=H.get j) :
 ∃ v H',R (NC.withPrims P) (.call lo 91 [.yld y,.ptr c 0] H)=some (.ofVal v H')∧(J l.ps.length H'∨E H'):=by
 refine R_of_body (C:=NC.withPrims P) (fn:=Try.f91) (Q:=fun _ H'=>J l.ps.length H'∨E H') (by kernel_rfl) Try.func91 rfl rfl ?_
 have hc0:=hJc 0 H hJ0
 simp only [Ln.row] at hc0
 simp only [go_sem,reduceIte,reduceEqDiff,reduceAdd,reduceMul,reduceSub,reduceLeDiff,reduceLT,Nat.reduceBEq,reduceCtorEq,hc0]
 refine W_for (fun k T' H' M'=>M'=[]∧getT T' 0=.yld y∧getT T' 7=.ps .unk (l.ps.map Pc.row)∧getT T' 8=i64 (l.ps.length:Nat)∧getT T' 9=i64 k∧getT T' 3=i64 (begI l k)∧J k H'∧base≤H'.n) l.ps.length ?_ ?_ ?_
 · simp only [go_sem,reduceIte,reduceEqDiff,reduceAdd,reduceMul,reduceSub,reduceLeDiff,reduceLT,Nat.reduceBEq,reduceCtorEq,List.length_map];exact ⟨rfl,hJ0,hb0⟩
 · rintro k T' H' M' hk ⟨rfl,g0,g7,g8,g9,g3,hJ,hb⟩
   obtain ⟨p,hp⟩:∃ p,l.ps[k]? = some p:=⟨l.ps[k],by simp⟩
   have hpr:=map_at (f:=Pc.row) hp
   have hw:=wrap_succ hk hl
   have hbs:=begI_succ hp
   have hlo':lo≤H'.n:=Nat.le_trans hlo hb
   obtain ⟨v,H2,hr,h1,h2,h3⟩:=hy k p ((H'.push (.cells [i64 0,i64 0,.bool false] 88)).set H'.n (.cells p.row 88)) hp (hJs _ _ _ _ (hJp _ _ _ hJ hb) hb) (by simp only [Heap.n_set,Heap.n_push];omega)
   have h4:=h3 H'.n hb (by simp)
   rw [Heap.get_set,if_pos rfl] at h4
   obtain ⟨pl,pq,pb⟩:=p
   simp only [Pc.row] at hpr h4 hr
   cases v with
   | true =>
     simp only [go_sem,reduceIte,reduceEqDiff,reduceAdd,reduceMul,reduceSub,reduceLeDiff,reduceLT,Nat.reduceBEq,reduceCtorEq,g0,g7,g8,g9,g3,List.length_map,hk,hpr,hw,hlo',op_callY (l:=y),hr,ofVal_v,ofVal_H,h4]
     simp only [Heap.n_set,Heap.n_push] at h2
     exact ⟨by rw [hbs],h1,by omega⟩
   | false =>
     simp only [go_sem,reduceIte,reduceEqDiff,reduceAdd,reduceMul,reduceSub,reduceLeDiff,reduceLT,Nat.reduceBEq,reduceCtorEq,g0,g7,g8,g9,g3,List.length_map,hk,hpr,hw,hlo',op_callY (l:=y),hr,ofVal_v,ofVal_H,h4]
     exact .inr h1
 · rintro T' H' M' ⟨rfl,g0,g7,g8,g9,g3,hJ,hb⟩
   simp only [go_sem,reduceIte,reduceEqDiff,reduceAdd,reduceMul,reduceSub,reduceLeDiff,reduceLT,Nat.reduceBEq,reduceCtorEq,g0,g7,g8,g9,g3,List.length_map,Nat.lt_irrefl]
   exact .inl hJ
theorem W_piecesG {lo:Nat} {fid:FuncId} {g:Operand} {params:Array Tmp} {pa pb:Tmp} (hpar:params.toList=[pa,pb]) {assign body:Code} {T:TT AV} {H:Heap} {M:List Nat} {Q:AExit→TT AV→Heap→List Nat→Prop}
 {l:Ln} {c:Nat} (hl:l.ps.length≤maxRows) (hlo:lo≤H.n) (hg:evalO (NC.withPrims P) T g=some (.fn 91 [] [.ptr c 0])) (hc:c < H.n)
 (G:Nat→Prop) (hG:G 0) (B:Nat→Nat→ABlk) (E:AExit→Heap→Prop) (hB0:∀ i,i < H.n→H.get i=B 0 i) (hBc:∀ k,B k c=.cells l.row 87)
 (round:∀ k p Hk m,l.ps[k]? = some p→Hk.n=m+(H.n+2)→(∀ i,i < H.n→Hk.get i=B k i)→G k →
   W (NC.withPrims P) lo fid true assign (setT (setT T pa (i64 (begI l k))) pb (.agg p.row)) Hk [] fun e T1 H1 M1=>e=.nrm∧(∀ j,H.n≤j→j < Hk.n→H1.get j=Hk.get j) ∧
     ∀ r,W (NC.withPrims P) lo fid true body T1 (H1.set (H.n+1) r) M1 fun e T3 H3 _=>H3.get (H.n+1)=r∧Hk.n≤H3.n∧(∀ j,H.n≤j→j < Hk.n→j ≠ H.n+1→H3.get j=Hk.get j) ∧
       next e ((∀ i,i < H.n→H3.get i=B (k+1) i)∧G (k+1)) (E e H3))
 (fin:∀ H4,(∀ i,i < H.n→H4.get i=B l.ps.length i)→G l.ps.length→H4.get H.n=.defr→Q .nrm T H4 (H.n::M))
 (stop:∀ e H3 H4,e ≠ .nrm→E e H3→(∀ i,i ≠ H.n+1→H4.get i=H3.get i)→H3.get H.n=.defr→Q e T H4 (H.n::M)) :
 W (NC.withPrims P) lo fid false (.rangeFunc g params assign body) T H M Q:=by
 refine W_rangeFunc hg ?_
 let r0:ALoop:=⟨fid,T,params.toList,assign,body,.ready,none,H.n⟩
 let J:Nat→Heap→Prop:=fun k H'=>((∀ i,i < H.n→H'.get i=B k i)∧G k)∧H'.get H.n=.defr∧H'.get (H.n+1)=.loop r0∧H.n+2≤H'.n
 let EE:Heap→Prop:=fun H'=>∃ e H3,e ≠ .nrm∧E e H3∧H3.get H.n=.defr∧H'=H3.set (H.n+1) (.loop { r0 with state:=.done,pending:=some e })
 have hrun:∃ v H',R (NC.withPrims P) (.call lo 91 [.yld (H.n+1),.ptr c 0] ((H.push .defr).push (.loop r0)))=some (.ofVal v H')∧(J l.ps.length H'∨EE H'):=by
  refine pieces_run (P:=P) (lo:=lo) (y:=H.n+1) (c:=c) (base:=H.n+2) (l:=l) (H:=(H.push .defr).push (.loop r0)) hl (by omega) J EE ?_ ?_ ?_ ?_ ?_ ?_
  · refine ⟨⟨fun i hi => ?_,hG⟩, ?_, ?_,by simp⟩
    · rw [Heap.get_push,if_neg (by simp;omega),Heap.get_push,if_neg (by omega)];exact hB0 i hi
    · rw [Heap.get_push,if_neg (by simp),Heap.get_push,if_pos rfl]
    · rw [Heap.get_push,if_pos (by simp)]
  · simp
  · rintro k H' ⟨⟨h1,_⟩,_⟩
    rw [h1 c hc];exact hBc k
  · rintro k H' b ⟨⟨h1,hg1⟩,h2,h3,h4⟩ _
    exact ⟨⟨fun i hi=>by rw [Heap.get_push,if_neg (by omega)];exact h1 i hi,hg1⟩,by rw [Heap.get_push,if_neg (by omega)];exact h2,by rw [Heap.get_push,if_neg (by omega)];exact h3,by simp;omega⟩
  · rintro k H' b j ⟨⟨h1,hg1⟩,h2,h3,h4⟩ hj
    exact ⟨⟨fun i hi=>by rw [Heap.get_set,if_neg (by omega)];exact h1 i hi,hg1⟩,by rw [Heap.get_set,if_neg (by omega)];exact h2,by rw [Heap.get_set,if_neg (by omega)];exact h3,by simp;omega⟩
  · rintro k p Hk hp ⟨⟨h1,hg1⟩,h2,h3,h4⟩ _
    have hrd:=round k p Hk (Hk.n - (H.n+2)) hp (by omega) h1 hg1
    have hW:W (NC.withPrims P) lo fid true assign (setParams params.toList [i64 (begI l k),.agg p.row] T) Hk [] fun e T1 H1 M1=>e=.nrm∧H1.get (H.n+1)=.loop r0 ∧
     W (NC.withPrims P) lo fid true body T1 (H1.set (H.n+1) (.loop { r0 with state:=.busy })) M1 fun e T2 H2 M2=>H2.get (H.n+1)=.loop { r0 with state:=.busy } ∧
       next e (((if true then J (k+1) (H2.set (H.n+1) (.loop { r0 with state:=.ready,pending:=none })) else EE (H2.set (H.n+1) (.loop { r0 with state:=.ready,pending:=none })))∧Hk.n≤(H2.set (H.n+1) (.loop { r0 with state:=.ready,pending:=none })).n ∧ ∀ j,H.n+2≤j→j < Hk.n→(H2.set (H.n+1) (.loop { r0 with state:=.ready,pending:=none })).get j=Hk.get j))
        (((if false=true then J (k+1) (H2.set (H.n+1) (.loop { r0 with state:=.done,pending:=some e })) else EE (H2.set (H.n+1) (.loop { r0 with state:=.done,pending:=some e })))∧Hk.n≤(H2.set (H.n+1) (.loop { r0 with state:=.done,pending:=some e })).n ∧ ∀ j,H.n+2≤j→j < Hk.n→(H2.set (H.n+1) (.loop { r0 with state:=.done,pending:=some e })).get j=Hk.get j)):=by
     rw [hpar]
     refine W_mono hrd fun e T1 H1 M1 ⟨he,hk1,hb⟩=>⟨he, ?_,W_mono (hb _) fun e T3 H3 M3 ⟨q1,q2,q3,q4⟩=>⟨q1, ?_⟩⟩
     · rw [hk1 _ (by omega) (by omega)];exact h3
     · have hd:H3.get H.n=.defr:=by rw [q3 _ (Nat.le_refl _) (by omega) (by omega)];exact h2
       have keep:∀ b j,H.n+2≤j→j < Hk.n→(H3.set (H.n+1) b).get j=Hk.get j:=fun b j hj hj2=>by
        rw [Heap.get_set,if_neg (by omega)];exact q3 j (by omega) hj2 (by omega)
       cases e with
       | nrm =>
         refine ⟨⟨⟨fun i hi => ?_,q4.2⟩, ?_, ?_,by simp;omega⟩,by simpa using q2,keep _⟩
         · rw [Heap.get_set,if_neg (by omega)];exact q4.1 i hi
         · rw [Heap.get_set,if_neg (by omega)];exact hd
         · rw [Heap.get_set,if_pos rfl]
       | ext i=>exact ⟨⟨_,_,by simp,q4,hd,rfl⟩,by simpa using q2,keep _⟩
       | gto i=>exact ⟨⟨_,_,by simp,q4,hd,rfl⟩,by simpa using q2,keep _⟩
       | ret=>exact ⟨⟨_,_,by simp,q4,hd,rfl⟩,by simpa using q2,keep _⟩
    obtain ⟨v,H',e1,e2,e3,e4⟩:=R_yield (C:=NC.withPrims P) (r0:=r0) h3 rfl (by show params.toList.length=2;rw [hpar];rfl) (by omega:lo≤H.n+1) (Y:=fun v H'=>(if v then J (k+1) H' else EE H')∧Hk.n≤H'.n ∧ ∀ j,H.n+2≤j→j < Hk.n→H'.get j=Hk.get j) hW
    exact ⟨v,H',e1,e2,e3,e4⟩
 obtain ⟨v,H',hr,hJ⟩:=hrun
 refine ⟨v,H',hr, ?_⟩
 rcases hJ with ⟨⟨h1,hg1⟩,h2,h3,h4⟩ | ⟨e,H3,he,h1,h2,rfl⟩
 · refine ⟨r0,h3,by simp [r0], ?_⟩
   exact fin _ (fun i hi=>by rw [Heap.get_set,if_neg (by omega)];exact h1 i hi) hg1 (by rw [Heap.get_set,if_neg (by omega)];exact h2)
 · refine ⟨_,by rw [Heap.get_set,if_pos rfl],by simp, ?_⟩
   exact stop e H3 _ he h1 (fun i hi=>by rw [Heap.get_set,if_neg hi,Heap.get_set,if_neg hi]) h2
theorem W_pieces {lo:Nat} {fid:FuncId} {g:Operand} {params:Array Tmp} {pa pb:Tmp} (hpar:params.toList=[pa,pb]) {assign body:Code} {T:TT AV} {H:Heap} {M:List Nat} {Q:AExit→TT AV→Heap→List Nat→Prop}
 {l:Ln} {c:Nat} (hl:l.ps.length≤maxRows) (hlo:lo≤H.n) (hg:evalO (NC.withPrims P) T g=some (.fn 91 [] [.ptr c 0])) (hc:c < H.n)
 (B:Nat→Nat→ABlk) (E:AExit→Heap→Prop) (hB0:∀ i,i < H.n→H.get i=B 0 i) (hBc:∀ k,B k c=.cells l.row 87)
 (round:∀ k p Hk m,l.ps[k]? = some p→Hk.n=m+(H.n+2)→(∀ i,i < H.n→Hk.get i=B k i) →
   W (NC.withPrims P) lo fid true assign (setT (setT T pa (i64 (begI l k))) pb (.agg p.row)) Hk [] fun e T1 H1 M1=>e=.nrm∧(∀ j,H.n≤j→j < Hk.n→H1.get j=Hk.get j) ∧
     ∀ r,W (NC.withPrims P) lo fid true body T1 (H1.set (H.n+1) r) M1 fun e T3 H3 _=>H3.get (H.n+1)=r∧Hk.n≤H3.n∧(∀ j,H.n≤j→j < Hk.n→j ≠ H.n+1→H3.get j=Hk.get j) ∧
       next e (∀ i,i < H.n→H3.get i=B (k+1) i) (E e H3))
 (fin:∀ H4,(∀ i,i < H.n→H4.get i=B l.ps.length i)→H4.get H.n=.defr→Q .nrm T H4 (H.n::M))
 (stop:∀ e H3 H4,e ≠ .nrm→E e H3→(∀ i,i ≠ H.n+1→H4.get i=H3.get i)→H3.get H.n=.defr→Q e T H4 (H.n::M)) :
 W (NC.withPrims P) lo fid false (.rangeFunc g params assign body) T H M Q:=by
 refine W_piecesG hpar hl hlo hg hc (fun _=>True) trivial B E hB0 hBc ?_ (fun H4 h _=>fin H4 h) stop
 intro k p Hk m hp hm hB _
 refine W_mono (round k p Hk m hp hm hB) fun e T1 H1 M1 ⟨a,b,c⟩=>⟨a,b,fun r=>W_mono (c r) fun e T3 H3 M3 ⟨x1,x2,x3,x4⟩=>⟨x1,x2,x3, ?_⟩⟩
 cases e with
 | nrm=>exact ⟨x4,trivial⟩
 | _=>exact x4
end Go.Sim

namespace Go.Sim
open Go Go.Proofs
set_option maxRecDepth 100000
set_option maxHeartbeats 2000000
variable {P:FuncId→Option (List AV→Option AV)}
theorem r176 (lo:Nat) (l:Ln) (H:Heap):R (NC.withPrims P) (.call lo 84 [.agg l.row] H)=some (.ofVal (.fn 91 [] [.ptr H.n 0]) (H.push (.cells l.row 87))):=by
 obtain ⟨v,H',h1,h2,h3⟩:=R_of_body (C:=NC.withPrims P) (f:=84) (lo:=lo) (args:=[.agg l.row]) (H:=H) (fn:=Try.f84) (Q:=fun v H'=>v=.fn 91 [] [.ptr H.n 0]∧H'=H.push (.cells l.row 87)) (by kernel_rfl) Try.func84 rfl rfl (by
  obtain ⟨nm,ps⟩:=l
  simp only [go_sem,reduceIte,reduceEqDiff,reduceAdd,reduceMul,reduceSub,reduceLeDiff,reduceLT,Nat.reduceBEq,reduceCtorEq,Ln.row,evalO_nilf])
 rw [h1,h2,h3]
theorem en176 {f:Nat} (hf:f=84) (hP:P 84=none) {lo:Nat} {args:List AV} {H:Heap} {K:AV→Heap→Prop}:VO (aenter (NC.withPrims P) (R (NC.withPrims P)) lo f args H) K=AO (R (NC.withPrims P) (.call H.n 84 args H)) fun o=>K o.val o.s.H:=by
 subst hf
 refine enter_fresh rfl ?_ (by kernel_rfl) (by kernel_rfl) (by kernel_rfl)
 show (match NC.prim 84 with | some p=>some p | none=>P 84)=none
 rw [hP];kernel_rfl
theorem c99 (l:Ln) (hl:l.ps.length≤maxRows):∀ lo H,CallOk NC lo 67 [.agg l.row] H (i64 (sumW l.ps 0)) H:=by
 refine contract saneNC primsE (fn:=Try.f67) (by kernel_rfl) Try.func67 rfl rfl (by rfl) (by rfl) ?_
 have r:=fun lo H=>r176 (P:=PPE) lo l H
 simp only [Ln.row] at r
 simp only [go_sem,reduceIte,reduceEqDiff,reduceAdd,reduceMul,reduceSub,reduceLeDiff,reduceLT,Nat.reduceBEq,reduceCtorEq,Ln.row,en176 rfl (show PPE 84=none from rfl),r,ofVal_v,ofVal_H]
 refine W_pieces (l:=l) (c:=2) rfl hl (Nat.zero_le _) (by simp only [go_sem,reduceIte,reduceEqDiff,reduceAdd,reduceMul,reduceSub,reduceLeDiff,reduceLT,Nat.reduceBEq,reduceCtorEq]) (by simp only [go_sem,reduceIte,reduceEqDiff,reduceAdd,reduceMul,reduceSub,reduceLeDiff,reduceLT,Nat.reduceBEq,reduceCtorEq]) (fun k i=>match i with | 0=>.cells l.row 87 | 1=>.cells [i64 (begI l k)] 3 | 2=>.cells l.row 87 | _=>.dead) (fun _ _=>False) ?_ (fun k=>rfl) ?_ ?_ ?_
 · intro i hi
   simp only [go_sem,reduceIte,reduceEqDiff,reduceAdd,reduceMul,reduceSub,reduceLeDiff,reduceLT,Nat.reduceBEq,reduceCtorEq] at hi
   match i,hi with
   | 0,_=>simp only [go_sem,reduceIte,reduceEqDiff,reduceAdd,reduceMul,reduceSub,reduceLeDiff,reduceLT,Nat.reduceBEq,reduceCtorEq];rfl
   | 1,_=>simp only [go_sem,reduceIte,reduceEqDiff,reduceAdd,reduceMul,reduceSub,reduceLeDiff,reduceLT,Nat.reduceBEq,reduceCtorEq];rfl
   | 2,_=>simp only [go_sem,reduceIte,reduceEqDiff,reduceAdd,reduceMul,reduceSub,reduceLeDiff,reduceLT,Nat.reduceBEq,reduceCtorEq];rfl
   | i+3,hi=>omega
 · intro k p Hk m hp hn hB
   simp only [go_sem,reduceIte,reduceEqDiff,reduceAdd,reduceMul,reduceSub,reduceLeDiff,reduceLT,Nat.reduceBEq,reduceCtorEq] at hn hB
   have h1:=hB 1 (by omega)
   have hbs:=begI_succ hp
   obtain ⟨pl,pq,pb⟩:=p
   simp only at h1
   simp only [go_sem,reduceIte,reduceEqDiff,reduceAdd,reduceMul,reduceSub,reduceLeDiff,reduceLT,Nat.reduceBEq,reduceCtorEq,Pc.row,hn]
   refine ⟨fun j _ hj=>by rw [if_neg (by omega),if_neg (by omega)],fun r => ?_⟩
   simp only [go_sem,reduceIte,reduceEqDiff,reduceAdd,reduceMul,reduceSub,reduceLeDiff,reduceLT,Nat.reduceBEq,reduceCtorEq,hn,h1]
   refine ⟨by omega,fun j h3 hj h4=>by rw [if_neg (by omega),if_neg (by omega),if_neg (by omega),if_neg (by omega)],fun i hi => ?_⟩
   match i,hi with
   | 0,_=>simp [hB 0 (by omega)]
   | 1,_=>simp [hbs]
   | 2,_=>simp [hB 2 (by omega)]
   | i+3,hi=>omega
 · intro H4 hB hd
   simp only [go_sem,reduceIte,reduceEqDiff,reduceAdd,reduceMul,reduceSub,reduceLeDiff,reduceLT,Nat.reduceBEq,reduceCtorEq] at hB hd
   have h1:=hB 1 (by omega)
   simp only [go_sem,reduceIte,reduceEqDiff,reduceAdd,reduceMul,reduceSub,reduceLeDiff,reduceLT,Nat.reduceBEq,reduceCtorEq,h1,hd,shutMarks_cons,begI_all]
 · intro e H3 H4 _ h
   exact h.elim
end Go.Sim

namespace Go.Sim
open Go Go.Proofs
set_option maxRecDepth 100000
set_option maxHeartbeats 2000000
noncomputable def p99:List AV→Option AV:=primOf (α:=Ln) (fun x=>[.agg x.row]) (fun x=>x.ps.length≤maxRows) (fun x=>i64 (sumW x.ps 0))
theorem pok99:∀ args v,p99 args=some v → ∀ lo H,CallOk NC lo 67 args H v H:=by
 intro args v h
 obtain ⟨x,rfl,hp,rfl⟩:=primOf_inv h
 clear h
 revert x
 intro x hx;exact c99 x hx
theorem pe99 (x:Ln) (hp:(fun x=>x.ps.length≤maxRows) x):p99 ((fun x=>[.agg x.row]) x)=some ((fun x=>i64 (sumW x.ps 0)) x):=primOf_enc (by intro x y h;exact row1_inj x y h) x hp
noncomputable def p226:List AV→Option AV:=primOf (α:=Pc) (fun x=>[.agg x.row]) (fun _=>True) (fun x=>i64 (lastI x))
theorem pok226:∀ args v,p226 args=some v → ∀ lo H,CallOk NC lo 88 args H v H:=by
 intro args v h
 obtain ⟨x,rfl,hp,rfl⟩:=primOf_inv h
 clear h
 revert x
 intro x;exact c226 x
theorem pe226 (x:Pc) (hp:(fun _=>True) x):p226 ((fun x=>[.agg x.row]) x)=some ((fun x=>i64 (lastI x)) x):=primOf_enc (by intro x y h;exact pc1_inj x y h) x hp
theorem e226 (l q:Int) (b:Bool):p226 [.agg [.int .i64 l,.int .i64 q,.bool b]]=some (.int .i64 (lastI ⟨l,q,b⟩)):=pe226 ⟨l,q,b⟩ trivial
noncomputable def PPF:FuncId→Option (List AV→Option AV):=addPrim 88 p226 (addPrim 67 p99 (PPE))
theorem primsF:PrimsOk NC PPF:=primsOk_add (primsOk_add (primsE) (by kernel_rfl) (by kernel_rfl) pok99) (by kernel_rfl) (by kernel_rfl) pok226
theorem enF_121:En PPF 57 p121:=enter_prim (by rfl) (by kernel_rfl)
theorem enF_111:En PPF 34 p111:=enter_prim (by rfl) (by kernel_rfl)
theorem enF_115:En PPF 87 p115:=enter_prim (by rfl) (by kernel_rfl)
theorem enF_99:En PPF 67 p99:=enter_prim (by rfl) (by kernel_rfl)
theorem enF_226:En PPF 88 p226:=enter_prim (by rfl) (by kernel_rfl)
attribute [go_sem ↓] enF_121 enF_111
attribute [go_sem ↓] enF_115 enF_99 enF_226
def hasB (l:Ln) (m:Int):Bool:=!decide (m < 0) && decide (m < sumW l.ps 0)
theorem c177 (l:Ln) (m:Int) (hl:l.ps.length≤maxRows):∀ lo H,CallOk NC lo 58 [.agg l.row,i64 m] H (.bool (hasB l m)) H:=by
 refine contract saneNC primsF (fn:=Try.f58) (by kernel_rfl) Try.func58 rfl rfl (by rfl) (by rfl) ?_
 have e99:=pe99 l hl
 simp only [Ln.row] at e99
 rcases Classical.propComplete (m < 0) with h1 | h1<;>rcases Classical.propComplete (m < sumW l.ps 0) with h2 | h2<;>simp only [go_sem,reduceIte,reduceEqDiff,reduceAdd,reduceMul,reduceSub,reduceLeDiff,reduceLT,Nat.reduceBEq,reduceCtorEq,Ln.row,e99,h1,h2]<;>simp [hasB,h1,h2]
def pieceP (p:Pc):Int:=firstI [rangeI p.len 1 100000,rangeI p.post 0 9999999,whenI (decide (lastI p < 0) || decide (9999999 < lastI p)) 4]
theorem c180 (p:Pc):∀ lo H,CallOk NC lo 75 [.agg p.row] H (i64 (pieceP p)) H:=by
 refine contract saneNC primsF (fn:=Try.f75) (by kernel_rfl) Try.func75 rfl rfl (by rfl) (by rfl) ?_
 obtain ⟨l,q,b⟩:=p
 generalize hE:lastI ⟨l,q,b⟩=E
 rcases Classical.propComplete (E < 0) with h1 | h1<;>rcases Classical.propComplete (9999999 < E) with h2 | h2<;>simp only [go_sem,reduceIte,reduceEqDiff,reduceAdd,reduceMul,reduceSub,reduceLeDiff,reduceLT,Nat.reduceBEq,reduceCtorEq,Pc.row,e115,e226,e121,e111_3,hE,h1,h2]<;>simp only [pieceP,hE,h1,h2,decide_true,decide_false,Bool.or_true,Bool.true_or,Bool.or_false]
variable {P:FuncId→Option (List AV→Option AV)}
theorem r175 (lo:Nat) (l:Ln) (s:List Nat) (c:Nat) (H:Heap) (hc:c < H.n) (hs:H.get c=.cells [.str s] 9):R (NC.withPrims P) (.call lo 81 [.agg l.row,.ptr c 0] H)=some (.ofVal (.bool (beqL l.name s)) (H.push (.cells l.row 87))):=by
 have hne:(c=H.n)=False:=by simp;omega
 obtain ⟨v,H',h1,h2,h3⟩:=R_of_body (C:=NC.withPrims P) (f:=81) (lo:=lo) (args:=[.agg l.row,.ptr c 0]) (H:=H) (fn:=Try.f81) (Q:=fun v H'=>v=.bool (beqL l.name s)∧H'=H.push (.cells l.row 87)) (by kernel_rfl) Try.func81 rfl rfl (by
  obtain ⟨nm,ps⟩:=l
  simp only [go_sem,reduceIte,reduceEqDiff,reduceAdd,reduceMul,reduceSub,reduceLeDiff,reduceLT,Nat.reduceBEq,reduceCtorEq,Ln.row,hs,hne])
 rw [h1,h2,h3]
theorem en175 (hP:P 81=none) {lo:Nat} {args:List AV} {H:Heap} {K:AV→Heap→Prop}:VO (aenter (NC.withPrims P) (R (NC.withPrims P)) lo 81 args H) K=AO (R (NC.withPrims P) (.call H.n 81 args H)) fun o=>o.val.strip.pure=true∧K o.val.strip H:=by
 refine enter_pure rfl ?_ (by kernel_rfl) (by kernel_rfl) (by kernel_rfl)
 show (match NC.prim 81 with | some p=>some p | none=>P 81)=none
 rw [hP];kernel_rfl
theorem en174 (hP:P 80=none) {lo:Nat} {args:List AV} {H:Heap} {K:AV→Heap→Prop}:VO (aenter (NC.withPrims P) (R (NC.withPrims P)) lo 80 args H) K=AO (R (NC.withPrims P) (.call H.n 80 args H)) fun o=>o.val.strip.pure=true∧K o.val.strip H:=by
 refine enter_pure rfl ?_ (by kernel_rfl) (by kernel_rfl) (by kernel_rfl)
 show (match NC.prim 80 with | some p=>some p | none=>P 80)=none
 rw [hP];kernel_rfl
theorem r174 (hP:P 81=none) (lo:Nat) (ls:List Ln) (s:List Nat) (c:Nat) (H:Heap) (hl:ls.length≤maxRows) (hc:c < H.n) (hs:H.get c=.cells [.str s] 9) :
 ∃ H',R (NC.withPrims P) (.call lo 80 [.ps .unk (ls.map Ln.row),.fn 81 [] [.ptr c 0]] H)=some (.ofVal (i64 (findI ls s)) H'):=by
 obtain ⟨v,H',h1,h2⟩:=R_of_body (C:=NC.withPrims P) (f:=80) (lo:=lo) (args:=[.ps .unk (ls.map Ln.row),.fn 81 [] [.ptr c 0]]) (H:=H) (fn:=Try.f80) (Q:=fun v H'=>v=i64 (findI ls s)) (by kernel_rfl) Try.func80 rfl rfl (by
  simp only [go_sem,reduceIte,reduceEqDiff,reduceAdd,reduceMul,reduceSub,reduceLeDiff,reduceLT,Nat.reduceBEq,reduceCtorEq]
  refine W_for (fun k T H' M=>M=[]∧getT T 0=.ps .unk (ls.map Ln.row)∧getT T 1=.fn 81 [] [.ptr c 0]∧getT T 7=i64 (ls.length:Nat)∧getT T 8=i64 k∧c < H'.n∧H'.get c=.cells [.str s] 9 ∧ ∀ (j:Nat) (l:Ln),j < k→ls[j]? = some l→beqL l.name s=false) ls.length ?_ ?_ ?_
  · simp only [go_sem,reduceIte,reduceEqDiff,reduceAdd,reduceMul,reduceSub,reduceLeDiff,reduceLT,Nat.reduceBEq,reduceCtorEq,List.length_map];exact ⟨hc,hs,fun j l hj=>by omega⟩
  · rintro k T H' M hk ⟨rfl,g0,g1,g7,g8,gc,gs,hf⟩
    obtain ⟨l,hp⟩:∃ p,ls[k]? = some p:=⟨ls[k],by simp⟩
    have hr:=map_at (f:=Ln.row) hp
    have hw:=wrap_succ hk hl
    have hcall:=fun lo=>r175 (P:=P) lo l s c H' gc gs
    simp only [Ln.row] at hr hcall
    cases hb:beqL l.name s with
    | true =>
      simp only [hb] at hcall
      simp only [go_sem,reduceIte,reduceEqDiff,reduceAdd,reduceMul,reduceSub,reduceLeDiff,reduceLT,Nat.reduceBEq,reduceCtorEq,g0,g1,g7,g8,List.length_map,hk,hr,hw,op_callV (f:=81) (first:=[]) (caps:=[.ptr c 0]),en175 hP,hcall,ofVal_v,ofVal_H]
      simp [findI,findL_drop hf hp hb]
    | false =>
      simp only [hb] at hcall
      simp only [go_sem,reduceIte,reduceEqDiff,reduceAdd,reduceMul,reduceSub,reduceLeDiff,reduceLT,Nat.reduceBEq,reduceCtorEq,g0,g1,g7,g8,List.length_map,hk,hr,hw,op_callV (f:=81) (first:=[]) (caps:=[.ptr c 0]),en175 hP,hcall,ofVal_v,ofVal_H]
      refine ⟨gc,gs,fun j l' hj hl' => ?_⟩
      by_cases e:j=k
      · subst e;rw [hp] at hl';cases hl';exact hb
      · exact hf j l' (by omega) hl'
  · rintro T H' M ⟨rfl,g0,g1,g7,g8,gc,gs,hf⟩
    simp only [go_sem,reduceIte,reduceEqDiff,reduceAdd,reduceMul,reduceSub,reduceLeDiff,reduceLT,Nat.reduceBEq,reduceCtorEq,g0,g1,g7,g8,List.length_map,Nat.lt_irrefl]
    simp [findI,findL_none hf])
 exact ⟨H',by rw [h1,h2]⟩
def lnOf (ls:List Ln) (s:List Nat):Ln:=match findL ls s with
 | some i=>ls.getD i ⟨[],[]⟩
 | none=>⟨[],[]⟩
def lnB (ls:List Ln) (s:List Nat):Bool:=(findL ls s).isSome
theorem c98 (n:Net) (s:List Nat) (hn:n.lines.length≤maxRows):∀ lo H,CallOk NC lo 56 [.agg n.cells,.str s] H (.tup [.agg (lnOf n.lines s).row,.bool (lnB n.lines s)]) H:=by
 refine contract saneNC primsF (fn:=Try.f56) (by kernel_rfl) Try.func56 rfl rfl (by rfl) (by rfl) ?_
 obtain ⟨H',hr⟩:=r174 (P:=PPF) rfl 3 n.lines s 1 (((Heap.empty.push (.cells [.ps .unk (n.lines.map Ln.row),.ps .unk (n.sws.map Sw.row),.ps .unk (n.sts.map Stc.row)] 46)).push (.cells [.str s] 9)).push (.cells [.str [],.ps .nil []] 87)) hn (by simp only [go_sem,reduceIte,reduceEqDiff,reduceAdd,reduceMul,reduceSub,reduceLeDiff,reduceLT,Nat.reduceBEq,reduceCtorEq]) (by simp only [go_sem,reduceIte,reduceEqDiff,reduceAdd,reduceMul,reduceSub,reduceLeDiff,reduceLT,Nat.reduceBEq,reduceCtorEq])
 cases hf:findL n.lines s with
 | none =>
   simp only [findI,hf] at hr
   simp only [go_sem,reduceIte,reduceEqDiff,reduceAdd,reduceMul,reduceSub,reduceLeDiff,reduceLT,Nat.reduceBEq,reduceCtorEq,Net.cells,en174 (show PPF 80=none from rfl),hr,ofVal_v,neg_one]
   simp [lnOf,lnB,hf,Ln.row]
 | some i =>
   obtain ⟨l,hl,hlt,hmem⟩:=findL_at hf
   simp only [findI,hf] at hr
   have hrow:=map_at (f:=Ln.row) hl
   simp only [Ln.row] at hrow
   simp only [go_sem,reduceIte,reduceEqDiff,reduceAdd,reduceMul,reduceSub,reduceLeDiff,reduceLT,Nat.reduceBEq,reduceCtorEq,Net.cells,en174 (show PPF 80=none from rfl),hr,ofVal_v,neg_cast,List.length_map,hlt,hrow]
   simp [lnOf,lnB,hf,Ln.row,hl]
end Go.Sim

namespace Go.Sim
open Go Go.Proofs
set_option maxRecDepth 100000
set_option maxHeartbeats 4000000
noncomputable def p177:List AV→Option AV:=primOf (α:=Ln × Int) (fun x=>[.agg x.1.row,i64 x.2]) (fun x=>x.1.ps.length≤maxRows) (fun x=>.bool (hasB x.1 x.2))
theorem pok177:∀ args v,p177 args=some v → ∀ lo H,CallOk NC lo 58 args H v H:=by
 intro args v h
 obtain ⟨x,rfl,hp,rfl⟩:=primOf_inv h
 clear h
 revert x
 intro x hx;exact c177 x.1 x.2 hx
theorem pe177 (x:Ln × Int) (hp:(fun x=>x.1.ps.length≤maxRows) x):p177 ((fun x=>[.agg x.1.row,i64 x.2]) x)=some ((fun x=>.bool (hasB x.1 x.2)) x):=primOf_enc (by intro x y h;(obtain ⟨a,b⟩:=x;obtain ⟨c,d⟩:=y;simp only [List.cons.injEq,AV.agg.injEq,AV.int.injEq,true_and,and_true] at h;obtain ⟨h1,rfl⟩:=h;rw [Ln.row_inj _ _ h1])) x hp
noncomputable def p180:List AV→Option AV:=primOf (α:=Pc) (fun x=>[.agg x.row]) (fun _=>True) (fun x=>i64 (pieceP x))
theorem pok180:∀ args v,p180 args=some v → ∀ lo H,CallOk NC lo 75 args H v H:=by
 intro args v h
 obtain ⟨x,rfl,hp,rfl⟩:=primOf_inv h
 clear h
 revert x
 intro x;exact c180 x
theorem pe180 (x:Pc) (hp:(fun _=>True) x):p180 ((fun x=>[.agg x.row]) x)=some ((fun x=>i64 (pieceP x)) x):=primOf_enc (by intro x y h;exact pc1_inj x y h) x hp
theorem e180 (l q:Int) (b:Bool):p180 [.agg [.int .i64 l,.int .i64 q,.bool b]]=some (.int .i64 (pieceP ⟨l,q,b⟩)):=pe180 ⟨l,q,b⟩ trivial
noncomputable def p98:List AV→Option AV:=primOf (α:=Net × List Nat) (fun x=>[.agg x.1.cells,.str x.2]) (fun x=>x.1.lines.length≤maxRows) (fun x=>.tup [.agg (lnOf x.1.lines x.2).row,.bool (lnB x.1.lines x.2)])
theorem pok98:∀ args v,p98 args=some v → ∀ lo H,CallOk NC lo 56 args H v H:=by
 intro args v h
 obtain ⟨x,rfl,hp,rfl⟩:=primOf_inv h
 clear h
 revert x
 intro x hx;exact c98 x.1 x.2 hx
theorem pe98 (x:Net × List Nat) (hp:(fun x=>x.1.lines.length≤maxRows) x):p98 ((fun x=>[.agg x.1.cells,.str x.2]) x)=some ((fun x=>.tup [.agg (lnOf x.1.lines x.2).row,.bool (lnB x.1.lines x.2)]) x):=primOf_enc (by intro x y h;(obtain ⟨a,b⟩:=x;obtain ⟨c,d⟩:=y;simp only [List.cons.injEq,AV.agg.injEq,AV.str.injEq,true_and,and_true] at h;obtain ⟨h1,rfl⟩:=h;rw [Net.cells_inj _ _ h1])) x hp
noncomputable def PPG:FuncId→Option (List AV→Option AV):=addPrim 56 p98 (addPrim 75 p180 (addPrim 58 p177 (PPF)))
theorem primsG:PrimsOk NC PPG:=primsOk_add (primsOk_add (primsOk_add (primsF) (by kernel_rfl) (by kernel_rfl) pok177) (by kernel_rfl) (by kernel_rfl) pok180) (by kernel_rfl) (by kernel_rfl) pok98
theorem enG_121:En PPG 57 p121:=enter_prim (by rfl) (by kernel_rfl)
theorem enG_99:En PPG 67 p99:=enter_prim (by rfl) (by kernel_rfl)
theorem enG_177:En PPG 58 p177:=enter_prim (by rfl) (by kernel_rfl)
theorem enG_180:En PPG 75 p180:=enter_prim (by rfl) (by kernel_rfl)
attribute [go_sem ↓] enG_121
attribute [go_sem ↓] enG_99 enG_177
attribute [go_sem ↓] enG_180
def spanB (l:Ln) (fr till:Int):Bool:=!decide (fr < till) || !hasB l fr || decide (sumW l.ps 0 < till)
theorem c183 (l:Ln) (fr till:Int) (hl:l.ps.length≤maxRows):∀ lo H,CallOk NC lo 79 [.agg l.row,.agg [i64 fr,i64 till]] H (i64 (whenI (spanB l fr till) 14)) H:=by
 refine contract saneNC primsG (fn:=Try.f79) (by kernel_rfl) Try.func79 rfl rfl (by rfl) (by rfl) ?_
 have e99:=pe99 l hl
 have e177:=pe177 (l,fr) hl
 simp only [Ln.row,i64] at e99 e177
 cases h1:hasB l fr<;>rcases Classical.propComplete (fr < till) with h2 | h2<;>rcases Classical.propComplete (sumW l.ps 0 < till) with h3 | h3<;>simp only [h1] at e177<;>simp only [go_sem,reduceIte,reduceEqDiff,reduceAdd,reduceMul,reduceSub,reduceLeDiff,reduceLT,Nat.reduceBEq,reduceCtorEq,Ln.row,e99,e177,e121,h1,h2,h3]<;>simp [spanB,h1,h2,h3]
theorem intRows_all (es:List Int):(intRows es).all (fun r=>decide (r.length=1))=true:=by
 rw [List.all_eq_true]
 intro r hr
 obtain ⟨e,_,rfl⟩:=List.mem_map.1 hr
 rfl
theorem c181 (ps:List Pc) (hl:ps.length≤maxRows):∀ lo H,CallOk NC lo 77 [.ps .unk (ps.map Pc.row),.fn 75 [] []] H (.ps .unk (intRows (ps.map pieceP))) H:=by
 refine contract saneNC primsG (fn:=Try.f77) (by kernel_rfl) Try.func77 rfl rfl (by rfl) (by rfl) ?_
 simp only [go_sem,reduceIte,reduceEqDiff,reduceAdd,reduceMul,reduceSub,reduceLeDiff,reduceLT,Nat.reduceBEq,reduceCtorEq]
 refine W_for (fun k T H M=>M=[]∧getT T 8=.ps .unk (ps.map Pc.row)∧getT T 1=.fn 75 [] []∧getT T 9=i64 (ps.length:Nat)∧getT T 10=i64 k∧((k=0∧getT T 5=.ps .nil []) ∨ ∃ j,getT T 5=.ps (.tok j) (intRows ((ps.take k).map pieceP))∧0 < k∧j < H.n∧H.get j=.row [] 1 39)) ps.length ?_ ?_ ?_
 · simp only [go_sem,reduceIte,reduceEqDiff,reduceAdd,reduceMul,reduceSub,reduceLeDiff,reduceLT,Nat.reduceBEq,reduceCtorEq,List.length_map]
 · rintro k T H M hk ⟨rfl,g8,g1,g9,g10,hap⟩
   obtain ⟨p,hp⟩:∃ p,ps[k]? = some p:=⟨ps[k],by simp⟩
   have hpr:=map_at (f:=Pc.row) hp
   have hw:=wrap_succ hk hl
   have htk:ps.take (k+1)=ps.take k++[p]:=by rw [List.take_add_one,hp];rfl
   obtain ⟨pl,pq,pb⟩:=p
   simp only [Pc.row] at hpr
   rcases hap with ⟨hk0,g5⟩ | ⟨j,g5,hk0,hjn,hj⟩
   · have ha:=fun H=>app_first (lo:=0) (H:=H) (sz:=1) (e:=39) (rx:=[[.int .i64 (pieceP ⟨pl,pq,pb⟩)]]) (by simp) (by show 1≤1073741824;decide) rfl (by decide)
     simp only [go_sem,reduceIte,reduceEqDiff,reduceAdd,reduceMul,reduceSub,reduceLeDiff,reduceLT,Nat.reduceBEq,reduceCtorEq,g8,g1,g9,g10,g5,List.length_map,hk,hpr,hw,op_callV (f:=75) (first:=[]) (caps:=[]),e180,appO,isIntT_slice,rowsIn,ha]
     refine .inr ⟨H.n+1, ?_,by omega,by omega,by simp⟩
     rw [htk,hk0];rfl
   · have hj1:((H.push (.cells [.int .i64 0,.int .i64 0,.bool false] 88)).set H.n (.cells [.int .i64 pl,.int .i64 pq,.bool pb] 88)).get j=.row [] 1 39:=by
      rw [Heap.get_set,if_neg (by omega),Heap.get_push,if_neg (by omega)];exact hj
     have ha:=app_next (lo:=0) (rows:=intRows ((ps.take k).map pieceP)) (rx:=[[.int .i64 (pieceP ⟨pl,pq,pb⟩)]]) (e:=39) (sz:=1) (by simp) (by simp [intRows];omega) rfl (by decide) (intRows_all _) hj1 (Nat.zero_le _) (by simp [intRows];refine ⟨by omega, ?_⟩;intro e;rw [e] at hk;simp at hk)
     simp only [go_sem,reduceIte,reduceEqDiff,reduceAdd,reduceMul,reduceSub,reduceLeDiff,reduceLT,Nat.reduceBEq,reduceCtorEq,g8,g1,g9,g10,g5,List.length_map,hk,hpr,hw,op_callV (f:=75) (first:=[]) (caps:=[]),e180,appO,isIntT_slice,rowsIn,ha]
     refine .inr ⟨H.n+1, ?_,by omega,by omega,by simp⟩
     rw [htk]
     simp [intRows]
 · rintro T H M ⟨rfl,g8,g1,g9,g10,hap⟩
   rcases hap with ⟨h0,g5⟩ | ⟨j,g5,hk0,hjn,hj⟩
   · simp only [go_sem,reduceIte,reduceEqDiff,reduceAdd,reduceMul,reduceSub,reduceLeDiff,reduceLT,Nat.reduceBEq,reduceCtorEq,g8,g1,g9,g10,g5,Nat.lt_irrefl]
     rw [List.length_eq_zero_iff.1 h0];rfl
   · simp only [go_sem,reduceIte,reduceEqDiff,reduceAdd,reduceMul,reduceSub,reduceLeDiff,reduceLT,Nat.reduceBEq,reduceCtorEq,g8,g1,g9,g10,g5,Nat.lt_irrefl,List.take_length]
noncomputable def p181:List AV→Option AV:=primOf (α:=List Pc) (fun x=>[.ps .unk (x.map Pc.row),.fn 75 [] []]) (fun x=>x.length≤maxRows) (fun x=>.ps .unk (intRows (x.map pieceP)))
theorem pok181:∀ args v,p181 args=some v → ∀ lo H,CallOk NC lo 77 args H v H:=by
 intro args v h
 obtain ⟨x,rfl,hp,rfl⟩:=primOf_inv h
 clear h
 revert x
 intro x hx;exact c181 x hx
theorem pe181 (x:List Pc) (hp:(fun x=>x.length≤maxRows) x):p181 ((fun x=>[.ps .unk (x.map Pc.row),.fn 75 [] []]) x)=some ((fun x=>.ps .unk (intRows (x.map pieceP))) x):=primOf_enc (by intro x y h;(simp only [List.cons.injEq,AV.ps.injEq,and_true,true_and] at h;exact map_inj Pc.row_inj h)) x hp
noncomputable def p183:List AV→Option AV:=primOf (α:=Ln × Int × Int) (fun x=>[.agg x.1.row,.agg [i64 x.2.1,i64 x.2.2]]) (fun x=>x.1.ps.length≤maxRows) (fun x=>i64 (whenI (spanB x.1 x.2.1 x.2.2) 14))
theorem pok183:∀ args v,p183 args=some v → ∀ lo H,CallOk NC lo 79 args H v H:=by
 intro args v h
 obtain ⟨x,rfl,hp,rfl⟩:=primOf_inv h
 clear h
 revert x
 intro x hx;exact c183 x.1 x.2.1 x.2.2 hx
theorem pe183 (x:Ln × Int × Int) (hp:(fun x=>x.1.ps.length≤maxRows) x):p183 ((fun x=>[.agg x.1.row,.agg [i64 x.2.1,i64 x.2.2]]) x)=some ((fun x=>i64 (whenI (spanB x.1 x.2.1 x.2.2) 14)) x):=primOf_enc (by intro x y h;(obtain ⟨a,b,c⟩:=x;obtain ⟨d,e,f⟩:=y;simp only [List.cons.injEq,AV.agg.injEq,AV.int.injEq,true_and,and_true] at h;obtain ⟨h1,rfl,rfl⟩:=h;rw [Ln.row_inj _ _ h1])) x hp
noncomputable def PPH:FuncId→Option (List AV→Option AV):=addPrim 79 p183 (addPrim 77 p181 (PPG))
theorem primsH:PrimsOk NC PPH:=primsOk_add (primsOk_add (primsG) (by kernel_rfl) (by kernel_rfl) pok181) (by kernel_rfl) (by kernel_rfl) pok183
theorem enH_121:En PPH 57 p121:=enter_prim (by rfl) (by kernel_rfl)
theorem enH_111:En PPH 34 p111:=enter_prim (by rfl) (by kernel_rfl)
theorem enH_182:En PPH 78 p182:=enter_prim (by rfl) (by kernel_rfl)
theorem enH_120:En PPH 76 p120:=enter_prim (by rfl) (by kernel_rfl)
theorem enH_177:En PPH 58 p177:=enter_prim (by rfl) (by kernel_rfl)
theorem enH_98:En PPH 56 p98:=enter_prim (by rfl) (by kernel_rfl)
theorem enH_181:En PPH 77 p181:=enter_prim (by rfl) (by kernel_rfl)
theorem enH_183:En PPH 79 p183:=enter_prim (by rfl) (by kernel_rfl)
attribute [go_sem ↓] enH_121 enH_111 enH_182
attribute [go_sem ↓] enH_120 enH_177
attribute [go_sem ↓] enH_98 enH_181 enH_183
def nameMap (l:List (List Nat)):List (AV × AV):=l.map fun s=>(.str s,.bool true)
theorem aeq9 (a b:List Nat):aeqT NC.P 100 9 (.str a) (.str b)=some (beqL a b):=by
 have h:NC.P.underlying 9=some .string:=un_9
 unfold aeqT
 simp only [h]
theorem keyOk9 (s:List Nat):keyOk NC.P 9 (.str s)=true:=by
 unfold keyOk
 rw [aeq9]
 have:beqL s s=true:=by
  induction s with
  | nil=>rfl
  | cons a r ih=>simp [beqL,ih]
 rw [this]
 have h:eqType NC.P 100 9=true:=by kernel_rfl
 rw [h];rfl
theorem afind9 (s:List Nat):∀ (l:List (List Nat)) (i:Nat),(l.any (beqL s)=true → ∃ j k,afind NC.P 9 (.str s) (nameMap l) i=some (some (j,k,.bool true)))∧(l.any (beqL s)=false→afind NC.P 9 (.str s) (nameMap l) i=some none)
 | [],i=>⟨fun h=>by simp at h,fun _=>rfl⟩
 | a::r,i=>by
   have ih:=afind9 s r (i+1)
   have hu:afind NC.P 9 (.str s) (nameMap (a::r)) i=match aeqT NC.P 100 9 (.str s) (.str a) with
    | some true=>some (some (i,.str a,.bool true))
    | some false=>afind NC.P 9 (.str s) (nameMap r) (i+1)
    | none=>none:=rfl
   rw [hu,aeq9]
   cases hb:beqL s a with
   | true=>exact ⟨fun _=>⟨_,_,rfl⟩,fun h=>by simp [hb] at h⟩
   | false=>simp only [List.any_cons,hb,Bool.false_or];exact ih
theorem look9 {H:Heap} {m:Nat} {l:List (List Nat)} (h:H.get m=.map (nameMap l)) (s:List Nat):alookup NC.P H 154 (.map m) (.str s) false=some (.bool (l.any (beqL s))):=by
 unfold alookup
 have hu:NC.P.underlying 154=some (.map 9 4):=un_154
 have hz:zeroOf NC.P 4=some (.bool false):=ze_4
 simp only [hu,keyOk9,if_true,hz,mapEntries,h]
 obtain ⟨h1,h2⟩:=afind9 s l 0
 cases hb:l.any (beqL s) with
 | true =>
   obtain ⟨j,k,e⟩:=h1 hb
   rw [e];rfl
 | false=>rw [h2 hb];rfl
theorem upd9 {lo:Nat} {H:Heap} {m:Nat} {l:List (List Nat)} (h:H.get m=.map (nameMap l)) (hlo:lo≤m) (s:List Nat) (hs:l.any (beqL s)=false):amapUpdate NC.P lo H 154 (.map m) (.str s) (.bool true)=some (H.set m (.map (nameMap (l++[s])))):=by
 unfold amapUpdate
 have hu:NC.P.underlying 154=some (.map 9 4):=un_154
 obtain ⟨_,h2⟩:=afind9 s l 0
 simp only [hu,keyOk9,hlo,decide_true,Bool.and_self,if_true,h,h2 hs]
 simp [nameMap,AV.strip]
end Go.Sim

namespace Go.Sim
open Go Go.Proofs
set_option maxRecDepth 100000
set_option maxHeartbeats 8000000
theorem first4 (a b c d:Int):firstI [a,b,c,d]=0→a=0∧b=0∧c=0∧d=0:=by
 simp only [firstI];split<;>(try split)<;>(try split)<;>(try split)<;>simp_all
def dupP (l:List (List Nat)) (s:List Nat):Bool:=l.any (beqL s)
def lineP (ls:List Ln) (i:Nat):Int:=match ls[i]? with
 | none=>0
 | some l =>
   let e:=firstI [whenI (!nameB l.name) 8,whenI (dupP ((ls.take i).map Ln.name) l.name) 9,whenI (decide ((l.ps.length:Int)=0)) 12,whenI (decide ((8:Int) < l.ps.length)) 5]
   if e=0 then firstI (l.ps.map pieceP) else e
def linesP (ls:List Ln):Int:=if (8:Int) < ls.length then 5 else allR (lineP ls) ls.length
theorem c110 (ls:List Ln) (hl:ls.length≤maxRows) (hn:∀ l ∈ ls,l.name.length≤maxRows∧l.ps.length≤maxRows):∀ lo H,CallOk NC lo 53 [.ps .unk (ls.map Ln.row)] H (i64 (linesP ls)) H:=by
 refine contract saneNC primsH (fn:=Try.f53) (by kernel_rfl) Try.func53 rfl rfl (by rfl) (by rfl) ?_
 rcases Classical.propComplete ((8:Int) < ls.length) with q1 | q1
 · simp only [go_sem,reduceIte,reduceEqDiff,reduceAdd,reduceMul,reduceSub,reduceLeDiff,reduceLT,Nat.reduceBEq,reduceCtorEq,List.length_map,q1]
   simp [linesP,q1]
 simp only [go_sem,reduceIte,reduceEqDiff,reduceAdd,reduceMul,reduceSub,reduceLeDiff,reduceLT,Nat.reduceBEq,reduceCtorEq,List.length_map,q1]
 refine W_for (fun k T H M=>M=[]∧getT T 13=.ps .unk (ls.map Ln.row)∧getT T 14=i64 (ls.length:Nat)∧getT T 15=i64 k∧getT T 3=.map 0∧getT T 4=.fn 75 [] []∧H.get 0=.map (nameMap ((ls.take k).map Ln.name))∧0 < H.n∧allR (lineP ls) ls.length=firstI (((List.range ls.length).map (lineP ls)).drop k)) ls.length ?_ ?_ ?_
 · simp only [go_sem,reduceIte,reduceEqDiff,reduceAdd,reduceMul,reduceSub,reduceLeDiff,reduceLT,Nat.reduceBEq,reduceCtorEq,List.length_map];exact ⟨rfl,rfl⟩
 · rintro k T H M hk ⟨rfl,g13,g14,g15,g3,g4,gH,hn0,hf⟩
   obtain ⟨l,hp⟩:∃ p,ls[k]? = some p:=⟨ls[k],by simp⟩
   have hmem:=List.mem_of_getElem? hp
   have hr:=map_at (f:=Ln.row) hp
   have hw:=wrap_succ hk hl
   have hfd:=allR_step (f:=lineP ls) hk
   have htk:(ls.take (k+1)).map Ln.name=(ls.take k).map Ln.name++[l.name]:=by rw [List.take_add_one,hp];simp
   simp only [Ln.row] at hr
   have e120':=e120 l.name (hn l hmem).1
   have e181':=pe181 l.ps (hn l hmem).2
   have e111':=pe111 (l.ps.map pieceP) (by simpa using (hn l hmem).2)
   have h0n:(0=H.n)=False:=by simp;omega
   have h0l:(0 < H.n+1)=True:=by simp
   have hHx:((H.push (.cells [.str [],.ps .nil []] 87)).set H.n (.cells [.str l.name,.ps .unk (l.ps.map Pc.row)] 87)).get 0=.map (nameMap ((ls.take k).map Ln.name)):=by
    rw [Heap.get_set,if_neg (by omega),Heap.get_push,if_neg (by omega)];exact gH
   have hlk:=look9 hHx l.name
   generalize hE:firstI [whenI (!nameB l.name) 8,whenI (dupP ((ls.take k).map Ln.name) l.name) 9,whenI (decide ((l.ps.length:Int)=0)) 12,whenI (decide ((8:Int) < l.ps.length)) 5]=E
   have hsp:lineP ls k=if E=0 then firstI (l.ps.map pieceP) else E:=by
    unfold lineP
    simp only [hp,hE]
   unfold dupP at hE
   rcases Classical.propComplete (E=0) with z | z
   · have hdup:((ls.take k).map Ln.name).any (beqL l.name)=false:=by
      have:=(first4 _ _ _ _ (hE.trans (of_eq_true z))).2.1
      cases hd:((ls.take k).map Ln.name).any (beqL l.name) with
      | false=>rfl
      | true=>rw [hd] at this;simp [whenI] at this
     have hup:=upd9 hHx (Nat.zero_le 0) l.name hdup
     rcases Classical.propComplete (firstI (l.ps.map pieceP)=0) with z2 | z2
     · simp only [go_sem,reduceIte,reduceEqDiff,reduceAdd,reduceMul,reduceSub,reduceLeDiff,reduceLT,Nat.reduceBEq,reduceCtorEq,g13,g14,g15,g3,g4,List.length_map,hk,hr,hw,h0l,e120',hlk,e121,e111_4,hE,z,e181',e111',z2,hup]
       rw [htk]
       refine ⟨rfl, ?_⟩
       simp [hf,hfd,hsp,z,z2]
     · simp only [go_sem,reduceIte,reduceEqDiff,reduceAdd,reduceMul,reduceSub,reduceLeDiff,reduceLT,Nat.reduceBEq,reduceCtorEq,g13,g14,g15,g3,g4,List.length_map,hk,hr,hw,h0l,e120',hlk,e121,e111_4,hE,z,e181',e111',z2]
       simp [linesP,q1,hf,hfd,hsp,z,z2]
   · simp only [go_sem,reduceIte,reduceEqDiff,reduceAdd,reduceMul,reduceSub,reduceLeDiff,reduceLT,Nat.reduceBEq,reduceCtorEq,g13,g14,g15,g3,g4,List.length_map,hk,hr,hw,h0l,e120',hlk,e121,e111_4,hE,z]
     simp [linesP,q1,hf,hfd,hsp,z]
 · rintro T H M ⟨rfl,g13,g14,g15,g3,g4,gH,hn0,hf⟩
   rw [allR_end] at hf
   simp only [go_sem,reduceIte,reduceEqDiff,reduceAdd,reduceMul,reduceSub,reduceLeDiff,reduceLT,Nat.reduceBEq,reduceCtorEq,g13,g14,g15,List.length_map,Nat.lt_irrefl]
   simp [linesP,q1,hf]
theorem lnOf_fits {ls:List Ln} {s:List Nat} (h:∀ l ∈ ls,l.ps.length≤maxRows):(lnOf ls s).ps.length≤maxRows:=by
 unfold lnOf
 cases hf:findL ls s with
 | none=>simp
 | some i =>
   obtain ⟨l,hl,_,hm⟩:=findL_at hf
   simp only [List.getD_eq_getElem?_getD,hl,Option.getD_some]
   exact h l hm
theorem first6 (a b c d e f:Int):firstI [a,b,c,d,e,f]=0→b=0:=by
 simp only [firstI];split<;>(try split)<;>simp_all
theorem first5 (a b c d e:Int):firstI [a,b,c,d,e]=0→b=0:=by
 simp only [firstI];split<;>(try split)<;>simp_all
def switchP (n:Net) (i:Nat):Int:=match n.sws[i]? with
 | none=>0
 | some s=>firstI [whenI (!nameB s.name) 8,whenI (dupP ((n.sws.take i).map Sw.name) s.name) 9,whenI (!lnB n.lines s.line) 10,whenI (!hasB (lnOf n.lines s.line) s.metre) 14,whenI (!lnB n.lines s.other) 10,whenI (beqL s.line s.other) 24]
def switchesP (n:Net):Int:=if (8:Int) < n.sws.length then 5 else allR (switchP n) n.sws.length
theorem c112 (n:Net) (hl:n.lines.length≤maxRows) (hps:∀ l ∈ n.lines,l.ps.length≤maxRows) (hs:n.sws.length≤maxRows) (hn:∀ s ∈ n.sws,s.name.length≤maxRows):∀ lo H,CallOk NC lo 54 [.agg n.cells] H (i64 (switchesP n)) H:=by
 refine contract saneNC primsH (fn:=Try.f54) (by kernel_rfl) Try.func54 rfl rfl (by rfl) (by rfl) ?_
 rcases Classical.propComplete ((8:Int) < n.sws.length) with q1 | q1
 · simp only [go_sem,reduceIte,reduceEqDiff,reduceAdd,reduceMul,reduceSub,reduceLeDiff,reduceLT,Nat.reduceBEq,reduceCtorEq,Net.cells,List.length_map,q1]
   simp [switchesP,q1]
 simp only [go_sem,reduceIte,reduceEqDiff,reduceAdd,reduceMul,reduceSub,reduceLeDiff,reduceLT,Nat.reduceBEq,reduceCtorEq,Net.cells,List.length_map,q1]
 refine W_for (fun k T H M=>M=[]∧getT T 1=.ptr 0 0∧H.get 0=.cells n.cells 46∧getT T 17=.ps .unk (n.sws.map Sw.row)∧getT T 18=i64 (n.sws.length:Nat)∧getT T 19=i64 k∧getT T 3=.map 1∧H.get 1=.map (nameMap ((n.sws.take k).map Sw.name))∧1 < H.n∧allR (switchP n) n.sws.length=firstI (((List.range n.sws.length).map (switchP n)).drop k)) n.sws.length ?_ ?_ ?_
 · simp only [go_sem,reduceIte,reduceEqDiff,reduceAdd,reduceMul,reduceSub,reduceLeDiff,reduceLT,Nat.reduceBEq,reduceCtorEq,List.length_map,Net.cells];exact ⟨rfl,rfl⟩
 · rintro k T H M hk ⟨rfl,g1,gH0,g17,g18,g19,g3,gH,hn0,hf⟩
   obtain ⟨s,hp⟩:∃ p,n.sws[k]? = some p:=⟨n.sws[k],by simp⟩
   have hmem:=List.mem_of_getElem? hp
   have hr:=map_at (f:=Sw.row) hp
   have hw:=wrap_succ hk hs
   have hfd:=allR_step (f:=switchP n) hk
   have htk:(n.sws.take (k+1)).map Sw.name=(n.sws.take k).map Sw.name++[s.name]:=by rw [List.take_add_one,hp];simp
   simp only [Sw.row] at hr
   have e120':=e120 s.name (hn s hmem)
   have e98a:=pe98 (n,s.line) hl
   have e98b:=pe98 (n,s.other) hl
   have e177':=pe177 (lnOf n.lines s.line,s.metre) (lnOf_fits hps)
   simp only [Net.cells,Ln.row,i64] at e98a e98b e177'
   have b0:(0=H.n)=False:=by simp;omega
   have b1:(1=H.n)=False:=by simp;omega
   have b00:(0=H.n+1)=False:=by simp
   have b01:(0=H.n+1+1)=False:=by simp
   have b10:(1=H.n+1)=False:=by simp;omega
   have b11:(1=H.n+1+1)=False:=by simp
   have b2:(H.n=H.n+1)=False:=by simp
   have b3:(H.n=H.n+1+1)=False:=by simp;omega
   have b4:(H.n+1=H.n+1+1)=False:=by simp
   have b5:(1 < H.n+1+1+1)=True:=by simp
   generalize hE:firstI [whenI (!nameB s.name) 8,whenI (dupP ((n.sws.take k).map Sw.name) s.name) 9,whenI (!lnB n.lines s.line) 10,whenI (!hasB (lnOf n.lines s.line) s.metre) 14,whenI (!lnB n.lines s.other) 10,whenI (beqL s.line s.other) 24]=E
   have hsp:switchP n k=E:=by
    unfold switchP
    simp only [hp,hE]
   unfold dupP at hE
   have hlk:∀ H2:Heap,H2.get 1=.map (nameMap ((n.sws.take k).map Sw.name))→alookup NC.P H2 154 (.map 1) (.str s.name) false=some (.bool (((n.sws.take k).map Sw.name).any (beqL s.name))):=fun H2 h2=>look9 h2 s.name
   rcases Classical.propComplete (E=0) with z | z
   · have hdup:((n.sws.take k).map Sw.name).any (beqL s.name)=false:=by
      have:=first6 _ _ _ _ _ _ (hE.trans (of_eq_true z))
      cases hd:((n.sws.take k).map Sw.name).any (beqL s.name) with
      | false=>rfl
      | true=>rw [hd] at this;simp [whenI] at this
     have hup:∀ H2:Heap,H2.get 1=.map (nameMap ((n.sws.take k).map Sw.name))→amapUpdate NC.P 0 H2 154 (.map 1) (.str s.name) (.bool true)=some (H2.set 1 (.map (nameMap ((n.sws.take k).map Sw.name++[s.name])))):=fun H2 h2=>upd9 h2 (Nat.zero_le 1) s.name hdup
     simp only [go_sem,reduceIte,reduceEqDiff,reduceAdd,reduceMul,reduceSub,reduceLeDiff,reduceLT,Nat.reduceBEq,reduceCtorEq,g1,gH0,g17,g18,g19,g3,gH,Net.cells,Ln.row,List.length_map,hk,hr,hw,b0,b1,b00,b01,b10,b11,b2,b3,b4,b5,e120',e98a,e98b,e177',hlk,e121,e111_6,hE,z,hup]
     rw [htk]
     refine ⟨rfl, ?_⟩
     simp [hf,hfd,hsp,z]
   · simp only [go_sem,reduceIte,reduceEqDiff,reduceAdd,reduceMul,reduceSub,reduceLeDiff,reduceLT,Nat.reduceBEq,reduceCtorEq,g1,gH0,g17,g18,g19,g3,gH,Net.cells,Ln.row,List.length_map,hk,hr,hw,b0,b1,b00,b01,b10,b11,b2,b3,b4,b5,e120',e98a,e98b,e177',hlk,e121,e111_6,hE,z]
     simp [switchesP,q1,hf,hfd,hsp,z]
 · rintro T H M ⟨rfl,g1,gH0,g17,g18,g19,g3,gH,hn0,hf⟩
   rw [allR_end] at hf
   simp only [go_sem,reduceIte,reduceEqDiff,reduceAdd,reduceMul,reduceSub,reduceLeDiff,reduceLT,Nat.reduceBEq,reduceCtorEq,g17,g18,g19,List.length_map,Nat.lt_irrefl]
   simp [switchesP,q1,hf]
def structP (n:Net) (i:Nat):Int:=match n.sts[i]? with
 | none=>0
 | some s=>firstI [whenI (!nameB s.name) 8,whenI (dupP ((n.sts.take i).map Stc.name) s.name) 9,whenI (!nameB s.kind) 13,whenI (!lnB n.lines s.line) 10,whenI (spanB (lnOf n.lines s.line) s.fr s.till) 14]
def structsP (n:Net):Int:=if (16:Int) < n.sts.length then 5 else allR (structP n) n.sts.length
theorem c113 (n:Net) (hl:n.lines.length≤maxRows) (hps:∀ l ∈ n.lines,l.ps.length≤maxRows) (hs:n.sts.length≤maxRows) (hn:∀ s ∈ n.sts,s.name.length≤maxRows∧s.kind.length≤maxRows):∀ lo H,CallOk NC lo 55 [.agg n.cells] H (i64 (structsP n)) H:=by
 refine contract saneNC primsH (fn:=Try.f55) (by kernel_rfl) Try.func55 rfl rfl (by rfl) (by rfl) ?_
 rcases Classical.propComplete ((16:Int) < n.sts.length) with q1 | q1
 · simp only [go_sem,reduceIte,reduceEqDiff,reduceAdd,reduceMul,reduceSub,reduceLeDiff,reduceLT,Nat.reduceBEq,reduceCtorEq,Net.cells,List.length_map,q1]
   simp [structsP,q1]
 simp only [go_sem,reduceIte,reduceEqDiff,reduceAdd,reduceMul,reduceSub,reduceLeDiff,reduceLT,Nat.reduceBEq,reduceCtorEq,Net.cells,List.length_map,q1]
 refine W_for (fun k T H M=>M=[]∧getT T 1=.ptr 0 0∧H.get 0=.cells n.cells 46∧getT T 15=.ps .unk (n.sts.map Stc.row)∧getT T 16=i64 (n.sts.length:Nat)∧getT T 17=i64 k∧getT T 3=.map 1∧H.get 1=.map (nameMap ((n.sts.take k).map Stc.name))∧1 < H.n∧allR (structP n) n.sts.length=firstI (((List.range n.sts.length).map (structP n)).drop k)) n.sts.length ?_ ?_ ?_
 · simp only [go_sem,reduceIte,reduceEqDiff,reduceAdd,reduceMul,reduceSub,reduceLeDiff,reduceLT,Nat.reduceBEq,reduceCtorEq,List.length_map,Net.cells];exact ⟨rfl,rfl⟩
 · rintro k T H M hk ⟨rfl,g1,gH0,g17,g18,g19,g3,gH,hn0,hf⟩
   obtain ⟨s,hp⟩:∃ p,n.sts[k]? = some p:=⟨n.sts[k],by simp⟩
   have hmem:=List.mem_of_getElem? hp
   have hr:=map_at (f:=Stc.row) hp
   have hw:=wrap_succ hk hs
   have hfd:=allR_step (f:=structP n) hk
   have htk:(n.sts.take (k+1)).map Stc.name=(n.sts.take k).map Stc.name++[s.name]:=by rw [List.take_add_one,hp];simp
   simp only [Stc.row] at hr
   have e120':=e120 s.name (hn s hmem).1
   have e182':=e182 s.kind (hn s hmem).2
   have e98a:=pe98 (n,s.line) hl
   have e183':=pe183 (lnOf n.lines s.line,s.fr,s.till) (lnOf_fits hps)
   simp only [Net.cells,Ln.row,i64] at e98a e183'
   have b0:(0=H.n)=False:=by simp;omega
   have b1:(1=H.n)=False:=by simp;omega
   have b00:(0=H.n+1)=False:=by simp
   have b10:(1=H.n+1)=False:=by simp;omega
   have b2:(H.n=H.n+1)=False:=by simp
   have b5:(1 < H.n+1+1)=True:=by simp
   generalize hE:firstI [whenI (!nameB s.name) 8,whenI (dupP ((n.sts.take k).map Stc.name) s.name) 9,whenI (!nameB s.kind) 13,whenI (!lnB n.lines s.line) 10,whenI (spanB (lnOf n.lines s.line) s.fr s.till) 14]=E
   have hsp:structP n k=E:=by
    unfold structP
    simp only [hp,hE]
   unfold dupP at hE
   have hlk:∀ H2:Heap,H2.get 1=.map (nameMap ((n.sts.take k).map Stc.name))→alookup NC.P H2 154 (.map 1) (.str s.name) false=some (.bool (((n.sts.take k).map Stc.name).any (beqL s.name))):=fun H2 h2=>look9 h2 s.name
   rcases Classical.propComplete (E=0) with z | z
   · have hdup:((n.sts.take k).map Stc.name).any (beqL s.name)=false:=by
      have:=first5 _ _ _ _ _ (hE.trans (of_eq_true z))
      cases hd:((n.sts.take k).map Stc.name).any (beqL s.name) with
      | false=>rfl
      | true=>rw [hd] at this;simp [whenI] at this
     have hup:∀ H2:Heap,H2.get 1=.map (nameMap ((n.sts.take k).map Stc.name))→amapUpdate NC.P 0 H2 154 (.map 1) (.str s.name) (.bool true)=some (H2.set 1 (.map (nameMap ((n.sts.take k).map Stc.name++[s.name])))):=fun H2 h2=>upd9 h2 (Nat.zero_le 1) s.name hdup
     simp only [go_sem,reduceIte,reduceEqDiff,reduceAdd,reduceMul,reduceSub,reduceLeDiff,reduceLT,Nat.reduceBEq,reduceCtorEq,g1,gH0,g17,g18,g19,g3,gH,Net.cells,Ln.row,List.length_map,hk,hr,hw,b0,b1,b00,b10,b2,b5,e120',e182',e98a,e183',hlk,e121,e111_5,hE,z,hup]
     rw [htk]
     refine ⟨rfl, ?_⟩
     simp [hf,hfd,hsp,z]
   · simp only [go_sem,reduceIte,reduceEqDiff,reduceAdd,reduceMul,reduceSub,reduceLeDiff,reduceLT,Nat.reduceBEq,reduceCtorEq,g1,gH0,g17,g18,g19,g3,gH,Net.cells,Ln.row,List.length_map,hk,hr,hw,b0,b1,b00,b10,b2,b5,e120',e182',e98a,e183',hlk,e121,e111_5,hE,z]
     simp [structsP,q1,hf,hfd,hsp,z]
 · rintro T H M ⟨rfl,g1,gH0,g17,g18,g19,g3,gH,hn0,hf⟩
   rw [allR_end] at hf
   simp only [go_sem,reduceIte,reduceEqDiff,reduceAdd,reduceMul,reduceSub,reduceLeDiff,reduceLT,Nat.reduceBEq,reduceCtorEq,g17,g18,g19,List.length_map,Nat.lt_irrefl]
   simp [structsP,q1,hf]
structure Net.Ok (n:Net):Prop where
 lines:n.lines.length≤maxRows
 line:∀ l ∈ n.lines,l.name.length≤maxRows∧l.ps.length≤maxRows
 sws:n.sws.length≤maxRows
 sw:∀ s ∈ n.sws,s.name.length≤maxRows
 sts:n.sts.length≤maxRows
 st:∀ s ∈ n.sts,s.name.length≤maxRows∧s.kind.length≤maxRows
theorem Net.Ok.fits {n:Net} (h:n.Ok):n.fits:=⟨h.lines,fun l hl=>(h.line l hl).2⟩
theorem cells1_inj (x y:Net) (h:[AV.agg x.cells]=[AV.agg y.cells]):x=y:=by
 simp only [List.cons.injEq,AV.agg.injEq,and_true] at h;exact Net.cells_inj _ _ h
noncomputable def p110:List AV→Option AV:=primOf (α:=List Ln) (fun x=>[.ps .unk (x.map Ln.row)]) (fun x=>(x.length≤maxRows ∧ ∀ l ∈ x,l.name.length≤maxRows∧l.ps.length≤maxRows)) (fun x=>i64 (linesP x))
theorem pok110:∀ args v,p110 args=some v → ∀ lo H,CallOk NC lo 53 args H v H:=by
 intro args v h
 obtain ⟨x,rfl,hp,rfl⟩:=primOf_inv h
 clear h
 revert x
 intro x hx;exact c110 x hx.1 hx.2
theorem pe110 (x:List Ln) (hp:(fun x=>(x.length≤maxRows ∧ ∀ l ∈ x,l.name.length≤maxRows∧l.ps.length≤maxRows)) x):p110 ((fun x=>[.ps .unk (x.map Ln.row)]) x)=some ((fun x=>i64 (linesP x)) x):=primOf_enc (by intro x y h;(simp only [List.cons.injEq,AV.ps.injEq,and_true,true_and] at h;exact map_inj Ln.row_inj h)) x hp
noncomputable def p112:List AV→Option AV:=primOf (α:=Net) (fun x=>[.agg x.cells]) (fun x=>x.Ok) (fun x=>i64 (switchesP x))
theorem pok112:∀ args v,p112 args=some v → ∀ lo H,CallOk NC lo 54 args H v H:=by
 intro args v h
 obtain ⟨x,rfl,hp,rfl⟩:=primOf_inv h
 clear h
 revert x
 intro x hx;exact c112 x hx.lines (fun l hl=>(hx.line l hl).2) hx.sws hx.sw
theorem pe112 (x:Net) (hp:(fun x=>x.Ok) x):p112 ((fun x=>[.agg x.cells]) x)=some ((fun x=>i64 (switchesP x)) x):=primOf_enc (by intro x y h;exact cells1_inj x y h) x hp
noncomputable def p113:List AV→Option AV:=primOf (α:=Net) (fun x=>[.agg x.cells]) (fun x=>x.Ok) (fun x=>i64 (structsP x))
theorem pok113:∀ args v,p113 args=some v → ∀ lo H,CallOk NC lo 55 args H v H:=by
 intro args v h
 obtain ⟨x,rfl,hp,rfl⟩:=primOf_inv h
 clear h
 revert x
 intro x hx;exact c113 x hx.lines (fun l hl=>(hx.line l hl).2) hx.sts hx.st
theorem pe113 (x:Net) (hp:(fun x=>x.Ok) x):p113 ((fun x=>[.agg x.cells]) x)=some ((fun x=>i64 (structsP x)) x):=primOf_enc (by intro x y h;exact cells1_inj x y h) x hp
noncomputable def PPI:FuncId→Option (List AV→Option AV):=addPrim 55 p113 (addPrim 54 p112 (addPrim 53 p110 (PPH)))
theorem primsI:PrimsOk NC PPI:=primsOk_add (primsOk_add (primsOk_add (primsH) (by kernel_rfl) (by kernel_rfl) pok110) (by kernel_rfl) (by kernel_rfl) pok112) (by kernel_rfl) (by kernel_rfl) pok113
theorem enI_111:En PPI 34 p111:=enter_prim (by rfl) (by kernel_rfl)
theorem enI_110:En PPI 53 p110:=enter_prim (by rfl) (by kernel_rfl)
theorem enI_112:En PPI 54 p112:=enter_prim (by rfl) (by kernel_rfl)
theorem enI_113:En PPI 55 p113:=enter_prim (by rfl) (by kernel_rfl)
attribute [go_sem ↓] enI_111
attribute [go_sem ↓] enI_110 enI_112 enI_113
def netP (n:Net):Int:=if linesP n.lines=0 then firstI [switchesP n,structsP n] else linesP n.lines
theorem c29 (n:Net) (hn:n.Ok):∀ lo H,CallOk NC lo 33 [.agg n.cells] H (i64 (netP n)) H:=by
 refine contract saneNC primsI (fn:=Try.f33) (by kernel_rfl) Try.func33 rfl rfl (by rfl) (by rfl) ?_
 have e110:=pe110 n.lines ⟨hn.lines,hn.line⟩
 have e112:=pe112 n hn
 have e113:=pe113 n hn
 simp only [Net.cells,i64] at e110 e112 e113
 generalize hE:linesP n.lines=E at e110
 rcases Classical.propComplete (E=0) with z | z
 · simp only [go_sem,reduceIte,reduceEqDiff,reduceAdd,reduceMul,reduceSub,reduceLeDiff,reduceLT,Nat.reduceBEq,reduceCtorEq,Net.cells,e110,e112,e113,e111_2,z]
   simp [netP,hE,z]
 · simp only [go_sem,reduceIte,reduceEqDiff,reduceAdd,reduceMul,reduceSub,reduceLeDiff,reduceLT,Nat.reduceBEq,reduceCtorEq,Net.cells,e110,e112,e113,e111_2,z]
   simp [netP,hE,z]
noncomputable def p29:List AV→Option AV:=primOf (α:=Net) (fun x=>[.agg x.cells]) (fun x=>x.Ok) (fun x=>i64 (netP x))
theorem pok29:∀ args v,p29 args=some v → ∀ lo H,CallOk NC lo 33 args H v H:=by
 intro args v h
 obtain ⟨x,rfl,hp,rfl⟩:=primOf_inv h
 clear h
 revert x
 intro x hx;exact c29 x hx
theorem pe29 (x:Net) (hp:(fun x=>x.Ok) x):p29 ((fun x=>[.agg x.cells]) x)=some ((fun x=>i64 (netP x)) x):=primOf_enc (by intro x y h;exact cells1_inj x y h) x hp
noncomputable def PPJ:FuncId→Option (List AV→Option AV):=addPrim 33 p29 (PPI)
theorem primsJ:PrimsOk NC PPJ:=primsOk_add (primsI) (by kernel_rfl) (by kernel_rfl) pok29
theorem enJ_121:En PPJ 57 p121:=enter_prim (by rfl) (by kernel_rfl)
theorem enJ_111:En PPJ 34 p111:=enter_prim (by rfl) (by kernel_rfl)
theorem enJ_177:En PPJ 58 p177:=enter_prim (by rfl) (by kernel_rfl)
theorem enJ_98:En PPJ 56 p98:=enter_prim (by rfl) (by kernel_rfl)
attribute [go_sem ↓] enJ_121 enJ_111
attribute [go_sem ↓] enJ_177
attribute [go_sem ↓] enJ_98
def placeP (n:Net) (s:List Nat) (m:Int):Int:=firstI [whenI (!lnB n.lines s) 10,whenI (!hasB (lnOf n.lines s) m) 14]
theorem c100 (n:Net) (s:List Nat) (m:Int) (hn:n.Ok):∀ lo H,CallOk NC lo 36 [.agg n.cells,.agg [.str s,i64 m]] H (i64 (placeP n s m)) H:=by
 refine contract saneNC primsJ (fn:=Try.f36) (by kernel_rfl) Try.func36 rfl rfl (by rfl) (by rfl) ?_
 have e98:=pe98 (n,s) hn.lines
 have e177:=pe177 (lnOf n.lines s,m) (lnOf_fits fun l hl=>(hn.line l hl).2)
 simp only [Net.cells,Ln.row,i64] at e98 e177
 simp only [go_sem,reduceIte,reduceEqDiff,reduceAdd,reduceMul,reduceSub,reduceLeDiff,reduceLT,Nat.reduceBEq,reduceCtorEq,Net.cells,Ln.row,e98,e177,e121,e111_2]
 rfl
noncomputable def p100:List AV→Option AV:=primOf (α:=Net × List Nat × Int) (fun x=>[.agg x.1.cells,.agg [.str x.2.1,i64 x.2.2]]) (fun x=>x.1.Ok) (fun x=>i64 (placeP x.1 x.2.1 x.2.2))
theorem pok100:∀ args v,p100 args=some v → ∀ lo H,CallOk NC lo 36 args H v H:=by
 intro args v h
 obtain ⟨x,rfl,hp,rfl⟩:=primOf_inv h
 clear h
 revert x
 intro x hx;exact c100 x.1 x.2.1 x.2.2 hx
theorem pe100 (x:Net × List Nat × Int) (hp:(fun x=>x.1.Ok) x):p100 ((fun x=>[.agg x.1.cells,.agg [.str x.2.1,i64 x.2.2]]) x)=some ((fun x=>i64 (placeP x.1 x.2.1 x.2.2)) x):=primOf_enc (by intro x y h;(obtain ⟨a,b,c⟩:=x;obtain ⟨d,e,f⟩:=y;simp only [List.cons.injEq,AV.agg.injEq,AV.str.injEq,AV.int.injEq,true_and,and_true] at h;obtain ⟨h1,rfl,rfl⟩:=h;rw [Net.cells_inj _ _ h1])) x hp
noncomputable def PPK:FuncId→Option (List AV→Option AV):=addPrim 36 p100 (PPJ)
theorem primsK:PrimsOk NC PPK:=primsOk_add (primsJ) (by kernel_rfl) (by kernel_rfl) pok100
noncomputable def PPL:FuncId→Option (List AV→Option AV):=PPK
theorem primsL:PrimsOk NC PPL:=primsK
noncomputable def PPM:FuncId→Option (List AV→Option AV):=PPL
theorem primsM:PrimsOk NC PPM:=primsL
noncomputable def PPN:FuncId→Option (List AV→Option AV):=PPM
theorem primsN:PrimsOk NC PPN:=primsM
theorem enN_97:En PPN 29 p97:=enter_prim (by rfl) (by kernel_rfl)
attribute [go_sem ↓] enN_97
end Go.Sim

namespace Go.Sim
open Go
theorem whenI_false (e:Int):whenI false e=0:=rfl
theorem firstI_cons (e:Int) (r:List Int):firstI (e::r)=if e=0 then firstI r else e:=rfl
theorem firstI_nil:firstI []=0:=rfl
theorem beqL_iff:∀ (a b:List Nat),beqL a b=true ↔ a=b
 | [],[]=>by simp [beqL]
 | [],_::_=>by simp [beqL]
 | _::_,[]=>by simp [beqL]
 | a::x,b::y=>by
   unfold beqL
   by_cases h:a=b
   · subst h
     have:Nat.beq a a=true:=Nat.beq_refl a
     rw [this]
     simp [beqL_iff x y]
   · have:Nat.beq a b=false:=by
      cases hb:Nat.beq a b with
      | false=>rfl
      | true=>exact absurd (Nat.eq_of_beq_eq_true hb) h
     rw [this]
     simp [h]
theorem rangeI_zero {n a b:Int} (h:rangeI n a b=0):a≤n∧n≤b:=by
 unfold rangeI whenI at h
 by_cases h1:n < a
 · simp [h1] at h
 · by_cases h2:b < n
   · simp [h2] at h
   · omega
theorem wrap_small {x:Int} (h:-1000000000≤x) (h2:x≤1000000000):wrapq .i64 x=x:=wrapq_i64 (by omega) (by omega)
theorem last_post {p:Pc} (h1:1≤p.len∧p.len≤100000) (h2:0≤p.post∧p.post≤9999999):lastI p=postI p (wrapq .i64 (Int.sub p.len 1)):=by
 unfold lastI postI stepI
 have e0:Int.sub p.len 1=p.len - 1:=rfl
 rw [e0,wrap_small (x:=p.len - 1) (by omega) (by omega)]
 cases p.back with
 | true =>
   simp only [if_true]
   have e1:Int.mul (-1) (p.len - 1) = -(p.len - 1):=by show (-1) * (p.len - 1)=_;omega
   rw [e1,wrap_small (x:=-(p.len - 1)) (by omega) (by omega)]
   have e2:Int.add p.post (-(p.len - 1))=p.post - (p.len - 1):=by show p.post + -(p.len - 1)=_;omega
   rw [e2]
 | false =>
   simp only [Bool.false_eq_true,if_false]
   have e1:Int.mul 1 (p.len - 1)=p.len - 1:=by show 1 * (p.len - 1)=_;omega
   rw [e1,wrap_small (x:=p.len - 1) (by omega) (by omega)]
   rfl
theorem piece_same (p:Pc):pieceP p=pieceR p:=by
 unfold pieceP pieceR
 simp only [firstI_cons,firstI_nil]
 by_cases h1:rangeI p.len 1 100000=0
 · by_cases h2:rangeI p.post 0 9999999=0
   · have a:=rangeI_zero h1
     have b:=rangeI_zero h2
     have hl:=last_post a b
     simp only [h1,h2,if_true,hl]
     split
     · rename_i h;rw [h]
     · rfl
   · simp [h1,h2]
 · simp [h1]
theorem dup_iff {ls:List Ln} {i:Nat} {l:Ln} (h:ls[i]? = some l):decide (findI ls l.name < i)=dupP ((ls.take i).map Ln.name) l.name:=by
 unfold dupP
 cases hd:((ls.take i).map Ln.name).any (beqL l.name) with
 | true =>
   rw [List.any_eq_true] at hd
   obtain ⟨x,hx,hb⟩:=hd
   obtain ⟨y,hy,rfl⟩:=List.mem_map.1 hx
   obtain ⟨j,hj⟩:=List.mem_iff_getElem?.1 hy
   rw [List.getElem?_take] at hj
   split at hj
   · rename_i hji
     have he:=(beqL_iff _ _).1 hb
     unfold findI findL
     cases hf:ls.findIdx? (fun l'=>beqL l'.name l.name) with
     | none=>simp only [decide_eq_true_eq];omega
     | some k =>
       simp only [decide_eq_true_eq]
       rw [List.findIdx?_eq_some_iff_getElem] at hf
       obtain ⟨hk,_,hmin⟩:=hf
       have:k≤j:=by
        rcases Nat.lt_or_ge j k with h' | h'
        · have:=hmin j h'
          have hjl:ls[j]? = some y:=hj
          rw [(List.getElem?_eq_some_iff.1 hjl).2] at this
          have h2:beqL y.name l.name=true:=(beqL_iff _ _).2 he.symm
          simp [h2] at this
        · exact h'
       omega
   · cases hj
 | false =>
   rw [List.any_eq_false] at hd
   have hno:∀ j l',j < i→ls[j]? = some l'→beqL l'.name l.name=false:=by
    intro j l' hj hl'
    have hm:l'.name ∈ (ls.take i).map Ln.name:=List.mem_map.2 ⟨l',List.mem_of_getElem? (i:=j) (by rw [List.getElem?_take_of_lt hj];exact hl'),rfl⟩
    have:=hd _ hm
    cases hb:beqL l'.name l.name with
    | false=>rfl
    | true =>
      have he:=(beqL_iff _ _).1 hb
      rw [he] at this
      exact absurd ((beqL_iff _ _).2 rfl) (by simpa using this)
   have:=findL_drop hno h ((beqL_iff _ _).2 rfl)
   unfold findI
   rw [this]
   simp
theorem line_same (n:Net) (i:Nat):lineP n.lines i=lineR n i:=by
 unfold lineP lineR
 cases h:n.lines[i]? with
 | none=>rfl
 | some l =>
   simp only []
   rw [← dup_iff h]
   have:l.ps.map pieceP=l.ps.map pieceR:=List.map_congr_left fun p _=>piece_same p
   rw [this]
theorem allR_congr {f g:Nat→Int} {n:Nat} (h:∀ i,f i=g i):allR f n=allR g n:=by
 have:f=g:=funext h
 rw [this]
theorem dupB_same {α:Type} (nm:α→List Nat) (l:List α) (i:Nat) (s:List Nat):dupP ((l.take i).map nm) s=dupB nm l i s:=by
 unfold dupP dupB
 rw [List.any_map]
 congr 1
 funext x
 simp only [Function.comp]
 rw [Bool.eq_iff_iff,beqL_iff,beqL_iff]
 exact eq_comm
theorem findI_neg (ls:List Ln) (s:List Nat):decide (findI ls s < 0) = !lnB ls s:=by
 unfold findI lnB
 cases findL ls s<;>simp
theorem has_same (ls:List Ln) (s:List Nat) (m:Int) (r:List Int):firstI (whenI (!lnB ls s) 10::whenI (!hasB (lnOf ls s) m) 14::r)=firstI (hasI ls s m::r):=by
 unfold hasI lnB lnOf
 cases hf:findL ls s with
 | none=>simp [firstI,whenI]
 | some i =>
   obtain ⟨l,hl,_⟩:=findL_at hf
   simp only [hl,Option.isSome_some,Bool.not_true,whenI_false,firstI_cons,if_true,List.getD_eq_getElem?_getD,Option.getD_some]
   have:(!hasB l m)=(decide (m < 0) || !decide (m < sumW l.ps 0)):=by
    unfold hasB
    by_cases h1:m < 0<;>by_cases h2:m < sumW l.ps 0<;>simp [h1,h2]
   rw [this]
theorem switch_same (n:Net) (i:Nat):switchP n i=switchR n i:=by
 unfold switchP switchR
 cases h:n.sws[i]? with
 | none=>rfl
 | some s =>
   simp only []
   rw [dupB_same]
   cases hn:nameB s.name with
   | false=>simp [firstI,whenI]
   | true =>
     simp only [Bool.not_true,whenI_false,if_true]
     rw [firstI_cons,if_pos rfl]
     cases hd:dupB Sw.name n.sws i s.name with
     | true=>simp [firstI,whenI]
     | false =>
       simp only [whenI_false,Bool.false_eq_true,if_false]
       rw [firstI_cons,if_pos rfl,has_same,findI_neg]
theorem metres_same (ls:List Ln) (s:List Nat) (fr till:Int):firstI [whenI (!lnB ls s) 10,whenI (spanB (lnOf ls s) fr till) 14]=metresI ls s fr till:=by
 unfold metresI lnB lnOf
 cases hf:findL ls s with
 | none=>simp [firstI,whenI]
 | some i =>
   obtain ⟨l,hl,_⟩:=findL_at hf
   simp only [hl,Option.isSome_some,Bool.not_true,whenI_false,firstI_cons,firstI_nil,if_true,List.getD_eq_getElem?_getD,Option.getD_some]
   have:spanB l fr till=(decide (fr < 0) || !decide (fr < till) || decide (sumW l.ps 0 < till)):=by
    unfold spanB hasB
    by_cases h1:fr < 0
    · simp [h1]
    · by_cases h2:fr < till
      · by_cases h3:sumW l.ps 0 < till
        · simp [h3]
        · have h4:fr < sumW l.ps 0:=by omega
          simp [h1,h2,h3,h4]
      · simp [h2]
   rw [this]
   split
   · rename_i h;exact h.symm
   · rfl
theorem struct_same (n:Net) (i:Nat):structP n i=structR n i:=by
 unfold structP structR
 cases h:n.sts[i]? with
 | none=>rfl
 | some s =>
   simp only []
   rw [dupB_same]
   cases hn:nameB s.name with
   | false=>simp [firstI,whenI]
   | true =>
     simp only [Bool.not_true,whenI_false,if_true]
     rw [firstI_cons,if_pos rfl]
     cases hd:dupB Stc.name n.sts i s.name with
     | true=>simp [firstI,whenI]
     | false =>
       simp only [whenI_false,Bool.false_eq_true,if_false]
       rw [firstI_cons,if_pos rfl]
       cases hk:nameB s.kind with
       | false=>simp [firstI,whenI]
       | true =>
         simp only [Bool.not_true,whenI_false,decide_true]
         show firstI [whenI (!lnB n.lines s.line) 10,whenI (spanB (lnOf n.lines s.line) s.fr s.till) 14]=firstI [metresI n.lines s.line s.fr s.till]
         rw [metres_same]
         simp only [firstI_cons,firstI_nil]
         split
         · rename_i h;exact h
         · rfl
theorem net_same (n:Net):netP n=netR n:=by
 unfold netP netR linesP switchesP structsP
 rw [allR_congr (line_same n),allR_congr (switch_same n),allR_congr (struct_same n)]
 by_cases h1:(8:Int) < n.lines.length
 · simp [h1]
 · simp only [h1,if_false]
   split
   · simp only [firstI_cons,firstI_nil]
     by_cases h2:(8:Int) < n.sws.length
     · simp [h2]
     · simp only [h2,if_false]
       split
       · by_cases h3:(16:Int) < n.sts.length
         · simp [h3]
         · simp only [h3,if_false]
           split
           · rename_i h;exact h.symm
           · rfl
       · rfl
   · rfl
theorem place_same (n:Net) (s:List Nat) (m:Int):placeP n s m=hasI n.lines s m:=by
 unfold placeP
 rw [has_same]
 simp only [firstI_cons,firstI_nil]
 split
 · rename_i h;exact h.symm
 · rfl
theorem firstI_zero:∀ {es:List Int},firstI es=0 → ∀ e ∈ es,e=0
 | [],_,e,he=>by simp at he
 | a::r,h,e,he=>by
   rw [firstI_cons] at h
   by_cases ha:a=0
   · rw [if_pos ha] at h
     rcases List.mem_cons.1 he with rfl | he
     · exact ha
     · exact firstI_zero h e he
   · rw [if_neg ha] at h;exact absurd h ha
theorem allR_zero {f:Nat→Int} {n:Nat} (h:allR f n=0) {i:Nat} (hi:i < n):f i=0 :=
 firstI_zero h _ (List.mem_map.2 ⟨i,by simpa using hi,rfl⟩)
theorem netR_lines {n:Net} (h:netR n=0):allR (lineR n) n.lines.length=0:=by
 unfold netR at h
 by_cases h1:(8:Int) < n.lines.length
 · simp [h1] at h
 · simp only [h1,if_false] at h
   split at h
   · rename_i h2;exact h2
   · exact h
variable {l:Ln}
end Go.Sim

namespace Go.Sim
open Go Go.Proofs
set_option maxRecDepth 100000
set_option maxHeartbeats 4000000
structure Mv where
 line:List Nat
 fr:Int
 len:Int
 other:List Nat
 to:Int
 turned:Bool
def Mv.row (x:Mv):List AV:=[.str x.line,i64 x.fr,i64 x.len,.str x.other,i64 x.to,.bool x.turned]
theorem Mv.row_inj (a b:Mv) (h:a.row=b.row):a=b:=by
 cases a;cases b;simp [Mv.row] at h;obtain ⟨rfl,rfl,rfl,rfl,rfl,rfl⟩:=h;rfl
theorem Net.cells_iff (a b:Net):a.cells=b.cells ↔ a=b:=⟨Net.cells_inj a b,fun h=>by rw [h]⟩
theorem Ln.row_iff (a b:Ln):a.row=b.row ↔ a=b:=⟨Ln.row_inj a b,fun h=>by rw [h]⟩
theorem Pc.row_iff (a b:Pc):a.row=b.row ↔ a=b:=⟨Pc.row_inj a b,fun h=>by rw [h]⟩
theorem Mv.row_iff (a b:Mv):a.row=b.row ↔ a=b:=⟨Mv.row_inj a b,fun h=>by rw [h]⟩
theorem lns_iff (a b:List Ln):a.map Ln.row=b.map Ln.row ↔ a=b:=⟨fun h=>map_inj Ln.row_inj h,fun h=>by rw [h]⟩
theorem pcs_iff (a b:List Pc):a.map Pc.row=b.map Pc.row ↔ a=b:=⟨fun h=>map_inj Pc.row_inj h,fun h=>by rw [h]⟩
theorem mvs_iff (a b:List Mv):a.map Mv.row=b.map Mv.row ↔ a=b:=⟨fun h=>map_inj Mv.row_inj h,fun h=>by rw [h]⟩
end Go.Sim

namespace Go.Sim
open Go Go.Proofs
set_option maxRecDepth 100000
set_option maxHeartbeats 8000000
def shortLn (l:Ln):Bool:=shortB l.name && !decide ((9:Int) < l.ps.length)
def shortSw (s:Sw):Bool:=shortB s.name && shortB s.line && shortB s.other
def shortSt (s:Stc):Bool:=shortB s.name && shortB s.kind && shortB s.line
def shortN (n:Net):Bool:=!(decide ((9:Int) < n.lines.length) || decide ((9:Int) < n.sws.length) || decide ((17:Int) < n.sts.length)) && n.lines.all shortLn && n.sws.all shortSw && n.sts.all shortSt
theorem all_false {α:Type} {f:α→Bool} {l:List α} {k:Nat} {x:α} (h:l[k]? = some x) (hf:f x=false):l.all f=false:=by
 rw [List.all_eq_false];exact ⟨x,List.mem_of_getElem? h,by simp [hf]⟩
theorem all_true {α:Type} {f:α→Bool} {l:List α} (h:∀ (j:Nat) x,j < l.length→l[j]? = some x→f x=true):l.all f=true:=by
 rw [List.all_eq_true]
 intro x hx
 obtain ⟨j,hj⟩:=List.mem_iff_getElem?.1 hx
 exact h j x (List.getElem?_eq_some_iff.1 hj).1 hj
theorem c17 (n:Net):∀ lo H,CallOk NC lo 15 [.agg n.cells] H (.bool (shortN n)) H:=by
 refine contract saneNC primsN (fn:=Try.f15) (by kernel_rfl) Try.func15 rfl rfl (by rfl) (by rfl) ?_
 rcases Classical.propComplete ((9:Int) < n.lines.length) with q1 | q1
 · simp only [go_sem,reduceIte,reduceEqDiff,reduceAdd,reduceMul,reduceSub,reduceLeDiff,reduceLT,Nat.reduceBEq,reduceCtorEq,Net.cells,List.length_map,q1]
   simp [shortN,q1]
 rcases Classical.propComplete ((9:Int) < n.sws.length) with q2 | q2
 · simp only [go_sem,reduceIte,reduceEqDiff,reduceAdd,reduceMul,reduceSub,reduceLeDiff,reduceLT,Nat.reduceBEq,reduceCtorEq,Net.cells,List.length_map,q1,q2]
   simp [shortN,q1,q2]
 rcases Classical.propComplete ((17:Int) < n.sts.length) with q3 | q3
 · simp only [go_sem,reduceIte,reduceEqDiff,reduceAdd,reduceMul,reduceSub,reduceLeDiff,reduceLT,Nat.reduceBEq,reduceCtorEq,Net.cells,List.length_map,q1,q2,q3]
   simp [shortN,q1,q2,q3]
 have z1:n.lines.length≤maxRows:=by have:=of_eq_false q1;unfold maxRows;omega
 have z2:n.sws.length≤maxRows:=by have:=of_eq_false q2;unfold maxRows;omega
 have z3:n.sts.length≤maxRows:=by have:=of_eq_false q3;unfold maxRows;omega
 have hsp:shortN n=(n.lines.all shortLn && n.sws.all shortSw && n.sts.all shortSt):=by simp [shortN,q1,q2,q3]
 rw [hsp]
 simp only [go_sem,reduceIte,reduceEqDiff,reduceAdd,reduceMul,reduceSub,reduceLeDiff,reduceLT,Nat.reduceBEq,reduceCtorEq,Net.cells,List.length_map,q1,q2,q3]
 refine W_for (fun k T H M=>M=[]∧getT T 1=.ptr 0 0∧getT T 3=i64 k∧H.get 0=.cells n.cells 26∧0 < H.n ∧ ∀ (j:Nat) x,j < k→n.lines[j]? = some x→shortLn x=true) n.lines.length ?_ ?_ ?_
 · simp only [go_sem,reduceIte,reduceEqDiff,reduceAdd,reduceMul,reduceSub,reduceLeDiff,reduceLT,Nat.reduceBEq,reduceCtorEq,Net.cells];exact fun j x hj=>by omega
 · rintro k T H M hk ⟨rfl,g1,g3,h0,hn,hall⟩
   obtain ⟨l,hp⟩:∃ p,n.lines[k]? = some p:=⟨n.lines[k],by simp⟩
   have hr:=map_at (f:=Ln.row) hp
   have hw:=wrap_succ hk z1
   simp only [Ln.row] at hr
   cases d1:shortB l.name<;>rcases Classical.propComplete ((9:Int) < l.ps.length) with d2 | d2<;>simp only [go_sem,reduceIte,reduceEqDiff,reduceAdd,reduceMul,reduceSub,reduceLeDiff,reduceLT,Nat.reduceBEq,reduceCtorEq,g1,g3,h0,Net.cells,List.length_map,hk,hr,hw,e97,d1,d2]
   case true.inr =>
    refine ⟨hn,fun j x hj hx => ?_⟩
    by_cases e:j=k
    · subst e;rw [hp] at hx;cases hx;simp [shortLn,d1,d2]
    · exact hall j x (by omega) hx
   all_goals rw [all_false hp (by simp [shortLn,d1,d2])];try rfl
 rintro T H M ⟨rfl,g1,g3,h0,hn,hall⟩
 rw [all_true hall]
 simp only [go_sem,reduceIte,reduceEqDiff,reduceAdd,reduceMul,reduceSub,reduceLeDiff,reduceLT,Nat.reduceBEq,reduceCtorEq,g1,g3,h0,Net.cells,List.length_map,Nat.lt_irrefl]
 refine W_for (fun k T H M=>M=[]∧getT T 1=.ptr 0 0∧getT T 4=i64 k∧H.get 0=.cells n.cells 26∧0 < H.n ∧ ∀ (j:Nat) x,j < k→n.sws[j]? = some x→shortSw x=true) n.sws.length ?_ ?_ ?_
 · simp only [go_sem,reduceIte,reduceEqDiff,reduceAdd,reduceMul,reduceSub,reduceLeDiff,reduceLT,Nat.reduceBEq,reduceCtorEq,g1,h0,Net.cells];exact ⟨hn,fun j x hj=>by omega⟩
 · rintro k T H M hk ⟨rfl,g1,g3,h0,hn,hall⟩
   obtain ⟨l,hp⟩:∃ p,n.sws[k]? = some p:=⟨n.sws[k],by simp⟩
   have hr:=map_at (f:=Sw.row) hp
   have hw:=wrap_succ hk z2
   have b0:(0=H.n)=False:=by simp;omega
   simp only [Sw.row] at hr
   cases d1:shortB l.name<;>cases d2:shortB l.line<;>cases d3:shortB l.other<;>simp only [go_sem,reduceIte,reduceEqDiff,reduceAdd,reduceMul,reduceSub,reduceLeDiff,reduceLT,Nat.reduceBEq,reduceCtorEq,g1,g3,h0,b0,Net.cells,List.length_map,hk,hr,hw,e97,d1,d2,d3]
   case true.true.true =>
    refine ⟨by omega,fun j x hj hx => ?_⟩
    by_cases e:j=k
    · subst e;rw [hp] at hx;cases hx;simp [shortSw,d1,d2,d3]
    · exact hall j x (by omega) hx
   all_goals rw [all_false hp (by simp [shortSw,d1,d2,d3])];try rfl
 rintro T H M ⟨rfl,g1,g3,h0,hn,hall⟩
 rw [all_true hall]
 simp only [go_sem,reduceIte,reduceEqDiff,reduceAdd,reduceMul,reduceSub,reduceLeDiff,reduceLT,Nat.reduceBEq,reduceCtorEq,g1,g3,h0,Net.cells,List.length_map,Nat.lt_irrefl]
 refine W_for (fun k T H M=>M=[]∧getT T 1=.ptr 0 0∧getT T 6=i64 k∧H.get 0=.cells n.cells 26∧0 < H.n ∧ ∀ (j:Nat) x,j < k→n.sts[j]? = some x→shortSt x=true) n.sts.length ?_ ?_ ?_
 · simp only [go_sem,reduceIte,reduceEqDiff,reduceAdd,reduceMul,reduceSub,reduceLeDiff,reduceLT,Nat.reduceBEq,reduceCtorEq,g1,h0,Net.cells];exact ⟨hn,fun j x hj=>by omega⟩
 · rintro k T H M hk ⟨rfl,g1,g3,h0,hn,hall⟩
   obtain ⟨l,hp⟩:∃ p,n.sts[k]? = some p:=⟨n.sts[k],by simp⟩
   have hr:=map_at (f:=Stc.row) hp
   have hw:=wrap_succ hk z3
   have b0:(0=H.n)=False:=by simp;omega
   simp only [Stc.row] at hr
   cases d1:shortB l.name<;>cases d2:shortB l.kind<;>cases d3:shortB l.line<;>simp only [go_sem,reduceIte,reduceEqDiff,reduceAdd,reduceMul,reduceSub,reduceLeDiff,reduceLT,Nat.reduceBEq,reduceCtorEq,g1,g3,h0,b0,Net.cells,List.length_map,hk,hr,hw,e97,d1,d2,d3]
   case true.true.true =>
    refine ⟨by omega,fun j x hj hx => ?_⟩
    by_cases e:j=k
    · subst e;rw [hp] at hx;cases hx;simp [shortSt,d1,d2,d3]
    · exact hall j x (by omega) hx
   all_goals rw [all_false hp (by simp [shortSt,d1,d2,d3])];try rfl
 rintro T H M ⟨rfl,g1,g3,h0,hn,hall⟩
 rw [all_true hall]
 simp only [go_sem,reduceIte,reduceEqDiff,reduceAdd,reduceMul,reduceSub,reduceLeDiff,reduceLT,Nat.reduceBEq,reduceCtorEq,g1,g3,h0,Net.cells,List.length_map,Nat.lt_irrefl]
end Go.Sim

namespace Go.Sim
open Go Go.Proofs
set_option maxRecDepth 100000
set_option maxHeartbeats 16000000
def App (H:Heap) (t:Tok) (rows:List (List AV)) (sz:Nat) (e:TypeId):Prop:=(t=.nil∧rows=[]) ∨ ∃ j,t=.tok j∧rows ≠ []∧j < H.n∧H.get j=.row [] sz e
theorem App.push {H:Heap} {t:Tok} {rows:List (List AV)} {sz:Nat} {e:TypeId} (h:App H t rows sz e) (b:ABlk):App (H.push b) t rows sz e:=by
 rcases h with h | ⟨j,h1,h2,h3,h4⟩
 · exact .inl h
 · exact .inr ⟨j,h1,h2,by simp;omega,by rw [Heap.get_push,if_neg (by omega)];exact h4⟩
theorem App.set {H:Heap} {t:Tok} {rows:List (List AV)} {sz:Nat} {e:TypeId} (h:App H t rows sz e) {i:Nat} (b:ABlk) (hi:H.get i ≠ .row [] sz e):App (H.set i b) t rows sz e:=by
 rcases h with h | ⟨j,h1,h2,h3,h4⟩
 · exact .inl h
 · exact .inr ⟨j,h1,h2,h3,by rw [Heap.get_set,if_neg (fun he=>hi (by rw [← he];exact h4))];exact h4⟩
theorem App.fresh {H:Heap} {t:Tok} {rows:List (List AV)} {sz:Nat} {e:TypeId} (h:App H t rows sz e) (b c:ABlk) {i:Nat} (hi:i=H.n):App ((H.push b).set i c) t rows sz e:=by
 subst hi
 rcases h with h | ⟨j,h1,h2,h3,h4⟩
 · exact .inl h
 · exact .inr ⟨j,h1,h2,by simp;omega,by rw [Heap.get_set,if_neg (by omega),Heap.get_push,if_neg (by omega)];exact h4⟩
theorem app_any {H:Heap} {t:Tok} {rows:List (List AV)} {sz:Nat} {e:TypeId} (h:App H t rows sz e) {r:List AV} (h1:rows.length+1≤maxRows) (h2:pureRow r=true) (h3:0 < sz) (h4:rows.all (fun r=>r.length=sz)=true) :
 ∃ t' H',appP 0 H sz e (.ps t rows) [r]=some (.ps t' (rows++[r.map AV.strip0]),H')∧App H' t' (rows++[r.map AV.strip0]) sz e∧H.n≤H'.n∧(∀ i c u,i < H.n→H.get i=.cells c u→H'.get i=.cells c u) ∧
   ∀ t2 rows2 sz2 e2,¬ (sz2=sz∧e2=e)→App H t2 rows2 sz2 e2→App H' t2 rows2 sz2 e2:=by
 rcases h with ⟨rfl,rfl⟩ | ⟨j,rfl,h6,h7,h8⟩
 · refine ⟨.tok H.n,H.push (.row [] sz e),app_first (by simp) (by show 1≤1073741824;decide) (by simp [h2]) h3,.inr ⟨H.n,rfl,by simp,by simp,by rw [Heap.get_push,if_pos rfl]⟩,by simp,fun i c u hi hc => ?_,fun t2 rows2 sz2 e2 _ ha=>ha.push _⟩
   rw [Heap.get_push,if_neg (by omega)];exact hc
 · refine ⟨.tok H.n,(H.set j .dead).push (.row [] sz e),app_next (by simp) (by simpa using h1) (by simp [h2]) h3 h4 h8 (Nat.zero_le _) h6,.inr ⟨H.n,rfl,by simp,by simp,by rw [Heap.get_push,if_pos (by simp)]⟩,by simp,fun i c u hi hc => ?_,fun t2 rows2 sz2 e2 hne ha => ?_⟩
   · rw [Heap.get_push,if_neg (by simp;omega),Heap.get_set,if_neg (fun he=>by rw [he,h8] at hc;cases hc)];exact hc
   · exact (ha.set _ (by rw [h8];intro he;cases he;exact hne ⟨rfl,rfl⟩)).push _
theorem rows_all {α:Type} {f:α→List AV} {sz:Nat} (hf:∀ x,(f x).length=sz) (l:List α):(l.map f).all (fun r=>decide (r.length=sz))=true:=by
 rw [List.all_eq_true]
 intro r hr
 obtain ⟨x,_,rfl⟩:=List.mem_map.1 hr
 simp [hf x]
theorem strip_ps (t:Tok) (rows:List (List AV)):AV.strip0 (.ps t rows)=.ps .unk rows:=rfl
attribute [go_sem] strip_ps
theorem take_map {α β:Type} {f:α→β} {l:List α} {k:Nat} {x:α} (h:l[k]? = some x):(l.take (k+1)).map f=(l.take k).map f++[f x]:=by
 rw [List.take_add_one,h];simp
theorem c19 (n:Net) (hn:n.fits) (hs:n.sws.length≤maxRows) (ht:n.sts.length≤maxRows):∀ lo H,CallOk NC lo 8 [.agg n.cells] H (.agg n.cells) H:=by
 refine contract saneNC primsN (fn:=Try.f8) (by kernel_rfl) Try.func8 rfl rfl (by rfl) (by rfl) ?_
 simp only [go_sem,reduceIte,reduceEqDiff,reduceAdd,reduceMul,reduceSub,reduceLeDiff,reduceLT,Nat.reduceBEq,reduceCtorEq,Net.cells]
 refine W_for (fun k T H M=>M=[]∧getT T 1=.ptr 0 0∧getT T 2=.ptr 1 0∧getT T 3=.ptr 2 0∧getT T 14=.ps .unk (n.lines.map Ln.row)∧getT T 15=i64 (n.lines.length:Nat)∧getT T 16=i64 k∧H.get 0=.cells n.cells 26∧H.get 1=.cells [.ps .nil [],.ps .nil [],.ps .nil []] 46∧2 < H.n ∧ ∃ t,H.get 2=.cells [.ps t ((n.lines.take k).map Ln.row),.ps .nil [],.ps .nil []] 46∧App H t ((n.lines.take k).map Ln.row) 2 87) n.lines.length ?_ ?_ ?_
 · simp only [go_sem,reduceIte,reduceEqDiff,reduceAdd,reduceMul,reduceSub,reduceLeDiff,reduceLT,Nat.reduceBEq,reduceCtorEq,Net.cells,List.length_map];exact ⟨.nil,by simp,.inl ⟨rfl,rfl⟩⟩
 · rintro k T H M hk ⟨rfl,g1,g2,g3,g14,g15,g16,h0,h1,hh,t,h2,hA⟩
   obtain ⟨l,hp⟩:∃ p,n.lines[k]? = some p:=⟨n.lines[k],by simp⟩
   have hfit:=hn.2 l (List.mem_of_getElem? hp)
   have hr:=map_at (f:=Ln.row) hp
   have hw:=wrap_succ hk hn.1
   have htk:=take_map (f:=Ln.row) hp
   simp only [Ln.row] at hr
   have b0:(0=H.n)=False:=by simp;omega
   have b1:(1=H.n)=False:=by simp;omega
   have b2:(2=H.n)=False:=by simp;omega
   have b3:(H.n=H.n+1)=False:=by simp
   have b4:(0=H.n+1)=False:=by simp
   have b5:(1=H.n+1)=False:=by simp;omega
   have b6:(2=H.n+1)=False:=by simp;omega
   simp only [go_sem,reduceIte,reduceEqDiff,reduceAdd,reduceMul,reduceSub,reduceLeDiff,reduceLT,Nat.reduceBEq,reduceCtorEq,g1,g2,g3,g14,g15,g16,h0,h1,h2,b0,b1,b2,b3,b4,b5,b6,List.length_map,hk,hr]
   refine W_for (fun k2 T' H' M=>M=[]∧getT T' 1=.ptr 0 0∧getT T' 2=.ptr 1 0∧getT T' 3=.ptr 2 0∧getT T' 14=.ps .unk (n.lines.map Ln.row)∧getT T' 15=i64 (n.lines.length:Nat)∧getT T' 16=i64 k∧getT T' 6=.ptr (H.n+1) 0∧getT T' 24=.ps .unk (l.ps.map Pc.row)∧getT T' 25=i64 (l.ps.length:Nat)∧getT T' 26=i64 k2∧H'.get 0=.cells n.cells 26∧H'.get 1=.cells [.ps .nil [],.ps .nil [],.ps .nil []] 46∧H.n+1 < H'.n∧(∃ t,H'.get 2=.cells [.ps t ((n.lines.take k).map Ln.row),.ps .nil [],.ps .nil []] 46∧App H' t ((n.lines.take k).map Ln.row) 2 87) ∧
    ∃ u,H'.get (H.n+1)=.cells [.str l.name,.ps u ((l.ps.take k2).map Pc.row)] 87∧App H' u ((l.ps.take k2).map Pc.row) 3 88) l.ps.length ?_ ?_ ?_
   · simp only [go_sem,reduceIte,reduceEqDiff,reduceAdd,reduceMul,reduceSub,reduceLeDiff,reduceLT,Nat.reduceBEq,reduceCtorEq,g1,g2,g3,g14,g15,g16,h0,h1,h2,b0,b1,b2,b3,b4,b5,b6,Net.cells,List.length_map]
     refine ⟨⟨t,rfl, ?_⟩,.nil,by simp,.inl ⟨rfl,rfl⟩⟩
     exact (hA.fresh _ _ rfl).fresh _ _ rfl
   · rintro k2 T' H' M hk2 ⟨rfl,i1,i2,i3,i14,i15,i16,i6,i24,i25,i26,j0,j1,jh,⟨t',j2,jA⟩,u,ju,jB⟩
     obtain ⟨p,hpp⟩:∃ p,l.ps[k2]? = some p:=⟨l.ps[k2],by simp⟩
     have hpr:=map_at (f:=Pc.row) hpp
     have hw2:=wrap_succ hk2 hfit
     have htk2:=take_map (f:=Pc.row) hpp
     obtain ⟨pl,pq,pb⟩:=p
     simp only [Pc.row] at hpr
     have d0:(0=H'.n)=False:=by simp;omega
     have d1:(1=H'.n)=False:=by simp;omega
     have d2:(2=H'.n)=False:=by simp;omega
     have d3:(H.n+1=H'.n)=False:=by simp;omega
     obtain ⟨u',H1,ha,hB',hn1,hc1,ho1⟩:=app_any (H:=(H'.push (.cells [.int .i64 0,.int .i64 0,.bool false] 79)).set H'.n (.cells [.int .i64 pl,.int .i64 pq,.bool pb] 79)) (jB.fresh _ _ rfl) (r:=[.int .i64 pl,.int .i64 pq,.bool pb]) (by simp;omega) rfl (by decide) (rows_all Pc.row_len _)
     have x1:=hc1 (H.n+1) [.str l.name,.ps u ((l.ps.take k2).map Pc.row)] 87 (by simp;omega) (by rw [Heap.get_set,if_neg (by omega),Heap.get_push,if_neg (by omega)];exact ju)
     have x0:=hc1 0 _ _ (by simp) (by rw [Heap.get_set,if_neg (by omega),Heap.get_push,if_neg (by omega)];exact j0)
     have x01:=hc1 1 _ _ (by simp;omega) (by rw [Heap.get_set,if_neg (by omega),Heap.get_push,if_neg (by omega)];exact j1)
     have x2:=hc1 2 _ _ (by simp;omega) (by rw [Heap.get_set,if_neg (by omega),Heap.get_push,if_neg (by omega)];exact j2)
     have xA:=ho1 _ _ 2 87 (by decide) (jA.fresh (.cells [.int .i64 0,.int .i64 0,.bool false] 79) (.cells [.int .i64 pl,.int .i64 pq,.bool pb] 79) rfl)
     simp only [Heap.n_set,Heap.n_push] at hn1
     simp only [go_sem,reduceIte,reduceEqDiff,reduceAdd,reduceMul,reduceSub,reduceLeDiff,reduceLT,Nat.reduceBEq,reduceCtorEq,i1,i2,i3,i14,i15,i16,i6,i24,i25,i26,d0,d1,d2,d3,b4,b5,b6,ju,List.length_map,hk2,hpr,hw2,appO,isIntT_slice,rowsIn,ha,x1,x0,x01,x2,strip_ps]
     rw [htk2]
     exact ⟨by omega,⟨t',rfl,xA.set _ (by rw [x1];simp)⟩,u',rfl,hB'.set _ (by rw [x1];simp)⟩
   · rintro T' H' M ⟨rfl,i1,i2,i3,i14,i15,i16,i6,i24,i25,i26,j0,j1,jh,⟨t',j2,jA⟩,u,ju,jB⟩
     rw [List.take_length] at ju jB
     obtain ⟨t2,H1,ha,hB',hn1,hc1,ho1⟩:=app_any jA (r:=[.str l.name,.ps .unk (l.ps.map Pc.row)]) (by simp;have:=hn.1;omega) rfl (by decide) (rows_all Ln.row_len _)
     have x0:=hc1 0 _ _ (by omega) j0
     have x01:=hc1 1 _ _ (by omega) j1
     have x2:=hc1 2 _ _ (by omega) j2
     simp only [go_sem,reduceIte,reduceEqDiff,reduceAdd,reduceMul,reduceSub,reduceLeDiff,reduceLT,Nat.reduceBEq,reduceCtorEq,i1,i2,i3,i14,i15,i16,i6,i24,i25,i26,ju,j2,List.length_map,Nat.lt_irrefl,appO,isIntT_slice,rowsIn,ha,x0,x01,x2,strip_ps,hw]
     rw [htk]
     exact ⟨by omega,t2,rfl,hB'.set _ (by rw [x2];simp)⟩
 rintro T H M ⟨rfl,g1,g2,g3,g14,g15,g16,h0,h1,hh,t,h2,hA⟩
 rw [List.take_length] at h2 hA
 simp only [go_sem,reduceIte,reduceEqDiff,reduceAdd,reduceMul,reduceSub,reduceLeDiff,reduceLT,Nat.reduceBEq,reduceCtorEq,g1,g2,g3,g14,g15,g16,h0,h1,h2,Net.cells,List.length_map,Nat.lt_irrefl]
 refine W_for (fun k T H M=>M=[]∧getT T 1=.ptr 0 0∧getT T 2=.ptr 1 0∧getT T 3=.ptr 2 0∧getT T 45=.ps .unk (n.sws.map Sw.row)∧getT T 46=i64 (n.sws.length:Nat)∧getT T 47=i64 k∧H.get 0=.cells n.cells 26∧H.get 1=.cells [.ps .nil [],.ps .nil [],.ps .nil []] 46∧2 < H.n ∧ ∃ u,H.get 2=.cells [.ps t (n.lines.map Ln.row),.ps u ((n.sws.take k).map Sw.row),.ps .nil []] 46∧App H u ((n.sws.take k).map Sw.row) 5 91) n.sws.length ?_ ?_ ?_
 · simp only [go_sem,reduceIte,reduceEqDiff,reduceAdd,reduceMul,reduceSub,reduceLeDiff,reduceLT,Nat.reduceBEq,reduceCtorEq,g1,g2,g3,h0,h1,h2,Net.cells,List.length_map];exact ⟨hh,.nil,by simp,.inl ⟨rfl,rfl⟩⟩
 · rintro k T H M hk ⟨rfl,g1,g2,g3,g14,g15,g16,h0,h1,hh,u,h2,hA⟩
   obtain ⟨l,hp⟩:∃ p,n.sws[k]? = some p:=⟨n.sws[k],by simp⟩
   have hr:=map_at (f:=Sw.row) hp
   have hw:=wrap_succ hk hs
   have htk:=take_map (f:=Sw.row) hp
   simp only [Sw.row] at hr
   have b0:(0=H.n)=False:=by simp;omega
   have b1:(1=H.n)=False:=by simp;omega
   have b2:(2=H.n)=False:=by simp;omega
   obtain ⟨u',H1,ha,hB',hn1,hc1,ho1⟩:=app_any (H:=(H.push (.cells [.str [],.str [],.int .i64 0,.str [],.bool false] 90)).set H.n (.cells [.str l.name,.str l.line,.int .i64 l.metre,.str l.other,.bool l.last] 90)) (hA.fresh _ _ rfl) (r:=[.str l.name,.str l.line,.int .i64 l.metre,.str l.other,.bool l.last]) (by simp;omega) rfl (by decide) (rows_all Sw.row_len _)
   have x0:=hc1 0 _ _ (by simp) (by rw [Heap.get_set,if_neg (by omega),Heap.get_push,if_neg (by omega)];exact h0)
   have x01:=hc1 1 _ _ (by simp;omega) (by rw [Heap.get_set,if_neg (by omega),Heap.get_push,if_neg (by omega)];exact h1)
   have x2:=hc1 2 _ _ (by simp;omega) (by rw [Heap.get_set,if_neg (by omega),Heap.get_push,if_neg (by omega)];exact h2)
   simp only [Heap.n_set,Heap.n_push] at hn1
   simp only [go_sem,reduceIte,reduceEqDiff,reduceAdd,reduceMul,reduceSub,reduceLeDiff,reduceLT,Nat.reduceBEq,reduceCtorEq,g1,g2,g3,g14,g15,g16,h0,h1,h2,b0,b1,b2,List.length_map,hk,hr,hw,appO,isIntT_slice,rowsIn,ha,x0,x01,x2]
   rw [htk]
   exact ⟨by omega,u',rfl,hB'.set _ (by rw [x2];simp)⟩
 rintro T H M ⟨rfl,g1,g2,g3,g14,g15,g16,h0,h1,hh,u,h2,hA⟩
 rw [List.take_length] at h2 hA
 simp only [go_sem,reduceIte,reduceEqDiff,reduceAdd,reduceMul,reduceSub,reduceLeDiff,reduceLT,Nat.reduceBEq,reduceCtorEq,g1,g2,g3,g14,g15,g16,h0,h1,h2,Net.cells,List.length_map,Nat.lt_irrefl]
 refine W_for (fun k T H M=>M=[]∧getT T 1=.ptr 0 0∧getT T 2=.ptr 1 0∧getT T 3=.ptr 2 0∧getT T 59=.ps .unk (n.sts.map Stc.row)∧getT T 60=i64 (n.sts.length:Nat)∧getT T 61=i64 k∧H.get 0=.cells n.cells 26∧H.get 1=.cells [.ps .nil [],.ps .nil [],.ps .nil []] 46∧2 < H.n ∧ ∃ v,H.get 2=.cells [.ps t (n.lines.map Ln.row),.ps u (n.sws.map Sw.row),.ps v ((n.sts.take k).map Stc.row)] 46∧App H v ((n.sts.take k).map Stc.row) 5 96) n.sts.length ?_ ?_ ?_
 · simp only [go_sem,reduceIte,reduceEqDiff,reduceAdd,reduceMul,reduceSub,reduceLeDiff,reduceLT,Nat.reduceBEq,reduceCtorEq,g1,g2,g3,h0,h1,h2,Net.cells,List.length_map];exact ⟨hh,.nil,by simp,.inl ⟨rfl,rfl⟩⟩
 · rintro k T H M hk ⟨rfl,g1,g2,g3,g14,g15,g16,h0,h1,hh,v,h2,hA⟩
   obtain ⟨l,hp⟩:∃ p,n.sts[k]? = some p:=⟨n.sts[k],by simp⟩
   have hr:=map_at (f:=Stc.row) hp
   have hw:=wrap_succ hk ht
   have htk:=take_map (f:=Stc.row) hp
   simp only [Stc.row] at hr
   have b0:(0=H.n)=False:=by simp;omega
   have b1:(1=H.n)=False:=by simp;omega
   have b2:(2=H.n)=False:=by simp;omega
   obtain ⟨u',H1,ha,hB',hn1,hc1,ho1⟩:=app_any (H:=(H.push (.cells [.str [],.str [],.str [],.int .i64 0,.int .i64 0] 95)).set H.n (.cells [.str l.name,.str l.kind,.str l.line,.int .i64 l.fr,.int .i64 l.till] 95)) (hA.fresh _ _ rfl) (r:=[.str l.name,.str l.kind,.str l.line,.int .i64 l.fr,.int .i64 l.till]) (by simp;omega) rfl (by decide) (rows_all Stc.row_len _)
   have x0:=hc1 0 _ _ (by simp) (by rw [Heap.get_set,if_neg (by omega),Heap.get_push,if_neg (by omega)];exact h0)
   have x01:=hc1 1 _ _ (by simp;omega) (by rw [Heap.get_set,if_neg (by omega),Heap.get_push,if_neg (by omega)];exact h1)
   have x2:=hc1 2 _ _ (by simp;omega) (by rw [Heap.get_set,if_neg (by omega),Heap.get_push,if_neg (by omega)];exact h2)
   simp only [Heap.n_set,Heap.n_push] at hn1
   simp only [go_sem,reduceIte,reduceEqDiff,reduceAdd,reduceMul,reduceSub,reduceLeDiff,reduceLT,Nat.reduceBEq,reduceCtorEq,g1,g2,g3,g14,g15,g16,h0,h1,h2,b0,b1,b2,List.length_map,hk,hr,hw,appO,isIntT_slice,rowsIn,ha,x0,x01,x2]
   rw [htk]
   exact ⟨by omega,u',rfl,hB'.set _ (by rw [x2];simp)⟩
 rintro T H M ⟨rfl,g1,g2,g3,g14,g15,g16,h0,h1,hh,v,h2,hA⟩
 rw [List.take_length] at h2 hA
 simp only [go_sem,reduceIte,reduceEqDiff,reduceAdd,reduceMul,reduceSub,reduceLeDiff,reduceLT,Nat.reduceBEq,reduceCtorEq,g1,g2,g3,g14,g15,g16,h0,h1,h2,Net.cells,List.length_map,Nat.lt_irrefl]
end Go.Sim

namespace Go.Sim
open Go Go.Proofs
def AppB (b:Nat) (H:Heap) (t:Tok) (rows:List (List AV)) (sz:Nat) (e:TypeId):Prop:=(t=.nil∧rows=[]) ∨ ∃ j,t=.tok j∧rows ≠ []∧b≤j∧j < H.n∧H.get j=.row [] sz e
def Old (b:Nat) (H H':Heap):Prop:=b≤H'.n ∧ ∀ i,i < b→H'.get i=H.get i
theorem Old.refl (H:Heap):Old H.n H H:=⟨Nat.le_refl _,fun _ _=>rfl⟩
theorem Old.push {b:Nat} {H H':Heap} (h:Old b H H') (x:ABlk):Old b H (H'.push x):=⟨by simp;have:=h.1;omega,fun i hi=>by rw [Heap.get_push,if_neg (by have:=h.1;omega)];exact h.2 i hi⟩
theorem Old.set {b:Nat} {H H':Heap} (h:Old b H H') {j:Nat} (hj:b≤j) (x:ABlk):Old b H (H'.set j x):=⟨by simpa using h.1,fun i hi=>by rw [Heap.get_set,if_neg (by omega)];exact h.2 i hi⟩
theorem Old.new {b:Nat} {H H':Heap} (h:Old b H H') (x y:ABlk):Old b H ((H'.push x).set H'.n y):=(h.push x).set h.1 y
theorem Old.trans {b:Nat} {H H1 H2:Heap} (h:Old b H H1) (h2:Old b H1 H2):Old b H H2:=⟨h2.1,fun i hi=>(h2.2 i hi).trans (h.2 i hi)⟩
theorem AppB.set {b:Nat} {H:Heap} {t:Tok} {rows:List (List AV)} {sz:Nat} {e:TypeId} (h:AppB b H t rows sz e) {i:Nat} (x:ABlk) (hi:H.get i ≠ .row [] sz e):AppB b (H.set i x) t rows sz e:=by
 rcases h with h | ⟨j,h1,h2,h3,h4,h5⟩
 · exact .inl h
 · exact .inr ⟨j,h1,h2,h3,h4,by rw [Heap.get_set,if_neg (fun he=>hi (by rw [← he];exact h5))];exact h5⟩
theorem AppB.new {b:Nat} {H:Heap} {t:Tok} {rows:List (List AV)} {sz:Nat} {e:TypeId} (h:AppB b H t rows sz e) (x y:ABlk):AppB b ((H.push x).set H.n y) t rows sz e:=by
 rcases h with h | ⟨j,h1,h2,h3,h4,h5⟩
 · exact .inl h
 · exact .inr ⟨j,h1,h2,h3,by simp;omega,by rw [Heap.get_set,if_neg (by omega),Heap.get_push,if_neg (by omega)];exact h5⟩
theorem app_b {b:Nat} {H:Heap} {t:Tok} {rows:List (List AV)} {sz lo:Nat} {e:TypeId} (h:AppB b H t rows sz e) (hb:b≤H.n) (hlo:lo≤b) {r:List AV} (h1:rows.length+1≤maxRows) (h2:pureRow r=true) (h3:0 < sz) (h4:rows.all (fun r=>r.length=sz)=true) :
 ∃ t' H',appP lo H sz e (.ps t rows) [r]=some (.ps t' (rows++[r.map AV.strip0]),H')∧AppB b H' t' (rows++[r.map AV.strip0]) sz e∧H.n≤H'.n∧Old b H H'∧(∀ i c u,i < H.n→H.get i=.cells c u→H'.get i=.cells c u):=by
 rcases h with ⟨rfl,rfl⟩ | ⟨j,rfl,h6,hj,h7,h8⟩
 · refine ⟨.tok H.n,H.push (.row [] sz e),app_first (by simp) (by show 1≤1073741824;decide) (by simp [h2]) h3,.inr ⟨H.n,rfl,by simp,hb,by simp,by rw [Heap.get_push,if_pos rfl]⟩,by simp,⟨by simp;omega,fun i hi=>by rw [Heap.get_push,if_neg (by omega)]⟩,fun i c u hi hc => ?_⟩
   rw [Heap.get_push,if_neg (by omega)];exact hc
 · refine ⟨.tok H.n,(H.set j .dead).push (.row [] sz e),app_next (by simp) (by simpa using h1) (by simp [h2]) h3 h4 h8 (by omega) h6,.inr ⟨H.n,rfl,by simp,hb,by simp,by rw [Heap.get_push,if_pos (by simp)]⟩,by simp,⟨by simp;omega,fun i hi=>by rw [Heap.get_push,if_neg (by simp;omega),Heap.get_set,if_neg (by omega)]⟩,fun i c u hi hc => ?_⟩
   rw [Heap.get_push,if_neg (by simp;omega),Heap.get_set,if_neg (fun he=>by rw [he,h8] at hc;cases hc)];exact hc
end Go.Sim

namespace Go.Sim
open Go
structure Pr where
 a:List Nat
 i:Int
 b:List Nat
 j:Int
end Go.Sim

namespace Go.Sim
open Go Go.Proofs
set_option maxRecDepth 100000
set_option maxHeartbeats 8000000
section
variable {C:Cfg} {lo:Nat} {fid:FuncId} {rnd:Bool} (T:TT AV) (H:Heap) (M:List Nat) (Q:AExit→TT AV→Heap→List Nat→Prop)
def unscope (Q:AExit→TT AV→Heap→List Nat→Prop) (e:AExit) (T:TT AV) (H:Heap) (M:List Nat) (_t:Tag Q:=⟨⟩):Prop:=match e with
 | .gto _=>False
 | e=>Q e T H M
theorem unscope_nrm:unscope Q .nrm T H M=Q .nrm T H M:=rfl
theorem unscope_ret:unscope Q .ret T H M=Q .ret T H M:=rfl
theorem unscope_ext (i:Nat):unscope Q (.ext i) T H M=Q (.ext i) T H M:=rfl
theorem W_scope (b:Code):W C lo fid rnd (.scope b) T H M Q=W C lo fid rnd b T H M (fun e T H M=>unscope Q e T H M):=by
 unfold W
 rw [R_scope]
 cases h:R C (.code lo fid rnd b ⟨T,H,M⟩) with
 | none=>rfl
 | some o=>obtain ⟨e,⟨T',H',M'⟩⟩:=o;cases e<;>rfl
end
attribute [go_sem ↓] W_scope W_label unscope_nrm unscope_ret unscope_ext
abbrev Pl:Type:=List Nat × Int
end Go.Sim

namespace Go.Sim
open Go Go.Proofs
set_option maxRecDepth 100000
set_option maxHeartbeats 16000000
noncomputable def p17:List AV→Option AV:=primOf (α:=Net) (fun x=>[.agg x.cells]) (fun _=>True) (fun x=>.bool (shortN x))
theorem pok17:∀ args v,p17 args=some v → ∀ lo H,CallOk NC lo 15 args H v H:=by
 intro args v h
 obtain ⟨x,rfl,hp,rfl⟩:=primOf_inv h
 clear h
 revert x
 intro x;exact c17 x
theorem pe17 (x:Net) (hp:(fun _=>True) x):p17 ((fun x=>[.agg x.cells]) x)=some ((fun x=>.bool (shortN x)) x):=primOf_enc (by intro x y h;exact cells1_inj x y h) x hp
noncomputable def p19:List AV→Option AV:=primOf (α:=Net) (fun x=>[.agg x.cells]) (fun x=>x.fits∧x.sws.length≤maxRows∧x.sts.length≤maxRows) (fun x=>.agg x.cells)
theorem pok19:∀ args v,p19 args=some v → ∀ lo H,CallOk NC lo 8 args H v H:=by
 intro args v h
 obtain ⟨x,rfl,hp,rfl⟩:=primOf_inv h
 clear h
 revert x
 intro x hx;exact c19 x hx.1 hx.2.1 hx.2.2
theorem pe19 (x:Net) (hp:(fun x=>x.fits∧x.sws.length≤maxRows∧x.sts.length≤maxRows) x):p19 ((fun x=>[.agg x.cells]) x)=some ((fun x=>.agg x.cells) x):=primOf_enc (by intro x y h;exact cells1_inj x y h) x hp
noncomputable def p22:List AV→Option AV:=primOf (α:=Net) (fun x=>[.agg x.cells]) (fun x=>x.fits∧x.sws.length≤maxRows∧x.sts.length≤maxRows) (fun x=>i64 (netR x))
theorem pok22:∀ args v,p22 args=some v → ∀ lo H,CallOk NC lo 16 args H v H:=by
 intro args v h
 obtain ⟨x,rfl,hp,rfl⟩:=primOf_inv h
 clear h
 revert x
 intro x hx;exact c22 x hx.1 hx.2.1 hx.2.2
theorem pe22 (x:Net) (hp:(fun x=>x.fits∧x.sws.length≤maxRows∧x.sts.length≤maxRows) x):p22 ((fun x=>[.agg x.cells]) x)=some ((fun x=>i64 (netR x)) x):=primOf_enc (by intro x y h;exact cells1_inj x y h) x hp
theorem beqL_self (a:List Nat):beqL a a=true:=(beqL_iff a a).2 rfl
theorem eqI_self (a:Int):eqI a a=true:=by rw [eqI_iff];simp
theorem short_ok {n:Net} (h:shortN n=true):n.Ok:=by
 unfold shortN at h
 simp only [Bool.and_eq_true,Bool.not_eq_true',Bool.or_eq_false_iff,decide_eq_false_iff_not,List.all_eq_true] at h
 obtain ⟨⟨⟨⟨⟨h1,h2⟩,h3⟩,h4⟩,h5⟩,h6⟩:=h
 have short:∀ s:List Nat,shortB s=true→s.length≤maxRows:=by
  intro s hs
  unfold shortB at hs
  simp only [Bool.not_eq_true',decide_eq_false_iff_not] at hs
  unfold maxRows;omega
 refine ⟨by unfold maxRows;omega,fun l hl => ?_,by unfold maxRows;omega,fun s hs => ?_,by unfold maxRows;omega,fun s hs => ?_⟩
 · have:=h4 l hl
   unfold shortLn at this
   simp only [Bool.and_eq_true,Bool.not_eq_true',decide_eq_false_iff_not] at this
   exact ⟨short _ this.1,by unfold maxRows;omega⟩
 · have:=h5 s hs
   unfold shortSw at this
   simp only [Bool.and_eq_true] at this
   exact short _ this.1.1
 · have:=h6 s hs
   unfold shortSt at this
   simp only [Bool.and_eq_true] at this
   exact ⟨short _ this.1.1,short _ this.1.2⟩
end Go.Sim

namespace Go.Sim
open Go
theorem wrap_in {n:Int} (h0:0≤n) (h1:n≤9223372036854775807):IntKind.wrap .i64 n=n:=by
 have:=wrapq_i64 (x:=n) (by omega) h1
 unfold IntKind.wrap
 have h64:((2:Int) ^ (IntKind.bits .i64))=18446744073709551616:=by decide
 have h63:((2:Int) ^ (IntKind.bits .i64 - 1))=9223372036854775808:=by decide
 simp only [h64,h63]
 have e:n % 18446744073709551616=n:=by omega
 rw [e]
 have:¬ (n ≥ 9223372036854775808):=by omega
 simp [this]
theorem conv_u8 {n:Int} (h0:0≤n) (h1:n≤255):aconv NC.P 5 3 (.int .u8 n)=some (.int .i64 n):=by
 have e:aconv NC.P 5 3 (.int .u8 n)=some (.int .i64 (IntKind.wrap .i64 n)):=by kernel_rfl
 rw [e,wrap_in h0 (by omega)]
theorem rem_ok {a b:Int} (h0:0≤a) (h1:0 < b):aint (pureOf (Go.binOp .rem 0 (.int .i64 a) (.int .i64 b)))=some (.int .i64 (a % b)):=by
 have e:Go.binOp .rem 0 (.int .i64 a) (.int .i64 b)=Op.intDiv .rem .i64 a b:=rfl
 have hb:¬ (b=0):=by omega
 rw [e]
 unfold Op.intDiv
 rw [if_neg hb]
 show some (AV.int .i64 (a.tmod b))=_
 rw [Int.tmod_eq_emod_of_nonneg h0]
theorem natOf_2 (lim:Nat) (k:IntKind):natOf lim (.int k 2)=if 2 < lim then some 2 else none:=rfl
theorem wl01:wrapq .i64 (Int.add 0 1)=1:=rfl
theorem wl12:wrapq .i64 (Int.add 1 1)=2:=rfl
theorem i13:((1:Int) < 3)=True:=by simp
theorem i23:((2:Int) < 3)=True:=by simp
theorem cast1:((1:Nat):Int)=1:=rfl
theorem cast2:((2:Nat):Int)=2:=rfl
theorem i02:((0:Int) < 2)=True:=by simp
theorem i12:((1:Int) < 2)=True:=by simp
theorem i22:((2:Int) < 2)=False:=by simp
end Go.Sim

namespace Go.Sim
open Go Go.Proofs
set_option maxRecDepth 100000
set_option maxHeartbeats 8000000
theorem ety4:eqType NC.P 100 4=true:=by kernel_rfl
theorem aeq4 (a b:Bool):aeqT NC.P 100 4 (.bool a) (.bool b)=some (a == b):=by cases a<;>cases b<;>kernel_rfl
theorem beq_tt:(true == true)=true:=rfl
theorem beq_tf:(true == false)=false:=rfl
theorem beq_ft:(false == true)=false:=rfl
theorem beq_ff:(false == false)=true:=rfl
attribute [go_sem] ety4 aeq4 beq_tt beq_tf beq_ft beq_ff
noncomputable def PPF188:FuncId→Option (List AV→Option AV):=fun _=>none
theorem primsF188:PrimsOk NC PPF188:=primsOk_none
theorem c188 (a:Int):∀ lo H,CallOk NC lo 82 [i64 a] H (.bool false) H:=by
 refine contract saneNC primsF188 (fn:=Try.f82) (by kernel_rfl) Try.func82 rfl rfl (by rfl) (by first | rfl | (split<;>first | rfl | (split<;>rfl))) ?_
 have:(a=a)=True:=by simp
 simp only [go_sem,reduceIte,reduceEqDiff,reduceAdd,reduceMul,reduceSub,reduceLeDiff,reduceLT,Nat.reduceBEq,reduceCtorEq,this]
noncomputable def p188:List AV→Option AV:=primOf (α:=(Int)) (fun x=>[i64 x]) (fun x=>True) (fun x=>.bool false)
theorem pok188:∀ args v,p188 args=some v → ∀ lo H,CallOk NC lo 82 args H v H:=by
 intro args v h
 obtain ⟨x,rfl,hp,rfl⟩:=primOf_inv h
 exact c188 x
theorem pe188 (a:Int):p188 [.int .i64 a]=some (.bool false):=primOf_enc (by intro x y h;(simp only [List.cons.injEq,AV.agg.injEq,AV.str.injEq,AV.int.injEq,AV.ps.injEq,AV.bool.injEq,Net.cells_iff,Ln.row_iff,Pc.row_iff,Mv.row_iff,lns_iff,pcs_iff,mvs_iff,true_and,and_true] at h;first | simpa only [Prod.ext_iff] using h | simpa only [Prod.ext_iff,and_assoc] using h)) a trivial
def cmpI (a b:Int):Int:=if a < b then -1 else if b < a then 1 else 0
noncomputable def PPF119:FuncId→Option (List AV→Option AV):=addPrim 82 p188 (fun _=>none)
theorem primsF119:PrimsOk NC PPF119:=primsOk_add (primsOk_none) (by kernel_rfl) (by kernel_rfl) pok188
theorem enF119_188:En PPF119 82 p188:=enter_prim (by rfl) (by kernel_rfl)
attribute [go_sem ↓] enF119_188
theorem c119 (a b:Int):∀ lo H,CallOk NC lo 60 [i64 a,i64 b] H (i64 (cmpI a b)) H:=by
 refine contract saneNC primsF119 (fn:=Try.f60) (by kernel_rfl) Try.func60 rfl rfl (by rfl) (by first | rfl | (split<;>first | rfl | (split<;>rfl))) ?_
 have e188:∀ a,p188 [.int .i64 a]=some (.bool false):=fun a=>pe188 a
 unfold cmpI
 rcases Classical.propComplete (a < b) with h1 | h1<;>rcases Classical.propComplete (b < a) with h2 | h2<;>simp only [go_sem,reduceIte,reduceEqDiff,reduceAdd,reduceMul,reduceSub,reduceLeDiff,reduceLT,Nat.reduceBEq,reduceCtorEq,e188,h1,h2]
noncomputable def p119:List AV→Option AV:=primOf (α:=(Int) × (Int)) (fun x=>[i64 x.1,i64 x.2]) (fun x=>True) (fun x=>i64 (cmpI x.1 x.2))
theorem pok119:∀ args v,p119 args=some v → ∀ lo H,CallOk NC lo 60 args H v H:=by
 intro args v h
 obtain ⟨x,rfl,hp,rfl⟩:=primOf_inv h
 exact c119 x.1 x.2
theorem pe119 (a b:Int):p119 [.int .i64 a,.int .i64 b]=some (.int .i64 (cmpI a b)):=primOf_enc (by intro x y h;(simp only [List.cons.injEq,AV.agg.injEq,AV.str.injEq,AV.int.injEq,AV.ps.injEq,AV.bool.injEq,Net.cells_iff,Ln.row_iff,Pc.row_iff,Mv.row_iff,lns_iff,pcs_iff,mvs_iff,true_and,and_true] at h;first | simpa only [Prod.ext_iff] using h | simpa only [Prod.ext_iff,and_assoc] using h)) (a,b) trivial
end Go.Sim

namespace Go.Sim
structure Leg where
 line:List Nat
 fr:Int
 to:Int
abbrev Pt:Type:=List Nat × Int
abbrev Stp:Type:=Nat × Bool
def dI (x y:Int):Int:=if x≤y then y - x else x - y
theorem dI_nonneg (x y:Int):0≤dI x y:=by unfold dI;split<;>omega
theorem dI_tri (x y z:Int):dI x z≤dI x y+dI y z:=by unfold dI;(repeat' split)<;>omega
def Leg.len (l:Leg):Int:=dI l.fr l.to
def wSum:List Leg→Int
 | []=>0
 | l::r=>l.len+wSum r
theorem wSum_append:∀ a b:List Leg,wSum (a++b)=wSum a+wSum b
 | [],b=>by simp [wSum]
 | l::r,b=>by simp only [List.cons_append,wSum,wSum_append r b];omega
theorem wSum_nonneg:∀ a:List Leg,0≤wSum a
 | []=>Int.le_refl _
 | l::r=>by
   have:=wSum_nonneg r
   have:=dI_nonneg l.fr l.to
   simp only [wSum,Leg.len];omega
section
variable (E:Nat→Bool→Pt) (N:Nat)
def legsOf:Pt→List Stp→Pt→List Leg
 | a,[],b=>[⟨a.1,a.2,b.2⟩]
 | a,s::r,b=>⟨a.1,a.2,(E s.1 s.2).2⟩::legsOf (E s.1 (!s.2)) r b
def okS:Pt→List Stp→Pt→Prop
 | a,[],b=>a.1=b.1
 | a,s::r,b=>s.1 < N∧(E s.1 s.2).1=a.1∧okS (E s.1 (!s.2)) r b
def lenS (a:Pt) (σ:List Stp) (b:Pt):Int:=wSum (legsOf E a σ b)
theorem lenS_nonneg (a:Pt) (σ:List Stp) (b:Pt):0≤lenS E a σ b:=wSum_nonneg _
theorem lenS_nil (a b:Pt):lenS E a [] b=dI a.2 b.2:=by simp [lenS,legsOf,wSum,Leg.len]
theorem lenS_cons (a:Pt) (s:Stp) (r:List Stp) (b:Pt):lenS E a (s::r) b=dI a.2 (E s.1 s.2).2+lenS E (E s.1 (!s.2)) r b:=rfl
theorem legsOf_length:∀ (a:Pt) (σ:List Stp) (b:Pt),(legsOf E a σ b).length=σ.length+1
 | _,[],_=>rfl
 | a,s::r,b=>by simp only [legsOf,List.length_cons,legsOf_length _ r b]
theorem legsOf_snoc:∀ (a:Pt) (σ:List Stp) (s:Stp) (b:Pt),legsOf E a (σ++[s]) b=legsOf E a σ (E s.1 s.2)++[⟨(E s.1 (!s.2)).1,(E s.1 (!s.2)).2,b.2⟩]
 | _,[],_,_=>rfl
 | a,t::r,s,b=>by simp only [List.cons_append,legsOf,legsOf_snoc _ r s b]
theorem okS_snoc:∀ (a:Pt) (σ:List Stp) (s:Stp) (b:Pt),okS E N a (σ++[s]) b ↔ okS E N a σ (E s.1 s.2)∧s.1 < N∧(E s.1 (!s.2)).1=b.1
 | a,[],s,b=>by
   show (s.1 < N∧(E s.1 s.2).1=a.1∧(E s.1 (!s.2)).1=b.1) ↔ (a.1=(E s.1 s.2).1∧_)
   constructor
   · rintro ⟨h1,h2,h3⟩;exact ⟨h2.symm,h1,h3⟩
   · rintro ⟨h1,h2,h3⟩;exact ⟨h2,h1.symm,h3⟩
 | a,t::r,s,b=>by
   have ih:=okS_snoc (E t.1 (!t.2)) r s b
   show (t.1 < N∧_∧okS E N _ (r++[s]) b) ↔ ((t.1 < N∧_∧okS E N _ r _)∧_)
   rw [ih]
   constructor
   · rintro ⟨h1,h2,h3,h4⟩;exact ⟨⟨h1,h2,h3⟩,h4⟩
   · rintro ⟨⟨h1,h2,h3⟩,h4⟩;exact ⟨h1,h2,h3,h4⟩
theorem lenS_snoc (a:Pt) (σ:List Stp) (s:Stp) (b:Pt):lenS E a (σ++[s]) b=lenS E a σ (E s.1 s.2)+dI (E s.1 (!s.2)).2 b.2:=by
 unfold lenS
 rw [legsOf_snoc,wSum_append]
 simp [wSum,Leg.len]
theorem okS_begin {a c:Pt} (h:a.1=c.1) {σ:List Stp} {b:Pt} (h1:okS E N a σ b):okS E N c σ b:=by
 cases σ with
 | nil=>exact h.symm.trans h1
 | cons s r=>exact ⟨h1.1,h1.2.1.trans h,h1.2.2⟩
theorem lenS_begin (a c:Pt) (σ:List Stp) (b:Pt):lenS E c σ b≤dI c.2 a.2+lenS E a σ b:=by
 cases σ with
 | nil=>rw [lenS_nil,lenS_nil];exact dI_tri _ _ _
 | cons s r =>
   rw [lenS_cons,lenS_cons]
   have:=dI_tri c.2 a.2 (E s.1 s.2).2
   omega
theorem okS_tail {b:Pt} {s:Stp} {γ:List Stp}:∀ {a:Pt} {β:List Stp},okS E N a (β++s::γ) b→okS E N (E s.1 (!s.2)) γ b
 | _,[],h=>h.2.2
 | _,_::_,h=>okS_tail h.2.2
theorem lenS_tail (b:Pt) (s:Stp) (γ:List Stp):∀ (a:Pt) (β:List Stp),lenS E (E s.1 (!s.2)) γ b≤lenS E a (β++s::γ) b
 | a,[]=>by
   rw [List.nil_append,lenS_cons]
   have:=dI_nonneg a.2 (E s.1 s.2).2
   omega
 | a,t::r=>by
   rw [List.cons_append,lenS_cons]
   have:=dI_nonneg a.2 (E t.1 t.2).2
   have:=lenS_tail b s γ (E t.1 (!t.2)) r
   omega
theorem cut_one {b:Pt}:∀ {a:Pt} {σ:List Stp},okS E N a σ b → ¬ (σ.map Prod.fst).Nodup → ∃ τ,okS E N a τ b∧τ.length < σ.length∧lenS E a τ b≤lenS E a σ b
 | _,[],_,h=>absurd List.nodup_nil h
 | a,s::r,h,hn=>by
   by_cases hs:s.1 ∈ r.map Prod.fst
   · obtain ⟨t,ht,he⟩:=List.mem_map.1 hs
     obtain ⟨β,γ,rfl⟩:=List.append_of_mem ht
     obtain ⟨i,k⟩:=s
     obtain ⟨j,m⟩:=t
     simp only at he
     subst he
     have h3:=okS_tail E N h.2.2
     have l3:=lenS_tail E b (j,m) γ (E j (!k)) β
     simp only at h3 l3
     by_cases hm:m=k
     · subst hm
       refine ⟨(j,m)::γ,⟨h.1,h.2.1,h3⟩,by simp;omega, ?_⟩
       rw [lenS_cons,lenS_cons]
       simp only at l3 ⊢
       omega
     · have hm:(!m)=k:=by cases m<;>cases k<;>simp at hm ⊢
       rw [hm] at h3 l3
       refine ⟨γ,okS_begin E N h.2.1 h3,by simp;omega, ?_⟩
       rw [lenS_cons]
       have:=lenS_begin E (E j k) a γ b
       simp only at l3 ⊢
       omega
   · have hr:¬ (r.map Prod.fst).Nodup:=fun c=>hn (by rw [List.map_cons,List.nodup_cons];exact ⟨hs,c⟩)
     obtain ⟨τ,t1,t2,t3⟩:=cut_one h.2.2 hr
     refine ⟨s::τ,⟨h.1,h.2.1,t1⟩,by simp only [List.length_cons];omega, ?_⟩
     rw [lenS_cons,lenS_cons];omega
theorem cut_all {a b:Pt}:∀ (n:Nat) {σ:List Stp},σ.length≤n→okS E N a σ b → ∃ τ,okS E N a τ b∧(τ.map Prod.fst).Nodup∧(τ=σ∨(τ.length < σ.length∧lenS E a τ b≤lenS E a σ b))
 | n,σ,hl,h=>by
   by_cases hn:(σ.map Prod.fst).Nodup
   · exact ⟨σ,h,hn,.inl rfl⟩
   · obtain ⟨τ,t1,t2,t3⟩:=cut_one E N h hn
     cases n with
     | zero=>omega
     | succ n =>
       obtain ⟨ρ,r1,r2,r3⟩:=cut_all n (σ:=τ) (by omega) t1
       refine ⟨ρ,r1,r2,.inr ?_⟩
       rcases r3 with rfl | ⟨r3,r4⟩
       · exact ⟨t2,t3⟩
       · exact ⟨by omega,by omega⟩
theorem okS_lt:∀ {a:Pt} {σ:List Stp} {b:Pt},okS E N a σ b → ∀ s ∈ σ,s.1 < N
 | _,[],_,_,s,hs=>by cases hs
 | _,t::r,_,h,s,hs=>by
   rcases List.mem_cons.1 hs with rfl | hs
   · exact h.1
   · exact okS_lt h.2.2 s hs
end
theorem few_nodup:∀ (N:Nat) {l:List Nat},l.Nodup→(∀ x ∈ l,x < N)→l.length≤N
 | 0,[],_,_=>Nat.le_refl _
 | 0,x::r,_,h=>absurd (h x (by simp)) (by omega)
 | N+1,l,hn,h=>by
   by_cases hN:N ∈ l
   · have h1:=few_nodup N (l:=l.erase N) (hn.erase N) fun x hx=>by
      have:=(hn.mem_erase_iff).1 hx
      have:=h x this.2
      omega
     rw [List.length_erase_of_mem hN] at h1
     have:0 < l.length:=List.length_pos_of_mem hN
     omega
   · have:=few_nodup N hn fun x hx=>by
      have:=h x hx
      have:x ≠ N:=fun e=>hN (e ▸ hx)
      omega
     omega
theorem simple_few {E:Nat→Bool→Pt} {N:Nat} {a b:Pt} {σ:List Stp} (h:okS E N a σ b) (hn:(σ.map Prod.fst).Nodup):σ.length≤N:=by
 have:=few_nodup N hn fun x hx=>by
  obtain ⟨s,hs,rfl⟩:=List.mem_map.1 hx
  exact okS_lt E N h s hs
 rwa [List.length_map] at this
section
variable (ix:List Nat→Int)
def legLt (a b:Leg):Bool:=decide (ix a.line < ix b.line) || (decide (ix a.line=ix b.line) && (decide (a.fr < b.fr) || (decide (a.fr=b.fr) && decide (a.to < b.to))))
def legSame (a b:Leg):Bool:=decide (ix a.line=ix b.line) && (decide (a.fr=b.fr) && decide (a.to=b.to))
def lexLt:List Leg→List Leg→Bool
 | a::x,b::y=>legLt ix a b || (legSame ix a b && lexLt x y)
 | _,_=>false
def wLt (a b:List Leg):Bool:=decide (wSum a < wSum b) || (decide (wSum a=wSum b) && (decide (a.length < b.length) || (decide (a.length=b.length) && lexLt ix a b)))
theorem legLt_iff {a b:Leg}:legLt ix a b=true ↔ ix a.line < ix b.line∨(ix a.line=ix b.line∧(a.fr < b.fr∨(a.fr=b.fr∧a.to < b.to))):=by
 unfold legLt
 simp only [Bool.or_eq_true,Bool.and_eq_true,decide_eq_true_eq]
theorem legSame_iff {a b:Leg}:legSame ix a b=true ↔ ix a.line=ix b.line∧a.fr=b.fr∧a.to=b.to:=by
 unfold legSame
 simp only [Bool.and_eq_true,decide_eq_true_eq]
theorem lexLt_cons {a b:Leg} {x y:List Leg}:lexLt ix (a::x) (b::y)=true ↔ legLt ix a b=true∨(legSame ix a b=true∧lexLt ix x y=true):=by
 show (_ || (_ && _))=true ↔ _
 simp only [Bool.or_eq_true,Bool.and_eq_true]
theorem wLt_iff {a b:List Leg}:wLt ix a b=true ↔ wSum a < wSum b∨(wSum a=wSum b∧(a.length < b.length∨(a.length=b.length∧lexLt ix a b=true))):=by
 unfold wLt
 simp only [Bool.or_eq_true,Bool.and_eq_true,decide_eq_true_eq]
theorem lexLt_irrefl:∀ a:List Leg,lexLt ix a a=false
 | []=>rfl
 | a::x=>by
   cases h:lexLt ix (a::x) (a::x) with
   | false=>rfl
   | true =>
     rw [lexLt_cons,lexLt_irrefl x,legLt_iff] at h
     rcases h with h | h
     · omega
     · cases h.2
theorem wLt_irrefl (a:List Leg):wLt ix a a=false:=by
 cases h:wLt ix a a with
 | false=>rfl
 | true =>
   rw [wLt_iff,lexLt_irrefl] at h
   rcases h with h | ⟨_,h | ⟨_,h⟩⟩
   · omega
   · omega
   · cases h
theorem lexLt_trans:∀ {a b c:List Leg},lexLt ix a b=true→lexLt ix b c=true→lexLt ix a c=true
 | [],_,_,h,_=>by cases ‹List Leg› <;> cases h
 | _::_,[],_,h,_=>by cases h
 | _::_,_::_,[],_,h=>by cases h
 | a::x,b::y,c::z,h1,h2=>by
   rw [lexLt_cons] at h1 h2 ⊢
   rw [legLt_iff,legSame_iff] at *
   rcases h1 with h1 | ⟨h1,h1'⟩<;>rcases h2 with h2 | ⟨h2,h2'⟩
   · left;omega
   · left;omega
   · left;omega
   · right;exact ⟨by omega,lexLt_trans h1' h2'⟩
theorem wLt_trans {a b c:List Leg} (h1:wLt ix a b=true) (h2:wLt ix b c=true):wLt ix a c=true:=by
 rw [wLt_iff] at *
 rcases h1 with h1 | ⟨h1,h1' | ⟨h1',h1''⟩⟩<;>rcases h2 with h2 | ⟨h2,h2' | ⟨h2',h2''⟩⟩
 · left;omega
 · left;omega
 · left;omega
 · left;omega
 · right;exact ⟨by omega,.inl (by omega)⟩
 · right;exact ⟨by omega,.inl (by omega)⟩
 · left;omega
 · right;exact ⟨by omega,.inl (by omega)⟩
 · right;exact ⟨by omega,.inr ⟨by omega,lexLt_trans ix h1'' h2''⟩⟩
def knownL (S:List Nat→Prop) (w:List Leg):Prop:=∀ l ∈ w,S l.line
variable {S:List Nat→Prop} (inj:∀ s t,S s→S t→ix s=ix t→s=t)
include inj
theorem lexLt_tri:∀ {a b:List Leg},a.length=b.length→knownL S a→knownL S b→lexLt ix a b=true∨a=b∨lexLt ix b a=true
 | [],[],_,_,_=>.inr (.inl rfl)
 | [],_::_,h,_,_=>by cases h
 | _::_,[],h,_,_=>by cases h
 | a::x,b::y,h,ha,hb=>by
   have ih:=lexLt_tri (a:=x) (b:=y) (by simpa using h) (fun l hl=>ha l (by simp [hl])) (fun l hl=>hb l (by simp [hl]))
   rw [lexLt_cons,lexLt_cons,legLt_iff,legLt_iff,legSame_iff,legSame_iff]
   rcases Int.lt_trichotomy (ix a.line) (ix b.line) with h1 | h1 | h1
   · exact .inl (.inl (.inl h1))
   · rcases Int.lt_trichotomy a.fr b.fr with h2 | h2 | h2
     · exact .inl (.inl (.inr ⟨h1,.inl h2⟩))
     · rcases Int.lt_trichotomy a.to b.to with h3 | h3 | h3
       · exact .inl (.inl (.inr ⟨h1,.inr ⟨h2,h3⟩⟩))
       · rcases ih with ih | ih | ih
         · exact .inl (.inr ⟨⟨h1,h2,h3⟩,ih⟩)
         · right;left
           have:=inj _ _ (ha a (by simp)) (hb b (by simp)) h1
           obtain ⟨a1,a2,a3⟩:=a
           obtain ⟨b1,b2,b3⟩:=b
           simp only at this h2 h3
           rw [this,h2,h3,ih]
         · exact .inr (.inr (.inr ⟨⟨h1.symm,h2.symm,h3.symm⟩,ih⟩))
       · exact .inr (.inr (.inl (.inr ⟨h1.symm,.inr ⟨h2.symm,h3⟩⟩)))
     · exact .inr (.inr (.inl (.inr ⟨h1.symm,.inl h2⟩)))
   · exact .inr (.inr (.inl (.inl h1)))
theorem wLt_tri {a b:List Leg} (ha:knownL S a) (hb:knownL S b):wLt ix a b=true∨a=b∨wLt ix b a=true:=by
 rw [wLt_iff,wLt_iff]
 rcases Int.lt_trichotomy (wSum a) (wSum b) with h1 | h1 | h1
 · exact .inl (.inl h1)
 · rcases Nat.lt_trichotomy a.length b.length with h2 | h2 | h2
   · exact .inl (.inr ⟨h1,.inl h2⟩)
   · rcases lexLt_tri ix inj h2 ha hb with h3 | h3 | h3
     · exact .inl (.inr ⟨h1,.inr ⟨h2,h3⟩⟩)
     · exact .inr (.inl h3)
     · exact .inr (.inr (.inr ⟨h1.symm,.inr ⟨h2.symm,h3⟩⟩))
   · exact .inr (.inr (.inr ⟨h1.symm,.inl h2⟩))
 · exact .inr (.inr (.inl h1))
end
section
variable (ix:List Nat→Int)
theorem lexLt_snoc (l:Leg):∀ {a b:List Leg},a.length=b.length→lexLt ix (a++[l]) (b++[l])=lexLt ix a b
 | [],[],_=>by
   show lexLt ix [l] [l]=_
   rw [lexLt_irrefl];rfl
 | [],_::_,h=>by cases h
 | _::_,[],h=>by cases h
 | a::x,b::y,h=>by
   show (legLt ix a b || (legSame ix a b && lexLt ix (x++[l]) (y++[l])))=_
   rw [lexLt_snoc l (by simpa using h)];rfl
theorem wLt_snoc (l:Leg) (a b:List Leg):wLt ix (a++[l]) (b++[l])=wLt ix a b:=by
 rw [Bool.eq_iff_iff,wLt_iff,wLt_iff,wSum_append,wSum_append,List.length_append,List.length_append]
 constructor
 · rintro (h | ⟨h1,h | ⟨h2,h3⟩⟩)
   · left;omega
   · right;exact ⟨by omega,.inl (by omega)⟩
   · right
     have hl:a.length=b.length:=by omega
     rw [lexLt_snoc ix l hl] at h3
     exact ⟨by omega,.inr ⟨hl,h3⟩⟩
 · rintro (h | ⟨h1,h | ⟨h2,h3⟩⟩)
   · left;omega
   · right;exact ⟨by omega,.inl (by omega)⟩
   · right
     rw [lexLt_snoc ix l h2]
     exact ⟨by omega,.inr ⟨by omega,h3⟩⟩
def wLe (a b:List Leg):Prop:=wLt ix b a=false
theorem wLe_no {a b:List Leg} (h:wLe ix a b) (c:wLt ix b a=true):False:=by
 unfold wLe at h
 rw [h] at c;cases c
theorem wLe_refl (a:List Leg):wLe ix a a:=wLt_irrefl ix a
theorem wLt_le {a b:List Leg} (h:wLt ix a b=true):wLe ix a b:=by
 unfold wLe
 cases c:wLt ix b a with
 | false=>rfl
 | true =>
   have:=wLt_trans ix h c
   rw [wLt_irrefl] at this;cases this
theorem wLe_sum {a b:List Leg} (h:wLe ix a b):wSum a≤wSum b:=by
 by_cases c:wSum b < wSum a
 · have:wLt ix b a=true:=(wLt_iff ix).2 (.inl c)
   exact (wLe_no ix h this).elim
 · omega
theorem wLe_len {a b:List Leg} (h:wLe ix a b) (hs:wSum a=wSum b):a.length≤b.length:=by
 by_cases c:b.length < a.length
 · have:wLt ix b a=true:=(wLt_iff ix).2 (.inr ⟨hs.symm,.inl c⟩)
   exact (wLe_no ix h this).elim
 · omega
theorem wLt_short {a b:List Leg} (h1:wSum a≤wSum b) (h2:a.length < b.length):wLt ix a b=true:=by
 rw [wLt_iff]
 by_cases c:wSum a < wSum b
 · exact .inl c
 · exact .inr ⟨by omega,.inl h2⟩
variable {S:List Nat→Prop} (inj:∀ s t,S s→S t→ix s=ix t→s=t)
include inj
theorem wLe_trans {a b c:List Leg} (ha:knownL S a) (hb:knownL S b) (h1:wLe ix a b) (h2:wLe ix b c):wLe ix a c:=by
 unfold wLe
 cases k:wLt ix c a with
 | false=>rfl
 | true =>
   rcases wLt_tri ix inj ha hb with h | h | h
   · have:=wLt_trans ix k h
     exact (wLe_no ix h2 this).elim
   · subst h;exact (wLe_no ix h2 k).elim
   · exact (wLe_no ix h1 h).elim
theorem wLe_anti {a b:List Leg} (ha:knownL S a) (hb:knownL S b) (h1:wLe ix a b) (h2:wLe ix b a):a=b:=by
 rcases wLt_tri ix inj ha hb with h | h | h
 · exact (wLe_no ix h2 h).elim
 · exact h
 · exact (wLe_no ix h1 h).elim
end
end Go.Sim
