/-
Lemmas of one proof, the texts SimLib to Tab joined.
-/
import Derived.Test.YtlooccmcmeofhaaGreatDoorT12
import Derived.Shelf.Small.Strs
import Derived.Shelf.Strconv.Itoa3
import Derived.Shelf.Strings.OnBuilder
import Derived.Test.YtlooccmcmeofhaaGreatDoorProg
set_option linter.unusedSimpArgs false
set_option linter.unusedVariables false

set_option linter.unusedVariables false
namespace Go.Sim
open Go Go.Proofs Go.Shelf Go.RowKit
variable {P:Program} {ρ:Ren} {C:Cfg} {g:Gh} {n:Nat} {H:Heap} {w:World}
def Xf (l:List UInt8):List Nat:=l.map UInt8.toNat
theorem UH {a b:AV} {cargs:List Value} (h:Zb g n [a,b] cargs):∃ x y,cargs=[x,y]∧VRel g n a x∧VRel g n b y:=by
 have:=h.1
 match cargs,this with
 | [x,y],_=>exact ⟨x,y,rfl,h.2 0 _ _ rfl rfl,h.2 1 _ _ rfl rfl⟩
theorem Z0U {a:AV} {cargs:List Value} (h:Zb g n [a] cargs):∃ x,cargs=[x]∧VRel g n a x:=by
 have:=h.1
 match cargs,this with
 | [x],_=>exact ⟨x,rfl,h.2 0 _ _ rfl rfl⟩
def V4:Nat→Nat→List Nat
 | 0,_=>[]
 | f+1,n=>cond (Nat.blt n 10) [48+n] ((48+n % 10)::V4 f (n / 10))
def Zi (n:Int):List Nat:=match n with
 | .ofNat n=>(V4 20 n).reverse
 | .negSucc n=>45::(V4 20 (n+1)).reverse
theorem Dr:∀ (f n:Nat),n < 10 ^ (f+1)→(V4 (f+1) n).reverse=Xf (Lib.decDigits n)
 | f,n,h=>by
   unfold V4 Lib.decDigits;by_cases h1:n < 10
   · have:Nat.blt n 10=true:=by rw [Nat.blt_eq];exact h1
     simp only [this,cond,h1,dif_pos,Xf,List.map_cons,List.map_nil,List.reverse_cons,List.reverse_nil,List.nil_append,UInt8.toNat_ofNat'];have:48+n=(48+n) % 256:=by omega
     rw [← this]
   · have:Nat.blt n 10=false:=by
      rw [Bool.eq_false_iff];intro h';rw [Nat.blt_eq] at h';exact h1 h'
     obtain ⟨f,rfl⟩:∃ f',f=f'+1:=⟨f - 1,by
      cases f with
      | zero=>simp at h;omega
      | succ f=>simp⟩
     have ih:=Dr f (n / 10) (by rw [Nat.pow_succ] at h;omega);simp only [this,cond,h1,dif_neg,not_false_eq_true,List.reverse_cons,ih,Xf,List.map_append,List.map_cons,List.map_nil,UInt8.toNat_ofNat'];have:48+n % 10=(48+n % 10) % 256:=by omega
     rw [← this]
theorem Z0V {n:Int} (h0:-9223372036854775808≤n) (h1:n≤9223372036854775807):Zi n=Xf (Lib.itoa n):=by
 unfold Zi Lib.itoa
 cases n with
 | ofNat n =>
   have:¬ (Int.ofNat n < 0):=by simp
   rw [if_neg this]
   exact Dr 19 n (by simp at h1;omega)
 | negSucc n =>
   have:Int.negSucc n < 0:=Int.negSucc_lt_zero n
   rw [if_pos this]
   have h:=Dr 19 (n+1) (by have:Int.negSucc n = -((n:Int)+1):=by omega
                           omega)
   simp only [h,Xf,List.map_cons,Int.natAbs_negSucc]
   rfl
def Kq:List AV→Option AV
 | [.int .i64 n]=>if -9223372036854775808≤n∧n≤9223372036854775807 then some (.str (Zi n)) else none
 | _=>none
def V5:List AV:=(List.range 20).map fun i=>.int .u64 ((10 ^ i:Nat):Int)
theorem Z0W (hR:Rel C g H w) {x:Nat} (hx:C.glob x=some V5) {name:String} (hn:P.globalNamed name=some x):Lib.TabIs P w name .u64 Lib.pow10Tab:=by
 obtain ⟨⟨c,e,fz,h1,h2⟩,_⟩:=hR.gsz x _ hx;obtain ⟨vals,hv,hk⟩:=hR.glob x _ hx;unfold Lib.TabIs World.var?;rw [hn];simp only [Option.bind_some,h1]
 congr 1
 apply Array.ext_getElem?;intro i;by_cases hi:i < 20
 · have ha:V5[i]? = some (.int .u64 ((10 ^ i:Nat):Int)):=by
    unfold V5;simp [hi]
   obtain ⟨v,hvi,hr⟩:=Zg.get hv ha;cases hr;have:=hR.know _ _ _ (hk i _ hvi);unfold World.cell? at this;rw [h1] at this;simp only [Option.isSome_none,Bool.false_eq_true,if_false] at this;rw [this];simp [Lib.pow10Tab,hi]
 · rw [Array.getElem?_eq_none (by rw [h2];simp [V5];omega),Array.getElem?_eq_none (by simp [Lib.pow10Tab];omega)]
theorem Z0X (w:World) (k:Nat) (os:Array Obj):Below w.heap.size w (Go.Sort.grow (w.drewN k) os):=by
 refine ⟨rfl,rfl,rfl,by simp [Go.Sort.grow,World.drewN],fun b hb => ?_⟩;show (w.heap++os)[b]? = _;rw [Array.getElem?_append_left hb]
theorem Z0Y (hP:C.P=P) (L:LaysM.n171 P ρ) (hcall:Uq P (ρ.f 171)) {x:Nat} (hx:C.glob x=some V5) (hn:P.globalNamed "internal/strconv.uint64pow10" = some x) {args:List AV} {v:AV} (h:Kq args=some v) (lo:Nat) (H:Heap):Zc C lo (ρ.f 171) args H v H:=by
 unfold Kq at h;split at h
 · rename_i m
   split at h
   · rename_i hm
     simp at h;subst h;refine ⟨hP ▸ hcall,fun g w cargs hR ha => ?_⟩;obtain ⟨y,rfl,hy⟩:=Z0U ha;cases hy;rw [hP,callsIn_wide];refine (Any.strconv_Itoa L m hm.1 hm.2 w (Z0W hR hx hn)).mono ?_;rintro e w' ⟨rfl,k,os,rfl⟩;obtain ⟨r1,r2⟩:=hR.below (Z0X w k os) lo;refine ⟨g,r1,r2,.str ?_⟩;rw [Z0V hm.1 hm.2];rfl
   · cases h
 · cases h
def JD:List (List AV)→Option (List (List Nat))
 | []=>some []
 | [.str s]::r=>match JD r with
   | some l=>some (s::l)
   | none=>none
 | _=>none
def Ja (sep:List Nat):List (List Nat)→List Nat
 | []=>[]
 | s::r=>s++(r.map (sep ++ ·)).flatten
def Jb:List AV→Option AV
 | [.ps _ rows,.str sep]=>match JD rows with
   | some l=>if (Ja sep l).length≤Z1∧rows.length≤Z1 then some (.str (Ja sep l)) else none
   | none=>none
 | _=>none
theorem EW:∀ {rows:List (List AV)} {l:List (List Nat)},JD rows=some l→l.length=rows.length∧rows.flatten=l.map AV.str
 | [],l,h=>by simp [JD] at h;subst h;simp
 | r::rs,l,h=>by
   unfold JD at h;split at h
   · rename_i h1;cases h1
   · rename_i s r' heq
     simp only [List.cons.injEq] at heq;obtain ⟨rfl,rfl⟩:=heq;split at h
     · rename_i l' hl'
       simp at h;subst h;obtain ⟨h1,h2⟩:=EW hl';exact ⟨by simp [h1],by simp [h2]⟩
     · cases h
   · cases h
theorem Z0Z (xs:List (List UInt8)) (sep:List UInt8):Xf (Lib.join xs sep)=Ja (Xf sep) (xs.map Xf):=by
 cases xs with
 | nil=>rfl
 | cons x r =>
   rw [Lib.join_cons];simp only [Ja,List.map_cons,Xf,List.map_append,Lib.joinTail,List.map_flatten,List.map_map]
   congr 2
   apply List.map_congr_left;intro a _;simp [Xf]
def V7:Value→ByteArray
 | .string b=>b
 | _=>.empty
theorem Z10 (hP:C.P=P) (L:Lays.n156 P ρ) (X:Builder.Extra P ρ) (hcall:Uq P (ρ.f 156)) {args:List AV} {v:AV} (h:Jb args=some v) (lo:Nat) (H:Heap):Zc C lo (ρ.f 156) args H v H:=by
 unfold Jb at h;split at h
 case h_2=>cases h
 rename_i tok rows sep
 split at h
 case h_2=>cases h
 rename_i l hl
 split at h
 case isFalse=>cases h
 rename_i hlen
 simp at h;subst h;obtain ⟨hl1,hl2⟩:=EW hl;refine ⟨hP ▸ hcall,fun g w cargs hR ha => ?_⟩;obtain ⟨x,y,rfl,hx,hy⟩:=UH ha;generalize hA:AV.ps tok rows=A at hx;cases hy with
 | @str _ _ sb hy =>
 rw [hP,callsIn_wide];cases hx<;>cases hA
 · rename_i b o cap sz vals hk hsz hvl hvv hcap htok
   cases hrows:rows with
   | nil =>
     subst hrows;simp [JD] at hl;subst hl;refine (Any.strings_Join_none L X _ _ _ w).mono ?_;rintro e w' ⟨rfl,rfl⟩;exact ZL.same hR (.str rfl)
   | cons r0 rr =>
     have hvall:∀ (i:Nat) (s:List Nat),l[i]? = some s → ∃ bb:ByteArray,vals[i]? = some (Value.string bb)∧Xf bb.data.toList=s:=by
      intro i s hi;have hf:rows.flatten[i]? = some (.str s):=by rw [hl2];simp [hi]
      obtain ⟨vi,hvi⟩:∃ vi,vals[i]? = some vi:=by
       have:i < vals.length:=by rw [← hvl];exact (List.getElem?_eq_some_iff.1 hf).1
       exact ⟨vals[i],by simp⟩
      have:=hvv i _ _ hf hvi;cases this with
      | @str _ _ bb hb=>exact ⟨bb,hvi,hb⟩
     have hvlen:vals.length=rows.length:=by rw [← hvl,hl2];simp [hl1]
     have hxs:∀ (j:Nat) (x:ByteArray),(vals.map V7)[j]? = some x→w.cell? ⟨b,o+j,none⟩=some (.string x):=by
      intro j x hj;simp only [List.getElem?_map,Option.map_eq_some_iff] at hj;obtain ⟨v,hv,rfl⟩:=hj;have hlt:j < l.length:=by rw [hl1,← hvlen];exact (List.getElem?_eq_some_iff.1 hv).1
      obtain ⟨bb,h1,h2⟩:=hvall j l[j] (by simp);rw [hv] at h1;cases h1;exact hR.know _ _ _ (hk j _ hv)
     have hnx:(vals.map V7).map (fun x=>Xf x.data.toList)=l:=by
      apply List.ext_getElem?;intro i;simp only [List.map_map,List.getElem?_map];cases hi:l[i]? with
      | none =>
        have:vals[i]? = none:=by
         rw [List.getElem?_eq_none_iff] at hi ⊢;omega
        rw [this];rfl
      | some s =>
        obtain ⟨bb,h1,h2⟩:=hvall i s hi;rw [h1];simp [V7,h2]
     have hjoin:Xf (Lib.join ((vals.map V7).map (·.data.toList)) sb.data.toList)=Ja sep l:=by
      rw [Z0Z,← hy,← hnx];rw [List.map_map,List.map_map,List.map_map];rfl
     have hjl:(Lib.join ((vals.map V7).map (·.data.toList)) sb.data.toList).length≤140737488355328:=by
      have:=congrArg List.length hjoin;simp only [Xf,List.length_map] at this;rw [this];have:=hlen.1;unfold Z1 at this;omega
     have hbk:b < w.heap.size:=by
      have:0 < vals.length:=by rw [hvlen,hrows];simp
      exact Kl hR (hk 0 vals[0] (by simp))
     have hrun:=Any.strings_Join L X b o cap (vals.map V7) sb w hxs hbk (by simp [hvlen];have:=hlen.2;unfold Z1 at this;omega) (by simp [hvlen];exact hcap) hjl;rw [show (vals.map V7).length=rows.length by simp [hvlen],hrows] at hrun;refine hrun.mono ?_;rintro e w' ⟨rfl,hb⟩;obtain ⟨r1,r2⟩:=hR.below hb lo;exact ⟨g,r1,r2,.str hjoin⟩
 · simp [JD] at hl;subst hl;refine (Any.strings_Join_none L X _ _ _ w).mono ?_;rintro e w' ⟨rfl,rfl⟩;exact ZL.same hR (.str rfl)
 · simp [JD] at hl;subst hl;refine (Any.strings_Join_none L X _ _ _ w).mono ?_;rintro e w' ⟨rfl,rfl⟩;exact ZL.same hR (.str rfl)
end Go.Sim

namespace Go.Sim
open Go
def VH:Nat:=560995637216480995477648792023414912109432610411988837348155542113800129307893207209167891946827268160
def Z11:Nat:=130370799930060325072041174314463467760378379992160525124871703460869248034329975413675130880
def freeM:Nat:=260788348760364594591014119474739710318023557534404862798999545044263161365374990058996629504
def Z12:Nat:=130370302485418225561747306412960865121854811233773833959240890252828191112918308856182865920
def refM:Nat:=130370303335324764343948147249989214488958121879714823758681841116627646930292995012817846272
def refT:Nat:=904625697166532776746648320380374323659814722348090830098441615794111512576
abbrev oD (k m:Nat):OpI:=⟨.data,k,m,[]⟩
abbrev oL (k m:Nat):OpI:=⟨.load,k,m,[]⟩
abbrev oR (k m:Nat):OpI:=⟨.read,k,m,[]⟩
abbrev oF (k m:Nat):OpI:=⟨.fresh,k,m,[]⟩
abbrev oW (k m:Nat):OpI:=⟨.writeAt,k,m,[]⟩
def q6_6:List OpI:=[oD 0 0,oL 0 0,oR 0 2,oD 0 0,oL 0 8,oD 0 0,oD 0 32,oD 0 96,oD 0 248,oR 0 510,oD 0 1023,oR 0 2047,oD 0 4095]
def q6_9:List OpI:=[oD 0 0,oD 0 0,oW 0 3,⟨.load,0,0,[2]⟩,oD 0 8,oW 1 31,oR 2 63,oD 2 127]
def Ds:List OpI:=[oF 0 0,oD 0 0,oL 0 2,oR 1 7,oD 1 15,oL 0 0,⟨.write,1,63,[]⟩]
def Dt:List OpI:=[oD 0 0,oD 0 0,oD 0 3,oD 0 7,oL 0 15,oD 0 0,oD 0 0,oD 0 96,oD 0 224,oL 0 480,oD 0 1023,oD 0 2047,oD 0 4095,oD 0 4095,oD 0 16383,oD 0 32767,oL 0 65535,oD 0 4095,oD 0 4095,oD 0 397311,oD 0 921599,oL 0 1970175,oD 0 4194303,oD 0 8388607,oD 0 16777215,oD 0 33554431,oD 0 33554431,oD 0 134217727,oD 0 268435455,oL 0 536870911,oD 0 33554431,oD 0 33554431,oD 0 3254779903,oD 0 7549747199,oL 0 16139681791,oR 0 34359738367,oD 0 68719476735,oD 0 137438953471,oD 0 274877906943,oD 0 549755813887,oD 0 549755813887,oD 0 2199023255551,oD 0 4398046511103,oL 0 8796093022207,oD 0 549755813887,oD 0 549755813887,oD 0 53326313947135,oD 0 123695058124799,oL 0 264432546480127,oR 0 562949953421311,oD 0 1125899906842623,oD 0 2251799813685247,oD 0 4503599627370495,oD 0 9007199254740991,oD 0 9007199254740991,oD 0 36028797018963967,oD 0 72057594037927935,oL 0 144115188075855871,oD 0 9007199254740991,oD 0 9007199254740991,oD 0 873698327709876223,oD 0 2026619832316723199,oL 0 4332462841530417151,oD 0 9223372036854775807,oD 0 18446744073709551615]
def Du:List OpI:=[oD 0 0,oD 0 0,oD 0 3,oL 0 7,oD 0 0,oD 0 0,oD 0 48,oL 0 112,oD 0 255]
def Dv:List OpI:=[oD 0 0,oL 0 0,oR 0 2,oD 0 0,oL 0 8,oD 0 0,oD 0 32,oD 0 96,oD 0 248,oR 0 510,oD 0 1023,oR 0 2047,oD 0 4095]
def Dw:List OpI:=[oD 0 0,oD 0 0,oD 0 0,oD 0 6,oL 0 14,oR 0 30,oD 0 63,oD 0 127,oD 0 0,oD 0 0,oD 0 768,oL 0 1792,oR 0 3902,oR 0 7998,oD 0 16383,oD 0 32767,oD 0 65535]
def Dx:List OpI:=[oF 0 0,oD 0 0,oD 0 2,oL 0 6,oR 1 15,oD 1 31,oD 1 63,oD 1 63,oF 0 0,oW 2 383,oD 3 1023]
def Dy:List OpI:=[oD 0 0,oL 0 0,oD 0 0,oD 0 4,oR 0 15,oD 0 31,oD 0 31,oD 0 127,oD 0 255]
def Dz:List OpI:=[oF 0 0,oD 0 0,oD 0 2,oL 0 6,oR 1 15,oD 1 31,oD 1 63,oD 1 63,oF 0 0,oW 2 383,oD 3 1023]
def DA:List OpI:=[oD 0 0,oD 0 1,oR 0 3,oD 0 0,oD 0 8,oD 0 24,oD 0 56,oL 0 120,oD 0 248,oD 0 504,oR 0 1023,oD 0 2047,oR 0 4095,oD 0 8191]
def DB:List OpI:=[oD 0 0,oD 0 1,oD 0 3,oL 0 0,oR 0 15,oD 0 31]
def DC:List OpI:=[oD 0 0,oD 0 1,oD 0 3,oL 0 0,⟨.write,0,15,[]⟩]
def EX:List OpI:=[oD 0 0,oD 0 0,oD 0 3,oL 0 7,oD 0 0,oD 0 0,oD 0 48,oL 0 112,oD 0 255]
def DD:List OpI:=[oF 0 0,oD 0 0,oL 0 2,oR 1 7,oD 1 15,oD 1 31,oD 1 31,oF 0 0,oW 2 191,oD 3 511]
def DE:List OpI:=[oD 0 0,oL 0 1,oR 0 3,oD 0 0,oD 0 8,oR 0 31,oD 0 0,oL 0 64,oD 0 192,oD 0 0,oL 0 512,oD 0 1536,oD 0 4032,oD 0 8191,oD 0 16383,oL 0 32767,oD 0 65535,oD 0 16383,oL 0 147455,oD 0 524287,oD 0 1048575,oR 0 2097151,oD 0 4194303,oR 0 8388607,oD 0 16777215]
def DF:List OpI:=[oD 0 0,oD 0 1,oD 0 3,oD 0 0,oD 0 8,oD 0 24,oD 0 0,oR 0 120,oD 0 0,oR 0 504,oD 0 1016,oR 0 2040,oD 0 4095,oD 0 8191]
def DG:List OpI:=[oD 0 0,oD 0 1,oD 0 3,oL 0 7,oD 0 0,oR 0 16,oD 0 0,oL 0 64,oD 0 192,oL 0 448,oR 0 1008,oD 0 2047,oD 0 4095,oL 0 8191,oD 0 16383]
def DH:List OpI:=[oD 0 0,oD 0 0,oD 0 2,oD 0 6,oL 0 14,oD 0 0,oR 0 32,oD 0 0,oL 0 128,oD 0 384,oL 0 896,oR 0 2016,oD 0 4094,oD 0 8190,oL 0 16382,oF 0 32767,oD 1 65535,oD 1 131071,oL 1 262143,oD 1 524287]
def DI:List OpI:=[oD 0 0,oL 0 1,oD 0 3,oF 0 7,oD 0 0,oL 0 16,oD 0 48,oF 0 112,oD 1 15,oD 2 511]
def DJ:List OpI:=[oD 0 0,oD 0 0,oD 0 3,oL 0 7,oD 0 0,oD 0 0,oD 0 48,oL 0 112,oD 0 255]
def DK:List OpI:=[oD 0 0,oD 0 1,oD 0 3,oL 0 7,oD 0 0,oR 0 16,oD 0 0,oR 0 112,oD 0 255,oD 0 511]
def DL:List OpI:=[oD 0 0,oD 0 0,oD 0 3,oR 0 7,oD 0 0,oD 0 0,oD 0 32,oD 0 112,oD 0 255]
def DM:List OpI:=[oL 0 0,oD 0 0,oD 0 0,oD 0 6,oR 0 14,oW 0 31,oD 1 63]
def DN:List OpI:=[oD 0 0,oD 0 0,oD 0 2,oD 0 7,oD 0 0,oR 0 16,oD 0 63]
def DO:List OpI:=[oD 0 0,oL 0 1,oR 0 3,oD 0 7,oD 0 0,oL 0 16,oD 0 63,oD 0 127]
def DP:List OpI:=[oD 0 0,oL 0 1,oD 0 0,oD 0 0,oD 0 12,oL 0 28,oD 0 60,oW 0 127,oD 1 255,oW 1 511]
def DQ:List OpI:=[oD 0 0,oD 0 1,oD 0 3,oD 0 7,oD 0 0,oL 0 16,oR 0 63,oD 0 0,oR 0 255,oD 0 511]
def DR:List OpI:=[oD 0 0,oL 0 1,oD 0 0,oD 0 4,oD 0 12,oD 0 28,oD 0 0,⟨.write,0,127,[]⟩,oD 1 255]
def DS:List OpI:=[oF 0 0,oD 0 0,oL 0 2,oR 1 7,oD 1 15,oD 1 31,oD 1 31,oF 0 0,oW 2 191,oD 3 511]
def DT:List OpI:=[oL 0 0,oD 0 0,oD 0 2,oD 0 6,oL 0 14,oD 0 30,oD 0 62,oD 0 126,oD 0 254,oD 0 510,oL 0 1022,oD 0 2046,oD 0 4094,oD 0 8190,⟨.writeAt,0,127,[10]⟩,oD 1 32767]
def DU:List OpI:=[oD 0 0,oL 0 1,oD 0 0,oD 0 4,oD 0 12,oL 0 28,oD 0 60,oD 0 124,oD 0 255]
def DV:List OpI:=[oD 0 0,oD 0 1,oD 0 3,oL 0 7,oD 0 0,oD 0 16,oD 0 48,oL 0 112,oD 0 240,oD 0 496,oD 0 1023,oD 0 2047,oL 0 4095,oD 0 8191]
def DW:List OpI:=[oD 0 0,oL 0 1,oD 0 3,oL 0 7,oD 0 0,oD 0 16,oD 0 48,oD 0 112,oL 0 240,oD 0 511]
def DX:List OpI:=[oF 0 0,oD 0 0,oL 0 2,oR 1 7,oF 0 0,oW 2 31]
def DY:List OpI:=[oD 0 0,oD 0 1,oD 0 3,oL 0 0,oL 0 0,oR 0 31,oD 0 63]
def DZ:List OpI:=[oD 0 0,oL 0 1,oD 0 0,oD 0 4,oD 0 12,oL 0 0,⟨.write,0,63,[]⟩,oD 1 127]
def C0:List OpI:=[oD 0 0,oD 0 0,oD 0 2,oD 0 6,oL 0 14,oL 0 0,oD 0 32,oW 0 126,oD 1 255,oD 1 511,oW 1 1023]
def C1:List OpI:=[oD 0 0,oD 0 0,oD 0 2,oD 0 6,oL 0 14,oD 0 0,oD 0 32,oD 0 96,oL 0 224,oD 0 480,oD 0 992,oD 0 2046,oD 0 4095,oD 0 8191,oW 0 16383]
def C3:List OpI:=[oD 0 0,oD 0 0,oD 0 2,oD 0 6,oL 0 14,oL 0 0,oD 0 32,oW 0 126,oD 1 255,oD 1 511,oW 1 1023]
def C4:List OpI:=[oF 0 0,oD 0 0,oL 0 2,oR 1 7,oD 1 15,oD 0 0,oD 0 32,oD 0 96,oL 0 0,⟨.write,1,511,[]⟩]
def C5:List OpI:=[oF 0 0,oD 0 0,oL 0 2,oR 1 7,oD 1 15,oL 0 0,⟨.write,1,63,[]⟩]
def C6:List OpI:=[oD 0 0,oD 0 1,oD 0 3,oL 0 7,oD 0 0,oR 0 16,oD 0 0,oR 0 112,oD 0 255,oD 0 511]
def C7:List OpI:=[oD 0 0,oL 0 1,oD 0 3,oL 0 7,oR 0 15,oD 0 0,oD 0 32,oD 0 96,oL 0 224,oD 0 480,oD 0 992,oR 0 2047,oD 0 4095,oR 0 8191,oD 0 16383]
def C8:List OpI:=[oD 0 0,oD 0 0,oD 0 2,oD 0 6,oL 0 14,oD 0 0,oL 0 32,oD 0 96,oL 0 224,oD 0 0,oL 0 512,oD 0 1536,oL 0 3584,oD 0 8160,oD 0 16352,oW 0 32766,oD 1 65535,oD 1 131071,oW 1 262143]
def C9:List OpI:=[oD 0 0,oD 0 0,oL 0 2,oD 0 6,oL 0 14,oR 0 30,oD 0 0,oD 0 64,oD 0 192,oL 0 448,oD 0 960,oD 0 1984,oR 0 4094,oD 0 8191,oR 0 16383,oD 0 32767]
def Ca:List OpI:=[oD 0 0,oL 0 1,oD 0 3,oL 0 7,oD 0 0,oL 0 16,oD 0 48,oL 0 112,oD 0 255,oF 0 0,oW 1 1023]
def Cb:List OpI:=[oL 0 0,oD 0 0,oL 0 2,oD 0 0,oL 0 8,oD 0 30,oD 0 62,oD 0 126,oL 0 254,oD 0 510,oD 0 1022,oR 0 2046,oW 0 4095,oD 1 8191]
def Cc:List OpI:=[oD 0 0,oD 0 0,oD 0 2,oD 0 6,oL 0 14,oD 0 0,oL 0 32,oD 0 96,oL 0 224,oD 0 0,oL 0 512,oD 0 1536,oL 0 3584,oL 0 0,oD 0 0,oL 0 16384,oD 0 49152,oL 0 114688,oD 0 262112,oD 0 524256,oW 0 1048574,oD 1 2097151,oD 1 4194303,oW 1 8388607]
def Cd:List OpI:=[oD 0 0,oD 0 1,oD 0 3,oL 0 7,oR 0 15,oD 0 0,oD 0 32,oD 0 96,oL 0 224,oR 0 511,oD 0 1023,oR 0 2047,oD 0 4095]
def Ce:List OpI:=[oD 0 0,oD 0 0,oL 0 2,oD 0 6,oL 0 14,oF 0 31,oD 0 0,oD 0 0,oL 0 128,oD 0 384,oL 0 896,oF 1 2047,oD 2 4095,oD 2 8191]
def Cf:List OpI:=[oD 0 0,oD 0 1,oD 0 3,oD 0 7,oL 0 15,oD 0 0,oD 0 32,oD 0 96,oD 0 224,oL 0 480,oD 0 1023,oD 0 2047,oD 0 4095,oD 0 8191,oD 0 16383,oD 0 32767,oL 0 65535,oD 0 4095,oD 0 135167,oD 0 397311,oD 0 921599,oL 0 1970175,oD 0 4194303,oD 0 8388607,oD 0 16777215]
def Cg:List OpI:=[oD 0 0,oD 0 1,oD 0 3,oL 0 7,oR 0 15,oD 0 0,oD 0 32,oD 0 96,oL 0 224,oD 0 511,oD 0 1023,oD 0 2047,oD 0 4095,oL 0 8191,oD 0 1023,oD 0 17407,oD 0 50175,oL 0 115711,oD 0 262143,oD 0 524287,oD 0 1048575,oD 0 2097151,oD 0 4194303,oR 0 8388607,oD 0 0,oD 0 0,oD 0 33554432,oD 0 100663296,oL 0 234881024,oR 0 536870911,oD 0 0,oD 0 2147483647,oR 0 4294967295,oD 0 8589934591,oR 0 17179869183,oD 0 34359738367]
def Ch:List OpI:=[oD 0 0,oL 0 1,oD 0 3,oL 0 7,oD 0 0,oL 0 16,oD 0 48,oL 0 112,oD 0 15,oD 0 511]
def Ci:List OpI:=[oD 0 0,oD 0 0,oR 0 3,oR 0 7,oD 0 0,oD 0 0,oR 0 63,oR 0 127,oD 0 0,oD 0 256,oD 0 1023,oD 0 2047,oD 0 2047,oD 0 2047,oR 0 14335,oD 0 32767,oD 0 65535,oR 0 131071,oD 0 0,oD 0 262144,oD 0 786432,oL 0 1835008,oD 0 3932160,oD 0 8126464,oR 0 16777215,oD 0 33554431,oR 0 67108863,oD 0 134217727]
def Cj:List OpI:=[oD 0 0,oD 0 0,oD 0 2,oD 0 6,oL 0 14,oD 0 0,oL 0 32,oD 0 96,oL 0 224,oD 0 0,oL 0 512,oD 0 1536,oL 0 3584,oD 0 0,oL 0 8192,oD 0 24576,oL 0 57344,oD 0 131040,oD 0 262112,oW 0 524286,oD 1 1048575,oD 1 2097151,oW 1 4194303]
def Ck:List OpI:=[oD 0 0,oL 0 1,oD 0 0,oL 0 4,oD 0 12,oL 0 28,oD 0 63,oD 0 127]
def Cl:List OpI:=[oD 0 0,oD 0 0,oR 0 2,oD 0 0,oL 0 0,oL 0 0,oR 0 62,oR 0 126,oD 0 0,oD 0 256,oD 0 768,oL 0 1792,oD 0 3840,oD 0 7936,oR 0 16382,oD 0 32767,oR 0 65535,oD 0 131071]
def Cm:List OpI:=[oD 0 0,oD 0 0,oD 0 2,oD 0 6,oL 0 14,oD 0 0,oL 0 32,oD 0 96,oL 0 224,oD 0 0,oL 0 512,oD 0 1536,oL 0 3584,oL 0 0,oD 0 16352,oD 0 32736,oW 0 65534,oD 1 131071,oD 1 262143,oW 1 524287]
def Co:List OpI:=[oD 0 0,oD 0 1,oD 0 3,oL 0 7,oD 0 15,oR 0 31,oD 0 0,oD 0 0,oD 0 128,oD 0 384,oL 0 896,oR 0 2047,oD 0 0,oD 0 8191,oR 0 16383,oD 0 32767,oR 0 65535,oD 0 131071]
def Cp:List OpI:=[oD 0 0,oD 0 1,oD 0 3,oL 0 7,oD 0 15,oR 0 31,oD 0 0,oD 0 64,oD 0 192,oL 0 448,oD 0 960,oD 0 1984,oR 0 4095,oD 0 8191,oR 0 16383,oD 0 32767]
def Cq:List OpI:=[oD 0 0,oD 0 0,oD 0 2,oD 0 6,oL 0 14,oD 0 0,oL 0 32,oD 0 96,oL 0 224,oD 0 0,oL 0 512,oD 0 1536,oL 0 3584,oD 0 8160,oD 0 16352,oW 0 32766,oD 1 65535,oD 1 131071,oW 1 262143]
def Cr:List OpI:=[oD 0 0,oL 0 1,oD 0 0,oL 0 4,oD 0 12,oL 0 28,oD 0 63,oD 0 127]
def Cs:List OpI:=[oD 0 0,oL 0 1,oD 0 3,oL 0 7,oR 0 15,oD 0 0,oD 0 32,oD 0 96,oL 0 224,oD 0 480,oR 0 1023,oD 0 0,oD 0 2048,oD 0 6144,oL 0 14336,oD 0 0,oL 0 32768,oD 0 98304,oL 0 229376,oD 0 522240,oD 0 1046528,oR 0 2097151,oD 0 4194303,oR 0 8388607,oD 0 16777215]
def Ct:List OpI:=[oD 0 0,oD 0 1,oD 0 3,oL 0 7,oD 0 0,oL 0 16,oD 0 48,oL 0 112,oD 0 255,oD 0 511,oD 0 1023,oW 0 2047]
def Cu:List OpI:=[oD 0 0,oL 0 1,oD 0 3,oL 0 7,oR 0 15,oD 0 0,oD 0 32,oD 0 96,oL 0 224,oD 0 0,oL 0 512,oD 0 1536,oL 0 3584,oD 0 8160,oR 0 16383,oD 0 32767,oR 0 65535,oD 0 131071]
def Cv:List OpI:=[oD 0 0,oD 0 1,oD 0 3,oL 0 7,oD 0 0,oL 0 16,oD 0 48,oL 0 112,oD 0 255,oD 0 511,oD 0 1023,oW 0 2047]
def Cw:List OpI:=[oD 0 0,oD 0 1,oD 0 3,oL 0 7,oR 0 15,oD 0 0,oD 0 32,oD 0 96,oL 0 224,oD 0 480,oR 0 1023,oD 0 2047,oR 0 4095,oD 0 8191]
def Cx:List OpI:=[oD 0 0,oL 0 1,oD 0 3,oL 0 7,oR 0 15,oD 0 0,oD 0 32,oD 0 96,oL 0 224,oD 0 480,oR 0 1023,oD 0 2047,oR 0 4095,oD 0 8191]
def Cy:List OpI:=[oD 0 0,oD 0 0,oD 0 0,oD 0 0,oD 0 8,oD 0 24,oL 0 56,oD 0 120,oD 0 0,oL 0 256,oD 0 768,oL 0 1792,oD 0 3961,oD 0 8057,oW 0 16249,oD 1 32763,oD 1 65531,oW 1 131067,oD 2 262143,oD 2 524287,oW 2 1048575]
def Cz:List OpI:=[oD 0 0,oD 0 0,oD 0 2,oD 0 6,oL 0 14,oR 0 31,oD 0 63,oD 0 127,oR 0 255,oD 0 0,oD 0 512,oD 0 1536,oL 0 3584,oD 0 7680,oR 0 16383,oD 0 32767,oR 0 65535,oD 0 131071]
def CA:List OpI:=[oD 0 0,oD 0 1,oD 0 3,oL 0 7,oD 0 15,oR 0 31,oD 0 0,oL 0 64,oD 0 192,oL 0 448,oR 0 1023,oD 0 0,oL 0 2048,oD 0 6144,oL 0 14336,oD 0 0,oD 0 32768,oD 0 98304,oL 0 229376,oD 0 522240,oR 0 1048575,oD 0 2097151,oR 0 4194303,oD 0 8388607]
def CB:List OpI:=[oD 0 0,oL 0 1,oR 0 3,oD 0 0,oL 0 8,oD 0 31,oD 0 0,oL 0 64,oW 0 255,oD 1 511]
def CD:List OpI:=[oD 0 0,oD 0 0,oD 0 3,oD 0 0,oD 0 0,oD 0 0,oD 0 32,oD 0 112,oD 0 248,oD 0 7,oD 0 1023,oD 0 2047]
def CF:List OpI:=[oD 0 0,oD 0 0,oD 0 2,oD 0 6,oD 0 14,oD 0 30,oD 0 62,oD 0 126,oD 0 254,oD 0 510,oD 0 1022,oD 0 2046,oD 0 4094,oD 0 255,oD 0 16383]
def CG:List OpI:=[oD 0 0,oD 0 0,oR 0 3,oD 0 0,oL 0 8,oD 0 0,oD 0 56,oL 0 120,oR 0 255,oD 0 511]
def CH:List OpI:=[oD 0 0,oD 0 1,oD 0 3,oL 0 7,oD 0 0,oR 0 16,oD 0 0,oR 0 112,oD 0 255,oD 0 511]
def EY:List OpI:=[oD 0 0,oD 0 1,oD 0 3,oD 0 7,oD 0 7,oD 0 7,oD 0 39,oD 0 119,oL 0 247,oD 0 7,oD 0 7,oD 0 1543,oL 0 3591,⟨.write,0,8191,[]⟩,oD 1 16383,oD 1 32767,oD 1 65535]
def CI:List OpI:=[oL 0 0,oD 0 0,oD 0 0,oL 0 4,oD 0 12,oL 0 28,oF 0 62,oL 0 0,⟨.write,1,255,[]⟩]
def EZ:List OpI:=[oD 0 0,oD 0 0,oD 0 3,oD 0 7,oD 0 15,oD 0 15,oD 0 15,oD 0 111,oL 0 239,oD 0 15,oD 0 15,oD 0 1039,oD 0 3599,oL 0 7695,⟨.write,0,16383,[]⟩,oD 1 32767,oD 1 65535]
def H7:List OpI:=[oD 0 0,oD 0 0,oD 0 0,oD 0 0,oD 0 8,oD 0 0,oD 0 0,oD 0 64,oD 0 224,oL 0 480,oD 0 0,oD 0 0,oD 0 3072,oL 0 7168,oD 0 16355,oW 0 32739,oD 1 65535,oW 1 131071]
def H8:List OpI:=[oD 0 0,oD 0 0,oD 0 0,oD 0 0,oD 0 0,oD 0 24,oD 0 0,oD 0 0,oD 0 0,oD 0 384,oD 0 960,oL 0 1984,oD 0 0,oD 0 0,oD 0 12288,oL 0 28672,oD 0 65475,oW 0 131011,oD 1 262143,oW 1 524287]
def H9:List OpI:=[oD 0 0,oD 0 0,oD 0 0,oD 0 0,oD 0 0,oD 0 24,oD 0 0,oD 0 0,oD 0 0,oD 0 384,oD 0 960,oL 0 1984,oD 0 0,oD 0 0,oD 0 12288,oL 0 28672,oD 0 65475,oW 0 131011,oD 1 262143,oW 1 524287]
def Ha:List OpI:=[oD 0 0,oD 0 0,oD 0 0,oD 0 0,oD 0 0,oD 0 0,oD 0 48,oL 0 112,oD 0 0,oD 0 0,oD 0 768,oL 0 1792,oD 0 4083,oW 0 8179,oD 1 16383,oW 1 32767]
def Hb:List OpI:=[oD 0 0,oD 0 0,oD 0 3,oD 0 7,oD 0 15,oD 0 15,oD 0 15,oD 0 111,oL 0 239,oD 0 15,oD 0 15,oD 0 1039,oD 0 3599,oL 0 7695,⟨.write,0,16383,[]⟩,oD 1 32767,oD 1 65535,oD 1 131071]
def Hd:List OpI:=[oD 0 0,oD 0 0,oD 0 0,oD 0 0,oD 0 8,oD 0 0,oD 0 0,oD 0 64,oD 0 224,oL 0 480,oD 0 0,oD 0 0,oD 0 3072,oL 0 7168,oD 0 16355,oW 0 32739,oD 1 65535,oW 1 131071]
def He:List OpI:=[oD 0 0,oD 0 0,oD 0 0,oD 0 6,oL 0 14,oD 0 0,oD 0 0,oD 0 64,oD 0 224,oL 0 480,⟨.write,0,1023,[]⟩,oD 1 2047,oD 1 4095]
def Hg:List OpI:=[oD 0 0,oD 0 0,oD 0 0,oD 0 0,oD 0 8,oD 0 0,oD 0 0,oD 0 64,oD 0 224,oL 0 480,oD 0 0,oD 0 0,oD 0 3072,oL 0 7168,oD 0 16355,oW 0 32739,oD 1 65535,oW 1 131071]
def Hh:List OpI:=[oD 0 0,oD 0 0,oD 0 0,oD 0 6,oL 0 14,oD 0 0,oD 0 0,oD 0 64,oD 0 224,oL 0 480,⟨.write,0,1023,[]⟩,oD 1 2047,oD 1 4095]
def Hi:List OpI:=[oD 0 0,oD 0 0,oD 0 0,oD 0 0,oD 0 8,oD 0 0,oD 0 0,oD 0 64,oD 0 224,oL 0 480,oD 0 0,oD 0 0,oD 0 3072,oL 0 7168,oD 0 16355,oW 0 32739,oD 1 65535,oW 1 131071]
def Hl:List OpI:=[oD 0 0,oD 0 0,oD 0 0,oD 0 0,oD 0 0,oD 0 0,oD 0 48,oL 0 112,oD 0 0,oD 0 0,oD 0 768,oL 0 1792,oD 0 4083,oW 0 8179,oD 1 16383,oW 1 32767]
def Hm:List OpI:=[oD 0 0,oD 0 0,oD 0 3,oD 0 7,oD 0 15,oD 0 15,oD 0 15,oD 0 111,oL 0 239,oD 0 15,oD 0 15,oD 0 1551,oL 0 3599,⟨.write,0,8191,[]⟩,oD 1 16383,oD 1 32767,oD 1 65535]
def Hn:List OpI:=[oD 0 0,oD 0 0,oD 0 3,oD 0 7,oD 0 15,oD 0 15,oD 0 15,oD 0 111,oL 0 239,oD 0 15,oD 0 15,oD 0 1551,oL 0 3599,⟨.write,0,8191,[]⟩,oD 1 16383,oD 1 32767]
def Ho:List OpI:=[oD 0 0,oD 0 0,oD 0 0,oD 0 0,oD 0 0,oD 0 0,oD 0 48,oL 0 112,oD 0 0,oD 0 0,oD 0 768,oL 0 1792,oD 0 4083,oW 0 8179,oD 1 16383,oW 1 32767]
def Hp:List OpI:=[oD 0 0,oD 0 0,oD 0 0,oD 0 0,oD 0 0,oD 0 0,oD 0 48,oL 0 112,oD 0 0,oD 0 0,oD 0 768,oL 0 1792,oD 0 4083,oW 0 8179,oD 1 16383,oW 1 32767]
def Hr:List OpI:=[oD 0 0,oD 0 0,oD 0 3,oD 0 7,oD 0 15,oD 0 15,oD 0 15,oD 0 111,oL 0 239,oD 0 15,oD 0 15,oD 0 1551,oL 0 3599,⟨.write,0,8191,[]⟩,oD 1 16383,oD 1 32767]
def Hs:List OpI:=[oD 0 0,oD 0 0,oD 0 3,oD 0 7,oD 0 15,oD 0 15,oD 0 15,oD 0 111,oL 0 239,oD 0 15,oD 0 15,oD 0 1551,oL 0 3599,⟨.write,0,8191,[]⟩,oD 1 16383,oD 1 32767,oD 1 65535]
def Ht:List OpI:=[oD 0 0,oD 0 0,oD 0 0,oD 0 0,oD 0 0,oD 0 0,oD 0 48,oL 0 112,oD 0 0,oD 0 0,oD 0 768,oL 0 1792,oD 0 4083,oW 0 8179,oD 1 16383,oW 1 32767]
def Hu:List OpI:=[oD 0 0,oD 0 0,oD 0 0,oD 0 0,oD 0 0,oD 0 0,oD 0 48,oL 0 112,oD 0 0,oD 0 0,oD 0 768,oL 0 1792,oD 0 4083,oW 0 8179,oD 1 16383,oW 1 32767]
def Hv:List OpI:=[oD 0 0,oD 0 0,oD 0 3,oD 0 7,oD 0 15,oD 0 15,oD 0 15,oD 0 111,oL 0 239,oD 0 15,oD 0 15,oD 0 1551,oL 0 3599,⟨.write,0,8191,[]⟩,oD 1 16383,oD 1 32767]
def Hw:List OpI:=[oD 0 0,oD 0 0,oD 0 3,oD 0 7,oD 0 15,oD 0 15,oD 0 15,oD 0 111,oL 0 239,oD 0 15,oD 0 15,oD 0 1551,oL 0 3599,⟨.write,0,8191,[]⟩,oD 1 16383,oD 1 32767,oD 1 65535]
def Hx:List OpI:=[oD 0 0,oD 0 0,oD 0 0,oD 0 0,oD 0 0,oD 0 0,oD 0 48,oL 0 112,oD 0 0,oD 0 0,oD 0 768,oL 0 1792,oD 0 4083,oW 0 8179,oD 1 16383,oW 1 32767]
def Hy:List OpI:=[oD 0 0,oD 0 0,oD 0 0,oD 0 0,oD 0 0,oD 0 0,oD 0 48,oL 0 112,oD 0 0,oD 0 0,oD 0 768,oL 0 1792,oD 0 4083,oW 0 8179,oD 1 16383,oW 1 32767]
def Hz:List OpI:=[oD 0 0,oD 0 1,oD 0 0,oD 0 7,oD 0 15,oD 0 31,oD 0 31,oD 0 31,oD 0 31,oD 0 415,oD 0 991,oL 0 2015,oD 0 31,oD 0 31,oD 0 31,oD 0 24607,oD 0 57375,oD 0 127007,oL 0 258079,⟨.write,0,524287,[]⟩,oD 1 1048575,oD 1 2097151]
def HC:List OpI:=[oD 0 0,oD 0 0,oD 0 0,oD 0 0,oD 0 12,oD 0 30,oL 0 62,oD 0 0,oD 0 0,oD 0 0,oD 0 768,oD 0 1920,oL 0 3968,⟨.write,0,8191,[]⟩,oD 1 16383,oD 1 32767]
def HE:List OpI:=[oD 0 0,oD 0 0,oD 0 0,oD 0 6,oD 0 0,oD 0 0,oD 0 0,oD 0 96,oD 0 0,oD 0 0,oD 0 0,oD 0 1536,oD 0 3840,oL 0 7936,oD 0 0,oD 0 0,oD 0 0,oD 0 98304,oD 0 245760,oL 0 507904,oD 0 1048335,oW 0 2096911,oD 1 4194303,oW 1 8388607]
def HF:List OpI:=[oD 0 0,oD 0 1,oL 0 3,oD 0 0,oD 0 8,oL 0 24,oD 0 56,oD 0 127,oD 0 255,oW 0 511]
def HG:List OpI:=[oD 0 0,oD 0 1,oL 0 3,oD 0 0,oD 0 8,oL 0 24,oD 0 56,oD 0 127,oD 0 255,oW 0 511]
def HH:List OpI:=[oD 0 0,oD 0 1,oL 0 3,oD 0 0,oD 0 8,oL 0 24,oD 0 56,oD 0 127,oD 0 255,oW 0 511]
def HI:List OpI:=[oD 0 0,oD 0 0,oD 0 0,oD 0 6,oL 0 14,oD 0 0,oD 0 0,oD 0 96,oL 0 224,⟨.write,0,511,[]⟩,oD 1 1023]
noncomputable def planT:TT (List (Nat × List OpI)) :=
 (.node [] (.node [] (.node [] (.node [] (.node [] (.node [(2,Dv)] .leaf
 (.node [] (.node [(2,Cd)] .leaf
 .leaf)
 .leaf))
 (.node [] .leaf
 (.node [] (.node [(1,Co)] .leaf
 .leaf)
 .leaf)))
 (.node [] (.node [] .leaf
 (.node [(6,DQ),(10,DR)] (.node [] (.node [(10,H9)] .leaf
 .leaf)
 .leaf)
 (.node [(9,CG)] .leaf
 .leaf)))
 (.node [] .leaf
 (.node [] (.node [(1,Ct)] .leaf
 .leaf)
 .leaf))))
 (.node [] (.node [] (.node [(5,Dw)] .leaf
 (.node [] (.node [(1,Ch),(2,Ci)] .leaf
 .leaf)
 .leaf))
 (.node [] (.node [(6,DJ)] .leaf
 .leaf)
 .leaf))
 (.node [] (.node [] (.node [(12,DG),(16,DH)] .leaf
 .leaf)
 (.node [] (.node [] (.node [(1,Hl),(3,Hm),(5,Hn),(8,Ho)] .leaf
 .leaf)
 .leaf)
 .leaf))
 (.node [] (.node [(4,DL),(11,DM)] (.node [(1,C8)] .leaf
 .leaf)
 .leaf)
 .leaf))))
 (.node [] (.node [] (.node [] (.node [] .leaf
 (.node [] (.node [(1,Ce),(2,Cf),(3,Cg)] .leaf
 .leaf)
 .leaf))
 (.node [(6,EX)] .leaf
 (.node [] (.node [(1,Cp)] .leaf
 .leaf)
 (.node [(17,EY)] .leaf
 .leaf))))
 (.node [] (.node [] (.node [(4,DF)] .leaf
 .leaf)
 (.node [(1,DU),(6,DV),(8,DW),(10,DX),(11,DY),(14,DZ)] (.node [(4,Cl)] (.node [(3,Ha)] .leaf
 .leaf)
 .leaf)
 .leaf))
 (.node [(1,DD),(2,DE)] .leaf
 (.node [] (.node [(1,Cv)] .leaf
 .leaf)
 .leaf))))
 (.node [] (.node [] (.node [] .leaf
 (.node [] (.node [] (.node [(4,EZ),(6,H7)] .leaf
 .leaf)
 .leaf)
 .leaf))
 (.node [] .leaf
 (.node [] (.node [(1,Cr)] .leaf
 .leaf)
 .leaf)))
 (.node [] .leaf
 (.node [] (.node [] (.node [(1,Ca),(2,Cb)] .leaf
 .leaf)
 .leaf)
 (.node [] (.node [(1,Cy)] .leaf
 .leaf)
 .leaf))))))
 (.node [] (.node [] (.node [] (.node [(14,Ds)] (.node [] (.node [] .leaf
 (.node [(2,CA)] .leaf
 .leaf))
 (.node [(1,DO)] .leaf
 .leaf))
 .leaf)
 (.node [] (.node [] (.node [] .leaf
 (.node [(1,CB)] .leaf
 .leaf))
 (.node [(4,DS),(16,DT)] (.node [(1,Ck)] .leaf
 .leaf)
 .leaf))
 (.node [] (.node [] (.node [(1,C6)] .leaf
 .leaf)
 .leaf)
 (.node [] (.node [(1,Cu)] .leaf
 .leaf)
 .leaf))))
 (.node [] (.node [] (.node [] (.node [] .leaf
 (.node [] (.node [(3,Hz),(5,HC),(6,HE)] .leaf
 .leaf)
 .leaf))
 (.node [(13,DP)] (.node [(1,Cj)] .leaf
 .leaf)
 .leaf))
 (.node [] (.node [(1,DK)] .leaf
 .leaf)
 .leaf))
 (.node [] (.node [] (.node [(1,DI)] .leaf
 (.node [(8,CF)] .leaf
 .leaf))
 (.node [] (.node [] (.node [(1,Hp),(3,Hr),(5,Hs),(8,Ht),(10,Hu),(13,Hv),(15,Hw),(18,Hx),(21,Hy)] .leaf
 .leaf)
 .leaf)
 (.node [(1,CH)] .leaf
 .leaf)))
 (.node [] (.node [(5,DN)] (.node [(2,C9)] .leaf
 .leaf)
 .leaf)
 (.node [] (.node [(1,Cx)] .leaf
 .leaf)
 .leaf)))))
 (.node [(6,q6_6),(9,q6_9)] (.node [] (.node [] .leaf
 (.node [] (.node [] (.node [] (.node [(1,CI)] .leaf
 .leaf)
 .leaf)
 (.node [] (.node [(1,HI)] .leaf
 .leaf)
 .leaf))
 (.node [] (.node [(1,Cq)] .leaf
 .leaf)
 .leaf)))
 (.node [] (.node [] (.node [] .leaf
 (.node [(3,CD)] .leaf
 .leaf))
 (.node [(2,C0),(4,C1),(6,C3),(7,C4)] (.node [(2,Cm)] (.node [(5,Hb),(11,Hd),(16,He),(17,Hg),(22,Hh),(23,Hi)] .leaf
 .leaf)
 .leaf)
 .leaf))
 (.node [] (.node [] (.node [(1,C7)] .leaf
 .leaf)
 .leaf)
 (.node [] (.node [(1,Cw)] .leaf
 .leaf)
 .leaf))))
 (.node [] (.node [(6,Dt)] (.node [(7,Dx),(9,Dy),(10,Dz),(14,DA),(20,DB),(23,DC)] (.node [] .leaf
 (.node [] (.node [(1,HF),(2,HG),(3,HH)] .leaf
 .leaf)
 .leaf))
 (.node [] (.node [] (.node [(10,H8)] .leaf
 .leaf)
 .leaf)
 .leaf))
 (.node [] .leaf
 (.node [] (.node [(1,Cs)] .leaf
 .leaf)
 .leaf)))
 (.node [(6,Du)] .leaf
 (.node [] (.node [] (.node [(2,Cc)] .leaf
 .leaf)
 .leaf)
 (.node [(5,C5)] (.node [(1,Cz)] .leaf
 .leaf)
 .leaf)))))))
def HJ {α:Type}:List (Nat × List α)→Nat→List α
 | [],_=>[]
 | (i,x)::r,n=>cond (Nat.beq i n) x (HJ r n)
noncomputable def NC:Cfg where
 P:=Proofs.Tryz.prog
 good:=fun f=>VH.testBit f
 mode:=fun f=>cond (Z11.testBit f) .fresh (cond (freeM.testBit f) .free .pure)
 refApp:=fun f t=>refM.testBit f && refT.testBit t
 frz:=fun _ _=>false
 glob:=fun x=>cond (Nat.beq x 1) (some V5) none
 memo:=fun _ _=>none
 prim:=fun f=>cond (Nat.beq f 107) (some Kq) (cond (Nat.beq f 109) (some Jb) none)
 hprim:=fun _=>none
 nilArg:=fun f=>decide (f=239) || decide (f=277) || decide (f=278)
 twice:=fun f=>Z12.testBit f
 plans:=fun f id=>HJ (planT.get [] f) id
end Go.Sim
