/-
Lemmas of one proof, the texts SimLib to SimLib joined.
-/
import Derived.Test.YtlooccmcmeofhaaGreatDoorT11
import Derived.Shelf.Small.Strs
import Derived.Shelf.Strconv.Itoa3
import Derived.Shelf.Strings.OnBuilder
set_option linter.unusedSimpArgs false
set_option linter.unusedVariables false
set_option maxRecDepth 100000
set_option maxHeartbeats 32000000
noncomputable section
open Go Go.Proofs
open Bool (eq_false_iff false_eq_true)
open Int (natAbs_negSucc negSucc_lt_zero)
open List (ext_getElem? getElem?_map length_map map_append map_congr_left map_cons map_flatten map_map map_nil nil_append reverse_cons reverse_nil)
open Nat (blt_eq pow_succ)
open Option (bind_some map_eq_some_iff)
variable {a v:Go.Sim.AV} {args:List Go.Sim.AV} {cargs:List Go.Value} {x:Nat}

namespace Go.Sim
open Go Go.Proofs Go.Shelf Go.RowKit
variable {P:Program} {ρ:Ren} {C:Cfg} {g:Gh} {n:Nat} {H:Heap} {w:World}
def X9 (l:List UInt8):List Nat:=l.map UInt8.toNat
theorem Gc {b:AV} (h:Zb g n [a,b] cargs):∃ x y,cargs=[x,y]/\VRel g n a x/\VRel g n b y:=by
 have:=h.1
 match cargs,this with
 | [x,y],_=>exact ⟨x,y,rfl,h.2 0 _ _ rfl rfl,h.2 1 _ _ rfl rfl⟩
theorem R1 (h:Zb g n [a] cargs):∃ x,cargs=[x]/\VRel g n a x:=by
 have:=h.1
 match cargs,this with
 | [x],_=>exact ⟨x,rfl,h.2 0 _ _ rfl rfl⟩
def U8:Nat->Nat->List Nat
 | 0,_=>[]
 | f+1,n=>cond (Nat.blt n 10) [48+n] ((48+n % 10)::U8 f (n / 10))
def Ve (n:Int):List Nat:=match n with
 | .ofNat n=>(U8 20 n).reverse
 | .negSucc n=>45::(U8 20 (n+1)).reverse
theorem FA:∀ (f n:Nat),n < 10 ^ (f+1)->(U8 (f+1) n).reverse=X9 (Lib.decDigits n)
 | f,n,h=>by
   unfold U8 Lib.decDigits;by_cases h1:n < 10
   . have:Nat.blt n 10=true:=by rw [blt_eq];exact h1
     simp only [this,cond,h1,dif_pos,X9,map_cons,map_nil,reverse_cons,reverse_nil,nil_append,UInt8.toNat_ofNat'];have:48+n=(48+n) % 256:=by omega
     rw [<- this]
   . have:Nat.blt n 10=false:=by
      rw [eq_false_iff];intro h';rw [blt_eq] at h';exact h1 h'
     obtain ⟨f,rfl⟩:∃ f',f=f'+1:=⟨f - 1,by
      cases f with
      | zero=>simp at h;omega
      | succ f=>simp⟩
     have ih:=FA f (n / 10) (by rw [pow_succ] at h;omega);simp only [this,cond,h1,dif_neg,not_false_eq_true,reverse_cons,ih,X9,map_append,map_cons,map_nil,UInt8.toNat_ofNat'];have:48+n % 10=(48+n % 10) % 256:=by omega
     rw [<- this]
theorem R2 {n:Int} (h0:-9223372036854775808≤n) (h1:n≤9223372036854775807):Ve n=X9 (Lib.itoa n):=by
 unfold Ve Lib.itoa
 cases n with
 | ofNat n =>
   have:¬ (Int.ofNat n < 0):=by simp
   rw [if_neg this]
   exact FA 19 n (by simp at h1;omega)
 | negSucc n =>
   have:Int.negSucc n < 0:=negSucc_lt_zero n
   rw [if_pos this]
   have h:=FA 19 (n+1) (by have:Int.negSucc n = -((n:Int)+1):=by omega
                           omega)
   simp only [h,X9,map_cons,natAbs_negSucc]
   rfl
def FB:List AV->Option AV
 | [.int .i64 n]=>if -9223372036854775808<=n/\n<=9223372036854775807 then some (.str (Ve n)) else none
 | _=>none
def KC:List AV:=(List.range 20).map fun i=>.int .u64 ((10 ^ i:Nat):Int)
theorem R3 (hR:Rel C g H w) (hx:C.glob x=some KC) {name:String} (hn:P.globalNamed name=some x):Lib.TabIs P w name .u64 Lib.pow10Tab:=by
 obtain ⟨⟨c,e,fz,h1,h2⟩,_⟩:=hR.gsz x _ hx;obtain ⟨vals,hv,hk⟩:=hR.glob x _ hx;unfold Lib.TabIs World.var?;rw [hn];simp only [bind_some,h1]
 congr 1
 apply Array.ext_getElem?;intro i;by_cases hi:i < 20
 . have ha:KC[i]? = some (.int .u64 ((10 ^ i:Nat):Int)):=by
    unfold KC;simp [hi]
   obtain ⟨v,hvi,hr⟩:=Zh.get hv ha;cases hr;have:=hR.know _ _ _ (hk i _ hvi);unfold World.cell? at this;rw [h1] at this;simp only [Option.isSome_none,false_eq_true,if_false] at this;rw [this];simp [Lib.pow10Tab,hi]
 . rw [Array.getElem?_eq_none (by rw [h2];simp [KC];omega),Array.getElem?_eq_none (by simp [Lib.pow10Tab];omega)]
theorem R4 (w:World) (k:Nat) (os:Array Obj):Below w.heap.size w (Go.Sort.grow (w.drewN k) os):=by
 refine ⟨rfl,rfl,rfl,by simp [Go.Sort.grow,World.drewN],fun b hb => ?_⟩;show (w.heap++os)[b]? = _;rw [Array.getElem?_append_left hb]
theorem R5 (hP:C.P=P) (L:LaysM.n171 P ρ) (hcall:VP P (ρ.f 171)) (hx:C.glob x=some KC) (hn:P.globalNamed "internal/strconv.uint64pow10" = some x) (h:FB args=some v) (lo:Nat) (H:Heap):Za C lo (ρ.f 171) args H v H:=by
 unfold FB at h;split at h
 . rename_i m
   split at h
   . rename_i hm
     simp at h;subst h;refine ⟨hP ▸ hcall,fun g w cargs hR ha => ?_⟩;obtain ⟨y,rfl,hy⟩:=R1 ha;cases hy;rw [hP,callsIn_wide];refine (Any.strconv_Itoa L m hm.1 hm.2 w (R3 hR hx hn)).mono ?_;rintro e w' ⟨rfl,k,os,rfl⟩;obtain ⟨r1,r2⟩:=hR.below (R4 w k os) lo;refine ⟨g,r1,r2,.str ?_⟩;rw [R2 hm.1 hm.2];rfl
   . cases h
 . cases h
def J0:List (List AV)->Option (List (List Nat))
 | []=>some []
 | [.str s]::r=>match J0 r with
   | some l=>some (s::l)
   | none=>none
 | _=>none
def U9 (sep:List Nat):List (List Nat)->List Nat
 | []=>[]
 | s::r=>s++(r.map (sep ++ ·)).flatten
def FC:List AV->Option AV
 | [.ps _ rows,.str sep]=>match J0 rows with
   | some l=>if (U9 sep l).length<=Z2/\rows.length<=Z2 then some (.str (U9 sep l)) else none
   | none=>none
 | _=>none
theorem BR:∀ {rows:List (List AV)} {l:List (List Nat)},J0 rows=some l->l.length=rows.length/\rows.flatten=l.map AV.str
 | [],l,h=>by simp [J0] at h;subst h;simp
 | r::rs,l,h=>by
   unfold J0 at h;split at h
   . rename_i h1;cases h1
   . rename_i s r' heq
     simp only [List.cons.injEq] at heq;obtain ⟨rfl,rfl⟩:=heq;split at h
     . rename_i l' hl'
       simp at h;subst h;obtain ⟨h1,h2⟩:=BR hl';exact ⟨by simp [h1],by simp [h2]⟩
     . cases h
   . cases h
theorem R6 (xs:List (List UInt8)) (sep:List UInt8):X9 (Lib.join xs sep)=U9 (X9 sep) (xs.map X9):=by
 cases xs with
 | nil=>rfl
 | cons x r =>
   rw [Lib.join_cons];simp only [U9,map_cons,X9,map_append,Lib.joinTail,map_flatten,map_map]
   congr 2
   apply map_congr_left;intro a _;simp [X9]
def KD:Value->ByteArray
 | .string b=>b
 | _=>.empty
theorem R7 (hP:C.P=P) (L:Lays.n156 P ρ) (X:Builder.Extra P ρ) (hcall:VP P (ρ.f 156)) (h:FC args=some v) (lo:Nat) (H:Heap):Za C lo (ρ.f 156) args H v H:=by
 unfold FC at h;split at h
 case h_2=>cases h
 rename_i tok rows sep
 split at h
 case h_2=>cases h
 rename_i l hl
 split at h
 case isFalse=>cases h
 rename_i hlen
 simp at h;subst h;obtain ⟨hl1,hl2⟩:=BR hl;refine ⟨hP ▸ hcall,fun g w cargs hR ha => ?_⟩;obtain ⟨x,y,rfl,hx,hy⟩:=Gc ha;generalize hA:AV.ps tok rows=A at hx;cases hy with
 | @str _ _ sb hy =>
 rw [hP,callsIn_wide];cases hx<;>cases hA
 · rename_i b o cap sz vals hk hsz hvl hvv hcap htok
   cases hrows:rows with
   | nil =>
     subst hrows;simp [J0] at hl;subst hl;refine (Any.strings_Join_none L X _ _ _ w).mono ?_;rintro e w' ⟨rfl,rfl⟩;exact ZI.same hR (.str rfl)
   | cons r0 rr =>
     have hvall:∀ (i:Nat) (s:List Nat),l[i]? = some s → ∃ bb:ByteArray,vals[i]? = some (Value.string bb)∧X9 bb.data.toList=s:=by
      intro i s hi;have hf:rows.flatten[i]? = some (.str s):=by rw [hl2];simp [hi]
      obtain ⟨vi,hvi⟩:∃ vi,vals[i]? = some vi:=by
       have:i < vals.length:=by rw [← hvl];exact (List.getElem?_eq_some_iff.1 hf).1
       exact ⟨vals[i],by simp⟩
      have:=hvv i _ _ hf hvi;cases this with
      | @str _ _ bb hb=>exact ⟨bb,hvi,hb⟩
     have hvlen:vals.length=rows.length:=by rw [← hvl,hl2];simp [hl1]
     have hxs:∀ (j:Nat) (x:ByteArray),(vals.map KD)[j]? = some x→w.cell? ⟨b,o+j,none⟩=some (.string x):=by
      intro j x hj;simp only [getElem?_map,map_eq_some_iff] at hj;obtain ⟨v,hv,rfl⟩:=hj;have hlt:j < l.length:=by rw [hl1,← hvlen];exact (List.getElem?_eq_some_iff.1 hv).1
      obtain ⟨bb,h1,h2⟩:=hvall j l[j] (by simp);rw [hv] at h1;cases h1;exact hR.know _ _ _ (hk j _ hv)
     have hnx:(vals.map KD).map (fun x=>X9 x.data.toList)=l:=by
      apply ext_getElem?;intro i;simp only [map_map,getElem?_map];cases hi:l[i]? with
      | none =>
        have:vals[i]? = none:=by
         rw [List.getElem?_eq_none_iff] at hi ⊢;omega
        rw [this];rfl
      | some s =>
        obtain ⟨bb,h1,h2⟩:=hvall i s hi;rw [h1];simp [KD,h2]
     have hjoin:X9 (Lib.join ((vals.map KD).map (·.data.toList)) sb.data.toList)=U9 sep l:=by
      rw [R6,← hy,← hnx];rw [map_map,map_map,map_map];rfl
     have hjl:(Lib.join ((vals.map KD).map (·.data.toList)) sb.data.toList).length≤140737488355328:=by
      have:=congrArg List.length hjoin;simp only [X9,length_map] at this;rw [this];have:=hlen.1;unfold Z2 at this;omega
     have hbk:b < w.heap.size:=by
      have:0 < vals.length:=by rw [hvlen,hrows];simp
      exact JT hR (hk 0 vals[0] (by simp))
     have hrun:=Any.strings_Join L X b o cap (vals.map KD) sb w hxs hbk (by simp [hvlen];have:=hlen.2;unfold Z2 at this;omega) (by simp [hvlen];exact hcap) hjl;rw [show (vals.map KD).length=rows.length by simp [hvlen],hrows] at hrun;refine hrun.mono ?_;rintro e w' ⟨rfl,hb⟩;obtain ⟨r1,r2⟩:=hR.below hb lo;exact ⟨g,r1,r2,.str hjoin⟩
 · simp [J0] at hl;subst hl;refine (Any.strings_Join_none L X _ _ _ w).mono ?_;rintro e w' ⟨rfl,rfl⟩;exact ZI.same hR (.str rfl)
 · simp [J0] at hl;subst hl;refine (Any.strings_Join_none L X _ _ _ w).mono ?_;rintro e w' ⟨rfl,rfl⟩;exact ZI.same hR (.str rfl)
end Go.Sim
