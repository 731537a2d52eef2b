/-
The parts SimLib, SimLim, SimMemo, SimSym, SimW, SimW2, SimPrim, SimFor, SimW3, SimYield, SimCase of one proof, joined: each begins with a remark that says what it shows.
-/
import Derived.Test.YtepaopekeidlmaaGreatDoorT09
import Derived.Shelf.Small.Strs
import Derived.Shelf.Strconv.Itoa3
import Derived.Shelf.Strings.OnBuilder
set_option linter.unusedSimpArgs false
set_option linter.unusedVariables false

/-
Contracts of strings.Compare, strconv.Itoa and strings.Join, for the abstract interpreter.
-/
set_option linter.unusedVariables false
namespace Go.Sim
open Go Go.Proofs Go.Shelf Go.RowKit
variable {P:Program} {ρ:Ren} {C:Cfg} {g:Gh} {n:Nat} {H:Heap} {w:World}
def nats (l:List UInt8):List Nat:=l.map UInt8.toNat
/-! ### strings.Compare -/
def cmpL:List Nat→List Nat→Int
 | [],[]=>0
 | [],_::_=>-1
 | _::_,[]=>1
 | a::x,b::y=>cond (Nat.blt a b) (-1) (cond (Nat.blt b a) 1 (cmpL x y))
theorem cmpL_eq:∀ a b:List UInt8,Lib.compareBytes a b=cmpL (nats a) (nats b)
 | [],[]=>rfl
 | [],_::_=>rfl
 | _::_,[]=>rfl
 | a::x,b::y=>by
   have h:∀ a b:UInt8,(Nat.blt a.toNat b.toNat)=decide (a < b):=fun a b=>by
    rw [Bool.eq_iff_iff,Nat.blt_eq,decide_eq_true_iff]
    exact UInt8.lt_iff_toNat_lt.symm
   simp only [Lib.compareBytes,nats,List.map_cons,cmpL,h,cmpL_eq x y]
   by_cases h1:a < b
   · simp [h1]
   · by_cases h2:b < a<;>simp [h1,h2,nats]
def pCompare:List AV→Option AV
 | [.str a,.str b]=>some (.int .i64 (cmpL a b))
 | _=>none
theorem two_args {a b:AV} {cargs:List Value} (h:VRels g n [a,b] cargs):∃ x y,cargs=[x,y]∧VRel g n a x∧VRel g n b y:=by
 have:=h.1
 match cargs,this with
 | [x,y],_=>exact ⟨x,y,rfl,h.2 0 _ _ rfl rfl,h.2 1 _ _ rfl rfl⟩
theorem one_arg {a:AV} {cargs:List Value} (h:VRels g n [a] cargs):∃ x,cargs=[x]∧VRel g n a x:=by
 have:=h.1
 match cargs,this with
 | [x],_=>exact ⟨x,rfl,h.2 0 _ _ rfl rfl⟩
theorem compare_ok (hP:C.P=P) (L:Lays.n106 P ρ) (hcall:Callable P (ρ.f 106)) {args:List AV} {v:AV} (h:pCompare args=some v) (lo:Nat) (H:Heap):CallOk C lo (ρ.f 106) args H v H:=by
 unfold pCompare at h
 split at h
 · rename_i a b
   simp at h;subst h
   refine ⟨hP ▸ hcall,fun g w cargs hR ha => ?_⟩
   obtain ⟨x,y,rfl,hx,hy⟩:=two_args ha
   cases hx with
   | str hx =>
   cases hy with
   | @str _ _ bb hy =>
   rw [hP,callsIn_wide]
   refine (Any.strings_Compare L _ _ w).mono ?_
   rintro e w' ⟨rfl,rfl⟩
   refine Done.same hR ?_
   rw [cmpL_eq,nats,nats,hx,hy]
   exact .int _ _
 · cases h
/-! ### strconv.Itoa -/
def digs:Nat→Nat→List Nat
 | 0,_=>[]
 | f+1,n=>cond (Nat.blt n 10) [48+n] ((48+n % 10)::digs f (n / 10))
def itoaL (n:Int):List Nat:=match n with
 | .ofNat n=>(digs 20 n).reverse
 | .negSucc n=>45::(digs 20 (n+1)).reverse
theorem digs_eq:∀ (f n:Nat),n < 10 ^ (f+1)→(digs (f+1) n).reverse=nats (Lib.decDigits n)
 | f,n,h=>by
   unfold digs Lib.decDigits
   by_cases h1:n < 10
   · have:Nat.blt n 10=true:=by rw [Nat.blt_eq];exact h1
     simp only [this,cond,h1,dif_pos,nats,List.map_cons,List.map_nil,List.reverse_cons,List.reverse_nil,List.nil_append,UInt8.toNat_ofNat']
     have:48+n=(48+n) % 256:=by omega
     rw [← this]
   · have:Nat.blt n 10=false:=by
      rw [Bool.eq_false_iff];intro h';rw [Nat.blt_eq] at h';exact h1 h'
     obtain ⟨f,rfl⟩:∃ f',f=f'+1:=⟨f - 1,by
      cases f with
      | zero=>simp at h;omega
      | succ f=>simp⟩
     have ih:=digs_eq f (n / 10) (by rw [Nat.pow_succ] at h;omega)
     simp only [this,cond,h1,dif_neg,not_false_eq_true,List.reverse_cons,ih,nats,List.map_append,List.map_cons,List.map_nil,UInt8.toNat_ofNat']
     have:48+n % 10=(48+n % 10) % 256:=by omega
     rw [← this]
theorem itoaL_eq {n:Int} (h0:-9223372036854775808≤n) (h1:n≤9223372036854775807):itoaL n=nats (Lib.itoa n):=by
 unfold itoaL Lib.itoa
 cases n with
 | ofNat n =>
   have:¬ (Int.ofNat n < 0):=by simp
   rw [if_neg this]
   exact digs_eq 19 n (by simp at h1;omega)
 | negSucc n =>
   have:Int.negSucc n < 0:=Int.negSucc_lt_zero n
   rw [if_pos this]
   have h:=digs_eq 19 (n+1) (by have:Int.negSucc n = -((n:Int)+1):=by omega
                                omega)
   simp only [h,nats,List.map_cons,Int.natAbs_negSucc]
   rfl
def pItoa:List AV→Option AV
 | [.int .i64 n]=>if -9223372036854775808≤n∧n≤9223372036854775807 then some (.str (itoaL n)) else none
 | _=>none
def powsAV:List AV:=(List.range 20).map fun i=>.int .u64 ((10 ^ i:Nat):Int)
theorem tab_is (hR:Rel C g H w) {x:Nat} (hx:C.glob x=some powsAV) {name:String} (hn:P.globalNamed name=some x):Lib.TabIs P w name .u64 Lib.pow10Tab:=by
 obtain ⟨⟨c,e,fz,h1,h2⟩,_⟩:=hR.gsz x _ hx
 obtain ⟨vals,hv,hk⟩:=hR.glob x _ hx
 unfold Lib.TabIs World.var?
 rw [hn]
 simp only [Option.bind_some,h1]
 congr 1
 apply Array.ext_getElem?
 intro i
 by_cases hi:i < 20
 · have ha:powsAV[i]? = some (.int .u64 ((10 ^ i:Nat):Int)):=by
    unfold powsAV;simp [hi]
   obtain ⟨v,hvi,hr⟩:=All2.get hv ha
   cases hr
   have:=hR.know _ _ _ (hk i _ hvi)
   unfold World.cell? at this
   rw [h1] at this
   simp only [Option.isSome_none,Bool.false_eq_true,if_false] at this
   rw [this]
   simp [Lib.pow10Tab,hi]
 · rw [Array.getElem?_eq_none (by rw [h2];simp [powsAV];omega),Array.getElem?_eq_none (by simp [Lib.pow10Tab];omega)]
theorem below_grow (w:World) (k:Nat) (os:Array Obj):Below w.heap.size w (Go.Sort.grow (w.drewN k) os):=by
 refine ⟨rfl,rfl,rfl,by simp [Go.Sort.grow,World.drewN],fun b hb => ?_⟩
 show (w.heap++os)[b]? = _
 rw [Array.getElem?_append_left hb]
theorem itoa_ok (hP:C.P=P) (L:LaysM.n171 P ρ) (hcall:Callable P (ρ.f 171)) {x:Nat} (hx:C.glob x=some powsAV) (hn:P.globalNamed "internal/strconv.uint64pow10" = some x) {args:List AV} {v:AV} (h:pItoa args=some v) (lo:Nat) (H:Heap):CallOk C lo (ρ.f 171) args H v H:=by
 unfold pItoa at h
 split at h
 · rename_i m
   split at h
   · rename_i hm
     simp at h;subst h
     refine ⟨hP ▸ hcall,fun g w cargs hR ha => ?_⟩
     obtain ⟨y,rfl,hy⟩:=one_arg ha
     cases hy
     rw [hP,callsIn_wide]
     refine (Any.strconv_Itoa L m hm.1 hm.2 w (tab_is hR hx hn)).mono ?_
     rintro e w' ⟨rfl,k,os,rfl⟩
     obtain ⟨r1,r2⟩:=hR.below (below_grow w k os) lo
     refine ⟨g,r1,r2,.str ?_⟩
     rw [itoaL_eq hm.1 hm.2]
     rfl
   · cases h
 · cases h
/-! ### strings.Join -/
def strsOf:List (List AV)→Option (List (List Nat))
 | []=>some []
 | [.str s]::r=>match strsOf r with
   | some l=>some (s::l)
   | none=>none
 | _=>none
def joinL (sep:List Nat):List (List Nat)→List Nat
 | []=>[]
 | s::r=>s++(r.map (sep ++ ·)).flatten
def pJoin:List AV→Option AV
 | [.ps _ rows,.str sep]=>match strsOf rows with
   | some l=>if (joinL sep l).length≤maxRows∧rows.length≤maxRows then some (.str (joinL sep l)) else none
   | none=>none
 | _=>none
theorem strsOf_at:∀ {rows:List (List AV)} {l:List (List Nat)},strsOf rows=some l→l.length=rows.length∧rows.flatten=l.map AV.str
 | [],l,h=>by simp [strsOf] at h;subst h;simp
 | r::rs,l,h=>by
   unfold strsOf at h
   split at h
   · rename_i h1;cases h1
   · rename_i s r' heq
     simp only [List.cons.injEq] at heq
     obtain ⟨rfl,rfl⟩:=heq
     split at h
     · rename_i l' hl'
       simp at h;subst h
       obtain ⟨h1,h2⟩:=strsOf_at hl'
       exact ⟨by simp [h1],by simp [h2]⟩
     · cases h
   · cases h
theorem joinL_eq (xs:List (List UInt8)) (sep:List UInt8):nats (Lib.join xs sep)=joinL (nats sep) (xs.map nats):=by
 cases xs with
 | nil=>rfl
 | cons x r =>
   rw [Lib.join_cons]
   simp only [joinL,List.map_cons,nats,List.map_append,Lib.joinTail,List.map_flatten,List.map_map]
   congr 2
   apply List.map_congr_left
   intro a _
   simp [nats]
def bytesV:Value→ByteArray
 | .string b=>b
 | _=>.empty
theorem join_ok (hP:C.P=P) (L:Lays.n156 P ρ) (X:Builder.Extra P ρ) (hcall:Callable P (ρ.f 156)) {args:List AV} {v:AV} (h:pJoin args=some v) (lo:Nat) (H:Heap):CallOk C lo (ρ.f 156) args H v H:=by
 unfold pJoin at h
 split at h
 case h_2=>cases h
 rename_i tok rows sep
 split at h
 case h_2=>cases h
 rename_i l hl
 split at h
 case isFalse=>cases h
 rename_i hlen
 simp at h;subst h
 obtain ⟨hl1,hl2⟩:=strsOf_at hl
 refine ⟨hP ▸ hcall,fun g w cargs hR ha => ?_⟩
 obtain ⟨x,y,rfl,hx,hy⟩:=two_args ha
 generalize hA:AV.ps tok rows=A at hx
 cases hy with
 | @str _ _ sb hy =>
 rw [hP,callsIn_wide]
 cases hx<;>cases hA
 · rename_i b o cap sz vals hk hsz hvl hvv hcap htok
   cases hrows:rows with
   | nil =>
     subst hrows
     simp [strsOf] at hl;subst hl
     refine (Any.strings_Join_none L X _ _ _ w).mono ?_
     rintro e w' ⟨rfl,rfl⟩
     exact Done.same hR (.str rfl)
   | cons r0 rr =>
     have hvall:∀ (i:Nat) (s:List Nat),l[i]? = some s → ∃ bb:ByteArray,vals[i]? = some (Value.string bb)∧nats bb.data.toList=s:=by
      intro i s hi
      have hf:rows.flatten[i]? = some (.str s):=by rw [hl2];simp [hi]
      obtain ⟨vi,hvi⟩:∃ vi,vals[i]? = some vi:=by
       have:i < vals.length:=by rw [← hvl];exact (List.getElem?_eq_some_iff.1 hf).1
       exact ⟨vals[i],by simp⟩
      have:=hvv i _ _ hf hvi
      cases this with
      | @str _ _ bb hb=>exact ⟨bb,hvi,hb⟩
     have hvlen:vals.length=rows.length:=by rw [← hvl,hl2];simp [hl1]
     have hxs:∀ (j:Nat) (x:ByteArray),(vals.map bytesV)[j]? = some x→w.cell? ⟨b,o+j,none⟩=some (.string x):=by
      intro j x hj
      simp only [List.getElem?_map,Option.map_eq_some_iff] at hj
      obtain ⟨v,hv,rfl⟩:=hj
      have hlt:j < l.length:=by rw [hl1,← hvlen];exact (List.getElem?_eq_some_iff.1 hv).1
      obtain ⟨bb,h1,h2⟩:=hvall j l[j] (by simp)
      rw [hv] at h1;cases h1
      exact hR.know _ _ _ (hk j _ hv)
     have hnx:(vals.map bytesV).map (fun x=>nats x.data.toList)=l:=by
      apply List.ext_getElem?
      intro i
      simp only [List.map_map,List.getElem?_map]
      cases hi:l[i]? with
      | none =>
        have:vals[i]? = none:=by
         rw [List.getElem?_eq_none_iff] at hi ⊢;omega
        rw [this];rfl
      | some s =>
        obtain ⟨bb,h1,h2⟩:=hvall i s hi
        rw [h1];simp [bytesV,h2]
     have hjoin:nats (Lib.join ((vals.map bytesV).map (·.data.toList)) sb.data.toList)=joinL sep l:=by
      rw [joinL_eq,← hy,← hnx]
      rw [List.map_map,List.map_map,List.map_map];rfl
     have hjl:(Lib.join ((vals.map bytesV).map (·.data.toList)) sb.data.toList).length≤140737488355328:=by
      have:=congrArg List.length hjoin
      simp only [nats,List.length_map] at this
      rw [this]
      have:=hlen.1
      unfold maxRows at this;omega
     have hbk:b < w.heap.size:=by
      have:0 < vals.length:=by rw [hvlen,hrows];simp
      exact know_lt hR (hk 0 vals[0] (by simp))
     have hrun:=Any.strings_Join L X b o cap (vals.map bytesV) sb w hxs hbk (by simp [hvlen];have:=hlen.2;unfold maxRows at this;omega) (by simp [hvlen];exact hcap) hjl
     rw [show (vals.map bytesV).length=rows.length by simp [hvlen],hrows] at hrun
     refine hrun.mono ?_
     rintro e w' ⟨rfl,hb⟩
     obtain ⟨r1,r2⟩:=hR.below hb lo
     exact ⟨g,r1,r2,.str hjoin⟩
 · simp [strsOf] at hl;subst hl
   refine (Any.strings_Join_none L X _ _ _ w).mono ?_
   rintro e w' ⟨rfl,rfl⟩
   exact Done.same hR (.str rfl)
 · simp [strsOf] at hl;subst hl
   refine (Any.strings_Join_none L X _ _ _ w).mono ?_
   rintro e w' ⟨rfl,rfl⟩
   exact Done.same hR (.str rfl)
end Go.Sim

/-
The run of the abstract interpreter without fuel: what some fuel finds. It obeys the equation of one step.
-/
namespace Go.Sim
def Fin {β:Type} (F:Rec→Option β):Prop :=
 ∀ rec o,F rec=some o → ∃ L:List (Task × Out),(∀ p ∈ L,rec p.1=some p.2) ∧ ∀ rec',(∀ p ∈ L,rec' p.1=some p.2)→F rec'=some o
theorem Fin.const {β:Type} (x:Option β):Fin (fun _=>x):=fun _ _ h=>⟨[],by simp,fun _ _=>h⟩
theorem Fin.ask (t:Task):Fin (fun rec=>rec t):=fun rec o h=>⟨[(t,o)],by simpa using h,fun rec' h'=>h' (t,o) (by simp)⟩
theorem Fin.bind {β γ:Type} {F:Rec→Option β} {G:β→Rec→Option γ} (hF:Fin F) (hG:∀ a,Fin (G a)):Fin (fun rec=>(F rec).bind fun a=>G a rec):=by
 intro rec o h
 simp only [Option.bind_eq_some_iff] at h
 obtain ⟨a,h1,h2⟩:=h
 obtain ⟨L1,k1,f1⟩:=hF rec a h1
 obtain ⟨L2,k2,f2⟩:=hG a rec o h2
 refine ⟨L1++L2,fun p hp => ?_,fun rec' h' => ?_⟩
 · rcases List.mem_append.1 hp with h | h
   · exact k1 p h
   · exact k2 p h
 · simp only [Option.bind_eq_some_iff]
   exact ⟨a,f1 rec' fun p hp=>h' p (List.mem_append_left _ hp),f2 rec' fun p hp=>h' p (List.mem_append_right _ hp)⟩
theorem Fin.of {β γ:Type} {F:Rec→Option β} {G:β→Rec→Option γ} {K:Rec→Option γ} (hF:Fin F) (hG:∀ a,Fin (G a)) (e:∀ rec,K rec=(F rec).bind fun a=>G a rec):Fin K:=by
 have:K=fun rec=>(F rec).bind fun a=>G a rec:=funext e
 rw [this];exact Fin.bind hF hG
variable (C:Cfg)
theorem fin_enter (lo:Nat) (f:FuncId) (args:List AV) (H:Heap):Fin (fun rec=>aenter C rec lo f args H):=by
 unfold aenter
 cases C.memo f args with
 | some v=>exact .const _
 | none=>cases C.prim f with
   | some p=>exact .const _
   | none=>cases C.hprim f with
     | some p=>exact .const _
     | none =>
       cases htw:(C.twice f && mayBeNil args) with
       | true =>
         simp only [if_true]
         refine .of (.ask (.call H.n f [.ps .nil []] H)) (fun a=>.of (.ask (.call H.n f [.ps .nn []] H)) (fun b=>.const (match a.val,b.val with
         | .ps .nil [],.ps .exact []=>some (.ps .exact [],H)
         | _,_=>none)) (K:=fun rec=>match rec (.call H.n f [.ps .nn []] H) with
         | some b=>match a.val,b.val with
           | .ps .nil [],.ps .exact []=>some (.ps .exact [],H)
           | _,_=>none
         | none=>none) fun rec=>by cases rec (.call H.n f [.ps .nn []] H)<;>rfl) fun rec => ?_
         cases rec (.call H.n f [.ps .nil []] H)<;>cases rec (.call H.n f [.ps .nn []] H)<;>rfl
       | false =>
         simp only [if_false,Bool.false_eq_true]
         cases C.mode f with
         | pure=>exact .of (.ask (.call H.n f args H)) (fun o=>.const (if o.val.strip.pure then some (o.val.strip,H) else none)) fun rec=>by cases rec (.call H.n f args H)<;>rfl
         | fresh=>exact .of (.ask (.call H.n f args H)) (fun o=>.const (some (o.val,o.s.H))) fun rec=>by cases rec (.call H.n f args H)<;>rfl
         | free=>exact .of (.ask (.call lo f args H)) (fun o=>.const (some (o.val,o.s.H))) fun rec=>by cases rec (.call lo f args H)<;>rfl
theorem fin_call (fid:FuncId) (lo:Nat) (c:Call) (T:TT AV) (H:Heap):Fin (fun rec=>acall C rec fid lo c T H):=by
 unfold acall
 cases evalOs C T c.args.toList with
 | none=>exact .const _
 | some args =>
   cases hc:c.callee with
   | value o =>
     simp only []
     cases ho:evalO C T o with
     | none=>simp only [ho];exact .const _
     | some v=>cases v with
       | fn f first caps=>simp only [ho];exact fin_enter C lo f _ H
       | yld l=>simp only [ho];exact .of (.ask (.yield lo l (args.map AV.strip) H)) (fun o=>.const (some (o.val,o.s.H))) fun rec=>by cases rec (.yield lo l (args.map AV.strip) H)<;>rfl
       | _=>simp only [ho];exact .const _
   | invoke _ _=>exact .const _
   | builtin b=>exact .const _
theorem fin_op (fid:FuncId) (lo:Nat) (o:Oper) (T:TT AV) (H:Heap):Fin (fun rec=>aop C rec fid lo o T H):=by
 by_cases hc:∃ c,o.op=.call c
 · obtain ⟨c,hc⟩:=hc
   unfold aop
   simp only [hc]
   exact fin_call C fid lo c T H
 · have:(fun rec=>aop C rec fid lo o T H)=fun _=>aop C (fun _=>none) fid lo o T H:=by
    funext rec
    unfold aop
    split<;>first | rfl | (exfalso;exact hc ⟨_,‹_›⟩)
   rw [this]
   exact .const _
theorem fin_ops (fid:FuncId) (lo:Nat) (all:List Oper):∀ (l:List Oper) (T:TT AV) (H:Heap),Fin (fun rec=>aops C rec fid lo all l T H)
 | [],T,H=>.const _
 | o::r,T,H=>by
   unfold aops
   cases awanted all T o with
   | false=>exact fin_ops fid lo all r _ _
   | true=>exact .of (fin_op C fid lo o T H) (fun v=>fin_ops fid lo all r (putT T o.dst v.1) v.2) fun rec=>by cases aop C rec fid lo o T H<;>rfl
theorem fin_draw (fid:FuncId) (lo:Nat) (all:List Oper):∀ (l:List Oper) (pl:List OpI) (i:Nat) (rd:List (Nat × Acc)) (T:TT AV) (H:Heap) (K:Nat) (hs:List Heap),Fin (fun rec=>adraw C rec fid lo all l pl i rd T H K hs)
 | [],pl,i,rd,T,H,K,hs=>by unfold adraw;exact .const _
 | o::r,[],i,rd,T,H,K,hs=>by unfold adraw;exact .const _
 | o::r,s::ss,i,rd,T,H,K,hs=>by
   unfold adraw
   cases awanted all T o with
   | false =>
     cases s.c.chain with
     | true=>exact fin_draw fid lo all r ss _ _ _ _ _ _
     | false=>exact fin_draw fid lo all r ss _ _ _ _ _ _
   | true =>
     cases hch:s.c.chain with
     | true =>
       cases clashes (accOf C T H.n s.c o) s.conf rd with
       | true=>exact .const _
       | false=>exact .of (fin_op C fid lo o T H) (fun v=>fin_draw fid lo all r ss (i+1) (record i (accOf C T H.n s.c o) rd) (putT T o.dst v.1) v.2 (K+1) (H::hs)) fun rec=>by cases aop C rec fid lo o T H<;>rfl
     | false =>
       cases hc:s.c with
       | data=>exact .of (fin_op C fid lo o T H) (fun v=>fin_draw fid lo all r ss (i+1) rd (putT T o.dst v.1) H K hs) fun rec=>by cases aop C rec fid lo o T H<;>rfl
       | load | read | fresh | writeAt | write =>
         simp only
         cases (clashes (accOf C T (backH (K - s.k) H hs).n _ o) s.conf rd || !opsBelow C T (backH (K - s.k) H hs).n _ o) with
         | true=>exact .const _
         | false=>exact .of (fin_op C fid lo o T (backH (K - s.k) H hs)) (fun v=>fin_draw fid lo all r ss (i+1) (record i (accOf C T (backH (K - s.k) H hs).n _ o) rd) (putT T o.dst v.1) H K hs) fun rec=>by cases aop C rec fid lo o T (backH (K - s.k) H hs)<;>rfl
theorem fin_step (t:Task):Fin (fun rec=>astep C rec t):=by
 unfold astep
 cases t with
 | call lo f args H =>
   simp only
   cases C.good f with
   | false=>exact .const _
   | true=>cases C.P.funcs[f]? with
     | none=>exact .const _
     | some fn=>cases hb:fn.body with
       | none=>simp only [hb];exact .const _
       | some c =>
         simp only [hb]
         exact .of (.ask (.code lo f false c ⟨argsT args 0 .leaf,H,[]⟩)) (fun o=>.const (match o.e with
          | .nrm | .ret=>match shutMarks o.s.M o.s.H with
            | some H=>match aresults C H o.s.T fn.results.toList with
              | some [v]=>some (.ofVal v H)
              | some vs=>some (.ofVal (.tup vs) H)
              | none=>none
            | none=>none
          | _=>none)) fun rec=>by cases rec (.code lo f false c ⟨argsT args 0 .leaf,H,[]⟩)<;>rfl
 | yield lo l args H =>
   simp only
   cases H.get l with
   | loop r0 =>
     simp only
     split
     · refine .of (.ask (.code lo r0.fid true r0.assign ⟨setParams r0.params args r0.tmps,H,[]⟩)) (G:=fun o rec=>match o.e with
        | .nrm=>match o.s.H.get l with
          | .loop rc=>match rc.state with
            | .ready=>match rec (.code lo r0.fid true r0.body ⟨o.s.T,o.s.H.set l (.loop { rc with state:=.busy }),o.s.M⟩) with
              | some ⟨e,s⟩=>match s.H.get l with
                | .loop rc=>match e with
                  | .nrm=>some (.ofVal (.bool true) (s.H.set l (.loop { rc with state:=.ready,pending:=none })))
                  | e=>some (.ofVal (.bool false) (s.H.set l (.loop { rc with state:=.done,pending:=some e })))
                | _=>none
              | none=>none
            | _=>none
          | _=>none
        | _=>none) (fun o => ?_) fun rec => ?_
       · cases o.e with
         | nrm=>simp only;cases o.s.H.get l with
           | loop rc=>simp only;cases rc.state with
             | ready =>
               simp only
               exact .of (.ask (.code lo r0.fid true r0.body ⟨o.s.T,o.s.H.set l (.loop { rc with state:=.busy }),o.s.M⟩)) (fun o=>.const (match o.s.H.get l with
                | .loop rc=>match o.e with
                  | .nrm=>some (.ofVal (.bool true) (o.s.H.set l (.loop { rc with state:=.ready,pending:=none })))
                  | e=>some (.ofVal (.bool false) (o.s.H.set l (.loop { rc with state:=.done,pending:=some e })))
                | _=>none)) fun rec=>by cases rec (.code lo r0.fid true r0.body ⟨o.s.T,o.s.H.set l (.loop { rc with state:=.busy }),o.s.M⟩)<;>rfl
             | _=>exact .const _
           | _=>exact .const _
         | _=>exact .const _
       · cases rec (.code lo r0.fid true r0.assign ⟨setParams r0.params args r0.tmps,H,[]⟩) with
         | none=>rfl
         | some o=>obtain ⟨e,s⟩:=o;cases e<;>rfl
     · exact .const _
   | _=>exact .const _
 | code lo fid rnd c s =>
   simp only
   cases c with
   | seq a b =>
     dsimp only
     exact .of (.ask (.code lo fid rnd a s)) (G:=fun o rec=>match o with
      | ⟨.nrm,s⟩=>rec (.code lo fid rnd b s)
      | r=>some r) (fun o=>by obtain ⟨e,s⟩:=o;cases e<;>first | exact .ask _ | exact .const _) fun rec=>by
      cases rec (.code lo fid rnd a s) with
      | none=>rfl
      | some o=>obtain ⟨e,s⟩:=o;cases e<;>rfl
   | cond c a b =>
     simp only
     split
     · exact .ask _
     · exact .ask _
     · exact .const _
   | block id b =>
     dsimp only
     exact .of (.ask (.code lo fid rnd b s)) (fun o=>.const (match o with
      | ⟨.ext id',s⟩=>some (if id'=id then ⟨.nrm,s⟩ else ⟨.ext id',s⟩)
      | r=>some r)) fun rec=>by
      cases rec (.code lo fid rnd b s) with
      | none=>rfl
      | some o=>obtain ⟨e,s⟩:=o;cases e<;>rfl
   | loop b =>
     dsimp only
     exact .of (.ask (.code lo fid rnd b s)) (G:=fun o rec=>match o with
      | ⟨.nrm,s⟩=>rec (.code lo fid rnd (.loop b) s)
      | r=>some r) (fun o=>by obtain ⟨e,s⟩:=o;cases e<;>first | exact .ask _ | exact .const _) fun rec=>by
      cases rec (.code lo fid rnd b s) with
      | none=>rfl
      | some o=>obtain ⟨e,s⟩:=o;cases e<;>rfl
   | scope b =>
     dsimp only
     exact .of (.ask (.code lo fid rnd b s)) (fun o=>.const (match o with
      | ⟨.gto _,_⟩=>none
      | r=>some r)) fun rec=>by
      cases rec (.code lo fid rnd b s) with
      | none=>rfl
      | some o=>obtain ⟨e,s⟩:=o;cases e<;>rfl
   | region id ops draw =>
     cases draw with
     | false=>dsimp only;exact .of (fin_ops C fid lo ops.toList ops.toList s.T s.H) (fun o=>.const (some ⟨.nrm,⟨o.1,o.2,s.M⟩⟩)) fun rec=>by cases aops C rec fid lo ops.toList ops.toList s.T s.H<;>rfl
     | true=>dsimp only;exact .of (fin_draw C fid lo ops.toList ops.toList (C.plans fid id) 0 [] s.T s.H 0 []) (fun o=>.const (some ⟨.nrm,⟨o.1,o.2,s.M⟩⟩)) fun rec=>by cases adraw C rec fid lo ops.toList ops.toList (C.plans fid id) 0 [] s.T s.H 0 []<;>rfl
   | rangeFunc g params assign body =>
     cases rnd with
     | true=>exact .const _
     | false =>
       simp only
       cases evalO C s.T g with
       | none=>exact .const _
       | some v=>cases v with
         | fn f first caps=>cases first with
           | cons a b=>exact .const _
           | nil =>
             dsimp only
             exact .of (.ask (.call lo f (.yld (s.H.n+1)::caps.map AV.strip) ((s.H.push .defr).push (.loop ⟨fid,s.T,params.toList,assign,body,.ready,none,s.H.n⟩)))) (fun o=>.const (match o.s.H.get (s.H.n+1) with
              | .loop rc=>match rc.state with
                | .busy=>none
                | _=>match rc.pending with
                  | none=>some ⟨.nrm,⟨s.T,o.s.H.set (s.H.n+1) .dead,s.H.n::s.M⟩⟩
                  | some e=>some ⟨e,⟨s.T,o.s.H.set (s.H.n+1) .dead,s.H.n::s.M⟩⟩
              | _=>none)) fun rec=>by
              cases rec (.call lo f (.yld (s.H.n+1)::caps.map AV.strip) ((s.H.push .defr).push (.loop ⟨fid,s.T,params.toList,assign,body,.ready,none,s.H.n⟩)))<;>rfl
         | _=>exact .const _
   | _=>exact .const _
theorem run_mono1:∀ (k:Nat) (t:Task) (o:Out),run C k t=some o→run C (k+1) t=some o
 | 0,t,o,h=>by simp [run] at h
 | k+1,t,o,h=>by
   obtain ⟨L,h1,h2⟩:=fin_step C t (run C k) o h
   exact h2 (run C (k+1)) fun p hp=>run_mono1 k p.1 p.2 (h1 p hp)
theorem run_mono {k k':Nat} {t:Task} {o:Out} (hk:k≤k') (h:run C k t=some o):run C k' t=some o:=by
 induction hk with
 | refl=>exact h
 | step _ ih=>exact run_mono1 C _ t o ih
open Classical in
noncomputable def R (t:Task):Option Out:=if h:∃ o k,run C k t=some o then some h.choose else none
theorem R_iff {t:Task} {o:Out}:R C t=some o ↔ ∃ k,run C k t=some o:=by
 unfold R
 constructor
 · intro h
   split at h
   · rename_i hx
     cases h
     exact hx.choose_spec
   · cases h
 · rintro ⟨k,hk⟩
   have hx:∃ o k,run C k t=some o:=⟨o,k,hk⟩
   rw [dif_pos hx]
   obtain ⟨k',hk'⟩:=hx.choose_spec
   have h1:=run_mono C (Nat.le_max_left k k') hk
   have h2:=run_mono C (Nat.le_max_right k k') hk'
   rw [h1] at h2
   exact h2.symm
theorem run_all:∀ (L:List (Task × Out)),(∀ p ∈ L,R C p.1=some p.2) → ∃ k,∀ p ∈ L,run C k p.1=some p.2
 | [],_=>⟨0,by simp⟩
 | p::L,h=>by
   obtain ⟨k1,h1⟩:=run_all L fun q hq=>h q (List.mem_cons_of_mem _ hq)
   obtain ⟨k2,h2⟩:=(R_iff C).1 (h p (List.mem_cons_self ..))
   refine ⟨max k1 k2,fun q hq => ?_⟩
   rcases List.mem_cons.1 hq with rfl | hq
   · exact run_mono C (Nat.le_max_right ..) h2
   · exact run_mono C (Nat.le_max_left ..) (h1 q hq)
theorem R_eq (t:Task):R C t=astep C (R C) t:=by
 apply Option.ext
 intro o
 constructor
 · intro h
   obtain ⟨k,hk⟩:=(R_iff C).1 h
   cases k with
   | zero=>simp [run] at hk
   | succ k =>
     obtain ⟨L,h1,h2⟩:=fin_step C t (run C k) o hk
     exact h2 (R C) fun p hp=>(R_iff C).2 ⟨k,h1 p hp⟩
 · intro h
   obtain ⟨L,h1,h2⟩:=fin_step C t (R C) o h
   obtain ⟨k,hk⟩:=run_all C L h1
   exact (R_iff C).2 ⟨k+1,h2 (run C k) hk⟩
end Go.Sim

/-
Calls whose value an earlier run has found.
-/
namespace Go.Sim
open Go
variable {C:Cfg} {g:Gh} {n:Nat} {H:Heap} {w:World}
theorem memo_ok (Sa:Sane C) {k:Nat} {f:FuncId} {args:List AV} {o:Out} (h:run C k (.call 0 f args .empty)=some o) (hp:pureAll args=true) (hv:o.val.strip.pure=true) (lo:Nat) (H:Heap) :
 CallOk C lo f args H o.val.strip H:=by
 have hs:=run_ok Sa k _ _ h (Nat.le_refl 0)
 refine ⟨hs.1,fun g w cargs hR ha => ?_⟩
 have hR0:Rel C g .empty w:=⟨fun id hid=>by simp [Heap.empty] at hid,fun id _=>rfl,fun id hid=>by simp [Heap.empty] at hid,fun i j hi=>by simp [Heap.empty] at hi,hR.know,fun id hid=>by simp [Heap.empty] at hid,hR.glob,
  fun x cs hx=>⟨(hR.gsz x cs hx).1,fun ⟨id,hid,_⟩=>by simp [Heap.empty] at hid⟩⟩
 have hpa:∀ a ∈ args,a.pure=true:=by
  clear h hs ha
  induction args with
  | nil=>intro a ha;simp at ha
  | cons x r ih =>
    simp only [pureAll,Bool.and_eq_true] at hp
    intro a ha
    rcases List.mem_cons.1 ha with rfl | ha
    · exact hp.1
    · exact ih hp.2 a ha
 have ha0:VRels g 0 args cargs:=⟨ha.1,fun i a v h1 h2=>(ha.2 i a v h1 h2).pure (hpa a (List.mem_of_getElem? h1))⟩
 refine (hs.2 g w cargs hR0 ha0).mono fun e w' hpost => ?_
 obtain ⟨cv,rfl,g',r1,r2,r3⟩:=hpost.returned
 have r2':Ext (Heap.empty).n g .empty w g' o.s.H w':=r2
 obtain ⟨b1,b2⟩:=hR0.back_call r1 r2' 0
 obtain ⟨j1,j2,j3⟩:=hR.join (Hk:=.empty) (Nat.zero_le _) (fun id hid=>by simp [Heap.empty] at hid) b1 b2 lo
 exact ⟨_,j1,j2,j3 _ _ (r3.strip.pure hv)⟩
/-! ### Tables that differ in their memo alone -/
def Cfg.withMemo (C:Cfg) (m:FuncId→List AV→Option AV):Cfg:={ C with memo:=m }
theorem clsOf_memo (m:FuncId→List AV→Option AV):clsOf (C.withMemo m)=clsOf C:=rfl
theorem planOk_memo (m:FuncId→List AV→Option AV):planOk (C.withMemo m)=planOk C:=by
 funext fid all ops pl i K seen
 induction ops generalizing pl i K seen with
 | nil=>cases pl<;>rfl
 | cons o r ih=>cases pl with
   | nil=>rfl
   | cons s ss=>simp only [planOk,ih];rfl
theorem codeOk_memo (m:FuncId→List AV→Option AV) (fid:FuncId) (n:Nat) (c:Code):codeOk (C.withMemo m) fid n c=codeOk C fid n c:=by
 induction c with
 | region id ops draw=>simp only [codeOk,planOk_memo];rfl
 | seq a b iha ihb=>simp only [codeOk,iha,ihb]
 | cond _ a b iha ihb=>simp only [codeOk,iha,ihb]
 | block _ b ih=>simp only [codeOk,ih]
 | loop b ih=>simp only [codeOk,ih]
 | scope b ih=>simp only [codeOk,ih]
 | rangeFunc _ ps a b iha ihb=>simp only [codeOk,iha,ihb]
 | _=>rfl
theorem rel_memo (m:FuncId→List AV→Option AV):Rel (C.withMemo m) g H w ↔ Rel C g H w:=by
 have hb:∀ (n:Nat) (l:Loc) (b:ABlk),BRel (C.withMemo m) g n w l b ↔ BRel C g n w l b:=by
  intro n l b
  cases b with
  | loop r=>simp only [BRel,codeOk_memo]
  | _=>exact Iff.rfl
 exact ⟨fun h=>⟨fun id hid=>(hb _ _ _).1 (h.blk id hid),h.out,h.lt,h.inj,h.know,h.apart,h.glob,h.gsz⟩,fun h=>⟨fun id hid=>(hb _ _ _).2 (h.blk id hid),h.out,h.lt,h.inj,h.know,h.apart,h.glob,h.gsz⟩⟩
theorem callOk_memo (m:FuncId→List AV→Option AV) {lo:Nat} {f:FuncId} {args:List AV} {v:AV} {H':Heap}:CallOk (C.withMemo m) lo f args H v H' ↔ CallOk C lo f args H v H':=by
 have hp:∀ (g:Gh) (w:World) (e:Ending) (w':World),Post (C.withMemo m) lo g H w v H' e w' ↔ Post C lo g H w v H' e w':=by
  intro g w e w'
  cases e with
  | returned cv=>exact ⟨fun ⟨g',h1,h2⟩=>⟨g',(rel_memo m).1 h1,h2⟩,fun ⟨g',h1,h2⟩=>⟨g',(rel_memo m).2 h1,h2⟩⟩
  | _=>exact Iff.rfl
 exact ⟨fun h=>⟨h.1,fun g w cargs hR ha=>(h.2 g w cargs ((rel_memo m).2 hR) ha).mono fun e w' x=>(hp g w e w').1 x⟩,
  fun h=>⟨h.1,fun g w cargs hR ha=>(h.2 g w cargs ((rel_memo m).1 hR) ha).mono fun e w' x=>(hp g w e w').2 x⟩⟩
theorem Sane.withMemo (Sa:Sane C) (m:FuncId→List AV→Option AV) (hm:∀ f args v,m f args=some v → ∀ lo H,CallOk C lo f args H v H):Sane (C.withMemo m) where
 depth:=Sa.depth
 orders:=Sa.orders
 good:=fun f hf=>by
  obtain ⟨fn,c,h1,h2,h3,h4⟩:=Sa.good f hf
  exact ⟨fn,c,h1,h2,h3,by rw [codeOk_memo];exact h4⟩
 memo:=fun f args v h lo H=>(callOk_memo m).2 (hm f args v h lo H)
 prim:=fun f p args v hp h lo H=>(callOk_memo m).2 (Sa.prim f p args v hp h lo H)
 hprim:=fun f p lo args H v H' hp h hl=>(callOk_memo m).2 (Sa.hprim f p lo args H v H' hp h hl)
 at1:=Sa.at1
/-! ### A list of calls as a memo -/
mutual
def AV.beq:AV→AV→Bool
 | .bool a,.bool b=>a == b
 | .int k a,.int l b=>Nat.beq (kcode k) (kcode l) && eqI a b
 | .str a,.str b=>beqL a b
 | .nilp,.nilp=>true
 | .ps .unk a,.ps .unk b=>beqRows a b
 | .ps .nil a,.ps .nil b=>beqRows a b
 | .ps .exact a,.ps .exact b=>beqRows a b
 | .nilm,.nilm=>true
 | .agg a,.agg b=>beqAVs a b
 | .tup a,.tup b=>beqAVs a b
 | _,_=>false
def beqAVs:List AV→List AV→Bool
 | [],[]=>true
 | a::x,b::y=>AV.beq a b && beqAVs x y
 | _,_=>false
def beqRows:List (List AV)→List (List AV)→Bool
 | [],[]=>true
 | a::x,b::y=>beqAVs a b && beqRows x y
 | _,_=>false
end
theorem of_eqI {a b:Int} (h:eqI a b=true):a=b:=by
 cases a<;>cases b<;>simp [eqI] at h<;>simp [h]
theorem of_beqL:∀ {a b:List Nat},beqL a b=true→a=b
 | [],[],_=>rfl
 | [],_::_,h=>by simp [beqL] at h
 | _::_,[],h=>by simp [beqL] at h
 | a::x,b::y,h=>by
   unfold beqL at h
   cases hab:Nat.beq a b with
   | false=>rw [hab] at h;simp at h
   | true =>
     rw [hab] at h
     have:=Nat.eq_of_beq_eq_true hab
     rw [this,of_beqL h]
theorem kcode_eq {k l:IntKind} (h:Nat.beq (kcode k) (kcode l)=true):k=l:=by
 cases k<;>cases l<;>first | rfl | (simp [kcode] at h)
mutual
theorem AV.beq_eq:∀ {a b:AV},AV.beq a b=true→a=b:=by
 intro a b h
 unfold AV.beq at h
 split at h
 · simp at h;rw [h]
 · simp only [Bool.and_eq_true] at h;rw [kcode_eq h.1,of_eqI h.2]
 · rw [of_beqL h]
 · rfl
 · rw [beqRows_eq h]
 · rw [beqRows_eq h]
 · rw [beqRows_eq h]
 · rfl
 · rw [beqAVs_eq h]
 · rw [beqAVs_eq h]
 · cases h
theorem beqAVs_eq:∀ {a b:List AV},beqAVs a b=true→a=b:=by
 intro a b h
 unfold beqAVs at h
 split at h
 · rfl
 · simp only [Bool.and_eq_true] at h;rw [AV.beq_eq h.1,beqAVs_eq h.2]
 · cases h
theorem beqRows_eq:∀ {a b:List (List AV)},beqRows a b=true→a=b:=by
 intro a b h
 unfold beqRows at h
 split at h
 · rfl
 · simp only [Bool.and_eq_true] at h;rw [beqAVs_eq h.1,beqRows_eq h.2]
 · cases h
end
structure Known where
 f:FuncId
 args:List AV
 v:AV
def memoOf:List Known→FuncId→List AV→Option AV
 | [],_,_=>none
 | k::r,f,args=>cond (Nat.beq k.f f && beqAVs k.args args) (some k.v) (memoOf r f args)
theorem memoOf_ok {l:List Known} (h:∀ k ∈ l,∀ lo H,CallOk C lo k.f k.args H k.v H):∀ f args v,memoOf l f args=some v → ∀ lo H,CallOk C lo f args H v H:=by
 induction l with
 | nil=>intro f args v h;simp [memoOf] at h
 | cons k r ih =>
   intro f args v hm
   unfold memoOf at hm
   cases hc:(Nat.beq k.f f && beqAVs k.args args) with
   | false=>rw [hc] at hm;exact ih (fun k hk=>h k (List.mem_cons_of_mem _ hk)) f args v hm
   | true =>
     rw [hc] at hm
     simp at hm;subst hm
     simp only [Bool.and_eq_true] at hc
     have h1:=Nat.eq_of_beq_eq_true hc.1
     have h2:=beqAVs_eq hc.2
     subst h1;subst h2
     exact h k (List.mem_cons_self ..)
theorem known_ok (Sa:Sane C) {l:List Known} (hl:∀ k ∈ l,∀ lo H,CallOk C lo k.f k.args H k.v H) {fuel:Nat} {k:Known} (h:((run (C.withMemo (memoOf l)) fuel (.call 0 k.f k.args .empty)).map fun o=>o.val.strip.beq k.v)=some true) (hp:pureAll k.args=true) (hv:k.v.pure=true) :
 ∀ lo H,CallOk C lo k.f k.args H k.v H:=by
 intro lo H
 cases hr:run (C.withMemo (memoOf l)) fuel (.call 0 k.f k.args .empty) with
 | none=>rw [hr] at h;simp at h
 | some o =>
   rw [hr] at h
   simp only [Option.map_some,Option.some.injEq] at h
   have he:=AV.beq_eq h
   have:=memo_ok (Sa.withMemo _ (memoOf_ok hl)) hr hp (by rw [he];exact hv) lo H
   rw [he] at this
   exact (callOk_memo _).1 this
end Go.Sim

/-
Equations by which a run without fuel is followed on data that are not closed.
-/
namespace Go.Sim
open Go
variable {C:Cfg} {lo:Nat} {fid:FuncId} {rnd:Bool} {s:St} {T:TT AV} {H:Heap} {M:List Nat}
theorem R_skip:R C (.code lo fid rnd .skip s)=some ⟨.nrm,s⟩:=by rw [R_eq];rfl
theorem R_label (l:Nat):R C (.code lo fid rnd (.label l) s)=some ⟨.nrm,s⟩:=by rw [R_eq];rfl
theorem R_ret:R C (.code lo fid rnd .ret s)=some ⟨.ret,s⟩:=by rw [R_eq];rfl
theorem R_exit (i:Nat):R C (.code lo fid rnd (.exit i) s)=some ⟨.ext i,s⟩:=by rw [R_eq];rfl
theorem R_goto (i:Nat):R C (.code lo fid rnd (.goto i) s)=some ⟨.gto i,s⟩:=by rw [R_eq];rfl
def thenO (x:Option Out) (f:St→Option Out):Option Out:=match x with
 | some ⟨.nrm,s⟩=>f s
 | r=>r
theorem thenO_nrm (s:St) (f:St→Option Out):thenO (some ⟨.nrm,s⟩) f=f s:=rfl
theorem thenO_ret (s:St) (f:St→Option Out):thenO (some ⟨.ret,s⟩) f=some ⟨.ret,s⟩:=rfl
theorem thenO_ext (i:Nat) (s:St) (f:St→Option Out):thenO (some ⟨.ext i,s⟩) f=some ⟨.ext i,s⟩:=rfl
theorem thenO_gto (i:Nat) (s:St) (f:St→Option Out):thenO (some ⟨.gto i,s⟩) f=some ⟨.gto i,s⟩:=rfl
theorem R_seq (a b:Code):R C (.code lo fid rnd (.seq a b) s)=thenO (R C (.code lo fid rnd a s)) fun s=>R C (.code lo fid rnd b s):=by rw [R_eq];rfl
theorem R_loop (b:Code):R C (.code lo fid rnd (.loop b) s)=thenO (R C (.code lo fid rnd b s)) fun s=>R C (.code lo fid rnd (.loop b) s):=by rw [R_eq];rfl
def condO (v:Option AV) (a b:Option Out):Option Out:=match v with
 | some (.bool true)=>a
 | some (.bool false)=>b
 | _=>none
theorem condO_true (a b:Option Out):condO (some (.bool true)) a b=a:=rfl
theorem condO_false (a b:Option Out):condO (some (.bool false)) a b=b:=rfl
theorem condO_bool (x:Bool) (a b:Option Out):condO (some (.bool x)) a b=if x then a else b:=by cases x<;>rfl
theorem R_cond (c:Operand) (a b:Code):R C (.code lo fid rnd (.cond c a b) s)=condO (evalO C s.T c) (R C (.code lo fid rnd a s)) (R C (.code lo fid rnd b s)):=by rw [R_eq];rfl
def blockO (i:Nat) (x:Option Out):Option Out:=match x with
 | some ⟨.ext j,s⟩=>some (if j=i then ⟨.nrm,s⟩ else ⟨.ext j,s⟩)
 | r=>r
theorem blockO_nrm (i:Nat) (s:St):blockO i (some ⟨.nrm,s⟩)=some ⟨.nrm,s⟩:=rfl
theorem blockO_ret (i:Nat) (s:St):blockO i (some ⟨.ret,s⟩)=some ⟨.ret,s⟩:=rfl
theorem blockO_ext (i j:Nat) (s:St):blockO i (some ⟨.ext j,s⟩)=if j=i then some ⟨.nrm,s⟩ else some ⟨.ext j,s⟩:=by
 unfold blockO;by_cases h:j=i<;>simp [h]
theorem R_block (i:Nat) (b:Code):R C (.code lo fid rnd (.block i b) s)=blockO i (R C (.code lo fid rnd b s)):=by rw [R_eq];rfl
def scopeO (x:Option Out):Option Out:=match x with
 | some ⟨.gto _,_⟩=>none
 | r=>r
theorem scopeO_nrm (s:St):scopeO (some ⟨.nrm,s⟩)=some ⟨.nrm,s⟩:=rfl
theorem scopeO_ret (s:St):scopeO (some ⟨.ret,s⟩)=some ⟨.ret,s⟩:=rfl
theorem scopeO_ext (i:Nat) (s:St):scopeO (some ⟨.ext i,s⟩)=some ⟨.ext i,s⟩:=rfl
theorem R_scope (b:Code):R C (.code lo fid rnd (.scope b) s)=scopeO (R C (.code lo fid rnd b s)):=by rw [R_eq];rfl
def outO (x:Option (TT AV × Heap)) (M:List Nat):Option Out:=match x with
 | some (T,H)=>some ⟨.nrm,⟨T,H,M⟩⟩
 | none=>none
theorem outO_some (T:TT AV) (H:Heap) (M:List Nat):outO (some (T,H)) M=some ⟨.nrm,⟨T,H,M⟩⟩:=rfl
theorem R_region (id:Nat) (ops:Array Oper):R C (.code lo fid rnd (.region id ops false) s)=outO (aops C (R C) fid lo ops.toList ops.toList s.T s.H) s.M:=by rw [R_eq];rfl
theorem R_draw (id:Nat) (ops:Array Oper):R C (.code lo fid rnd (.region id ops true) s)=outO (adraw C (R C) fid lo ops.toList ops.toList (C.plans fid id) 0 [] s.T s.H 0 []) s.M:=by rw [R_eq];rfl
def retO (C:Cfg) (rs:List ResultVar) (x:Option Out):Option Out:=match x with
 | some ⟨e,s⟩=>match e with
   | .nrm | .ret=>match shutMarks s.M s.H with
     | some H=>match aresults C H s.T rs with
       | some [v]=>some (.ofVal v H)
       | some vs=>some (.ofVal (.tup vs) H)
       | none=>none
     | none=>none
   | _=>none
 | none=>none
theorem R_call {f:FuncId} {fn:Func} {c:Code} (args:List AV) (hg:C.good f=true) (hf:C.P.funcs[f]? = some fn) (hb:fn.body=some c) :
 R C (.call lo f args H)=retO C fn.results.toList (R C (.code lo f false c ⟨argsT args 0 .leaf,H,[]⟩)):=by
 rw [R_eq]
 simp only [astep,hg,hf,hb]
 rfl
theorem retO_one (rs:List ResultVar) {e:AExit} (he:e=.nrm∨e=.ret) (T:TT AV) (H:Heap) {v:AV} (hv:aresults C H T rs=some [v]) :
 retO C rs (some ⟨e,⟨T,H,[]⟩⟩)=some (.ofVal v H):=by
 unfold retO
 rcases he with rfl | rfl<;>simp only [shutMarks,hv]
/-! ### Tables -/
theorem getT_leaf (n:Nat):getT .leaf n=aundef:=by cases n<;>rfl
end Go.Sim

/-
What holds behind a run without fuel: rules that rewrite.
-/
namespace Go.Sim
open Go
variable {C:Cfg} {lo:Nat} {fid:FuncId} {rnd:Bool}
structure Tag {α:Sort _} (k:α):Type where
def OO (x:Option Out) (Q:AExit→TT AV→Heap→List Nat→Prop) (_t:Tag Q:=⟨⟩):Prop:=match x with
 | some ⟨e,⟨T,H,M⟩⟩=>Q e T H M
 | none=>False
def WO (x:Option (TT AV × Heap)) (K:TT AV→Heap→Prop) (_t:Tag K:=⟨⟩):Prop:=match x with
 | some (T,H)=>K T H
 | none=>False
def VO (x:Option (AV × Heap)) (K:AV→Heap→Prop) (_t:Tag K:=⟨⟩):Prop:=match x with
 | some (v,H)=>K v H
 | none=>False
def AO {α:Type} (x:Option α) (K:α→Prop) (_t:Tag K:=⟨⟩):Prop:=match x with
 | some v=>K v
 | none=>False
theorem OO_some (e:AExit) (T:TT AV) (H:Heap) (M:List Nat) (Q:AExit→TT AV→Heap→List Nat→Prop):OO (some ⟨e,⟨T,H,M⟩⟩) Q=Q e T H M:=rfl
theorem WO_some (T:TT AV) (H:Heap) (K:TT AV→Heap→Prop):WO (some (T,H)) K=K T H:=rfl
theorem VO_some (v:AV) (H:Heap) (K:AV→Heap→Prop):VO (some (v,H)) K=K v H:=rfl
theorem AO_some {α:Type} (v:α) (K:α→Prop):AO (some v) K=K v:=rfl
def W (C:Cfg) (lo:Nat) (fid:FuncId) (rnd:Bool) (c:Code) (T:TT AV) (H:Heap) (M:List Nat) (Q:AExit→TT AV→Heap→List Nat→Prop) (_t:Tag Q:=⟨⟩):Prop :=
 OO (R C (.code lo fid rnd c ⟨T,H,M⟩)) Q
theorem W_iff {c:Code} {T:TT AV} {H:Heap} {M:List Nat} {Q:AExit→TT AV→Heap→List Nat→Prop}:W C lo fid rnd c T H M Q ↔ ∃ e T' H' M',R C (.code lo fid rnd c ⟨T,H,M⟩)=some ⟨e,⟨T',H',M'⟩⟩∧Q e T' H' M':=by
 unfold W
 cases h:R C (.code lo fid rnd c ⟨T,H,M⟩) with
 | none=>simp [OO]
 | some o =>
   obtain ⟨e,⟨T',H',M'⟩⟩:=o
   simp only [OO_some]
   constructor
   · intro q;exact ⟨e,T',H',M',rfl,q⟩
   · rintro ⟨e1,T1,H1,M1,h1,q⟩
     simp only [Option.some.injEq,Out.mk.injEq,St.mk.injEq] at h1
     obtain ⟨rfl,rfl,rfl,rfl⟩:=h1
     exact q
theorem W_mono {c:Code} {T:TT AV} {H:Heap} {M:List Nat} {Q Q':AExit→TT AV→Heap→List Nat→Prop} (h:W C lo fid rnd c T H M Q) (hq:∀ e T H M,Q e T H M→Q' e T H M):W C lo fid rnd c T H M Q':=by
 rw [W_iff] at h ⊢
 obtain ⟨e,T',H',M',h1,h2⟩:=h
 exact ⟨e,T',H',M',h1,hq _ _ _ _ h2⟩
section
variable (T:TT AV) (H:Heap) (M:List Nat) (Q:AExit→TT AV→Heap→List Nat→Prop)
theorem W_skip:W C lo fid rnd .skip T H M Q=Q .nrm T H M:=by unfold W;rw [R_skip];rfl
theorem W_label (l:Nat):W C lo fid rnd (.label l) T H M Q=Q .nrm T H M:=by unfold W;rw [R_label];rfl
theorem W_ret:W C lo fid rnd .ret T H M Q=Q .ret T H M:=by unfold W;rw [R_ret];rfl
theorem W_exit (i:Nat):W C lo fid rnd (.exit i) T H M Q=Q (.ext i) T H M:=by unfold W;rw [R_exit];rfl
def next (e:AExit) (a b:Prop) (_t:Tag (a∧b):=⟨⟩):Prop:=match e with
 | .nrm=>a
 | _=>b
theorem next_nrm (a b:Prop):next .nrm a b=a:=rfl
theorem next_ret (a b:Prop):next .ret a b=b:=rfl
theorem next_ext (i:Nat) (a b:Prop):next (.ext i) a b=b:=rfl
theorem W_seq (a b:Code):W C lo fid rnd (.seq a b) T H M Q=W C lo fid rnd a T H M fun e T H M=>next e (W C lo fid rnd b T H M Q) (Q e T H M):=by
 unfold W
 rw [R_seq]
 cases h:R C (.code lo fid rnd a ⟨T,H,M⟩) with
 | none=>rfl
 | some o=>obtain ⟨e,⟨T',H',M'⟩⟩:=o;cases e<;>rfl
theorem W_loop (b:Code):W C lo fid rnd (.loop b) T H M Q=W C lo fid rnd b T H M fun e T H M=>next e (W C lo fid rnd (.loop b) T H M Q) (Q e T H M):=by
 unfold W
 rw [R_loop]
 cases h:R C (.code lo fid rnd b ⟨T,H,M⟩) with
 | none=>rfl
 | some o=>obtain ⟨e,⟨T',H',M'⟩⟩:=o;cases e<;>rfl
def branch (v:Option AV) (a b:Prop) (_t:Tag (a∧b):=⟨⟩):Prop:=match v with
 | some (.bool x)=>(x=true→a)∧(x=false→b)
 | _=>False
theorem branch_true (a b:Prop):branch (some (.bool true)) a b=a:=by simp [branch]
theorem branch_false (a b:Prop):branch (some (.bool false)) a b=b:=by simp [branch]
theorem branch_bool (x:Bool) (a b:Prop):branch (some (.bool x)) a b=((x=true→a)∧(x=false→b)):=rfl
theorem W_cond (c:Operand) (a b:Code):W C lo fid rnd (.cond c a b) T H M Q=branch (evalO C T c) (W C lo fid rnd a T H M Q) (W C lo fid rnd b T H M Q):=by
 unfold W
 rw [R_cond]
 show OO (condO (evalO C T c) _ _) Q=_
 cases h:evalO C T c with
 | none=>rfl
 | some v =>
   cases v with
   | bool x=>cases x<;>simp [condO,branch]
   | _=>rfl
def shut (i:Nat) (Q:AExit→TT AV→Heap→List Nat→Prop) (e:AExit) (T:TT AV) (H:Heap) (M:List Nat) (_t:Tag Q:=⟨⟩):Prop:=match e with
 | .ext j=>if j=i then Q .nrm T H M else Q (.ext j) T H M
 | e=>Q e T H M
theorem shut_nrm (i:Nat):shut i Q .nrm T H M=Q .nrm T H M:=rfl
theorem shut_ret (i:Nat):shut i Q .ret T H M=Q .ret T H M:=rfl
theorem shut_ext (i j:Nat):shut i Q (.ext j) T H M=if j=i then Q .nrm T H M else Q (.ext j) T H M:=rfl
theorem W_block (i:Nat) (b:Code):W C lo fid rnd (.block i b) T H M Q=W C lo fid rnd b T H M (fun e T H M=>shut i Q e T H M):=by
 unfold W
 rw [R_block]
 cases h:R C (.code lo fid rnd b ⟨T,H,M⟩) with
 | none=>rfl
 | some o =>
   obtain ⟨e,⟨T',H',M'⟩⟩:=o
   cases e<;>try rfl
   rename_i j
   rw [blockO_ext]
   show _=if j=i then _ else _
   by_cases hj:j=i<;>simp [hj,OO]
theorem W_region (id:Nat) (ops:Array Oper):W C lo fid rnd (.region id ops false) T H M Q=WO (aops C (R C) fid lo ops.toList ops.toList T H) fun T H=>Q .nrm T H M:=by
 unfold W
 rw [R_region]
 show OO (outO (aops C (R C) fid lo ops.toList ops.toList T H) M) Q=_
 cases aops C (R C) fid lo ops.toList ops.toList T H<;>rfl
theorem W_draw (id:Nat) (ops:Array Oper):W C lo fid rnd (.region id ops true) T H M Q=WO (adraw C (R C) fid lo ops.toList ops.toList (C.plans fid id) 0 [] T H 0 []) fun T H=>Q .nrm T H M:=by
 unfold W
 rw [R_draw]
 show OO (outO (adraw C (R C) fid lo ops.toList ops.toList (C.plans fid id) 0 [] T H 0 []) M) Q=_
 cases adraw C (R C) fid lo ops.toList ops.toList (C.plans fid id) 0 [] T H 0 []<;>rfl
end
/-! ### Regions, operation by operation -/
section
variable {rec:Rec} {all:List Oper} (T:TT AV) (H:Heap) (K:TT AV→Heap→Prop)
theorem aops_nil:WO (aops C rec fid lo all [] T H) K=K T H:=rfl
theorem aops_op (dst:Option Tmp) (op:Op) (t:TypeId) (pos:String) (after:Array Edge) (r:List Oper) :
 WO (aops C rec fid lo all (⟨dst,op,t,pos,after,none⟩::r) T H) K=VO (aop C rec fid lo ⟨dst,op,t,pos,after,none⟩ T H) fun v H=>WO (aops C rec fid lo all r (putT T dst v) H) K:=by
 have hu:aops C rec fid lo all (⟨dst,op,t,pos,after,none⟩::r) T H=match aop C rec fid lo ⟨dst,op,t,pos,after,none⟩ T H with
  | some (v,H)=>aops C rec fid lo all r (putT T dst v) H
  | none=>none:=rfl
 rw [hu]
 cases aop C rec fid lo ⟨dst,op,t,pos,after,none⟩ T H<;>rfl
def guardO (want:Bool) (v:AV) (a b:Prop) (_t:Tag (a∧b):=⟨⟩):Prop:=match v with
 | .bool x=>(x=want→a)∧(x ≠ want→b)
 | _=>b
theorem guardO_tt (a b:Prop):guardO true (.bool true) a b=a:=by simp [guardO]
theorem guardO_tf (a b:Prop):guardO true (.bool false) a b=b:=by simp [guardO]
theorem guardO_ff (a b:Prop):guardO false (.bool false) a b=a:=by simp [guardO]
theorem guardO_ft (a b:Prop):guardO false (.bool true) a b=b:=by simp [guardO]
theorem guardO_undef (want:Bool) (a b:Prop):guardO want aundef a b=b:=rfl
theorem guardO_bool (want x:Bool) (a b:Prop):guardO want (.bool x) a b=((x=want→a)∧(x ≠ want→b)):=rfl
theorem aops_guard' (dst:Option Tmp) (op:Op) (t:TypeId) (pos:String) (after:Array Edge) (j:Nat) (want:Bool) (d:Tmp) (hd:dstOf all j=some d) (r:List Oper) :
 WO (aops C rec fid lo all (⟨dst,op,t,pos,after,some (j,want)⟩::r) T H) K =
  guardO want (getT T d) (VO (aop C rec fid lo ⟨dst,op,t,pos,after,some (j,want)⟩ T H) fun v H=>WO (aops C rec fid lo all r (putT T dst v) H) K) (WO (aops C rec fid lo all r (putT T dst aundef) H) K):=by
 have ha:awanted all T ⟨dst,op,t,pos,after,some (j,want)⟩=(match getT T d with | .bool b=>b == want | _=>false):=by
  unfold awanted
  simp only [hd]
  cases getT T d<;>rfl
 have hu:aops C rec fid lo all (⟨dst,op,t,pos,after,some (j,want)⟩::r) T H=match awanted all T ⟨dst,op,t,pos,after,some (j,want)⟩ with
  | true=>match aop C rec fid lo ⟨dst,op,t,pos,after,some (j,want)⟩ T H with
    | some (v,H)=>aops C rec fid lo all r (putT T dst v) H
    | none=>none
  | false=>aops C rec fid lo all r (putT T dst aundef) H:=rfl
 rw [hu,ha]
 cases hv:getT T d with
 | bool x =>
   unfold guardO
   by_cases hx:x=want
   · subst hx
     simp only [beq_self_eq_true,ne_eq,not_true_eq_false,false_implies,and_true,true_implies]
     cases aop C rec fid lo ⟨dst,op,t,pos,after,some (j,x)⟩ T H<;>rfl
   · have:(x == want)=false:=by simpa using hx
     simp only [this,hx,false_implies,ne_eq,not_false_eq_true,true_implies,true_and]
 | _=>rfl
def dstG (x:Option Tmp) (T:TT AV) (want:Bool) (a b:Prop) (_t:Tag (a∧b):=⟨⟩):Prop:=match x with
 | some d=>guardO want (getT T d) a b
 | none=>b
theorem dstG_some (d:Tmp) (T:TT AV) (want:Bool) (a b:Prop):dstG (some d) T want a b=guardO want (getT T d) a b:=rfl
theorem aops_guard (dst:Option Tmp) (op:Op) (t:TypeId) (pos:String) (after:Array Edge) (j:Nat) (want:Bool) (r:List Oper) :
 WO (aops C rec fid lo all (⟨dst,op,t,pos,after,some (j,want)⟩::r) T H) K =
  dstG (dstOf all j) T want (VO (aop C rec fid lo ⟨dst,op,t,pos,after,some (j,want)⟩ T H) fun v H=>WO (aops C rec fid lo all r (putT T dst v) H) K) (WO (aops C rec fid lo all r (putT T dst aundef) H) K):=by
 cases hd:dstOf all j with
 | some d=>exact aops_guard' T H K dst op t pos after j want d hd r
 | none =>
   have ha:awanted all T ⟨dst,op,t,pos,after,some (j,want)⟩=false:=by
    unfold awanted
    simp only [hd]
   have hu:aops C rec fid lo all (⟨dst,op,t,pos,after,some (j,want)⟩::r) T H=match awanted all T ⟨dst,op,t,pos,after,some (j,want)⟩ with
    | true=>match aop C rec fid lo ⟨dst,op,t,pos,after,some (j,want)⟩ T H with
      | some (v,H)=>aops C rec fid lo all r (putT T dst v) H
      | none=>none
    | false=>aops C rec fid lo all r (putT T dst aundef) H:=rfl
   rw [hu,ha];rfl
end
theorem putT_some (T:TT AV) (d:Tmp) (v:AV):putT T (some d) v=setT T d v:=rfl
theorem putT_none (T:TT AV) (v:AV):putT T none v=T:=rfl
end Go.Sim

/-
What holds behind single operations: rules that rewrite.
-/
namespace Go.Sim
open Go
section
variable {C:Cfg} {lo:Nat} {fid:FuncId} {rec:Rec} {T:TT AV} {H:Heap} {K:AV→Heap→Prop} {d:Option Tmp} {t:TypeId} {p:String} {af:Array Edge} {gd:Option (Nat × Bool)}
theorem op_move (hz:C.frz fid t=false) (x:Operand):VO (aop C rec fid lo ⟨d,.move x,t,p,af,gd⟩ T H) K=AO (evalO C T x) fun v=>K v H:=by
 simp only [aop];cases evalO C T x<;>simp [hz,VO,AO]
theorem op_assign (hz:C.frz fid t=false) (x:Operand):VO (aop C rec fid lo ⟨d,.assign x,t,p,af,gd⟩ T H) K=AO (evalO C T x) fun v=>K v H:=by
 simp only [aop];cases evalO C T x<;>simp [hz,VO,AO]
def pickO (c:AV) (a b:Prop) (_t:Tag (a∧b):=⟨⟩):Prop:=match c with
 | .bool x=>(x=true→a)∧(x=false→b)
 | _=>False
theorem pickO_true (a b:Prop):pickO (.bool true) a b=a:=by simp [pickO]
theorem pickO_false (a b:Prop):pickO (.bool false) a b=b:=by simp [pickO]
theorem pickO_bool (x:Bool) (a b:Prop):pickO (.bool x) a b=((x=true→a)∧(x=false→b)):=rfl
theorem op_pick (c a b:Operand):VO (aop C rec fid lo ⟨d,.pick c a b,t,p,af,gd⟩ T H) K=AO (evalO C T c) fun c=>pickO c (AO (evalO C T a) fun v=>K v H) (AO (evalO C T b) fun v=>K v H):=by
 simp only [aop]
 cases evalO C T c with
 | none=>rfl
 | some v=>cases v with
   | bool x=>cases x
             · cases evalO C T b<;>simp [VO,AO,pickO,same]
             · cases evalO C T a<;>simp [VO,AO,pickO,same]
   | _=>simp [VO,AO,pickO]
theorem op_alloc (t':TypeId):VO (aop C rec fid lo ⟨d,.alloc t',t,p,af,gd⟩ T H) K=AO (zeroOf C.P t') fun z=>K (.ptr H.n 0) (H.push (.cells z.cells t')):=by
 simp only [aop];cases zeroOf C.P t'<;>rfl
theorem op_box (t':TypeId) (x:Operand):VO (aop C rec fid lo ⟨d,.box t' x,t,p,af,gd⟩ T H) K=AO (evalO C T x) fun v=>v.cells.all AV.one=true∧K (.ptr H.n 0) (H.push (.cells v.cells t')):=by
 simp only [aop]
 cases evalO C T x with
 | none=>rfl
 | some v=>cases h:v.cells.all AV.one<;>simp [VO,AO,h]
theorem op_load (t':TypeId) (x:Operand):VO (aop C rec fid lo ⟨d,.load t' x,t,p,af,gd⟩ T H) K=AO (evalO C T x) fun a=>AO (aload C.P H t' a) fun v=>K v H:=by
 simp only [aop]
 cases evalO C T x with
 | none=>rfl
 | some a=>show VO (same H (aload C.P H t' a)) K=_;cases h:aload C.P H t' a<;>simp [AO,h,VO,same]
theorem op_store (t':TypeId) (a x:Operand):VO (aop C rec fid lo ⟨d,.store t' a x,t,p,af,gd⟩ T H) K=AO (evalO C T a) fun a=>AO (evalO C T x) fun x=>AO (astore C.P lo H t' a x) fun H=>K aundef H:=by
 simp only [aop]
 cases evalO C T a with
 | none=>rfl
 | some a=>cases evalO C T x with
   | none=>rfl
   | some x=>show VO (onlyHeap (astore C.P lo H t' a x)) K=_;cases h:astore C.P lo H t' a x<;>simp [AO,h,VO,onlyHeap]
theorem op_nilCheck (x:Operand) {id off:Nat} (h:evalO C T x=some (.ptr id off)):VO (aop C rec fid lo ⟨d,.nilCheck x,t,p,af,gd⟩ T H) K=K (.ptr id off) H:=by
 simp only [aop,h];rfl
theorem op_bin (op:BinOp) (t':TypeId) (x y:Operand) (u:TypeId):VO (aop C rec fid lo ⟨d,.binOp op t' x y u,t,p,af,gd⟩ T H) K=AO (evalO C T x) fun x=>AO (evalO C T y) fun y=>AO (abin C.P op t' x y) fun v=>K v H:=by
 simp only [aop]
 cases evalO C T x with
 | none=>rfl
 | some x=>cases evalO C T y with
   | none=>rfl
   | some y=>show VO (same H (abin C.P op t' x y)) K=_;cases h:abin C.P op t' x y<;>simp [AO,h,VO,same]
theorem op_un (op:UnOp) (t':TypeId) (x:Operand):VO (aop C rec fid lo ⟨d,.unOp op t' x,t,p,af,gd⟩ T H) K=AO (evalO C T x) fun x=>AO (aun op x) fun v=>K v H:=by
 simp only [aop]
 cases evalO C T x with
 | none=>rfl
 | some x=>show VO (same H (aun op x)) K=_;cases h:aun op x<;>simp [AO,h,VO,same]
theorem op_conv (a b:TypeId) (x:Operand):VO (aop C rec fid lo ⟨d,.convert a b x,t,p,af,gd⟩ T H) K=AO (evalO C T x) fun x=>AO (aconv C.P a b x) fun v=>K v H:=by
 simp only [aop]
 cases evalO C T x with
 | none=>rfl
 | some x=>show VO (same H (aconv C.P a b x)) K=_;cases h:aconv C.P a b x<;>simp [AO,h,VO,same]
theorem op_build (t':TypeId) (ps:Array (Nat × Operand)):VO (aop C rec fid lo ⟨d,.build t' ps,t,p,af,gd⟩ T H) K=AO (evalParts C T ps.toList) fun l=>AO (abuild C.P t' l) fun v=>K v H:=by
 simp only [aop]
 cases evalParts C T ps.toList with
 | none=>rfl
 | some l=>show VO (same H (abuild C.P t' l)) K=_;cases h:abuild C.P t' l<;>simp [AO,h,VO,same]
theorem op_buildSlice (t':TypeId) (hz:C.lit fid t'=false) (n:Nat) (ps:Array (Nat × Operand)):VO (aop C rec fid lo ⟨d,.buildSlice t' n ps,t,p,af,gd⟩ T H) K=AO (evalParts C T ps.toList) fun l=>AO (abuildSlice C.P t' n l) fun v=>K v H:=by
 simp only [aop]
 cases evalParts C T ps.toList with
 | none=>rfl
 | some l=>simp only [hz];show VO (same H (abuildSlice C.P t' n l)) K=_;cases h:abuildSlice C.P t' n l<;>simp [AO,h,VO,same]
theorem op_buildLit (t':TypeId) (hz:C.lit fid t'=true) (n:Nat) (ps:Array (Nat × Operand)):VO (aop C rec fid lo ⟨d,.buildSlice t' n ps,t,p,af,gd⟩ T H) K=AO (evalParts C T ps.toList) fun l=>VO (abuildLit C.P H t' n l) K:=by
 simp only [aop]
 cases evalParts C T ps.toList with
 | none=>rfl
 | some l=>simp only [hz];rfl
theorem op_makeFunc (f:FuncId) (a b:Array Operand):VO (aop C rec fid lo ⟨d,.makeFunc (.func f) a b,t,p,af,gd⟩ T H) K=AO (evalOs C T a.toList) fun a=>AO (evalOs C T b.toList) fun b=>K (.fn f a b) H:=by
 simp only [aop]
 cases evalOs C T a.toList with
 | none=>rfl
 | some a=>cases evalOs C T b.toList<;>rfl
theorem op_makeMap (t':TypeId):VO (aop C rec fid lo ⟨d,.makeMap t' none,t,p,af,gd⟩ T H) K=K (.map H.n) (H.push (.map [])):=by
 simp only [aop];rfl
theorem op_fieldAddr (t':TypeId) (x:Operand) (f:Nat):VO (aop C rec fid lo ⟨d,.fieldAddr t' x f,t,p,af,gd⟩ T H) K=AO (evalO C T x) fun x=>AO (afieldAddr C.P t' x f) fun v=>K v H:=by
 simp only [aop]
 cases evalO C T x with
 | none=>rfl
 | some x=>show VO (same H (afieldAddr C.P t' x f)) K=_;cases h:afieldAddr C.P t' x f<;>simp [AO,h,VO,same]
theorem op_field (t':TypeId) (x:Operand) (f:Nat):VO (aop C rec fid lo ⟨d,.field t' x f,t,p,af,gd⟩ T H) K=AO (evalO C T x) fun x=>AO (afield C.P t' x f) fun v=>K v H:=by
 simp only [aop]
 cases evalO C T x with
 | none=>rfl
 | some x=>show VO (same H (afield C.P t' x f)) K=_;cases h:afield C.P t' x f<;>simp [AO,h,VO,same]
theorem op_indexAddr (t':TypeId) (x i:Operand):VO (aop C rec fid lo ⟨d,.indexAddr t' x i,t,p,af,gd⟩ T H) K=AO (evalO C T x) fun x=>AO (evalO C T i) fun i=>AO (aindexAddr C.P t' x i) fun v=>K v H:=by
 simp only [aop]
 cases evalO C T x with
 | none=>rfl
 | some x=>cases evalO C T i with
   | none=>rfl
   | some i=>show VO (same H (aindexAddr C.P t' x i)) K=_;cases h:aindexAddr C.P t' x i<;>simp [AO,h,VO,same]
theorem op_index (t':TypeId) (x i:Operand):VO (aop C rec fid lo ⟨d,.index t' x i,t,p,af,gd⟩ T H) K=AO (evalO C T x) fun x=>AO (evalO C T i) fun i=>AO (aindex C.P t' x i) fun v=>K v H:=by
 simp only [aop]
 cases evalO C T x with
 | none=>rfl
 | some x=>cases evalO C T i with
   | none=>rfl
   | some i=>show VO (same H (aindex C.P t' x i)) K=_;cases h:aindex C.P t' x i<;>simp [AO,h,VO,same]
theorem op_lookup (t':TypeId) (m k:Operand) (ok:Bool):VO (aop C rec fid lo ⟨d,.lookup t' m k ok,t,p,af,gd⟩ T H) K=AO (evalO C T m) fun m=>AO (evalO C T k) fun k=>AO (alookup C.P H t' m k ok) fun v=>K v H:=by
 simp only [aop]
 cases evalO C T m with
 | none=>rfl
 | some m=>cases evalO C T k with
   | none=>rfl
   | some k=>show VO (same H (alookup C.P H t' m k ok)) K=_;cases h:alookup C.P H t' m k ok<;>simp [AO,h,VO,same]
theorem op_mapUpdate (t':TypeId) (m k x:Operand):VO (aop C rec fid lo ⟨d,.mapUpdate t' m k x,t,p,af,gd⟩ T H) K=AO (evalO C T m) fun m=>AO (evalO C T k) fun k=>AO (evalO C T x) fun x=>AO (amapUpdate C.P lo H t' m k x) fun H=>K aundef H:=by
 simp only [aop]
 cases evalO C T m with
 | none=>rfl
 | some m=>cases evalO C T k with
   | none=>rfl
   | some k=>cases evalO C T x with
     | none=>rfl
     | some x=>show VO (onlyHeap (amapUpdate C.P lo H t' m k x)) K=_;cases h:amapUpdate C.P lo H t' m k x<;>simp [AO,h,VO,onlyHeap]
theorem op_range (t':TypeId) (x:Operand):VO (aop C rec fid lo ⟨d,.range t' x,t,p,af,gd⟩ T H) K=AO (evalO C T x) fun x=>VO (arange C.P H t' x) K:=by
 simp only [aop]
 cases evalO C T x<;>rfl
theorem op_next (x:Operand) (b:Bool):VO (aop C rec fid lo ⟨d,.next x b,t,p,af,gd⟩ T H) K=AO (evalO C T x) fun x=>VO (anext lo H x b) K:=by
 simp only [aop]
 cases evalO C T x<;>rfl
def tupO (v:AV) (i:Nat):Option AV:=match v with
 | .tup vs=>vs[i]?
 | _=>none
theorem tupO_tup (vs:List AV) (i:Nat):tupO (.tup vs) i=vs[i]?:=rfl
theorem op_extract (x:Operand) (i:Nat):VO (aop C rec fid lo ⟨d,.extract x i,t,p,af,gd⟩ T H) K=AO (evalO C T x) fun v=>AO (tupO v i) fun v=>K v H:=by
 simp only [aop]
 cases evalO C T x with
 | none=>rfl
 | some v=>cases v with
   | tup vs=>show _=AO vs[i]? _;simp only [];cases vs[i]? <;> rfl
   | _=>rfl
theorem op_len (x:Operand) (t':TypeId):VO (aop C rec fid lo ⟨d,.call ⟨.builtin .len,#[x],#[t']⟩,t,p,af,gd⟩ T H) K=AO (evalO C T x) fun v=>AO (alen C.P H t' v) fun v=>K v H:=by
 simp only [aop,acall,evalOs]
 cases evalO C T x with
 | none=>rfl
 | some v=>show VO (same H (alen C.P H t' v)) K=_;cases h:alen C.P H t' v<;>simp [AO,h,VO,same]
theorem op_callF (f:FuncId) (xs:Array Operand) (ts:Array TypeId):VO (aop C rec fid lo ⟨d,.call ⟨.value (.func f),xs,ts⟩,t,p,af,gd⟩ T H) K=AO (evalOs C T xs.toList) fun l=>VO (aenter C rec lo f (l.map AV.strip) H) K:=by
 simp only [aop,acall]
 cases evalOs C T xs.toList with
 | none=>rfl
 | some l=>simp only [evalO,List.nil_append,List.append_nil];rfl
theorem op_callV (x:Operand) (xs:Array Operand) (ts:Array TypeId) {f:FuncId} {first caps:List AV} (h:evalO C T x=some (.fn f first caps)):VO (aop C rec fid lo ⟨d,.call ⟨.value x,xs,ts⟩,t,p,af,gd⟩ T H) K=AO (evalOs C T xs.toList) fun l=>VO (aenter C rec lo f ((first++l++caps).map AV.strip) H) K:=by
 simp only [aop,acall]
 cases evalOs C T xs.toList with
 | none=>rfl
 | some l=>simp only [h];rfl
theorem enter_prim {f:FuncId} {args:List AV} {q:List AV→Option AV} (hm:C.memo f args=none) (hp:C.prim f=some q):VO (aenter C rec lo f args H) K=AO (q args) fun v=>K v H:=by
 unfold aenter
 simp only [hm,hp]
 cases q args<;>rfl
theorem enter_memo {f:FuncId} {args:List AV} {v:AV} (hm:C.memo f args=some v):VO (aenter C rec lo f args H) K=K v H:=by
 unfold aenter
 simp only [hm];rfl
theorem evalO_tmp (n:Tmp):evalO C T (.tmp n)=some (getT T n):=rfl
theorem evalO_func (f:FuncId):evalO C T (.func f)=some (.fn f [] []):=rfl
theorem evalO_int (k:IntKind) (n:Int):evalO C T (.const (.int k n))=some (.int k n):=rfl
theorem evalO_bool (b:Bool):evalO C T (.const (.bool b))=some (.bool b):=rfl
theorem evalO_nils:evalO C T (.const (.slice none 0 0))=some (.ps .nil []):=rfl
theorem evalOs_nil:evalOs C T []=some []:=rfl
theorem evalOs_cons (o:Operand) (r:List Operand):evalOs C T (o::r)=match evalO C T o with
 | some v=>match evalOs C T r with
   | some l=>some (v::l)
   | none=>none
 | none=>none:=rfl
theorem evalParts_nil:evalParts C T []=some []:=rfl
theorem evalParts_cons (i:Nat) (o:Operand) (r:List (Nat × Operand)):evalParts C T ((i,o)::r)=match evalO C T o with
 | some v=>match evalParts C T r with
   | some l=>some ((i,v)::l)
   | none=>none
 | none=>none:=rfl
end
/-! ### Numbers -/
theorem ltI_iff (a b:Int):ltI a b=decide (a < b):=ltI_eq a b
theorem eqI_iff (a b:Int):eqI a b=decide (a=b):=by rw [eqI_eq];rfl
theorem wrapq_i64 {x:Int} (h1:-9223372036854775808≤x) (h2:x≤9223372036854775807):wrapq .i64 x=x:=by
 have:inK .i64 x=true:=by
  cases x with
  | ofNat n=>simp only [inK,kmax,Nat.ble_eq];simp at h2;omega
  | negSucc n =>
    have:Int.negSucc n = -((n:Int)+1):=by omega
    simp only [inK,ksigned,kmax,Bool.true_and,Nat.ble_eq];omega
 unfold wrapq;rw [this];rfl
theorem natOf_cast (lim:Nat) (k:IntKind) (n:Nat):natOf lim (.int k (n:Int))=if n < lim then some n else none:=rfl
theorem natOf_lit (lim:Nat) (k:IntKind) (n:Nat):natOf lim (.int k (OfNat.ofNat n))=if n < lim then some n else none:=rfl
end Go.Sim

/-
Functions that an earlier run has shown to keep a contract are known by it.
-/
namespace Go.Sim
open Go
variable {C:Cfg} {g:Gh} {n:Nat} {H:Heap} {w:World}
def Cfg.withPrims (C:Cfg) (P:FuncId→Option (List AV→Option AV)):Cfg:={ C with prim:=fun f=>match C.prim f with | some p=>some p | none=>P f }
structure PrimsOk (C:Cfg) (P:FuncId→Option (List AV→Option AV)):Prop where
 mode:∀ f p,P f=some p→C.mode f=.pure∧C.hprim f=none
 ok:∀ f p args v,P f=some p→p args=some v → ∀ lo H,CallOk C lo f args H v H
variable {P:FuncId→Option (List AV→Option AV)}
theorem clsOf_prims (hP:PrimsOk C P):clsOf (C.withPrims P)=clsOf C:=by
 have key:∀ f,(if ((C.withPrims P).prim f).isSome then Cls.read else if ((C.withPrims P).hprim f).isSome then (if (C.withPrims P).at1 f then .writeAt else .write) else match (C.withPrims P).mode f with
  | .pure=>.read
  | .fresh=>.fresh
  | .free=>.write)=(if (C.prim f).isSome then Cls.read else if (C.hprim f).isSome then (if C.at1 f then .writeAt else .write) else match C.mode f with
  | .pure=>.read
  | .fresh=>.fresh
  | .free=>.write):=by
  intro f
  show (if ((match C.prim f with | some p=>some p | none=>P f).isSome)=true then Cls.read else if (C.hprim f).isSome=true then (if C.at1 f then .writeAt else .write) else match C.mode f with | .pure=>.read | .fresh=>.fresh | .free=>.write)=_
  cases hp:C.prim f with
  | some p=>rfl
  | none =>
    cases hq:P f with
    | none=>rfl
    | some p =>
      obtain ⟨h1,h2⟩:=hP.mode f p hq
      simp [h1,h2]
 funext fid o
 unfold clsOf
 cases o.op with
 | call c =>
   cases hc:c.callee with
   | value x =>
     cases x with
     | func f=>simp only [hc];exact key f
     | _=>simp only [hc]
   | invoke _ _=>simp only [hc]
   | builtin b=>cases b<;>simp only [hc]
 | _=>rfl
theorem planOk_prims (hP:PrimsOk C P):planOk (C.withPrims P)=planOk C:=by
 funext fid all ops pl i K seen
 have hh:planHere (C.withPrims P)=planHere C:=by
  funext fid all o s i K seen
  unfold planHere
  rw [clsOf_prims hP]
 induction ops generalizing pl i K seen with
 | nil=>cases pl<;>rfl
 | cons o r ih=>cases pl with
   | nil=>rfl
   | cons s ss=>simp only [planOk,ih,hh]
theorem codeOk_prims (hP:PrimsOk C P) (fid:FuncId) (n:Nat) (c:Code):codeOk (C.withPrims P) fid n c=codeOk C fid n c:=by
 induction c with
 | region id ops draw=>simp only [codeOk,planOk_prims hP];rfl
 | seq a b iha ihb=>simp only [codeOk,iha,ihb]
 | cond _ a b iha ihb=>simp only [codeOk,iha,ihb]
 | block _ b ih=>simp only [codeOk,ih]
 | loop b ih=>simp only [codeOk,ih]
 | scope b ih=>simp only [codeOk,ih]
 | rangeFunc _ ps a b iha ihb=>simp only [codeOk,iha,ihb]
 | _=>rfl
theorem rel_prims (hP:PrimsOk C P):Rel (C.withPrims P) g H w ↔ Rel C g H w:=by
 have hb:∀ (n:Nat) (l:Loc) (b:ABlk),BRel (C.withPrims P) g n w l b ↔ BRel C g n w l b:=by
  intro n l b
  cases b with
  | loop r=>simp only [BRel,codeOk_prims hP]
  | _=>exact Iff.rfl
 exact ⟨fun h=>⟨fun id hid=>(hb _ _ _).1 (h.blk id hid),h.out,h.lt,h.inj,h.know,h.apart,h.glob,h.gsz⟩,fun h=>⟨fun id hid=>(hb _ _ _).2 (h.blk id hid),h.out,h.lt,h.inj,h.know,h.apart,h.glob,h.gsz⟩⟩
theorem callOk_prims (hP:PrimsOk C P) {lo:Nat} {f:FuncId} {args:List AV} {v:AV} {H':Heap}:CallOk (C.withPrims P) lo f args H v H' ↔ CallOk C lo f args H v H':=by
 have hp:∀ (g:Gh) (w:World) (e:Ending) (w':World),Post (C.withPrims P) lo g H w v H' e w' ↔ Post C lo g H w v H' e w':=by
  intro g w e w'
  cases e with
  | returned cv=>exact ⟨fun ⟨g',h1,h2⟩=>⟨g',(rel_prims hP).1 h1,h2⟩,fun ⟨g',h1,h2⟩=>⟨g',(rel_prims hP).2 h1,h2⟩⟩
  | _=>exact Iff.rfl
 exact ⟨fun h=>⟨h.1,fun g w cargs hR ha=>(h.2 g w cargs ((rel_prims hP).2 hR) ha).mono fun e w' x=>(hp g w e w').1 x⟩,
  fun h=>⟨h.1,fun g w cargs hR ha=>(h.2 g w cargs ((rel_prims hP).1 hR) ha).mono fun e w' x=>(hp g w e w').2 x⟩⟩
theorem Sane.withPrims (Sa:Sane C) (hP:PrimsOk C P):Sane (C.withPrims P) where
 depth:=Sa.depth
 orders:=Sa.orders
 good:=fun f hf=>by
  obtain ⟨fn,c,h1,h2,h3,h4⟩:=Sa.good f hf
  exact ⟨fn,c,h1,h2,h3,by rw [codeOk_prims hP];exact h4⟩
 memo:=fun f args v h lo H=>(callOk_prims hP).2 (Sa.memo f args v h lo H)
 prim:=fun f p args v hp h lo H=>by
  refine (callOk_prims hP).2 ?_
  have hp':(match C.prim f with | some p=>some p | none=>P f)=some p:=hp
  cases hq:C.prim f with
  | some p' =>
    rw [hq] at hp'
    have e:p'=p:=by simpa using hp'
    subst e
    exact Sa.prim f _ args v hq h lo H
  | none =>
    rw [hq] at hp'
    exact hP.ok f p args v hp' h lo H
 hprim:=fun f p lo args H v H' hp h hl=>(callOk_prims hP).2 (Sa.hprim f p lo args H v H' hp h hl)
 at1:=Sa.at1
theorem call_ok0 (Sa:Sane C) {f:FuncId} {args:List AV} {v:AV} {H':Heap} (h:R C (.call 0 f args .empty)=some (.ofVal v H')) (hp:pureAll args=true) (hv:v.strip.pure=true) (lo:Nat) (H:Heap) :
 CallOk C lo f args H v.strip H:=by
 obtain ⟨k,hk⟩:=(R_iff C).1 h
 exact memo_ok Sa hk hp hv lo H
def bodyPost (C:Cfg) (rs:List ResultVar) (Q:AV→Heap→Prop) (e:AExit) (T:TT AV) (H:Heap) (M:List Nat):Prop :=
 (e=.nrm∨e=.ret)∧AO (shutMarks M H) fun H'=>AO (aresults C H' T rs) fun vs=>Q (match vs with | [v]=>v | vs=>.tup vs) H'
theorem R_of_body {lo:Nat} {f:FuncId} {fn:Func} {c:Code} {args:List AV} {Q:AV→Heap→Prop} {rs:List ResultVar} (hg:C.good f=true) (hf:C.P.funcs[f]? = some fn) (hb:fn.body=some c) (hr:fn.results=rs.toArray)
 (h:W C lo f false c (argsT args 0 .leaf) H [] (bodyPost C rs Q)):∃ v H',R C (.call lo f args H)=some (.ofVal v H')∧Q v H':=by
 rw [W_iff] at h
 obtain ⟨e,T,H1,M,h1,he,h2⟩:=h
 rw [R_call args hg hf hb,h1]
 have hr':fn.results.toList=rs:=by rw [hr]
 rw [hr']
 cases hs:shutMarks M H1 with
 | none=>rw [hs] at h2;exact h2.elim
 | some H' =>
   rw [hs] at h2
   cases ha:aresults C H' T rs with
   | none=>simp only [AO,ha] at h2
   | some vs =>
     simp only [AO,ha] at h2
     refine ⟨_,H', ?_,h2⟩
     unfold retO
     rcases he with rfl | rfl<;>simp only [hs,ha]<;>split<;>simp_all
theorem contract (Sa:Sane C) (hP:PrimsOk C P) {f:FuncId} {fn:Func} {c:Code} {args:List AV} {v:AV} {rs:List ResultVar} (hg:C.good f=true) (hf:C.P.funcs[f]? = some fn) (hb:fn.body=some c) (hr:fn.results=rs.toArray) (hp:pureAll args=true) (hv:v.pure=true)
 (h:W (C.withPrims P) 0 f false c (argsT args 0 .leaf) .empty [] (bodyPost (C.withPrims P) rs fun v' _=>v'.strip=v)) (lo:Nat) (H:Heap):CallOk C lo f args H v H:=by
 obtain ⟨v',H',h1,h2⟩:=R_of_body (C:=C.withPrims P) hg hf hb hr h
 have:=call_ok0 (Sa.withPrims hP) h1 hp (by rw [h2];exact hv) lo H
 rw [h2] at this
 exact (callOk_prims hP).1 this
theorem ar_nil (T:TT AV):aresults C H T []=some []:=rfl
theorem ar_tmp (T:TT AV) (t:Tmp) (rs:List ResultVar):aresults C H T (.tmp t::rs)=match aresults C H T rs with
 | some l=>some (getT T t::l)
 | none=>none:=rfl
theorem ar_cell (T:TT AV) (a:Tmp) (t:TypeId) (rs:List ResultVar):aresults C H T (.cell a t::rs)=match aload C.P H t (getT T a) with
 | some v=>match aresults C H T rs with
   | some l=>some (v::l)
   | none=>none
 | none=>none:=rfl
theorem empty_n:Heap.empty.n=0:=rfl
theorem argsT_nil (i:Nat) (T:TT AV):argsT [] i T=T:=rfl
theorem argsT_cons (v:AV) (r:List AV) (i:Nat) (T:TT AV):argsT (v::r) i T=argsT r (i+1) (setT T i v):=rfl
theorem shutMarks_nil:shutMarks [] H=some H:=rfl
theorem primsOk_none:PrimsOk C (fun _=>none) where
 mode:=fun _ _ h=>by cases h
 ok:=fun _ _ _ _ h=>by cases h
def addPrim (f0:FuncId) (p0:List AV→Option AV) (P:FuncId→Option (List AV→Option AV)):FuncId→Option (List AV→Option AV):=fun f=>if f=f0 then some p0 else P f
theorem primsOk_add (hP:PrimsOk C P) {f0:FuncId} {p0:List AV→Option AV} (hm:C.mode f0=.pure) (hh:C.hprim f0=none) (h:∀ args v,p0 args=some v → ∀ lo H,CallOk C lo f0 args H v H):PrimsOk C (addPrim f0 p0 P) where
 mode:=fun f p hf=>by
  unfold addPrim at hf
  split at hf
  · rename_i e;subst e;exact ⟨hm,hh⟩
  · exact hP.mode f p hf
 ok:=fun f p args v hf hv=>by
  unfold addPrim at hf
  split at hf
  · rename_i e;subst e;simp at hf;subst hf;exact h args v hv
  · exact hP.ok f p args v hf hv
end Go.Sim

/-
Loops.
-/
namespace Go.Sim
open Go
variable {C:Cfg} {lo:Nat} {fid:FuncId} {rnd:Bool}
theorem W_for {b:Code} {T:TT AV} {H:Heap} {M:List Nat} {Q:AExit→TT AV→Heap→List Nat→Prop} (I:Nat→TT AV→Heap→List Nat→Prop) (n:Nat) (h0:I 0 T H M)
 (step:∀ k T H M,k < n→I k T H M→W C lo fid rnd b T H M fun e T H M=>next e (I (k+1) T H M) (Q e T H M))
 (last:∀ T H M,I n T H M→W C lo fid rnd b T H M fun e T H M=>next e False (Q e T H M)):W C lo fid rnd (.loop b) T H M Q:=by
 have main:∀ (m k:Nat) (T:TT AV) (H:Heap) (M:List Nat),k+m=n→I k T H M→W C lo fid rnd (.loop b) T H M Q:=by
  intro m
  induction m with
  | zero =>
    intro k T H M hk hI
    have:k=n:=by omega
    subst this
    rw [W_loop]
    refine W_mono (last T H M hI) fun e T H M h => ?_
    cases e with
    | nrm=>exact h.elim
    | _=>exact h
  | succ m ih =>
    intro k T H M hk hI
    rw [W_loop]
    refine W_mono (step k T H M (by omega) hI) fun e T H M h => ?_
    cases e with
    | nrm=>exact ih (k+1) T H M (by omega) h
    | _=>exact h
 exact main n 0 T H M (by omega) h0
theorem natOf_0 (lim:Nat) (k:IntKind):natOf lim (.int k 0)=if 0 < lim then some 0 else none:=rfl
theorem natOf_1 (lim:Nat) (k:IntKind):natOf lim (.int k 1)=if 1 < lim then some 1 else none:=rfl
theorem aun_not (b:Bool):aun .not (.bool b)=some (.bool (!b)):=by cases b<;>rfl
theorem cast0:((0:Nat):Int)=0:=rfl
theorem wrap_nat {n:Nat} (h:n≤9223372036854775807):wrapq .i64 (n:Int)=(n:Int):=wrapq_i64 (by omega) (by omega)
theorem wrap_succ {k n:Nat} (hk:k < n) (hn:n≤maxRows):wrapq .i64 (Int.add (k:Int) 1)=((k+1:Nat):Int):=wrap_nat (n:=k+1) (by unfold maxRows at hn;omega)
end Go.Sim

/-
Regions that draw their order: rules that rewrite.
-/
namespace Go.Sim
open Go
section
variable {C:Cfg} {lo:Nat} {fid:FuncId} {rec:Rec} {all:List Oper} {r:List Oper} {ss:List OpI} {T:TT AV} {H:Heap} {K:TT AV→Heap→Prop} {i n k m:Nat} {conf:List Nat} {rd:List (Nat × Acc)} {hs:List Heap} {dst:Option Tmp} {op:Op} {t:TypeId} {pos:String} {after:Array Edge}
def okO (b:Bool) (a:Prop) (_t:Tag a:=⟨⟩):Prop:=match b with
 | false=>a
 | true=>False
theorem okO_false (a:Prop):okO false a=a:=rfl
theorem draw_nil (ss:List OpI):WO (adraw C rec fid lo all [] ss i rd T H n hs) K=K T H:=by
 cases ss<;>rfl
theorem draw_data (gd:Option (Nat × Bool)) (hg:gd=none):WO (adraw C rec fid lo all (⟨dst,op,t,pos,after,gd⟩::r) (⟨.data,k,m,conf⟩::ss) i rd T H n hs) K =
 VO (aop C rec fid lo ⟨dst,op,t,pos,after,gd⟩ T H) fun v _=>WO (adraw C rec fid lo all r ss (i+1) rd (putT T dst v) H n hs) K:=by
 subst hg
 have hu:adraw C rec fid lo all (⟨dst,op,t,pos,after,none⟩::r) (⟨.data,k,m,conf⟩::ss) i rd T H n hs=match aop C rec fid lo ⟨dst,op,t,pos,after,none⟩ T H with
  | some (v,_)=>adraw C rec fid lo all r ss (i+1) rd (putT T dst v) H n hs
  | none=>none:=rfl
 rw [hu]
 cases aop C rec fid lo ⟨dst,op,t,pos,after,none⟩ T H<;>rfl
theorem draw_load (gd:Option (Nat × Bool)) (hg:gd=none):WO (adraw C rec fid lo all (⟨dst,op,t,pos,after,gd⟩::r) (⟨.load,k,m,conf⟩::ss) i rd T H n hs) K =
 okO (clashes (accOf C T (backH (n - k) H hs).n .load ⟨dst,op,t,pos,after,gd⟩) conf rd || !opsBelow C T (backH (n - k) H hs).n .load ⟨dst,op,t,pos,after,gd⟩)
  (VO (aop C rec fid lo ⟨dst,op,t,pos,after,gd⟩ T (backH (n - k) H hs)) fun v _=>WO (adraw C rec fid lo all r ss (i+1) (record i (accOf C T (backH (n - k) H hs).n .load ⟨dst,op,t,pos,after,gd⟩) rd) (putT T dst v) H n hs) K):=by
 subst hg
 have hu:adraw C rec fid lo all (⟨dst,op,t,pos,after,none⟩::r) (⟨.load,k,m,conf⟩::ss) i rd T H n hs =
  match clashes (accOf C T (backH (n - k) H hs).n .load ⟨dst,op,t,pos,after,none⟩) conf rd || !opsBelow C T (backH (n - k) H hs).n .load ⟨dst,op,t,pos,after,none⟩ with
   | true=>none
   | false=>match aop C rec fid lo ⟨dst,op,t,pos,after,none⟩ T (backH (n - k) H hs) with
     | some (v,_)=>adraw C rec fid lo all r ss (i+1) (record i (accOf C T (backH (n - k) H hs).n .load ⟨dst,op,t,pos,after,none⟩) rd) (putT T dst v) H n hs
     | none=>none:=rfl
 rw [hu]
 cases (clashes (accOf C T (backH (n - k) H hs).n .load ⟨dst,op,t,pos,after,none⟩) conf rd || !opsBelow C T (backH (n - k) H hs).n .load ⟨dst,op,t,pos,after,none⟩) with
 | true=>rfl
 | false =>
   simp only [okO_false]
   cases aop C rec fid lo ⟨dst,op,t,pos,after,none⟩ T (backH (n - k) H hs)<;>rfl
theorem draw_read (gd:Option (Nat × Bool)) (hg:gd=none):WO (adraw C rec fid lo all (⟨dst,op,t,pos,after,gd⟩::r) (⟨.read,k,m,conf⟩::ss) i rd T H n hs) K =
 okO (clashes (accOf C T (backH (n - k) H hs).n .read ⟨dst,op,t,pos,after,gd⟩) conf rd || !opsBelow C T (backH (n - k) H hs).n .read ⟨dst,op,t,pos,after,gd⟩)
  (VO (aop C rec fid lo ⟨dst,op,t,pos,after,gd⟩ T (backH (n - k) H hs)) fun v _=>WO (adraw C rec fid lo all r ss (i+1) (record i (accOf C T (backH (n - k) H hs).n .read ⟨dst,op,t,pos,after,gd⟩) rd) (putT T dst v) H n hs) K):=by
 subst hg
 have hu:adraw C rec fid lo all (⟨dst,op,t,pos,after,none⟩::r) (⟨.read,k,m,conf⟩::ss) i rd T H n hs =
  match clashes (accOf C T (backH (n - k) H hs).n .read ⟨dst,op,t,pos,after,none⟩) conf rd || !opsBelow C T (backH (n - k) H hs).n .read ⟨dst,op,t,pos,after,none⟩ with
   | true=>none
   | false=>match aop C rec fid lo ⟨dst,op,t,pos,after,none⟩ T (backH (n - k) H hs) with
     | some (v,_)=>adraw C rec fid lo all r ss (i+1) (record i (accOf C T (backH (n - k) H hs).n .read ⟨dst,op,t,pos,after,none⟩) rd) (putT T dst v) H n hs
     | none=>none:=rfl
 rw [hu]
 cases (clashes (accOf C T (backH (n - k) H hs).n .read ⟨dst,op,t,pos,after,none⟩) conf rd || !opsBelow C T (backH (n - k) H hs).n .read ⟨dst,op,t,pos,after,none⟩) with
 | true=>rfl
 | false =>
   simp only [okO_false]
   cases aop C rec fid lo ⟨dst,op,t,pos,after,none⟩ T (backH (n - k) H hs)<;>rfl
theorem draw_fresh (gd:Option (Nat × Bool)) (hg:gd=none):WO (adraw C rec fid lo all (⟨dst,op,t,pos,after,gd⟩::r) (⟨.fresh,k,m,conf⟩::ss) i rd T H n hs) K =
 okO (clashes (accOf C T H.n .fresh ⟨dst,op,t,pos,after,gd⟩) conf rd)
  (VO (aop C rec fid lo ⟨dst,op,t,pos,after,gd⟩ T H) fun v H'=>WO (adraw C rec fid lo all r ss (i+1) (record i (accOf C T H.n .fresh ⟨dst,op,t,pos,after,gd⟩) rd) (putT T dst v) H' (n+1) (H::hs)) K):=by
 subst hg
 have hu:adraw C rec fid lo all (⟨dst,op,t,pos,after,none⟩::r) (⟨.fresh,k,m,conf⟩::ss) i rd T H n hs =
  match clashes (accOf C T H.n .fresh ⟨dst,op,t,pos,after,none⟩) conf rd with
   | true=>none
   | false=>match aop C rec fid lo ⟨dst,op,t,pos,after,none⟩ T H with
     | some (v,H')=>adraw C rec fid lo all r ss (i+1) (record i (accOf C T H.n .fresh ⟨dst,op,t,pos,after,none⟩) rd) (putT T dst v) H' (n+1) (H::hs)
     | none=>none:=rfl
 rw [hu]
 cases clashes (accOf C T H.n .fresh ⟨dst,op,t,pos,after,none⟩) conf rd with
 | true=>rfl
 | false =>
   simp only [okO_false]
   cases aop C rec fid lo ⟨dst,op,t,pos,after,none⟩ T H<;>rfl
theorem draw_writeAt (gd:Option (Nat × Bool)) (hg:gd=none):WO (adraw C rec fid lo all (⟨dst,op,t,pos,after,gd⟩::r) (⟨.writeAt,k,m,conf⟩::ss) i rd T H n hs) K =
 okO (clashes (accOf C T H.n .writeAt ⟨dst,op,t,pos,after,gd⟩) conf rd)
  (VO (aop C rec fid lo ⟨dst,op,t,pos,after,gd⟩ T H) fun v H'=>WO (adraw C rec fid lo all r ss (i+1) (record i (accOf C T H.n .writeAt ⟨dst,op,t,pos,after,gd⟩) rd) (putT T dst v) H' (n+1) (H::hs)) K):=by
 subst hg
 have hu:adraw C rec fid lo all (⟨dst,op,t,pos,after,none⟩::r) (⟨.writeAt,k,m,conf⟩::ss) i rd T H n hs =
  match clashes (accOf C T H.n .writeAt ⟨dst,op,t,pos,after,none⟩) conf rd with
   | true=>none
   | false=>match aop C rec fid lo ⟨dst,op,t,pos,after,none⟩ T H with
     | some (v,H')=>adraw C rec fid lo all r ss (i+1) (record i (accOf C T H.n .writeAt ⟨dst,op,t,pos,after,none⟩) rd) (putT T dst v) H' (n+1) (H::hs)
     | none=>none:=rfl
 rw [hu]
 cases clashes (accOf C T H.n .writeAt ⟨dst,op,t,pos,after,none⟩) conf rd with
 | true=>rfl
 | false =>
   simp only [okO_false]
   cases aop C rec fid lo ⟨dst,op,t,pos,after,none⟩ T H<;>rfl
theorem draw_write (gd:Option (Nat × Bool)) (hg:gd=none):WO (adraw C rec fid lo all (⟨dst,op,t,pos,after,gd⟩::r) (⟨.write,k,m,conf⟩::ss) i rd T H n hs) K =
 okO (clashes (accOf C T H.n .write ⟨dst,op,t,pos,after,gd⟩) conf rd)
  (VO (aop C rec fid lo ⟨dst,op,t,pos,after,gd⟩ T H) fun v H'=>WO (adraw C rec fid lo all r ss (i+1) (record i (accOf C T H.n .write ⟨dst,op,t,pos,after,gd⟩) rd) (putT T dst v) H' (n+1) (H::hs)) K):=by
 subst hg
 have hu:adraw C rec fid lo all (⟨dst,op,t,pos,after,none⟩::r) (⟨.write,k,m,conf⟩::ss) i rd T H n hs =
  match clashes (accOf C T H.n .write ⟨dst,op,t,pos,after,none⟩) conf rd with
   | true=>none
   | false=>match aop C rec fid lo ⟨dst,op,t,pos,after,none⟩ T H with
     | some (v,H')=>adraw C rec fid lo all r ss (i+1) (record i (accOf C T H.n .write ⟨dst,op,t,pos,after,none⟩) rd) (putT T dst v) H' (n+1) (H::hs)
     | none=>none:=rfl
 rw [hu]
 cases clashes (accOf C T H.n .write ⟨dst,op,t,pos,after,none⟩) conf rd with
 | true=>rfl
 | false =>
   simp only [okO_false]
   cases aop C rec fid lo ⟨dst,op,t,pos,after,none⟩ T H<;>rfl
theorem draw_guard (c:Cls) (j:Nat) (want:Bool):WO (adraw C rec fid lo all (⟨dst,op,t,pos,after,some (j,want)⟩::r) (⟨c,k,m,conf⟩::ss) i rd T H n hs) K =
 dstG (dstOf all j) T want (WO (adraw C rec fid lo [⟨dst,op,t,pos,after,none⟩] [⟨dst,op,t,pos,after,none⟩] [⟨c,k,m,conf⟩] i rd T H n hs) fun T' H' =>
  WO (adraw C rec fid lo all r ss (i+1) (if c=.data then rd else record i (accOf C T (if c.chain then H.n else (backH (n - k) H hs).n) c ⟨dst,op,t,pos,after,none⟩) rd) T' H' (if c.chain then n+1 else n) (if c.chain then H::hs else hs)) K)
  (WO (adraw C rec fid lo all r ss (i+1) rd (putT T dst aundef) H (if c.chain then n+1 else n) (if c.chain then H::hs else hs)) K):=by
 have hop:∀ T H,aop C rec fid lo ⟨dst,op,t,pos,after,some (j,want)⟩ T H=aop C rec fid lo ⟨dst,op,t,pos,after,none⟩ T H:=fun T H=>rfl
 have hac:∀ T n,accOf C T n c ⟨dst,op,t,pos,after,some (j,want)⟩=accOf C T n c ⟨dst,op,t,pos,after,none⟩:=fun T n=>rfl
 have hob:∀ T n,opsBelow C T n c ⟨dst,op,t,pos,after,some (j,want)⟩=opsBelow C T n c ⟨dst,op,t,pos,after,none⟩:=fun T n=>rfl
 have hw:awanted [⟨dst,op,t,pos,after,none⟩] T ⟨dst,op,t,pos,after,none⟩=true:=rfl
 have ha:awanted all T ⟨dst,op,t,pos,after,some (j,want)⟩=(match dstOf all j with | some d=>(match getT T d with | .bool b=>b == want | _=>false) | none=>false):=rfl
 have skip:awanted all T ⟨dst,op,t,pos,after,some (j,want)⟩=false→WO (adraw C rec fid lo all (⟨dst,op,t,pos,after,some (j,want)⟩::r) (⟨c,k,m,conf⟩::ss) i rd T H n hs) K =
  WO (adraw C rec fid lo all r ss (i+1) rd (putT T dst aundef) H (if c.chain then n+1 else n) (if c.chain then H::hs else hs)) K:=by
  intro h
  rw [adraw]
  simp only [h]
  cases c<;>rfl
 have go:awanted all T ⟨dst,op,t,pos,after,some (j,want)⟩=true→WO (adraw C rec fid lo all (⟨dst,op,t,pos,after,some (j,want)⟩::r) (⟨c,k,m,conf⟩::ss) i rd T H n hs) K =
  WO (adraw C rec fid lo [⟨dst,op,t,pos,after,none⟩] [⟨dst,op,t,pos,after,none⟩] [⟨c,k,m,conf⟩] i rd T H n hs) fun T' H' =>
   WO (adraw C rec fid lo all r ss (i+1) (if c=.data then rd else record i (accOf C T (if c.chain then H.n else (backH (n - k) H hs).n) c ⟨dst,op,t,pos,after,none⟩) rd) T' H' (if c.chain then n+1 else n) (if c.chain then H::hs else hs)) K:=by
  intro h
  cases c with
  | data =>
    rw [draw_data none rfl]
    rw [adraw]
    simp only [h,hop,Cls.chain]
    cases aop C rec fid lo ⟨dst,op,t,pos,after,none⟩ T H<;>simp [VO,WO,adraw]
  | load =>
    rw [draw_load none rfl]
    rw [adraw]
    simp only [h,hop,hac,hob,Cls.chain]
    cases (clashes (accOf C T (backH (n - k) H hs).n .load ⟨dst,op,t,pos,after,none⟩) conf rd || !opsBelow C T (backH (n - k) H hs).n .load ⟨dst,op,t,pos,after,none⟩) with
    | true=>simp [WO,okO]
    | false=>cases aop C rec fid lo ⟨dst,op,t,pos,after,none⟩ T (backH (n - k) H hs)<;>simp [VO,WO,adraw,okO]
  | read =>
    rw [draw_read none rfl]
    rw [adraw]
    simp only [h,hop,hac,hob,Cls.chain]
    cases (clashes (accOf C T (backH (n - k) H hs).n .read ⟨dst,op,t,pos,after,none⟩) conf rd || !opsBelow C T (backH (n - k) H hs).n .read ⟨dst,op,t,pos,after,none⟩) with
    | true=>simp [WO,okO]
    | false=>cases aop C rec fid lo ⟨dst,op,t,pos,after,none⟩ T (backH (n - k) H hs)<;>simp [VO,WO,adraw,okO]
  | fresh =>
    rw [draw_fresh none rfl]
    rw [adraw]
    simp only [h,hop,hac,Cls.chain]
    cases clashes (accOf C T H.n .fresh ⟨dst,op,t,pos,after,none⟩) conf rd with
    | true=>simp [WO,okO]
    | false=>cases aop C rec fid lo ⟨dst,op,t,pos,after,none⟩ T H<;>simp [VO,WO,adraw,okO]
  | writeAt =>
    rw [draw_writeAt none rfl]
    rw [adraw]
    simp only [h,hop,hac,Cls.chain]
    cases clashes (accOf C T H.n .writeAt ⟨dst,op,t,pos,after,none⟩) conf rd with
    | true=>simp [WO,okO]
    | false=>cases aop C rec fid lo ⟨dst,op,t,pos,after,none⟩ T H<;>simp [VO,WO,adraw,okO]
  | write =>
    rw [draw_write none rfl]
    rw [adraw]
    simp only [h,hop,hac,Cls.chain]
    cases clashes (accOf C T H.n .write ⟨dst,op,t,pos,after,none⟩) conf rd with
    | true=>simp [WO,okO]
    | false=>cases aop C rec fid lo ⟨dst,op,t,pos,after,none⟩ T H<;>simp [VO,WO,adraw,okO]
 cases hd:dstOf all j with
 | none =>
   have:awanted all T ⟨dst,op,t,pos,after,some (j,want)⟩=false:=by rw [ha,hd]
   exact skip this
 | some d =>
   rw [dstG_some]
   cases hv:getT T d with
   | bool x =>
     unfold guardO
     by_cases hx:x=want
     · subst hx
       have:awanted all T ⟨dst,op,t,pos,after,some (j,x)⟩=true:=by rw [ha,hd];simp [hv]
       rw [go this];simp
     · have:awanted all T ⟨dst,op,t,pos,after,some (j,want)⟩=false:=by rw [ha,hd];simp [hv,hx]
       rw [skip this];simp [hx]
   | _ =>
     have:awanted all T ⟨dst,op,t,pos,after,some (j,want)⟩=false:=by rw [ha,hd];simp only [hv]
     rw [skip this];rfl
end
def belowO (C:Cfg) (T:TT AV) (n:Nat) (x:Operand):Bool:=match evalO C T x with
 | some v=>v.under n
 | none=>true
def belowL (C:Cfg) (T:TT AV) (n:Nat):List Operand→Bool
 | []=>true
 | x::r=>belowO C T n x && belowL C T n r
theorem belowL_all (C:Cfg) (T:TT AV) (n:Nat):∀ l:List Operand,l.all (belowO C T n)=belowL C T n l
 | []=>rfl
 | x::r=>by simp only [List.all_cons,belowL,belowL_all C T n r]
theorem opsBelow_read (C:Cfg) (T:TT AV) (n:Nat) (o:Oper):opsBelow C T n .read o=belowL C T n o.op.operands.toList:=by
 rw [← belowL_all];rfl
theorem below_load (C:Cfg) (T:TT AV) (n:Nat) (o:Oper):opsBelow C T n .load o=true:=rfl
theorem below_callF (C:Cfg) (T:TT AV) (n:Nat) (d:Option Tmp) (f:FuncId) (xs:Array Operand) (ts:Array TypeId) (t:TypeId) (p:String) (af:Array Edge) (gd:Option (Nat × Bool)) :
 opsBelow C T n .read ⟨d,.call ⟨.value (.func f),xs,ts⟩,t,p,af,gd⟩=belowL C T n xs.toList:=by
 rw [opsBelow_read]
 show belowL C T n (Call.operands ⟨.value (.func f),xs,ts⟩).toList=_
 unfold Call.operands
 simp only [Array.toList_append]
 rfl
theorem below_len (C:Cfg) (T:TT AV) (n:Nat) (d:Option Tmp) (xs:Array Operand) (ts:Array TypeId) (t:TypeId) (p:String) (af:Array Edge) (gd:Option (Nat × Bool)) :
 opsBelow C T n .read ⟨d,.call ⟨.builtin .len,xs,ts⟩,t,p,af,gd⟩=belowL C T n xs.toList:=by
 rw [opsBelow_read]
 show belowL C T n (Call.operands ⟨.builtin .len,xs,ts⟩).toList=_
 unfold Call.operands
 simp
theorem below_lookup (C:Cfg) (T:TT AV) (n:Nat) (d:Option Tmp) (t':TypeId) (m k:Operand) (ok:Bool) (t:TypeId) (p:String) (af:Array Edge) (gd:Option (Nat × Bool)) :
 opsBelow C T n .read ⟨d,.lookup t' m k ok,t,p,af,gd⟩=belowL C T n [m,k]:=opsBelow_read ..
theorem belowL_nil (C:Cfg) (T:TT AV) (n:Nat):belowL C T n []=true:=rfl
theorem belowL_cons (C:Cfg) (T:TT AV) (n:Nat) (x:Operand) (r:List Operand):belowL C T n (x::r)=(belowO C T n x && belowL C T n r):=rfl
theorem under_int (n:Nat) (k:IntKind) (i:Int):(AV.int k i).under n=true:=rfl
theorem under_bool (n:Nat) (b:Bool):(AV.bool b).under n=true:=rfl
theorem under_str (n:Nat) (s:List Nat):(AV.str s).under n=true:=rfl
theorem under_unk (n:Nat) (rows:List (List AV)):(AV.ps .unk rows).under n=true:=rfl
theorem under_nil (n:Nat) (rows:List (List AV)):(AV.ps .nil rows).under n=true:=rfl
theorem under_exact (n:Nat) (rows:List (List AV)):(AV.ps .exact rows).under n=true:=rfl
theorem under_agg (n:Nat) (cs:List AV):(AV.agg cs).under n=underAll n cs:=by simp [AV.under]
theorem underAll_nil (n:Nat):underAll n []=true:=rfl
theorem underAll_cons (n:Nat) (v:AV) (r:List AV):underAll n (v::r)=(v.under n && underAll n r):=by simp [underAll]
theorem under_map (n id:Nat):(AV.map id).under n=Nat.blt id n:=by simp [AV.under]
theorem under_ptr (n id off:Nat):(AV.ptr id off).under n=Nat.blt id n:=by simp [AV.under]
theorem under_fn (n:Nat) (f:FuncId) (a b:List AV):(AV.fn f a b).under n=(underAll n a && underAll n b):=by simp [AV.under]
theorem pure_int (k:IntKind) (i:Int):(AV.int k i).pure=true:=rfl
theorem pure_bool (b:Bool):(AV.bool b).pure=true:=rfl
theorem pure_str (s:List Nat):(AV.str s).pure=true:=rfl
theorem pure_unk (rows:List (List AV)):(AV.ps .unk rows).pure=true:=rfl
theorem pure_nil (rows:List (List AV)):(AV.ps .nil rows).pure=true:=rfl
theorem blt_dec (a b:Nat):Nat.blt a b=decide (a < b):=by
 rw [Bool.eq_iff_iff,Nat.blt_eq,decide_eq_true_iff]
theorem blt_add (a b k:Nat) (h:a < b):Nat.blt a (k+b)=true:=by rw [Nat.blt_eq];omega
theorem clashes_nil (a:Option Acc) (rd:List (Nat × Acc)):clashes a [] rd=false:=by cases a<;>rfl
theorem backH_zero (H:Heap) (hs:List Heap):backH 0 H hs=H:=by cases hs<;>rfl
theorem backH_s (n:Nat) (H H':Heap) (hs:List Heap):backH (n+1) H (H'::hs)=backH n H' hs:=rfl
end Go.Sim

/-
Ranges over functions.
-/
namespace Go.Sim
open Go
variable {C:Cfg} {lo:Nat} {fid:FuncId} {rnd:Bool}
theorem op_callY {rec:Rec} {T:TT AV} {H:Heap} {K:AV→Heap→Prop} {d:Option Tmp} {t:TypeId} {p:String} {af:Array Edge} {gd:Option (Nat × Bool)} (x:Operand) (xs:Array Operand) (ts:Array TypeId) {l:Nat} (h:evalO C T x=some (.yld l)) :
 VO (aop C rec fid lo ⟨d,.call ⟨.value x,xs,ts⟩,t,p,af,gd⟩ T H) K=AO (evalOs C T xs.toList) fun ys=>AO (rec (.yield lo l (ys.map AV.strip) H)) fun o=>K o.val o.s.H:=by
 simp only [aop,acall]
 cases evalOs C T xs.toList with
 | none=>rfl
 | some ys =>
   simp only [h,AO_some]
   cases rec (.yield lo l (ys.map AV.strip) H)<;>rfl
theorem evalO_nilf (T:TT AV):evalO C T (.const .nilFunc)=some .nilf:=rfl
theorem shutMarks_cons (d:Nat) (r:List Nat) (H:Heap):shutMarks (d::r) H=match H.get d with
 | .defr=>shutMarks r (H.set d .dead)
 | _=>none:=rfl
theorem ofVal_v (v:AV) (H:Heap):(Out.ofVal v H).val=v:=rfl
theorem ofVal_H (v:AV) (H:Heap):(Out.ofVal v H).s.H=H:=rfl
def appO (C:Cfg) (fid:FuncId) (lo:Nat) (H:Heap) (ts tx:TypeId) (s x:AV):Option (AV × Heap) :=
 match elemOf C.P ts,C.P.underlying tx with
 | some e,some dx=>if isIntT dx then none else
   match szOf C.P e,bytesOf C.P e,zeroOf C.P e with
   | some sz,some bytes,some z=>if z.cells.length=sz && decide (bytes≤4096) then
    match rowsIn H sz x with
    | some rx=>if C.refApp fid ts then appR lo H sz e s rx else appP lo H sz e s rx
    | none=>none
     else none
   | _,_,_=>none
 | _,_=>none
theorem op_append {rec:Rec} {T:TT AV} {H:Heap} {K:AV→Heap→Prop} {d:Option Tmp} {t:TypeId} {p:String} {af:Array Edge} {gd:Option (Nat × Bool)} (a b:Operand) (ts tx:TypeId) :
 VO (aop C rec fid lo ⟨d,.call ⟨.builtin .append,#[a,b],#[ts,tx]⟩,t,p,af,gd⟩ T H) K=AO (evalO C T a) fun s=>AO (evalO C T b) fun x=>VO (appO C fid lo H ts tx s x) K:=by
 simp only [aop,acall,evalOs]
 cases evalO C T a with
 | none=>rfl
 | some s=>cases evalO C T b with
   | none=>rfl
   | some x=>rfl
theorem isIntT_slice (e:TypeId):isIntT (.slice e)=false:=rfl
theorem app_first {lo:Nat} {H:Heap} {sz:Nat} {e:TypeId} {rx:List (List AV)} (h0:rx ≠ []) (h1:rx.length≤maxRows) (h2:rx.all pureRow=true) (h3:0 < sz) :
 appP lo H sz e (.ps .nil []) rx=some (.ps (.tok H.n) (rx.map (List.map AV.strip0)),H.push (.row [] sz e)):=by
 cases rx with
 | nil=>exact absurd rfl h0
 | cons a r =>
   unfold appP
   simp only [List.length_nil,Nat.zero_add,h1,h2,h3,decide_true,Bool.true_and,Bool.and_true,List.all_nil,if_true,List.nil_append]
theorem app_next {lo:Nat} {H:Heap} {sz k:Nat} {e:TypeId} {rows rx:List (List AV)} (h0:rx ≠ []) (h1:rows.length+rx.length≤maxRows) (h2:rx.all pureRow=true) (h3:0 < sz) (h4:rows.all (fun r=>r.length=sz)=true) (h5:H.get k=.row [] sz e) (h6:lo≤k) (h7:rows ≠ []) :
 appP lo H sz e (.ps (.tok k) rows) rx=some (.ps (.tok H.n) (rows++rx.map (List.map AV.strip0)),(H.set k .dead).push (.row [] sz e)):=by
 cases rx with
 | nil=>exact absurd rfl h0
 | cons a r =>
   have h8:rows.isEmpty=false:=by cases rows with
    | nil=>exact absurd rfl h7
    | cons _ _=>rfl
   unfold appP
   simp only [h1,h2,h3,h4,h5,h6,h8,decide_true,Bool.true_and,Bool.and_true,if_true,Bool.not_false]
/-! ### What is touched -/
def accP (w:Bool) (v:Option AV):Option Acc:=match v with
 | some (.ptr id _)=>some (if w then .wr id else .rd id)
 | _=>none
theorem accP_rd (id off:Nat):accP false (some (.ptr id off))=some (.rd id):=rfl
theorem accP_wr (id off:Nat):accP true (some (.ptr id off))=some (.wr id):=rfl
theorem accP_pptr (w:Bool) (cs:List AV):accP w (some (.pptr cs))=none:=rfl
theorem acc_load (T:TT AV) (n:Nat) (d:Option Tmp) (t':TypeId) (a:Operand) (t:TypeId) (p:String) (af:Array Edge) (gd:Option (Nat × Bool)):accOf C T n .load ⟨d,.load t' a,t,p,af,gd⟩=accP false (evalO C T a):=by
 unfold accOf accP
 simp only []
 cases evalO C T a with
 | none=>rfl
 | some v=>cases v<;>rfl
theorem acc_read (T:TT AV) (n:Nat) (o:Oper):accOf C T n .read o=some (.all n):=rfl
theorem acc_store (T:TT AV) (n:Nat) (d:Option Tmp) (t':TypeId) (a x:Operand) (t:TypeId) (p:String) (af:Array Edge) (gd:Option (Nat × Bool)):accOf C T n .writeAt ⟨d,.store t' a x,t,p,af,gd⟩=accP true (evalO C T a):=by
 unfold accOf accP
 simp only []
 cases evalO C T a with
 | none=>rfl
 | some v=>cases v<;>rfl
theorem acc_fresh (T:TT AV) (n:Nat) (o:Oper):accOf C T n .fresh o=none:=by
 unfold accOf
 cases o.op<;>rfl
theorem record_some (i:Nat) (a:Acc) (rd:List (Nat × Acc)):record i (some a) rd=(i,a)::rd:=rfl
theorem record_none (i:Nat) (rd:List (Nat × Acc)):record i none rd=rd:=rfl
theorem clashes_none (conf:List Nat) (rd:List (Nat × Acc)):clashes none conf rd=false:=rfl
theorem clashes_some (a:Acc) (c:Nat) (cs:List Nat) (rd:List (Nat × Acc)):clashes (some a) (c::cs) rd=rd.any fun p=>(c::cs).contains p.1 && !a.apart p.2:=rfl
theorem apart_rw (i j:Nat):Acc.apart (.rd i) (.wr j) = !decide (i=j):=by
 show (i != j)=_
 by_cases h:i=j<;>simp [h]
theorem apart_wr (i j:Nat):Acc.apart (.wr j) (.rd i) = !decide (i=j):=by
 show (i != j)=_
 by_cases h:i=j<;>simp [h]
theorem apart_aw (i j:Nat):Acc.apart (.all i) (.wr j)=decide (i≤j):=rfl
theorem apart_wa (i j:Nat):Acc.apart (.wr j) (.all i)=decide (i≤j):=rfl
theorem AO_iff {α:Type} {x:Option α} {K:α→Prop}:AO x K ↔ ∃ v,x=some v∧K v:=by
 cases x with
 | none=>simp [AO]
 | some v=>simp [AO]
theorem R_yield {l:Nat} {args:List AV} {H:Heap} {r0:ALoop} (hl:H.get l=.loop r0) (hs:r0.state=.ready) (hp:r0.params.length=args.length) (hlo:lo≤l) {Y:Bool→Heap→Prop}
 (h:W C lo r0.fid true r0.assign (setParams r0.params args r0.tmps) H [] fun e T1 H1 M1=>e=.nrm∧H1.get l=.loop r0 ∧
   W C lo r0.fid true r0.body T1 (H1.set l (.loop { r0 with state:=.busy })) M1 fun e T2 H2 M2=>H2.get l=.loop { r0 with state:=.busy } ∧
     next e (Y true (H2.set l (.loop { r0 with state:=.ready,pending:=none }))) (Y false (H2.set l (.loop { r0 with state:=.done,pending:=some e })))) :
 ∃ v H',R C (.yield lo l args H)=some (.ofVal (.bool v) H')∧Y v H':=by
 rw [W_iff] at h
 obtain ⟨e,T1,H1,M1,h1,rfl,h2,h3⟩:=h
 rw [W_iff] at h3
 obtain ⟨e,T2,H2,M2,h4,h5,h6⟩:=h3
 rw [R_eq]
 have hc:(decide (r0.params.length=args.length) && decide (lo≤l))=true:=by simp [hp,hlo]
 simp only [astep,hl,hc,if_true,h1,h2,hs,h4,h5]
 cases e with
 | nrm=>exact ⟨true,_,rfl,h6⟩
 | ext i=>exact ⟨false,_,rfl,h6⟩
 | gto i=>exact ⟨false,_,rfl,h6⟩
 | ret=>exact ⟨false,_,rfl,h6⟩
theorem W_rangeFunc {g:Operand} {params:Array Tmp} {assign body:Code} {T:TT AV} {H:Heap} {M:List Nat} {Q:AExit→TT AV→Heap→List Nat→Prop} {f:FuncId} {caps:List AV}
 (hg:evalO C T g=some (.fn f [] caps))
 (h:∃ v H',R C (.call lo f (.yld (H.n+1)::caps.map AV.strip) ((H.push .defr).push (.loop ⟨fid,T,params.toList,assign,body,.ready,none,H.n⟩)))=some (.ofVal v H') ∧
   ∃ rc,H'.get (H.n+1)=.loop rc∧rc.state ≠ .busy∧(match rc.pending with
     | none=>Q .nrm T (H'.set (H.n+1) .dead) (H.n::M)
     | some e=>Q e T (H'.set (H.n+1) .dead) (H.n::M))) :
 W C lo fid false (.rangeFunc g params assign body) T H M Q:=by
 obtain ⟨v,H',h1,rc,h2,h3,h4⟩:=h
 unfold W
 rw [R_eq]
 simp only [astep,hg,h1,Out.ofVal,h2]
 cases hp:rc.pending with
 | none=>rw [hp] at h4;cases hs:rc.state<;>first | exact absurd hs h3 | (simp only [OO_some];exact h4)
 | some e=>rw [hp] at h4;cases hs:rc.state<;>first | exact absurd hs h3 | (simp only [OO_some];exact h4)
theorem enter_fresh {rec:Rec} {f:FuncId} {args:List AV} {H:Heap} {K:AV→Heap→Prop} (hm:C.memo f args=none) (hp:C.prim f=none) (hh:C.hprim f=none) (ht:C.twice f=false) (hmo:C.mode f=.fresh) :
 VO (aenter C rec lo f args H) K=AO (rec (.call H.n f args H)) fun o=>K o.val o.s.H:=by
 unfold aenter
 simp only [hm,hp,hh,ht,hmo,Bool.false_and,Bool.false_eq_true,if_false]
 cases rec (.call H.n f args H)<;>rfl
theorem enter_pure {rec:Rec} {f:FuncId} {args:List AV} {H:Heap} {K:AV→Heap→Prop} (hm:C.memo f args=none) (hp:C.prim f=none) (hh:C.hprim f=none) (ht:C.twice f=false) (hmo:C.mode f=.pure) :
 VO (aenter C rec lo f args H) K=AO (rec (.call H.n f args H)) fun o=>o.val.strip.pure=true∧K o.val.strip H:=by
 unfold aenter
 simp only [hm,hp,hh,ht,hmo,Bool.false_and,Bool.false_eq_true,if_false]
 cases h:rec (.call H.n f args H) with
 | none=>rfl
 | some o=>cases hv:o.val.strip.pure<;>simp [VO,AO,hv]
end Go.Sim

/-
Open tests, one case each.
-/
namespace Go.Sim
open Go
theorem branch_cases {x:Bool} {a b:Prop} {t:Tag (a∧b)} (h1:x=true→a) (h2:x=false→b):branch (some (.bool x)) a b t:=⟨h1,h2⟩
theorem pick_cases {x:Bool} {a b:Prop} {t:Tag (a∧b)} (h1:x=true→a) (h2:x=false→b):pickO (.bool x) a b t:=⟨h1,h2⟩
theorem guardT_cases {x:Bool} {a b:Prop} {t:Tag (a∧b)} (h1:x=true→a) (h2:x=false→b):guardO true (.bool x) a b t:=⟨h1,fun h=>h2 (by cases x<;>simp_all)⟩
theorem guardF_cases {x:Bool} {a b:Prop} {t:Tag (a∧b)} (h1:x=false→a) (h2:x=true→b):guardO false (.bool x) a b t:=⟨h1,fun h=>h2 (by cases x<;>simp_all)⟩
theorem Heap.get_push_lt {H:Heap} {b:ABlk} {i:Nat} (h:i < H.n):(H.push b).get i=H.get i:=by rw [Heap.get_push,if_neg (by omega)]
theorem Heap.get_push_at {H:Heap} {b:ABlk} {i:Nat} (h:i=H.n):(H.push b).get i=b:=by rw [Heap.get_push,if_pos h]
theorem Heap.get_set_ne {H:Heap} {b:ABlk} {i j:Nat} (h:i ≠ j):(H.set j b).get i=H.get i:=by rw [Heap.get_set,if_neg h]
theorem Heap.get_set_at {H:Heap} {b:ABlk} {i j:Nat} (h:i=j):(H.set j b).get i=b:=by rw [Heap.get_set,if_pos h]
section
variable {C:Cfg} {lo:Nat} {fid:FuncId} {rec:Rec} {T:TT AV} {H:Heap} {K:AV→Heap→Prop} {d:Option Tmp} {t:TypeId} {p:String} {af:Array Edge} {gd:Option (Nat × Bool)}
theorem evalOpt_none:evalOpt C T none=some none:=rfl
theorem evalOpt_some (o:Operand):evalOpt C T (some o)=match evalO C T o with
 | some v=>some (some v)
 | none=>none:=rfl
theorem op_slice (t':TypeId) (x:Operand) (a b c:Option Operand):VO (aop C rec fid lo ⟨d,.slice t' x a b c,t,p,af,gd⟩ T H) K =
 AO (evalO C T x) fun x=>AO (evalOpt C T a) fun a=>AO (evalOpt C T b) fun b=>AO (evalOpt C T c) fun c=>AO (aslice C.P t' x a b c) fun v=>K v H:=by
 simp only [aop]
 cases evalO C T x with
 | none=>rfl
 | some x=>cases evalOpt C T a with
   | none=>rfl
   | some a=>cases evalOpt C T b with
     | none=>rfl
     | some b=>cases evalOpt C T c with
       | none=>rfl
       | some c=>show VO (same H (aslice C.P t' x a b c)) K=_;cases h:aslice C.P t' x a b c<;>simp [AO,h,VO,same]
def maxI (a b:Int):Int:=if a < b then b else a
def minI (a b:Int):Int:=if b < a then b else a
def amax (a b:AV):Option AV:=afold2 (fun x y=>if y > x then y else x) a [b]
def amin (a b:AV):Option AV:=afold2 (fun x y=>if y < x then y else x) a [b]
theorem amax_int (k l:IntKind) (a b:Int):amax (.int k a) (.int l b)=some (.int k (maxI a b)):=rfl
theorem amin_int (k l:IntKind) (a b:Int):amin (.int k a) (.int l b)=some (.int k (minI a b)):=rfl
theorem op_max2 (x y:Operand) (ts:Array TypeId):VO (aop C rec fid lo ⟨d,.call ⟨.builtin .max,#[x,y],ts⟩,t,p,af,gd⟩ T H) K=AO (evalO C T x) fun a=>AO (evalO C T y) fun b=>AO (amax a b) fun v=>K v H:=by
 simp only [aop,acall,evalOs]
 cases evalO C T x with
 | none=>rfl
 | some x=>cases evalO C T y with
   | none=>rfl
   | some y=>show VO (same H (amax x y)) K=_;cases h:amax x y<;>simp [AO,h,VO,same]
theorem op_min2 (x y:Operand) (ts:Array TypeId):VO (aop C rec fid lo ⟨d,.call ⟨.builtin .min,#[x,y],ts⟩,t,p,af,gd⟩ T H) K=AO (evalO C T x) fun a=>AO (evalO C T y) fun b=>AO (amin a b) fun v=>K v H:=by
 simp only [aop,acall,evalOs]
 cases evalO C T x with
 | none=>rfl
 | some x=>cases evalO C T y with
   | none=>rfl
   | some y=>show VO (same H (amin x y)) K=_;cases h:amin x y<;>simp [AO,h,VO,same]
def amax3 (a b c:AV):Option AV:=afold2 (fun x y=>if y > x then y else x) a [b,c]
theorem amax3_int (k l m:IntKind) (a b c:Int):amax3 (.int k a) (.int l b) (.int m c)=some (.int k (maxI (maxI a b) c)):=rfl
theorem op_max3 (x y z:Operand) (ts:Array TypeId):VO (aop C rec fid lo ⟨d,.call ⟨.builtin .max,#[x,y,z],ts⟩,t,p,af,gd⟩ T H) K=AO (evalO C T x) fun a=>AO (evalO C T y) fun b=>AO (evalO C T z) fun c=>AO (amax3 a b c) fun v=>K v H:=by
 simp only [aop,acall,evalOs]
 cases evalO C T x with
 | none=>rfl
 | some x=>cases evalO C T y with
   | none=>rfl
   | some y=>cases evalO C T z with
     | none=>rfl
     | some z=>show VO (same H (amax3 x y z)) K=_;cases h:amax3 x y z<;>simp [AO,h,VO,same]
def fnO (C:Cfg) (rec:Rec) (lo:Nat) (v:AV) (l:List AV) (H:Heap) (K:AV→Heap→Prop) (_t:Tag K:=⟨⟩):Prop:=match v with
 | .fn f first caps=>VO (aenter C rec lo f ((first++l++caps).map AV.strip) H) K
 | .yld i=>AO (rec (.yield lo i (l.map AV.strip) H)) fun o=>K o.val o.s.H
 | _=>False
theorem fnO_yld (i:Nat) (l:List AV):fnO C rec lo (.yld i) l H K=AO (rec (.yield lo i (l.map AV.strip) H)) fun o=>K o.val o.s.H:=rfl
theorem fnO_fn (f:FuncId) (first caps l:List AV):fnO C rec lo (.fn f first caps) l H K=VO (aenter C rec lo f ((first++l++caps).map AV.strip) H) K:=rfl
theorem op_callT (x:Tmp) (xs:Array Operand) (ts:Array TypeId):VO (aop C rec fid lo ⟨d,.call ⟨.value (.tmp x),xs,ts⟩,t,p,af,gd⟩ T H) K=AO (evalOs C T xs.toList) fun l=>fnO C rec lo (getT T x) l H K:=by
 simp only [aop,acall]
 cases evalOs C T xs.toList with
 | none=>rfl
 | some l =>
   simp only [evalO]
   cases getT T x with
   | yld i=>show VO (match rec (.yield lo i (l.map AV.strip) H) with | some o=>some (o.val,o.s.H) | none=>none) K=AO (rec (.yield lo i (l.map AV.strip) H)) fun o=>K o.val o.s.H
            cases rec (.yield lo i (l.map AV.strip) H)<;>rfl
   | _=>rfl
theorem enter_free {f:FuncId} {args:List AV} (hm:C.memo f args=none) (hp:C.prim f=none) (hh:C.hprim f=none) (ht:C.twice f=false) (hmo:C.mode f=.free) :
 VO (aenter C rec lo f args H) K=AO (rec (.call lo f args H)) fun o=>K o.val o.s.H:=by
 unfold aenter
 simp only [hm,hp,hh,ht,hmo,Bool.false_and,Bool.false_eq_true,if_false]
 cases rec (.call lo f args H)<;>rfl
end
def accM (v:Option AV):Option Acc:=match v with
 | some (.map id)=>some (.wr id)
 | _=>none
theorem accM_map (id:Nat):accM (some (.map id))=some (.wr id):=rfl
theorem acc_mapUpdate {C:Cfg} (T:TT AV) (n:Nat) (d:Option Tmp) (t':TypeId) (m k x:Operand) (t:TypeId) (p:String) (af:Array Edge) (gd:Option (Nat × Bool)):accOf C T n .writeAt ⟨d,.mapUpdate t' m k x,t,p,af,gd⟩=accM (evalO C T m):=by
 unfold accOf
 cases h:evalO C T m with
 | none=>simp [h,accM]
 | some v=>cases v<;>simp [h,accM]
def accS (v:Option AV):Option Acc:=match v with
 | some (.ps (.tok k) _)=>some (.wr k)
 | some (.rs id _ _ _ _)=>some (.wr id)
 | some (.ptr id _)=>some (.wr id)
 | _=>none
theorem accS_ptr (id off:Nat):accS (some (.ptr id off))=some (.wr id):=rfl
theorem accS_tok (k:Nat) (rows:List (List AV)):accS (some (.ps (.tok k) rows))=some (.wr k):=rfl
theorem accS_nil (rows:List (List AV)):accS (some (.ps .nil rows))=none:=rfl
theorem accS_exact (rows:List (List AV)):accS (some (.ps .exact rows))=none:=rfl
theorem accS_rs (a b c d:Nat) (e:Option Nat):accS (some (.rs a b c d e))=some (.wr a):=rfl
theorem acc_append {C:Cfg} (T:TT AV) (n:Nat) (d:Option Tmp) (a b:Operand) (ts:Array TypeId) (t:TypeId) (p:String) (af:Array Edge) (gd:Option (Nat × Bool)):accOf C T n .writeAt ⟨d,.call ⟨.builtin .append,#[a,b],ts⟩,t,p,af,gd⟩=accS (evalO C T a):=by
 unfold accOf
 cases h:evalO C T a with
 | none=>simp [h,accS]
 | some v=>cases v with
   | ps t rows=>cases t<;>simp [h,accS]
   | _=>simp [h,accS]
noncomputable def hEnd (C:Cfg) (t:Task):Heap:=match R C t with
 | some o=>o.s.H
 | none=>.empty
theorem ex_eq {C:Cfg} {t:Task} {v:AV} (h:∃ H',R C t=some (.ofVal v H')):R C t=some (.ofVal v (hEnd C t)):=by
 obtain ⟨H',h⟩:=h
 unfold hEnd
 rw [h];rfl
theorem eqs_01 (a:Nat):(a=a+1)=False:=by simp only [eq_iff_iff,iff_false];omega
theorem lts_01 (a:Nat):(a < a+1)=True:=by simp only [eq_iff_iff,iff_true];omega
theorem eqs_02 (a:Nat):(a=a+1+1)=False:=by simp only [eq_iff_iff,iff_false];omega
theorem lts_02 (a:Nat):(a < a+1+1)=True:=by simp only [eq_iff_iff,iff_true];omega
theorem eqs_03 (a:Nat):(a=a+1+1+1)=False:=by simp only [eq_iff_iff,iff_false];omega
theorem lts_03 (a:Nat):(a < a+1+1+1)=True:=by simp only [eq_iff_iff,iff_true];omega
theorem eqs_04 (a:Nat):(a=a+1+1+1+1)=False:=by simp only [eq_iff_iff,iff_false];omega
theorem lts_04 (a:Nat):(a < a+1+1+1+1)=True:=by simp only [eq_iff_iff,iff_true];omega
theorem eqs_10 (a:Nat):(a+1=a)=False:=by simp only [eq_iff_iff,iff_false];omega
theorem eqs_12 (a:Nat):(a+1=a+1+1)=False:=by simp only [eq_iff_iff,iff_false];omega
theorem lts_12 (a:Nat):(a+1 < a+1+1)=True:=by simp only [eq_iff_iff,iff_true];omega
theorem eqs_13 (a:Nat):(a+1=a+1+1+1)=False:=by simp only [eq_iff_iff,iff_false];omega
theorem lts_13 (a:Nat):(a+1 < a+1+1+1)=True:=by simp only [eq_iff_iff,iff_true];omega
theorem eqs_14 (a:Nat):(a+1=a+1+1+1+1)=False:=by simp only [eq_iff_iff,iff_false];omega
theorem lts_14 (a:Nat):(a+1 < a+1+1+1+1)=True:=by simp only [eq_iff_iff,iff_true];omega
theorem eqs_20 (a:Nat):(a+1+1=a)=False:=by simp only [eq_iff_iff,iff_false];omega
theorem eqs_21 (a:Nat):(a+1+1=a+1)=False:=by simp only [eq_iff_iff,iff_false];omega
theorem eqs_23 (a:Nat):(a+1+1=a+1+1+1)=False:=by simp only [eq_iff_iff,iff_false];omega
theorem lts_23 (a:Nat):(a+1+1 < a+1+1+1)=True:=by simp only [eq_iff_iff,iff_true];omega
theorem eqs_24 (a:Nat):(a+1+1=a+1+1+1+1)=False:=by simp only [eq_iff_iff,iff_false];omega
theorem lts_24 (a:Nat):(a+1+1 < a+1+1+1+1)=True:=by simp only [eq_iff_iff,iff_true];omega
theorem eqs_30 (a:Nat):(a+1+1+1=a)=False:=by simp only [eq_iff_iff,iff_false];omega
theorem eqs_31 (a:Nat):(a+1+1+1=a+1)=False:=by simp only [eq_iff_iff,iff_false];omega
theorem eqs_32 (a:Nat):(a+1+1+1=a+1+1)=False:=by simp only [eq_iff_iff,iff_false];omega
theorem eqs_34 (a:Nat):(a+1+1+1=a+1+1+1+1)=False:=by simp only [eq_iff_iff,iff_false];omega
theorem lts_34 (a:Nat):(a+1+1+1 < a+1+1+1+1)=True:=by simp only [eq_iff_iff,iff_true];omega
theorem hn_set (H:Heap) (i:Nat) (b:ABlk):(H.set i b).n=H.n:=Eq.trans rfl rfl
theorem hn_push (H:Heap) (b:ABlk):(H.push b).n=H.n+1:=Eq.trans rfl rfl
theorem self_eq_add (a b:Nat):(a=a+b)=(b=0):=by simp
theorem add_eq_self (a b:Nat):(a+b=a)=(b=0):=by simp
theorem aslice_take {P:Program} {t e:TypeId} {sz:Nat} {rows:List (List AV)} {n:Nat} {k:IntKind} (hu:P.underlying t=some (.slice e)) (hs:szOf P e=some sz) (hr:rows.all (fun r=>decide (r.length=sz))=true) (hn:n≤rows.length) :
 aslice P t (.ps .unk rows) none (some (.int k (n:Nat))) none=some (.ps .unk (rows.take n)):=by
 unfold aslice
 simp only [hu,hs,hr,if_true]
 have h1:natOf (rows.length+1) (.int k (n:Nat))=some n:=by
  rw [natOf_cast,if_pos (by omega)]
 simp only [asliceRows,boundOf,h1,List.drop_zero]
 rfl
theorem aslice_drop {P:Program} {t e:TypeId} {sz:Nat} {rows:List (List AV)} {n:Nat} {k:IntKind} (hu:P.underlying t=some (.slice e)) (hs:szOf P e=some sz) (hr:rows.all (fun r=>decide (r.length=sz))=true) (hn:n≤rows.length) :
 aslice P t (.ps .unk rows) (some (.int k (n:Nat))) none none=some (.ps .unk (rows.drop n)):=by
 unfold aslice
 simp only [hu,hs,hr,if_true]
 have h1:natOf (rows.length+1) (.int k (n:Nat))=some n:=by
  rw [natOf_cast,if_pos (by omega)]
 simp only [asliceRows,boundOf,h1,List.take_length]
 rfl
theorem wrap_pred {k n:Nat} (hk:0 < k) (h:k≤n) (hn:n≤maxRows):wrapq .i64 (Int.sub (k:Int) 1)=((k - 1:Nat):Int):=by
 have e:Int.sub (k:Int) 1=((k - 1:Nat):Int):=by show (k:Int) - 1=_;omega
 rw [e];exact wrap_nat (by unfold maxRows at hn;omega)
end Go.Sim
