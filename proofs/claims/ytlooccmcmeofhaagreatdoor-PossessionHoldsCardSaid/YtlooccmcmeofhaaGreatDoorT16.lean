/-
Lemmas of one proof, the texts Lay3 to AwD joined.
-/
import Derived.Test.YtlooccmcmeofhaaGreatDoorT15
import Derived.Shelf.Strings.SlTrimAscii
import Derived.Test.YtlooccmcmeofhaaGreatDoorProg
set_option linter.unusedSimpArgs false
set_option linter.unusedVariables false
open Nat (reduceEqDiff reduceAdd reduceMul reduceSub reduceLeDiff reduceLT)
set_option maxRecDepth 100000
set_option maxHeartbeats 32000000
noncomputable section
open Go Go.Proofs
open Bool (false_eq_true)
open List (any_eq_false append_nil drop_append_of_le_length drop_drop drop_eq_getElem_cons drop_length_add_append drop_take drop_zero filter_append filter_cons filter_nil findIdx?_eq_none_iff findIdx?_eq_some_iff_getElem foldl_append getElem_mem length_append length_drop length_filter_le length_map length_take map_append map_cons mem_append mem_cons mem_map mem_of_getElem? mem_singleton mem_take_iff_getElem take_add_one take_append_of_le_length take_length take_take)
open Nat (blt_eq eq_of_beq_eq_true lt_of_lt_of_le zero_add)
open Option (getD_some isSome_iff_exists)
open Go.Sim.Pos (Ca Ev Flt Gi Len Mch Nm Pos Reg Trk Trn Xg Y1 Yr Z4A Z4u Z4v Z4w Z4x Z4y Z4z ZM ZT Zl Zx minI)
variable {H H' H2 Hc:Go.Sim.Heap} {a:Go.Sim.ABlk} {args caps:List Go.Sim.AV} {b f i id k lo n o sz:Nat} {g:Go.FuncId} {l:List Go.Sim.Pos.Trn} {m:Go.Sim.Pos.Mch} {p:Go.Sim.Pos.Pos} {q:Go.Sim.Pos.Trn→Bool} {r:Go.Sim.Pos.Reg} {rows:List (List Go.Sim.AV)} {s x:Go.Sim.Pos.Nm} {te:Go.TypeId} {v:Go.Sim.AV} {y:Go.Sim.Pos.Trk} {α:Type}

namespace Go.Proofs
end Go.Proofs

namespace Go.Sim
theorem Z6l (a:α) (l m:List α):List.append (a::l) m=a::List.append l m:=rfl
theorem Z6m (m:List α):List.append [] m=m:=rfl
attribute [go_sem] Z6l Z6m
theorem Z6n {l m:List α} {x:α} (h:l.take k=m.take k) (hx:l[k]? = some x) (hy:m[k]? = some x):l.take (k+1)=m.take (k+1):=by
 rw [take_add_one,take_add_one,h,hx,hy]
theorem Z6o {l m:List α} {x y:α} (hx:l[k]? = some x) (hy:m[k]? = some y) (h:x ≠ y):l ≠ m:=by
 rintro rfl;rw [hx] at hy;exact h (Option.some.inj hy)
theorem Z6p {l m:List α} (h:l.take l.length=m.take l.length) (hl:l.length=m.length):l=m:=by
 rw [take_length,hl,take_length] at h;exact h
def PPF30:PF:=fun _=>none
theorem Z6q:PrimsOk NC PPF30:=ZK
theorem c30 (l m:List Nm) (hp:l.length<=Z2):∀ lo H,Za NC lo 30 [.ps .unk (Z0 l),.ps .unk (Z0 m)] H (.bool (decide (l=m))) H:=by
 refine Cn Z6q Tryz.func30 rfl rfl ?_;by_cases hl:l.length=m.length
 case neg =>
  have q1:((l.length:Int)=(m.length:Int))=False:=eq_false (by omega);rw [decide_eq_false (fun h=>hl (by rw [h]))];simp (maxDischargeDepth:=12) only [go_sem,reduceEqDiff,reduceAdd,reduceCtorEq,Zv,q1]
 have q1:((l.length:Int)=(m.length:Int))=True:=eq_true (by omega);simp (maxDischargeDepth:=12) only [go_sem,reduceEqDiff,reduceAdd,reduceCtorEq,Zv,q1];refine ZP (fun k T H M=>M=[]/\Z1 T 0=.ps .unk (Z0 l)/\Z1 T 1=.ps .unk (Z0 m)/\Z1 T 5=i64 k/\l.take k=m.take k) l.length ?_ ?_ ?_
 . simp (maxDischargeDepth:=12) only [go_sem,reduceEqDiff,reduceCtorEq]
 . rintro k T H M hk ⟨rfl,g0,g1,g5,ht⟩;obtain ⟨x,hx⟩:∃ x,l[k]? = some x:=⟨l[k],by simp⟩;obtain ⟨y,hy⟩:∃ y,m[k]? = some y:=⟨m[k],by simp⟩;have hrx:=JK hx;have hry:=JK hy;have hw:=ZQ hk hp;have hkm:=eq_true (show k < m.length by omega);by_cases h:x=y
   . subst h;have hb:Z6 x x=true:=by rw [JP];simp
     simp (maxDischargeDepth:=12) only [go_sem,reduceEqDiff,reduceAdd,reduceSub,reduceCtorEq,g0,g1,g5,Zv,hk,hkm,hrx,hry,hb,hw];exact Z6n ht hx hy
   . have hb:Z6 x y=false:=by rw [JP];simpa using h
     rw [decide_eq_false (Z6o hx hy h)];simp (maxDischargeDepth:=12) only [go_sem,reduceEqDiff,reduceAdd,reduceSub,reduceCtorEq,g0,g1,g5,Zv,hk,hkm,hrx,hry,hb]
 . rintro T H M ⟨rfl,g0,g1,g5,ht⟩;rw [decide_eq_true (Z6p ht hl)];simp (maxDischargeDepth:=12) only [go_sem,reduceEqDiff,reduceCtorEq,g0,g5,Zv,Nat.lt_irrefl]
def p30:List AV->Option AV:=ZG (α:=(List Nm) × (List Nm)) (fun x=>[.ps .unk (Z0 x.1),.ps .unk (Z0 x.2)]) (fun x=>x.1.length<=Z2) (fun x=>.bool (decide (x.1=x.2)))
theorem pok30:Pok p30 30:=by
 intro args v h;obtain ⟨x,rfl,hp,rfl⟩:=ZL h;exact c30 x.1 x.2 hp
theorem pe30 (l m:List Nm) (hp:l.length<=Z2):p30 [.ps .unk (Z0 l),.ps .unk (Z0 m)]=some (.bool (decide (l=m))):=ZN (by intro x y h;(simp only [List.cons.injEq,AV.ps.injEq,KH,KH,true_and,and_true] at h;first | simpa only [Prod.ext_iff] using h | simpa only [Prod.ext_iff,and_assoc] using h)) (l,m) hp
attribute [go_sem] pe30
def PPT:PF:=Zo 157 p157 (Zo 76 p76 (Zo 57 p57 (Zo 150 p150 (Zo 153 Vm (Zo 123 p123 (Zo 198 p198 (Zo 269 p269 (Zo 268 p268 (Zo 267 p267 (Zo 266 p266 (Zo 265 p265 (Zo 245 p245 (Zo 87 p87 (Zo 125 Ka (Zo 88 p88 (fun _=>none))))))))))))))))
theorem Gn:PrimsOk NC PPT:=Yn (Yn (Yn (Yn (Yn (Yn (Yn (Yn (Yn (Yn (Yn (Yn (Yn (Pa (Pa (Pa (ZK) Ug) Cc) Hu) (by kernel_rfl) (by kernel_rfl) Z50) (by kernel_rfl) (by kernel_rfl) Z53) (by kernel_rfl) (by kernel_rfl) Z56) (by kernel_rfl) (by kernel_rfl) Z59) (by kernel_rfl) (by kernel_rfl) Z5c) (by kernel_rfl) (by kernel_rfl) Z5f) (by kernel_rfl) (by kernel_rfl) Z5i) (by kernel_rfl) (by kernel_rfl) Z5l) (by kernel_rfl) (by kernel_rfl) HG) (by kernel_rfl) (by kernel_rfl) Z5r) (by kernel_rfl) (by kernel_rfl) pok57) (by kernel_rfl) (by kernel_rfl) pok76) (by kernel_rfl) (by kernel_rfl) Z6g
theorem Z6r:En PPT 88 p88:=ZA (by rfl) (by kernel_rfl)
theorem Z6s:En PPT 125 Ka:=ZA (by rfl) (by kernel_rfl)
theorem Z6t:En PPT 87 p87:=ZA (by rfl) (by kernel_rfl)
theorem Z6u:En PPT 245 p245:=ZA (by rfl) (by kernel_rfl)
theorem Z6v:En PPT 265 p265:=ZA (by rfl) (by kernel_rfl)
theorem Z6w:En PPT 266 p266:=ZA (by rfl) (by kernel_rfl)
theorem Z6x:En PPT 267 p267:=ZA (by rfl) (by kernel_rfl)
theorem Z6y:En PPT 268 p268:=ZA (by rfl) (by kernel_rfl)
theorem Z6z:En PPT 269 p269:=ZA (by rfl) (by kernel_rfl)
theorem Z6A:En PPT 198 p198:=ZA (by rfl) (by kernel_rfl)
theorem Z6B:En PPT 153 Vm:=ZA (by rfl) (by kernel_rfl)
theorem Z6C:En PPT 150 p150:=ZA (by rfl) (by kernel_rfl)
theorem Z6D:En PPT 57 p57:=ZA (by rfl) (by kernel_rfl)
theorem Z6E:En PPT 76 p76:=ZA (by rfl) (by kernel_rfl)
theorem Z6F:En PPT 157 p157:=ZA (by rfl) (by kernel_rfl)
attribute [go_sem ↓] Z6r Z6s Z6t Z6u Z6v Z6w Z6x Z6y Z6z Z6A Z6B
attribute [go_sem ↓] Z6C Z6D Z6E Z6F
abbrev PT:Cfg:=NC.withPrims PPT
theorem Ck:Sane PT:=KE.withPrims Gn
theorem Z6G (H:Heap):Old H.n H H=True:=eq_true (Old.refl H)
theorem Z6H {H:Heap} (h:Old b H H') (x:ABlk):Old b H (H'.push x)=True:=eq_true (h.push x)
theorem Z6I {H:Heap} (h:Old b H H') {j:Nat} (hj:b<=j) (x:ABlk):Old b H (H'.set j x)=True:=eq_true (h.set hj x)
theorem le_1 (a:Nat):(a<=a+1)=True:=eq_true (by omega)
theorem le_2 (a:Nat):(a<=a+1+1)=True:=eq_true (by omega)
theorem le_3 (a:Nat):(a<=a+1+1+1)=True:=eq_true (by omega)
theorem le_4 (a:Nat):(a<=a+1+1+1+1)=True:=eq_true (by omega)
theorem le_5 (a:Nat):(a<=a+1+1+1+1+1)=True:=eq_true (by omega)
attribute [go_sem] Z6G Z6H Z6I le_1 le_2 le_3 le_4 le_5
theorem Old.to {H H1:Heap} (h:Old H.n H H1) (h2:Old H1.n H1 H2):Old H.n H H2:=⟨Nat.le_trans h.1 h2.1,fun i hi=>(h2.2 i (lt_of_lt_of_le hi h.1)).trans (h.2 i hi)⟩
def ZV (v:AV):AV:=v.strip
def KK (H:Heap) (t:TypeId) (v:AV):Option AV:=YJ NC.P H t v
def Vo (t:TypeId) (v i:AV):Option AV:=Qb NC.P t v i
def sld (H:Heap) (t:TypeId) (a:AV):Option AV:=Yl NC.P H t a
section
variable {rec:Rec} {fid lo:Nat} {T:TT AV} {H:Heap} {K:AV->Heap->Prop} {d:Option Tmp} {t:TypeId} {p:String} {af:Array Edge} {gd:Option (Nat × Bool)}
theorem Z6J (x:Operand) (t':TypeId):VO (aop PT rec fid lo ⟨d,.call ⟨.builtin .len,#[x],#[t']⟩,t,p,af,gd⟩ T H) K=AO (Z4 PT T x) fun a=>AO (KK H t' a) fun v=>K v H:=Ft x t'
theorem Z6K (t':TypeId) (x i:Operand):VO (aop PT rec fid lo ⟨d,.indexAddr t' x i,t,p,af,gd⟩ T H) K=AO (Z4 PT T x) fun x=>AO (Z4 PT T i) fun i=>AO (Vo t' x i) fun v=>K v H:=Bl t' x i
theorem Z6L (t':TypeId) (x:Operand):VO (aop PT rec fid lo ⟨d,.load t' x,t,p,af,gd⟩ T H) K=AO (Z4 PT T x) fun a=>AO (sld H t' a) fun v=>K v H:=Bi t' x
theorem Z6M (f:FuncId) (hk:PT.nilArg f=false) (xs:Array Operand) (ts:Array TypeId):VO (aop PT rec fid lo ⟨d,.call ⟨.value (.func f),xs,ts⟩,t,p,af,gd⟩ T H) K=AO (Y4 PT T xs.toList) fun l=>VO (Z9 PT rec lo f (l.map ZV) H) K:=Bn f hk xs ts
theorem Z6N (f:FuncId) (first caps l:List AV):fnO PT rec lo (.fn f first caps) l H K=VO (Z9 PT rec lo f ((first++l++caps).map ZV) H) K:=rfl
end
attribute [go_sem ↓ 2000] Z6J Z6K Z6L Z6M Z6N
theorem Z6O (a:Tok) (b:List (List AV)):ZV (.ps a b)=.ps .unk b:=rfl
theorem Z6P (b:Bool):ZV (.bool b)=.bool b:=rfl
theorem Z6Q (k:IntKind) (n:Int):ZV (.int k n)=.int k n:=rfl
theorem Z6R (s:List Nat):ZV (.str s)=.str s:=rfl
theorem Z6S:ZV .nilp=.nilp:=rfl
theorem Z6T (a b:Nat):ZV (.ptr a b)=.ptr a b:=rfl
theorem Z6U (a:List AV):ZV (.pptr a)=.pptr a:=rfl
theorem Z6V (a b c d:Nat) (e:Option Nat):ZV (.rs a b c d e)=.rs a b c d e:=rfl
theorem Z6W:ZV .nilm=.nilm:=rfl
theorem Z6X (a:Nat):ZV (.map a)=.map a:=rfl
theorem Z6Y (f:FuncId) (a b:List AV):ZV (.fn f a b)=.fn f a b:=rfl
theorem Z6Z (a:Nat):ZV (.yld a)=.yld a:=rfl
theorem Z70:ZV .nilf=.nilf:=rfl
theorem Z71 (a:List AV):ZV (.agg a)=.agg (a.map AV.strip0):=rfl
attribute [go_sem] Z6O Z6P Z6Q Z6R Z6S Z6T Z6U Z6V Z6W Z6X Z6Y Z6Z Z70 Z71
theorem Z72 (H:Heap) (t:TypeId) (a:Tok) (b:List (List AV)):KK H t (.ps a b)=YJ NC.P H t (.ps a b):=rfl
theorem Z73 (H:Heap) (t:TypeId) (a b c d:Nat) (e:Option Nat):KK H t (.rs a b c d e)=YJ NC.P H t (.rs a b c d e):=rfl
theorem Z74 (H:Heap) (t:TypeId) (s:List Nat):KK H t (.str s)=YJ NC.P H t (.str s):=rfl
theorem Z75 (H:Heap) (t:TypeId) (s:Nat):KK H t (.map s)=YJ NC.P H t (.map s):=rfl
theorem Z76 (H:Heap) (t:TypeId) (s:List AV):KK H t (.agg s)=YJ NC.P H t (.agg s):=rfl
theorem Z77 (t:TypeId) (a:Tok) (b:List (List AV)) (i:AV):Vo t (.ps a b) i=Qb NC.P t (.ps a b) i:=rfl
theorem Z78 (t:TypeId) (a b c d:Nat) (e:Option Nat) (i:AV):Vo t (.rs a b c d e) i=Qb NC.P t (.rs a b c d e) i:=rfl
theorem Z79 (t:TypeId) (a b:Nat) (i:AV):Vo t (.ptr a b) i=Qb NC.P t (.ptr a b) i:=rfl
theorem Z7a (t:TypeId) (a:List AV) (i:AV):Vo t (.pptr a) i=Qb NC.P t (.pptr a) i:=rfl
theorem Z7b (H:Heap) (t:TypeId) (a b:Nat):sld H t (.ptr a b)=Yl NC.P H t (.ptr a b):=rfl
theorem Z7c (H:Heap) (t:TypeId) (a:List AV):sld H t (.pptr a)=Yl NC.P H t (.pptr a):=rfl
attribute [go_sem 100] Z72 Z73 Z74 Z75 Z76 Z77 Z78 Z79 Z7a Z7b Z7c
theorem ZX {lo:Nat} {H:Heap} {v v':AV} {K:AV->Heap->Prop} (hen:VO (Z9 PT (R PT) lo f args H) K=AO (R PT (.call H.n f args H)) fun o=>o.val.strip.pure=true/\K o.val.strip H) (hR:∃ H2,R PT (.call H.n f args H)=some (.ofVal v H2)) (hs:v.strip=v') (hp:v'.pure=true):VO (Z9 PT (R PT) lo f args H) K=K v' H:=by
 obtain ⟨H2,h⟩:=hR;rw [hen,h];show (v.strip.pure=true/\K v.strip H)=_;rw [hs];simp only [hp,true_and]
theorem Xs {lo:Nat} {H:Heap} {v:AV} {K:AV->Heap->Prop} (hen:VO (Z9 PT (R PT) lo f args H) K=AO (R PT (.call lo f args H)) fun o=>K o.val o.s.H) (hR:R PT (.call lo f args H)=some (.ofVal v H2)):VO (Z9 PT (R PT) lo f args H) K=K v H2:=by
 rw [hen,hR];rfl
theorem QA {lo:Nat} {H:Heap} {v:AV} {K:AV->Heap->Prop} (hen:VO (Z9 PT (R PT) lo f args H) K=AO (R PT (.call H.n f args H)) fun o=>K o.val o.s.H) (hR:R PT (.call H.n f args H)=some (.ofVal v H2)):VO (Z9 PT (R PT) lo f args H) K=K v H2:=by
 rw [hen,hR];rfl
def Sl (H:Heap) (v:AV) (sz:Nat) (te:TypeId) (rows:List (List AV)):Prop:=(∃ t,v=.ps t rows/\(AV.ps t rows).under H.n=true) \/ ∃ id cs,v=.rs id 0 rows.length sz none/\id < H.n/\H.get id=.row (rows.flatten++cs) sz te
theorem I4 {t:Tok} {rows:List (List AV)} {m:Nat} (h:(AV.ps t rows).under n=true) (hn:n≤m):(AV.ps t rows).under m=true:=by
 cases t with
 | tok k =>
   simp only [AV.under,blt_eq] at h ⊢;omega
 | _=>simp [AV.under]
theorem Sl.old {H:Heap} {v:AV} {sz:Nat} {te:TypeId} {rows:List (List AV)} (h:Sl H v sz te rows) (ho:Old H.n H H'):Sl H' v sz te rows:=by
 rcases h with ⟨t,h1,h2⟩ | ⟨id,cs,h1,h2,h3⟩
 . exact .inl ⟨t,h1,I4 h2 ho.1⟩
 . exact .inr ⟨id,cs,h1,lt_of_lt_of_le h2 ho.1,by rw [ho.2 id h2];exact h3⟩
theorem Sl.strip {H:Heap} {v:AV} {sz:Nat} {te:TypeId} {rows:List (List AV)} (h:Sl H v sz te rows):Sl H v.strip sz te rows:=by
 rcases h with ⟨t,rfl,_⟩ | ⟨id,cs,rfl,h⟩
 . exact .inl ⟨_,rfl,rfl⟩
 . exact .inr ⟨id,cs,rfl,h⟩
theorem Sl.under {H:Heap} {v:AV} {sz:Nat} {te:TypeId} {rows:List (List AV)} (h:Sl H v sz te rows) (hn:H.n<=n):v.under n=true:=by
 rcases h with ⟨t,rfl,h1⟩ | ⟨id,cs,rfl,h1,_⟩
 . exact I4 h1 hn
 . simp only [AV.under,blt_eq];omega
def elA (v:AV) (sz k:Nat):AV:=match v with
 | .ps _ rows=>.pptr (rows[k]?.getD [])
 | .rs id off _ _ _=>.ptr id (off+k * sz)
 | _=>.nilp
section
variable {H:Heap} {v:AV} {sz k:Nat} {te t:TypeId} {rows:List (List AV)}
theorem Sl.len (h:Sl H v sz te rows) (hu:NC.P.underlying t=some (.slice te)) (H':Heap):KK H' t v=some (.int .i64 (rows.length:Nat)):=by
 show YJ NC.P H' t v=_;unfold YJ;rcases h with ⟨t,rfl,_⟩ | ⟨id,cs,rfl,h⟩<;>simp only [hu]
theorem Sl.idx (h:Sl H v sz te rows) (hu:NC.P.underlying t=some (.slice te)) (hs:Zf NC.P te=some sz) (hr:Len sz rows) (hk:k < rows.length) (kk:IntKind):Vo t v (.int kk (k:Nat))=some (elA v sz k):=by
 obtain ⟨r,hx⟩:∃ r,rows[k]? = some r:=⟨rows[k],by simp⟩;have hl:=hr r (mem_of_getElem? hx);show Qb NC.P t v (.int kk (k:Nat))=_;unfold Qb;have hn:YI rows.length (.int kk (k:Nat))=some k:=by rw [U2,if_pos hk]
 rcases h with ⟨t,rfl,_⟩ | ⟨id,cs,rfl,h⟩
 . simp only [hu,hn,hx,hs,hl,if_true,elA];simp
 . simp only [hu,hn,hs,if_true,elA]
theorem Sl.ld {r:List AV} (h:Sl H v sz te rows) (hs:Zf NC.P te=some sz) (hg:aggOf NC.P te=some true) (hr:Len sz rows) (hk:rows[k]? = some r) (ho:Old H.n H H'):sld H' te (elA v sz k)=some (.agg r):=by
 have hl:=hr r (mem_of_getElem? hk);show Yl NC.P H' te (elA v sz k)=_;unfold Yl;rcases h with ⟨t,rfl,_⟩ | ⟨id,cs,rfl,h1,h2⟩
 · simp only [hs,hg,elA,hk,getD_some,YB,ZW,if_true,QS,zero_add,hl,Nat.le_refl,drop_zero];rw [← hl,take_length]
 · have hf:=Zx hr hk;have hs2:ZW (rows.flatten++cs) (k * sz) sz=some r:=by
    unfold ZW at hf ⊢;split at hf
    · rename_i hle
      rw [if_pos (by rw [length_append];omega),drop_append_of_le_length (by omega),take_append_of_le_length (by rw [length_drop];omega)];exact hf
    · cases hf
   simp only [hs,hg,elA,YB,ho.2 id h1,h2,Xw,zero_add,if_true,hs2,QS]
end
theorem ZD {f:α->List AV} {sz:Nat} (hf:∀ x,(f x).length=sz) (l:List α):Len sz (l.map f):=fun r hr=>by
 obtain ⟨x,_,rfl⟩:=mem_map.1 hr;exact hf x
theorem Vp {u:α->Nm} {l:List α} {k:Nat} {x:α} (h:l[k]? = some x):Z0 ((l.take (k+1)).map u)=Z0 ((l.take k).map u)++[[.str (u x)]]:=by
 rw [Hr h];unfold Z0;rw [map_append];rfl
abbrev ZY (f:FuncId):Prop:=∀ {P:PF} (_hP:P f=none) {lo:Nat} {args:List AV} {H:Heap} {K:AV->Heap->Prop},VO (Z9 (NC.withPrims P) (R (NC.withPrims P)) lo f args H) K=AO (R (NC.withPrims P) (.call H.n f args H)) fun o=>o.val.strip.pure=true/\K o.val.strip H
theorem Y0 {f:FuncId} (h1:NC.prim f=none:=by kernel_rfl) (h2:NC.hprim f=none:=by kernel_rfl) (h3:NC.twice f=false:=by kernel_rfl) (h4:NC.mode f=.pure:=by kernel_rfl):ZY f:=by
 intro P hP lo args H K;refine BB rfl ?_ h2 h3 h4;show (match NC.prim f with | some p=>some p | none=>P f)=none
 rw [h1];exact hP
theorem en264:ZY 264:=Y0
theorem en121:ZY 121:=Y0
theorem en213:ZY 213:=Y0
theorem en221:ZY 221:=Y0
theorem I5:Q6 196:=Qm
theorem Z7d {l:List Trk} (hs:Sl H v 2 63 (l.map Pos.Trk.row)) (hl:l.length<=Z2):∃ t H2,R PT (.call H.n 264 [v,.fn 265 [] []] H)=some (.ofVal (.ps t (Z0 (l.map (·.name)))) H2)/\ZB H.n H2 t (Z0 (l.map (·.name))) 1 9/\Old H.n H H2:=by
 obtain ⟨w,H2,h1,t,rfl,h2⟩:=Zd (C:=PT) (f:=264) (lo:=H.n) (args:=[v,.fn 265 [] []]) (H:=H) (fn:=Tryz.f264) (Q:=fun w H2=>∃ t,w=.ps t (Z0 (l.map (·.name)))/\ZB H.n H2 t (Z0 (l.map (·.name))) 1 9/\Old H.n H H2) (by kernel_rfl) Tryz.func264 rfl rfl (by
  have hlen:=fun H'=>hs.len (t:=43) (by kernel_rfl) H'
  simp only [length_map] at hlen;simp (maxDischargeDepth:=12) only [go_sem,reduceEqDiff,reduceAdd,reduceCtorEq,hlen];refine ZP (fun k T Hc M=>M=[]/\Z1 T 1=.fn 265 [] []/\Z1 T 8=v/\Z1 T 9=i64 (l.length:Nat)/\Z1 T 10=i64 k/\Old H.n H Hc /\ ∃ t,Z1 T 5=.ps t (Z0 ((l.take k).map (·.name)))/\ZB H.n Hc t (Z0 ((l.take k).map (·.name))) 1 9) l.length ?_ ?_ ?_
  . simp (maxDischargeDepth:=12) only [go_sem,reduceEqDiff,reduceCtorEq];exact ⟨.nil,rfl,.inl ⟨rfl,rfl⟩⟩
  . rintro k T Hc M hk ⟨rfl,g1,g8,g9,g10,hO,t,g5,hA⟩;obtain ⟨x,hx⟩:∃ x,l[k]? = some x:=⟨l[k],by simp⟩;have hw:=ZQ hk hl;have hN:=eq_true hO.1;have hi:=hs.idx (t:=43) (by kernel_rfl) (by kernel_rfl) (ZD (by intro x;rfl) l) (by rw [length_map];exact hk) .i64;have hd:=hs.ld (by kernel_rfl) (by kernel_rfl) (ZD (by intro x;rfl) l) (Zy hx) hO;have hA1:=hA.new (.cells (default:List AV) 0) (.cells (Pos.Trk.row x) 63);have hz:∃ z,ZF NC.P 63=some z:=⟨_,C4⟩;obtain ⟨z,hz⟩:=hz;have hA1:=hA.new (.cells z.cells 63) (.cells (Pos.Trk.row x) 63);obtain ⟨t',H',ha,hA',_,hO',_⟩:=Xm (lo:=H.n) hA1 (by simp;have:=hO.1;omega) (Nat.le_refl _) (r:=[.str x.name]) (by rw [Zv,length_map,length_take];omega) rfl (by decide) (Jr _);have e1:[AV.str x.name].map AV.strip0=[.str x.name]:=rfl;rw [e1,<- Vp hx] at ha hA';have hO2:Old H.n H H':=(hO.new _ _).trans hO';rw [C4] at hz;cases hz;simp only [Pos.Trk.row] at hd ha;simp (maxDischargeDepth:=12) only [go_sem] at ha;have hp:=Hw x;simp only [Pos.Trk.row] at hp;simp (maxDischargeDepth:=12) only [go_sem,reduceEqDiff,reduceAdd,reduceMul,reduceLeDiff,g1,g5,g8,g9,g10,hk,hw,hN,hi,hd,hp,Zu,ha];exact ⟨hO2,t',rfl,hA'⟩
  . rintro T Hc M ⟨rfl,g1,g8,g9,g10,hO,t,g5,hA⟩;rw [take_length] at g5 hA;simp (maxDischargeDepth:=12) only [go_sem,reduceEqDiff,reduceCtorEq,g5,g9,g10,Nat.lt_irrefl];exact ⟨t,rfl,hA,hO⟩)
 exact ⟨t,H2,h1,h2⟩
theorem Z7e {l:List Trk} (hs:Sl H v 2 63 (l.map Pos.Trk.row)) (hl:l.length<=Z2) (ho:Old H.n H Hc) {K:AV->Heap->Prop}:VO (Z9 PT (R PT) lo 264 [ZV v,.fn 265 [] []] Hc) K=K (.ps .unk (Z0 (l.map (·.name)))) Hc:=by
 obtain ⟨t,H2,h1,_⟩:=Z7d (hs.old ho).strip hl;exact ZX (en264 rfl) ⟨H2,h1⟩ rfl rfl
theorem Z7f {l:List Flt} (hs:Sl H v 7 65 (l.map Pos.Flt.row)) (hl:l.length<=Z2):∃ t H2,R PT (.call H.n 121 [v,.fn 266 [] []] H)=some (.ofVal (.ps t (Z0 (l.map (·.name)))) H2)/\ZB H.n H2 t (Z0 (l.map (·.name))) 1 9/\Old H.n H H2:=by
 obtain ⟨w,H2,h1,t,rfl,h2⟩:=Zd (C:=PT) (f:=121) (lo:=H.n) (args:=[v,.fn 266 [] []]) (H:=H) (fn:=Tryz.f121) (Q:=fun w H2=>∃ t,w=.ps t (Z0 (l.map (·.name)))/\ZB H.n H2 t (Z0 (l.map (·.name))) 1 9/\Old H.n H H2) (by kernel_rfl) Tryz.func121 rfl rfl (by
  have hlen:=fun H'=>hs.len (t:=44) (by kernel_rfl) H'
  simp only [length_map] at hlen;simp (maxDischargeDepth:=12) only [go_sem,reduceEqDiff,reduceAdd,reduceCtorEq,hlen];refine ZP (fun k T Hc M=>M=[]/\Z1 T 1=.fn 266 [] []/\Z1 T 8=v/\Z1 T 9=i64 (l.length:Nat)/\Z1 T 10=i64 k/\Old H.n H Hc /\ ∃ t,Z1 T 5=.ps t (Z0 ((l.take k).map (·.name)))/\ZB H.n Hc t (Z0 ((l.take k).map (·.name))) 1 9) l.length ?_ ?_ ?_
  . simp (maxDischargeDepth:=12) only [go_sem,reduceEqDiff,reduceCtorEq];exact ⟨.nil,rfl,.inl ⟨rfl,rfl⟩⟩
  . rintro k T Hc M hk ⟨rfl,g1,g8,g9,g10,hO,t,g5,hA⟩;obtain ⟨x,hx⟩:∃ x,l[k]? = some x:=⟨l[k],by simp⟩;have hw:=ZQ hk hl;have hN:=eq_true hO.1;have hi:=hs.idx (t:=44) (by kernel_rfl) (by kernel_rfl) (ZD (by intro x;rfl) l) (by rw [length_map];exact hk) .i64;have hd:=hs.ld (by kernel_rfl) (by kernel_rfl) (ZD (by intro x;rfl) l) (Zy hx) hO;have hA1:=hA.new (.cells (default:List AV) 0) (.cells (Pos.Flt.row x) 65);have hz:∃ z,ZF NC.P 65=some z:=⟨_,Vi⟩;obtain ⟨z,hz⟩:=hz;have hA1:=hA.new (.cells z.cells 65) (.cells (Pos.Flt.row x) 65);obtain ⟨t',H',ha,hA',_,hO',_⟩:=Xm (lo:=H.n) hA1 (by simp;have:=hO.1;omega) (Nat.le_refl _) (r:=[.str x.name]) (by rw [Zv,length_map,length_take];omega) rfl (by decide) (Jr _);have e1:[AV.str x.name].map AV.strip0=[.str x.name]:=rfl;rw [e1,<- Vp hx] at ha hA';have hO2:Old H.n H H':=(hO.new _ _).trans hO';rw [Vi] at hz;cases hz;simp only [Pos.Flt.row] at hd ha;simp (maxDischargeDepth:=12) only [go_sem] at ha;have hp:=Hx x;simp only [Pos.Flt.row] at hp;simp (maxDischargeDepth:=12) only [go_sem,reduceEqDiff,reduceAdd,reduceMul,reduceLeDiff,g1,g5,g8,g9,g10,hk,hw,hN,hi,hd,hp,Zu,ha];exact ⟨hO2,t',rfl,hA'⟩
  . rintro T Hc M ⟨rfl,g1,g8,g9,g10,hO,t,g5,hA⟩;rw [take_length] at g5 hA;simp (maxDischargeDepth:=12) only [go_sem,reduceEqDiff,reduceCtorEq,g5,g9,g10,Nat.lt_irrefl];exact ⟨t,rfl,hA,hO⟩)
 exact ⟨t,H2,h1,h2⟩
theorem Z7g {l:List Flt} (hs:Sl H v 7 65 (l.map Pos.Flt.row)) (hl:l.length<=Z2) (ho:Old H.n H Hc) {K:AV->Heap->Prop}:VO (Z9 PT (R PT) lo 121 [ZV v,.fn 266 [] []] Hc) K=K (.ps .unk (Z0 (l.map (·.name)))) Hc:=by
 obtain ⟨t,H2,h1,_⟩:=Z7f (hs.old ho).strip hl;exact ZX (en121 rfl) ⟨H2,h1⟩ rfl rfl
theorem Z7h (hs:Sl H v 3 61 (l.map Pos.Trn.row)) (hl:l.length<=Z2):∃ t H2,R PT (.call H.n 213 [v,.fn 267 [] []] H)=some (.ofVal (.ps t (Z0 (l.map (·.name)))) H2)/\ZB H.n H2 t (Z0 (l.map (·.name))) 1 9/\Old H.n H H2:=by
 obtain ⟨w,H2,h1,t,rfl,h2⟩:=Zd (C:=PT) (f:=213) (lo:=H.n) (args:=[v,.fn 267 [] []]) (H:=H) (fn:=Tryz.f213) (Q:=fun w H2=>∃ t,w=.ps t (Z0 (l.map (·.name)))/\ZB H.n H2 t (Z0 (l.map (·.name))) 1 9/\Old H.n H H2) (by kernel_rfl) Tryz.func213 rfl rfl (by
  have hlen:=fun H'=>hs.len (t:=45) (by kernel_rfl) H'
  simp only [length_map] at hlen;simp (maxDischargeDepth:=12) only [go_sem,reduceEqDiff,reduceAdd,reduceCtorEq,hlen];refine ZP (fun k T Hc M=>M=[]/\Z1 T 1=.fn 267 [] []/\Z1 T 8=v/\Z1 T 9=i64 (l.length:Nat)/\Z1 T 10=i64 k/\Old H.n H Hc /\ ∃ t,Z1 T 5=.ps t (Z0 ((l.take k).map (·.name)))/\ZB H.n Hc t (Z0 ((l.take k).map (·.name))) 1 9) l.length ?_ ?_ ?_
  . simp (maxDischargeDepth:=12) only [go_sem,reduceEqDiff,reduceCtorEq];exact ⟨.nil,rfl,.inl ⟨rfl,rfl⟩⟩
  . rintro k T Hc M hk ⟨rfl,g1,g8,g9,g10,hO,t,g5,hA⟩;obtain ⟨x,hx⟩:∃ x,l[k]? = some x:=⟨l[k],by simp⟩;have hw:=ZQ hk hl;have hN:=eq_true hO.1;have hi:=hs.idx (t:=45) (by kernel_rfl) (by kernel_rfl) (ZD (by intro x;rfl) l) (by rw [length_map];exact hk) .i64;have hd:=hs.ld (by kernel_rfl) (by kernel_rfl) (ZD (by intro x;rfl) l) (Zy hx) hO;have hA1:=hA.new (.cells (default:List AV) 0) (.cells (Pos.Trn.row x) 61);have hz:∃ z,ZF NC.P 61=some z:=⟨_,Vh⟩;obtain ⟨z,hz⟩:=hz;have hA1:=hA.new (.cells z.cells 61) (.cells (Pos.Trn.row x) 61);obtain ⟨t',H',ha,hA',_,hO',_⟩:=Xm (lo:=H.n) hA1 (by simp;have:=hO.1;omega) (Nat.le_refl _) (r:=[.str x.name]) (by rw [Zv,length_map,length_take];omega) rfl (by decide) (Jr _);have e1:[AV.str x.name].map AV.strip0=[.str x.name]:=rfl;rw [e1,<- Vp hx] at ha hA';have hO2:Old H.n H H':=(hO.new _ _).trans hO';rw [Vh] at hz;cases hz;simp only [Pos.Trn.row] at hd ha;simp (maxDischargeDepth:=12) only [go_sem] at ha;have hp:=Hy x;simp only [Pos.Trn.row] at hp;simp (maxDischargeDepth:=12) only [go_sem,reduceEqDiff,reduceAdd,reduceMul,reduceLeDiff,g1,g5,g8,g9,g10,hk,hw,hN,hi,hd,hp,Zu,ha];exact ⟨hO2,t',rfl,hA'⟩
  . rintro T Hc M ⟨rfl,g1,g8,g9,g10,hO,t,g5,hA⟩;rw [take_length] at g5 hA;simp (maxDischargeDepth:=12) only [go_sem,reduceEqDiff,reduceCtorEq,g5,g9,g10,Nat.lt_irrefl];exact ⟨t,rfl,hA,hO⟩)
 exact ⟨t,H2,h1,h2⟩
theorem Z7i (hs:Sl H v 3 61 (l.map Pos.Trn.row)) (hl:l.length<=Z2) (ho:Old H.n H Hc) {K:AV->Heap->Prop}:VO (Z9 PT (R PT) lo 213 [ZV v,.fn 267 [] []] Hc) K=K (.ps .unk (Z0 (l.map (·.name)))) Hc:=by
 obtain ⟨t,H2,h1,_⟩:=Z7h (hs.old ho).strip hl;exact ZX (en213 rfl) ⟨H2,h1⟩ rfl rfl
theorem Z7j {l:List Pos} (hs:Sl H v 10 59 (l.map Pos.Pos.row)) (hl:l.length<=Z2):∃ t H2,R PT (.call H.n 221 [v,.fn 268 [] []] H)=some (.ofVal (.ps t (Z0 (l.map (·.name)))) H2)/\ZB H.n H2 t (Z0 (l.map (·.name))) 1 9/\Old H.n H H2:=by
 obtain ⟨w,H2,h1,t,rfl,h2⟩:=Zd (C:=PT) (f:=221) (lo:=H.n) (args:=[v,.fn 268 [] []]) (H:=H) (fn:=Tryz.f221) (Q:=fun w H2=>∃ t,w=.ps t (Z0 (l.map (·.name)))/\ZB H.n H2 t (Z0 (l.map (·.name))) 1 9/\Old H.n H H2) (by kernel_rfl) Tryz.func221 rfl rfl (by
  have hlen:=fun H'=>hs.len (t:=46) (by kernel_rfl) H'
  simp only [length_map] at hlen;simp (maxDischargeDepth:=12) only [go_sem,reduceEqDiff,reduceAdd,reduceCtorEq,hlen];refine ZP (fun k T Hc M=>M=[]/\Z1 T 1=.fn 268 [] []/\Z1 T 8=v/\Z1 T 9=i64 (l.length:Nat)/\Z1 T 10=i64 k/\Old H.n H Hc /\ ∃ t,Z1 T 5=.ps t (Z0 ((l.take k).map (·.name)))/\ZB H.n Hc t (Z0 ((l.take k).map (·.name))) 1 9) l.length ?_ ?_ ?_
  . simp (maxDischargeDepth:=12) only [go_sem,reduceEqDiff,reduceCtorEq];exact ⟨.nil,rfl,.inl ⟨rfl,rfl⟩⟩
  . rintro k T Hc M hk ⟨rfl,g1,g8,g9,g10,hO,t,g5,hA⟩;obtain ⟨x,hx⟩:∃ x,l[k]? = some x:=⟨l[k],by simp⟩;have hw:=ZQ hk hl;have hN:=eq_true hO.1;have hi:=hs.idx (t:=46) (by kernel_rfl) (by kernel_rfl) (ZD (by intro x;rfl) l) (by rw [length_map];exact hk) .i64;have hd:=hs.ld (by kernel_rfl) (by kernel_rfl) (ZD (by intro x;rfl) l) (Zy hx) hO;have hA1:=hA.new (.cells (default:List AV) 0) (.cells (Pos.Pos.row x) 59);have hz:∃ z,ZF NC.P 59=some z:=⟨_,Vg⟩;obtain ⟨z,hz⟩:=hz;have hA1:=hA.new (.cells z.cells 59) (.cells (Pos.Pos.row x) 59);obtain ⟨t',H',ha,hA',_,hO',_⟩:=Xm (lo:=H.n) hA1 (by simp;have:=hO.1;omega) (Nat.le_refl _) (r:=[.str x.name]) (by rw [Zv,length_map,length_take];omega) rfl (by decide) (Jr _);have e1:[AV.str x.name].map AV.strip0=[.str x.name]:=rfl;rw [e1,<- Vp hx] at ha hA';have hO2:Old H.n H H':=(hO.new _ _).trans hO';rw [Vg] at hz;cases hz;simp only [Pos.Pos.row] at hd ha;simp (maxDischargeDepth:=12) only [go_sem] at ha;have hp:=Hz x;simp only [Pos.Pos.row] at hp;simp (maxDischargeDepth:=12) only [go_sem,reduceEqDiff,reduceAdd,reduceMul,reduceLeDiff,g1,g5,g8,g9,g10,hk,hw,hN,hi,hd,hp,Zu,ha];exact ⟨hO2,t',rfl,hA'⟩
  . rintro T Hc M ⟨rfl,g1,g8,g9,g10,hO,t,g5,hA⟩;rw [take_length] at g5 hA;simp (maxDischargeDepth:=12) only [go_sem,reduceEqDiff,reduceCtorEq,g5,g9,g10,Nat.lt_irrefl];exact ⟨t,rfl,hA,hO⟩)
 exact ⟨t,H2,h1,h2⟩
theorem Z7k {l:List Pos} (hs:Sl H v 10 59 (l.map Pos.Pos.row)) (hl:l.length<=Z2) (ho:Old H.n H Hc) {K:AV->Heap->Prop}:VO (Z9 PT (R PT) lo 221 [ZV v,.fn 268 [] []] Hc) K=K (.ps .unk (Z0 (l.map (·.name)))) Hc:=by
 obtain ⟨t,H2,h1,_⟩:=Z7j (hs.old ho).strip hl;exact ZX (en221 rfl) ⟨H2,h1⟩ rfl rfl
theorem Z7l {l:List Mch} (hs:Sl H v 2 67 (l.map Pos.Mch.row)) (hl:l.length<=Z2):∃ t H2,R PT (.call H.n 196 [v,.fn 269 [] []] H)=some (.ofVal (.ps t (Z0 (l.map (·.name)))) H2)/\ZB H.n H2 t (Z0 (l.map (·.name))) 1 9/\Old H.n H H2:=by
 obtain ⟨w,H2,h1,t,rfl,h2⟩:=Zd (C:=PT) (f:=196) (lo:=H.n) (args:=[v,.fn 269 [] []]) (H:=H) (fn:=Tryz.f196) (Q:=fun w H2=>∃ t,w=.ps t (Z0 (l.map (·.name)))/\ZB H.n H2 t (Z0 (l.map (·.name))) 1 9/\Old H.n H H2) (by kernel_rfl) Tryz.func196 rfl rfl (by
  have hlen:=fun H'=>hs.len (t:=47) (by kernel_rfl) H'
  simp only [length_map] at hlen;simp (maxDischargeDepth:=12) only [go_sem,reduceEqDiff,reduceAdd,reduceCtorEq,hlen];refine ZP (fun k T Hc M=>M=[]/\Z1 T 1=.fn 269 [] []/\Z1 T 8=v/\Z1 T 9=i64 (l.length:Nat)/\Z1 T 10=i64 k/\Old H.n H Hc /\ ∃ t,Z1 T 5=.ps t (Z0 ((l.take k).map (·.name)))/\ZB H.n Hc t (Z0 ((l.take k).map (·.name))) 1 9) l.length ?_ ?_ ?_
  . simp (maxDischargeDepth:=12) only [go_sem,reduceEqDiff,reduceCtorEq];exact ⟨.nil,rfl,.inl ⟨rfl,rfl⟩⟩
  . rintro k T Hc M hk ⟨rfl,g1,g8,g9,g10,hO,t,g5,hA⟩;obtain ⟨x,hx⟩:∃ x,l[k]? = some x:=⟨l[k],by simp⟩;have hw:=ZQ hk hl;have hN:=eq_true hO.1;have hi:=hs.idx (t:=47) (by kernel_rfl) (by kernel_rfl) (ZD (by intro x;rfl) l) (by rw [length_map];exact hk) .i64;have hd:=hs.ld (by kernel_rfl) (by kernel_rfl) (ZD (by intro x;rfl) l) (Zy hx) hO;have hA1:=hA.new (.cells (default:List AV) 0) (.cells (Pos.Mch.row x) 67);have hz:∃ z,ZF NC.P 67=some z:=⟨_,K9⟩;obtain ⟨z,hz⟩:=hz;have hA1:=hA.new (.cells z.cells 67) (.cells (Pos.Mch.row x) 67);obtain ⟨t',H',ha,hA',_,hO',_⟩:=Xm (lo:=H.n) hA1 (by simp;have:=hO.1;omega) (Nat.le_refl _) (r:=[.str x.name]) (by rw [Zv,length_map,length_take];omega) rfl (by decide) (Jr _);have e1:[AV.str x.name].map AV.strip0=[.str x.name]:=rfl;rw [e1,<- Vp hx] at ha hA';have hO2:Old H.n H H':=(hO.new _ _).trans hO';rw [K9] at hz;cases hz;simp only [Pos.Mch.row] at hd ha;simp (maxDischargeDepth:=12) only [go_sem] at ha;have hp:=HE x;simp only [Pos.Mch.row] at hp;simp (maxDischargeDepth:=12) only [go_sem,reduceEqDiff,reduceAdd,reduceMul,reduceLeDiff,g1,g5,g8,g9,g10,hk,hw,hN,hi,hd,hp,Zu,ha];exact ⟨hO2,t',rfl,hA'⟩
  . rintro T Hc M ⟨rfl,g1,g8,g9,g10,hO,t,g5,hA⟩;rw [take_length] at g5 hA;simp (maxDischargeDepth:=12) only [go_sem,reduceEqDiff,reduceCtorEq,g5,g9,g10,Nat.lt_irrefl];exact ⟨t,rfl,hA,hO⟩)
 exact ⟨t,H2,h1,h2⟩
theorem Z7m {l:List Mch} (hs:Sl H v 2 67 (l.map Pos.Mch.row)) (hl:l.length<=Z2):∃ t H2,R PT (.call H.n 196 [v,.fn 198 [] []] H)=some (.ofVal (.ps t (Z0 (l.map (·.name)))) H2)/\ZB H.n H2 t (Z0 (l.map (·.name))) 1 9/\Old H.n H H2:=by
 obtain ⟨w,H2,h1,t,rfl,h2⟩:=Zd (C:=PT) (f:=196) (lo:=H.n) (args:=[v,.fn 198 [] []]) (H:=H) (fn:=Tryz.f196) (Q:=fun w H2=>∃ t,w=.ps t (Z0 (l.map (·.name)))/\ZB H.n H2 t (Z0 (l.map (·.name))) 1 9/\Old H.n H H2) (by kernel_rfl) Tryz.func196 rfl rfl (by
  have hlen:=fun H'=>hs.len (t:=47) (by kernel_rfl) H'
  simp only [length_map] at hlen;simp (maxDischargeDepth:=12) only [go_sem,reduceEqDiff,reduceAdd,reduceCtorEq,hlen];refine ZP (fun k T Hc M=>M=[]/\Z1 T 1=.fn 198 [] []/\Z1 T 8=v/\Z1 T 9=i64 (l.length:Nat)/\Z1 T 10=i64 k/\Old H.n H Hc /\ ∃ t,Z1 T 5=.ps t (Z0 ((l.take k).map (·.name)))/\ZB H.n Hc t (Z0 ((l.take k).map (·.name))) 1 9) l.length ?_ ?_ ?_
  . simp (maxDischargeDepth:=12) only [go_sem,reduceEqDiff,reduceCtorEq];exact ⟨.nil,rfl,.inl ⟨rfl,rfl⟩⟩
  . rintro k T Hc M hk ⟨rfl,g1,g8,g9,g10,hO,t,g5,hA⟩;obtain ⟨x,hx⟩:∃ x,l[k]? = some x:=⟨l[k],by simp⟩;have hw:=ZQ hk hl;have hN:=eq_true hO.1;have hi:=hs.idx (t:=47) (by kernel_rfl) (by kernel_rfl) (ZD (by intro x;rfl) l) (by rw [length_map];exact hk) .i64;have hd:=hs.ld (by kernel_rfl) (by kernel_rfl) (ZD (by intro x;rfl) l) (Zy hx) hO;have hA1:=hA.new (.cells (default:List AV) 0) (.cells (Pos.Mch.row x) 67);have hz:∃ z,ZF NC.P 67=some z:=⟨_,K9⟩;obtain ⟨z,hz⟩:=hz;have hA1:=hA.new (.cells z.cells 67) (.cells (Pos.Mch.row x) 67);obtain ⟨t',H',ha,hA',_,hO',_⟩:=Xm (lo:=H.n) hA1 (by simp;have:=hO.1;omega) (Nat.le_refl _) (r:=[.str x.name]) (by rw [Zv,length_map,length_take];omega) rfl (by decide) (Jr _);have e1:[AV.str x.name].map AV.strip0=[.str x.name]:=rfl;rw [e1,<- Vp hx] at ha hA';have hO2:Old H.n H H':=(hO.new _ _).trans hO';rw [K9] at hz;cases hz;simp only [Pos.Mch.row] at hd ha;simp (maxDischargeDepth:=12) only [go_sem] at ha;have hp:=HF x;simp only [Pos.Mch.row] at hp;simp (maxDischargeDepth:=12) only [go_sem,reduceEqDiff,reduceAdd,reduceMul,reduceLeDiff,g1,g5,g8,g9,g10,hk,hw,hN,hi,hd,hp,Zu,ha];exact ⟨hO2,t',rfl,hA'⟩
  . rintro T Hc M ⟨rfl,g1,g8,g9,g10,hO,t,g5,hA⟩;rw [take_length] at g5 hA;simp (maxDischargeDepth:=12) only [go_sem,reduceEqDiff,reduceCtorEq,g5,g9,g10,Nat.lt_irrefl];exact ⟨t,rfl,hA,hO⟩)
 exact ⟨t,H2,h1,h2⟩
def PA (H:Heap) (v:AV) (sz:Nat) (te:TypeId) (rows:List (List AV)):Prop:=∃ t,v=.ps t rows/\ZB 0 H t rows sz te
theorem PA.old {H H':Heap} (h:PA H v sz te rows) (ho:Old H.n H H'):PA H' v sz te rows:=by
 obtain ⟨t,h1,h2 | ⟨j,h2,h3,h4,h5,h6⟩⟩:=h
 . exact ⟨t,h1,.inl h2⟩
 . exact ⟨t,h1,.inr ⟨j,h2,h3,h4,lt_of_lt_of_le h5 ho.1,by rw [ho.2 j h5];exact h6⟩⟩
theorem PA.sl {H:Heap} (h:PA H v sz te rows):Sl H v sz te rows:=by
 obtain ⟨t,rfl,⟨rfl,rfl⟩ | ⟨j,rfl,_,_,h5,_⟩⟩:=h
 . exact .inl ⟨_,rfl,rfl⟩
 . exact .inl ⟨_,rfl,by simp only [AV.under,blt_eq];exact h5⟩
theorem Ul {H H':Heap} (h:Pos.SV sz te H v rows) (ho:Old H.n H H'):Pos.SV sz te H' v rows:=by
 rcases h with h | ⟨id,cs,m,h1,h2,h3,h4⟩
 . exact .inl h
 . exact .inr ⟨id,cs,m,h1,lt_of_lt_of_le h2 ho.1,by rw [ho.2 id h2];exact h3,h4⟩
theorem Ju {H:Heap} (h:Pos.SV sz te H v rows):Sl H v sz te rows:=by
 rcases h with ⟨rfl,rfl⟩ | ⟨id,cs,m,h1,h2,h3,h4⟩
 . exact .inl ⟨_,rfl,rfl⟩
 . exact .inr ⟨id,cs,h1,h2,h3⟩
structure RegV where
 vT:AV
 vF:AV
 vR:AV
 vP:AV
 vM:AV
def Zq (r:Reg) (V:RegV):List AV:=[i64 r.tick,V.vT,V.vF,V.vR,V.vP,V.vM]
structure RegIs (H:Heap) (b o:Nat) (r:Reg) (V:RegV):Prop where
 bn:b < H.n
 cs:∃ pre post e,H.get b=.cells (pre++(Zq r V++post)) e/\pre.length=o
 aT:PA H V.vT 2 63 (r.tracks.map Pos.Trk.row)
 aF:Pos.SV 7 65 H V.vF (r.faults.map Pos.Flt.row)
 aR:PA H V.vR 3 61 (r.trains.map Pos.Trn.row)
 aP:Pos.SV 10 59 H V.vP (r.poss.map Pos.Pos.row)
 aM:PA H V.vM 2 67 (r.machs.map Pos.Mch.row)
 lT:r.tracks.length<=Z2
 lF:r.faults.length<=Z2
 lR:r.trains.length<=Z2
 lP:r.poss.length<=Z2
 lM:r.machs.length<=Z2
section
variable {H H':Heap} {b o:Nat} {r:Reg} {V:RegV}
theorem RegIs.sT (h:RegIs H b o r V):Sl H V.vT 2 63 (r.tracks.map Pos.Trk.row):=h.aT.sl
theorem RegIs.sF (h:RegIs H b o r V):Sl H V.vF 7 65 (r.faults.map Pos.Flt.row):=Ju h.aF
theorem RegIs.sR (h:RegIs H b o r V):Sl H V.vR 3 61 (r.trains.map Pos.Trn.row):=h.aR.sl
theorem RegIs.sP (h:RegIs H b o r V):Sl H V.vP 10 59 (r.poss.map Pos.Pos.row):=Ju h.aP
theorem RegIs.sM (h:RegIs H b o r V):Sl H V.vM 2 67 (r.machs.map Pos.Mch.row):=h.aM.sl
theorem RegIs.old (h:RegIs H b o r V) (ho:Old H.n H H'):RegIs H' b o r V:=by
 obtain ⟨pre,post,e,h1,h2⟩:=h.cs;exact ⟨lt_of_lt_of_le h.bn ho.1,⟨pre,post,e,by rw [ho.2 b h.bn];exact h1,h2⟩,h.aT.old ho,Ul h.aF ho,h.aR.old ho,Ul h.aP ho,h.aM.old ho,h.lT,h.lF,h.lR,h.lP,h.lM⟩
theorem RegIs.ld (h:RegIs H b o r V) (hi:(Zq r V)[i]? = some v) {t:TypeId} (hs:(Zf NC.P t).isSome=true) (hg:aggOf NC.P t=some false) (ho:Old H.n H H'):sld H' t (.ptr b (o+i))=some v:=by
 obtain ⟨pre,post,e,h1,h2⟩:=h.cs;have hlt:i < (Zq r V).length:=(List.getElem?_eq_some_iff.1 hi).1;obtain ⟨n,hn⟩:=isSome_iff_exists.1 hs;have hsub:ZW (pre++(Zq r V++post)) (o+i) 1=some [v]:=by
  unfold ZW;rw [if_pos (by simp only [length_append];omega)];have e1:(pre++(Zq r V++post)).drop (o+i)=(Zq r V++post).drop i:=by
   rw [<- h2,drop_length_add_append]
  rw [e1,drop_append_of_le_length (by omega),drop_eq_getElem_cons hlt,(List.getElem?_eq_some_iff.1 hi).2];rfl
 show Yl NC.P H' t (.ptr b (o+i))=some v;unfold Yl;simp only [hn,hg,YB,ho.2 b h.bn,h1,Xw,if_false,hsub,QS,false_eq_true]
theorem RegIs.l1 (h:RegIs H b o r V) (ho:Old H.n H H'):sld H' 43 (.ptr b (o+1))=some V.vT:=h.ld (i:=1) rfl (by kernel_rfl) (by kernel_rfl) ho
theorem RegIs.l2 (h:RegIs H b o r V) (ho:Old H.n H H'):sld H' 44 (.ptr b (o+2))=some V.vF:=h.ld (i:=2) rfl (by kernel_rfl) (by kernel_rfl) ho
theorem RegIs.l3 (h:RegIs H b o r V) (ho:Old H.n H H'):sld H' 45 (.ptr b (o+3))=some V.vR:=h.ld (i:=3) rfl (by kernel_rfl) (by kernel_rfl) ho
theorem RegIs.l4 (h:RegIs H b o r V) (ho:Old H.n H H'):sld H' 46 (.ptr b (o+4))=some V.vP:=h.ld (i:=4) rfl (by kernel_rfl) (by kernel_rfl) ho
theorem RegIs.l5 (h:RegIs H b o r V) (ho:Old H.n H H'):sld H' 47 (.ptr b (o+5))=some V.vM:=h.ld (i:=5) rfl (by kernel_rfl) (by kernel_rfl) ho
end
def Y3 (r:Reg) (c:Int):List Nm:=if c=116 then r.tracks.map (·.name) else if c=102 then r.faults.map (·.name) else if c=114 then r.trains.map (·.name) else if c=112 then r.poss.map (·.name) else r.machs.map (·.name)
theorem en151:ZY 151:=Y0
theorem Z7n {H:Heap} {b o:Nat} {r:Reg} {V:RegV} (h:RegIs H b o r V) (c:Int):∃ w H2,R PT (.call H.n 151 [.ptr b o,.int .u8 c] H)=some (.ofVal w H2)/\w.strip=.ps .unk (Z0 (Y3 r c)):=by
 refine Zd (C:=PT) (f:=151) (lo:=H.n) (args:=[.ptr b o,.int .u8 c]) (H:=H) (fn:=Tryz.f151) (Q:=fun w _=>w.strip=.ps .unk (Z0 (Y3 r c))) (by kernel_rfl) Tryz.func151 rfl rfl ?_;have l1:=fun H'=>h.l1 (H':=H')
 have l2:=fun H'=>h.l2 (H':=H')
 have l3:=fun H'=>h.l3 (H':=H')
 have l4:=fun H'=>h.l4 (H':=H')
 have l5:=fun H'=>h.l5 (H':=H')
 have m1:=fun Hc (ho:Old H.n H Hc) lo K=>Z7e h.sT h.lT ho (lo:=lo) (K:=K)
 have m2:=fun Hc (ho:Old H.n H Hc) lo K=>Z7g h.sF h.lF ho (lo:=lo) (K:=K)
 have m3:=fun Hc (ho:Old H.n H Hc) lo K=>Z7i h.sR h.lR ho (lo:=lo) (K:=K)
 have m4:=fun Hc (ho:Old H.n H Hc) lo K=>Z7k h.sP h.lP ho (lo:=lo) (K:=K)
 obtain ⟨t5,H5,hr5,_⟩:=Z7l h.sM.strip h.lM;have m5:=fun lo K=>QA (K:=K) (I5 (lo:=lo) rfl) hr5
 unfold Y3;by_cases c1:c=116
 . rw [if_pos c1];simp (maxDischargeDepth:=12) only [go_sem,reduceEqDiff,reduceAdd,reduceCtorEq,eq_true c1,l1,m1]
 rw [if_neg c1];by_cases c2:c=102
 . rw [if_pos c2];simp (maxDischargeDepth:=12) only [go_sem,reduceEqDiff,reduceAdd,reduceCtorEq,c1,eq_true c2,l2,m2]
 rw [if_neg c2];by_cases c3:c=114
 . rw [if_pos c3];simp (maxDischargeDepth:=12) only [go_sem,reduceEqDiff,reduceAdd,reduceCtorEq,c1,c2,eq_true c3,l3,m3]
 rw [if_neg c3];by_cases c4:c=112
 . rw [if_pos c4];simp (maxDischargeDepth:=12) only [go_sem,reduceEqDiff,reduceAdd,reduceCtorEq,c1,c2,c3,eq_true c4,l4,m4]
 rw [if_neg c4];have m5':∀ lo K,VO (Z9 PT (R PT) lo 196 [ZV V.vM,.fn 269 [] []] H) K=K (.ps t5 (Z0 (r.machs.map (·.name)))) H5:=m5;simp (maxDischargeDepth:=12) only [go_sem,reduceEqDiff,reduceAdd,reduceCtorEq,c1,c2,c3,c4,l5,m5']
theorem Um {H:Heap} {b o:Nat} {r:Reg} {V:RegV} (h:RegIs H b o r V) (c:Int) (ho:Old H.n H Hc) {K:AV->Heap->Prop}:VO (Z9 PT (R PT) lo 151 [.ptr b o,.int .u8 c] Hc) K=K (.ps .unk (Z0 (Y3 r c))) Hc:=by
 obtain ⟨w,H2,h1,h2⟩:=Z7n (h.old ho) c;exact ZX (en151 rfl) ⟨H2,h1⟩ h2 rfl
theorem I6 {α:Type} {nm:α→Nm} {x:Nm}:∀ {l:List α} {i:Nat},Yr nm x l=some i→Xh x (l.map nm)=(i:Int)
 | [],i,h=>by cases h
 | a::l,i,h=>by
   unfold Yr at h;rw [map_cons];unfold Xh;by_cases ha:nm a=x
   · rw [if_pos ha] at h ⊢;cases h;rfl
   · rw [if_neg ha] at h ⊢;cases hi:Yr nm x l with
     | none=>rw [hi] at h;cases h
     | some j =>
       rw [hi] at h;have h:i=j+1:=(Option.some.inj h).symm;rw [I6 hi,if_neg (by omega),h];omega
theorem en236:Q6 236:=Qm
theorem en152:Q6 152:=Qm
theorem en84:Q6 84:=Qm
theorem Vq {nm:α->Nm} {l:List α} {y:α} (h:(l.find? fun z=>decide (nm z=x))=some y):∃ i:Nat,Xh x (l.map nm)=(i:Int)/\l[i]? = some y/\i < l.length/\nm y=x:=by
 obtain ⟨i,h1,h2,h3⟩:=Ca h;obtain ⟨z,h4,h5,_,_⟩:=Gi h1;rw [h2] at h4;cases h4;exact ⟨i,I6 h1,h2,h3,h5⟩
theorem Z7o {H:Heap} {b o:Nat} {r:Reg} {V:RegV} (h:RegIs H b o r V) (hi:Xh x (r.tracks.map (·.name))=(i:Int)) (hlt:i < r.tracks.length) (lo:Nat):R PT (.call lo 236 [.ptr b o,.str x] H)=some (.ofVal (elA V.vT 2 i) H):=by
 obtain ⟨v,H2,h1,rfl,rfl⟩:=Zd (C:=PT) (f:=236) (lo:=lo) (args:=[.ptr b o,.str x]) (H:=H) (fn:=Tryz.f236) (Q:=fun w H2=>w=elA V.vT 2 i/\H2=H) (by kernel_rfl) Tryz.func236 rfl rfl (by
  have l1:=fun H'=>h.l1 (H':=H')
  have m1:=fun Hc (ho:Old H.n H Hc) lo K=>Um h 116 ho (lo:=lo) (K:=K)
  have e1:Y3 r 116=r.tracks.map (·.name):=rfl;have hb:=eq_true h.bn;have hx:=h.sT.idx (t:=43) (by kernel_rfl) (by kernel_rfl) (ZD (by intro x;rfl) _) (by rw [length_map];exact hlt) .i64;have hl:=h.lT;simp (maxDischargeDepth:=12) only [go_sem,reduceEqDiff,reduceAdd,reduceSub,reduceCtorEq,l1,m1,e1,hb,hl,hi,hx])
 exact h1
theorem Z7p {H:Heap} {b o:Nat} {r:Reg} {V:RegV} (h:RegIs H b o r V) (hi:Xh x (r.tracks.map (·.name))=(i:Int)) (hlt:i < r.tracks.length) (ho:Old H.n H Hc) {K:AV->Heap->Prop}:VO (Z9 PT (R PT) lo 236 [.ptr b o,.str x] Hc) K=K (elA V.vT 2 i) Hc :=
 QA (en236 rfl) (Z7o (h.old ho) hi hlt _)
theorem Z7q {H:Heap} {b o:Nat} {r:Reg} {V:RegV} (h:RegIs H b o r V) (hi:Xh x (r.faults.map (·.name))=(i:Int)) (hlt:i < r.faults.length) (lo:Nat):R PT (.call lo 152 [.ptr b o,.str x] H)=some (.ofVal (elA V.vF 7 i) H):=by
 obtain ⟨v,H2,h1,rfl,rfl⟩:=Zd (C:=PT) (f:=152) (lo:=lo) (args:=[.ptr b o,.str x]) (H:=H) (fn:=Tryz.f152) (Q:=fun w H2=>w=elA V.vF 7 i/\H2=H) (by kernel_rfl) Tryz.func152 rfl rfl (by
  have l1:=fun H'=>h.l2 (H':=H')
  have m1:=fun Hc (ho:Old H.n H Hc) lo K=>Um h 102 ho (lo:=lo) (K:=K)
  have e1:Y3 r 102=r.faults.map (·.name):=rfl;have hb:=eq_true h.bn;have hx:=h.sF.idx (t:=44) (by kernel_rfl) (by kernel_rfl) (ZD (by intro x;rfl) _) (by rw [length_map];exact hlt) .i64;have hl:=h.lF;simp (maxDischargeDepth:=12) only [go_sem,reduceEqDiff,reduceAdd,reduceSub,reduceCtorEq,l1,m1,e1,hb,hl,hi,hx])
 exact h1
theorem Gp {H:Heap} {b o:Nat} {r:Reg} {V:RegV} (h:RegIs H b o r V) (hi:Xh x (r.faults.map (·.name))=(i:Int)) (hlt:i < r.faults.length) (ho:Old H.n H Hc) {K:AV->Heap->Prop}:VO (Z9 PT (R PT) lo 152 [.ptr b o,.str x] Hc) K=K (elA V.vF 7 i) Hc :=
 QA (en152 rfl) (Z7q (h.old ho) hi hlt _)
theorem Z7r {H:Heap} {b o:Nat} {r:Reg} {V:RegV} (h:RegIs H b o r V) (hi:Xh x (r.poss.map (·.name))=(i:Int)) (hlt:i < r.poss.length) (lo:Nat):R PT (.call lo 84 [.ptr b o,.str x] H)=some (.ofVal (elA V.vP 10 i) H):=by
 obtain ⟨v,H2,h1,rfl,rfl⟩:=Zd (C:=PT) (f:=84) (lo:=lo) (args:=[.ptr b o,.str x]) (H:=H) (fn:=Tryz.f84) (Q:=fun w H2=>w=elA V.vP 10 i/\H2=H) (by kernel_rfl) Tryz.func84 rfl rfl (by
  have l1:=fun H'=>h.l4 (H':=H')
  have m1:=fun Hc (ho:Old H.n H Hc) lo K=>Um h 112 ho (lo:=lo) (K:=K)
  have e1:Y3 r 112=r.poss.map (·.name):=rfl;have hb:=eq_true h.bn;have hx:=h.sP.idx (t:=46) (by kernel_rfl) (by kernel_rfl) (ZD (by intro x;rfl) _) (by rw [length_map];exact hlt) .i64;have hl:=h.lP;simp (maxDischargeDepth:=12) only [go_sem,reduceEqDiff,reduceAdd,reduceSub,reduceCtorEq,l1,m1,e1,hb,hl,hi,hx])
 exact h1
theorem JL {H:Heap} {b o:Nat} {r:Reg} {V:RegV} (h:RegIs H b o r V) (hi:Xh x (r.poss.map (·.name))=(i:Int)) (hlt:i < r.poss.length) (ho:Old H.n H Hc) {K:AV->Heap->Prop}:VO (Z9 PT (R PT) lo 84 [.ptr b o,.str x] Hc) K=K (elA V.vP 10 i) Hc :=
 QA (en84 rfl) (Z7r (h.old ho) hi hlt _)
theorem Gq {q:α->Bool} {l:List α} {x:α} (h:l[k]? = some x):(l.take (k+1)).filter q=if q x then (l.take k).filter q++[x] else (l.take k).filter q:=by
 rw [take_add_one,h];simp only [Option.toList,filter_append,filter_cons,filter_nil];cases q x<;>simp
theorem Z7s {l:List Flt} (hs:Sl H v 7 65 (l.map Pos.Flt.row)) (hl:l.length<=Z2) {q:Flt->Bool} (hc:caps.map ZV=caps) (hg:∀ x ∈ l,∀ Hc,Old H.n H Hc -> ∀ lo K,VO (Z9 PT (R PT) lo g (.agg [.str x.name,.str x.track,.int .i64 x.frm,.int .i64 x.to,.int .i64 x.speed,.bool x.ans,.bool x.rep]::caps) Hc) K=K (.bool (q x)) Hc) :
 ∃ t H2,R PT (.call H.n 244 [v,.fn g [] caps] H)=some (.ofVal (.ps t ((l.filter q).map Pos.Flt.row)) H2)/\ZB H.n H2 t ((l.filter q).map Pos.Flt.row) 7 65/\Old H.n H H2:=by
 obtain ⟨w,H2,h1,t,rfl,h2⟩:=Zd (C:=PT) (f:=244) (lo:=H.n) (args:=[v,.fn g [] caps]) (H:=H) (fn:=Tryz.f244) (Q:=fun w H2=>∃ t,w=.ps t ((l.filter q).map Pos.Flt.row)/\ZB H.n H2 t ((l.filter q).map Pos.Flt.row) 7 65/\Old H.n H H2) (by kernel_rfl) Tryz.func244 rfl rfl (by
  have hlen:=fun H'=>hs.len (t:=44) (by kernel_rfl) H'
  simp only [length_map] at hlen;simp (maxDischargeDepth:=12) only [go_sem,reduceEqDiff,reduceAdd,reduceCtorEq,hlen];refine ZP (fun k T Hc M=>M=[]/\Z1 T 1=.fn g [] caps/\Z1 T 8=v/\Z1 T 9=i64 (l.length:Nat)/\Z1 T 10=i64 k/\Old H.n H Hc /\ ∃ t,Z1 T 5=.ps t (((l.take k).filter q).map Pos.Flt.row)/\ZB H.n Hc t (((l.take k).filter q).map Pos.Flt.row) 7 65) l.length ?_ ?_ ?_
  . simp (maxDischargeDepth:=12) only [go_sem,reduceEqDiff,reduceCtorEq];exact ⟨.nil,rfl,.inl ⟨rfl,rfl⟩⟩
  . rintro k T Hc M hk ⟨rfl,g1,g8,g9,g10,hO,t,g5,hA⟩;obtain ⟨x,hx⟩:∃ x,l[k]? = some x:=⟨l[k],by simp⟩;have hw:=ZQ hk hl;have hN:=eq_true hO.1;have hi:=hs.idx (t:=44) (by kernel_rfl) (by kernel_rfl) (ZD (by intro x;rfl) l) (by rw [length_map];exact hk) .i64;have hd:=hs.ld (by kernel_rfl) (by kernel_rfl) (ZD (by intro x;rfl) l) (Zy hx) hO;have hg1:=hg x (mem_of_getElem? hx);obtain ⟨z,hz⟩:∃ z,ZF NC.P 65=some z:=⟨_,Vi⟩;have hA1:=hA.new (.cells z.cells 65) (.cells (Pos.Flt.row x) 65);have hft:=Gq (q:=q) hx;have hlt:((l.take k).filter q).length<=k:=Nat.le_trans (length_filter_le _ _) (by rw [length_take];omega);cases hq:q x with
    | true =>
      obtain ⟨t',H',ha,hA',_,hO',_⟩:=Xm (lo:=H.n) hA1 (by simp;have:=hO.1;omega) (Nat.le_refl _) (r:=Pos.Flt.row x) (by rw [length_map];omega) rfl (by decide) (Ql (by intro x;rfl) _);have e1:(Pos.Flt.row x).map AV.strip0=Pos.Flt.row x:=rfl;rw [hq,if_pos rfl] at hft;have e2:((l.take k).filter q).map Pos.Flt.row++[Pos.Flt.row x]=((l.take (k+1)).filter q).map Pos.Flt.row:=by rw [hft,map_append];rfl
      rw [e1,e2] at ha hA';have hO2:Old H.n H H':=(hO.new _ _).trans hO';rw [Vi] at hz;cases hz;simp only [Pos.Flt.row] at hd ha;simp (maxDischargeDepth:=12) only [go_sem] at ha;have hra:=Ql (f:=Pos.Flt.row) (sz:=7) (by intro x;rfl) ((l.take k).filter q);simp (maxDischargeDepth:=12) only [go_sem,reduceEqDiff,reduceAdd,reduceMul,reduceLeDiff,g1,g5,g8,g9,g10,hk,hw,hN,hi,hd,hc,hg1,hO,hq,Zu,ha];exact ⟨hO2,t',by first | rfl | simp only [Pos.Flt.row],by first | exact hA' | simpa only [Pos.Flt.row] using hA'⟩
    | false =>
      rw [hq,if_neg (by simp)] at hft;rw [Vi] at hz;cases hz;rw [<- hft] at g5 hA1;simp only [Pos.Flt.row] at hd hA1;simp (maxDischargeDepth:=12) only [go_sem] at hA1;simp (maxDischargeDepth:=12) only [go_sem,reduceEqDiff,reduceAdd,g1,g5,g8,g9,g10,hk,hw,hN,hi,hd,hc,hg1,hO,hq];exact ⟨t,rfl,hA1⟩
  . rintro T Hc M ⟨rfl,g1,g8,g9,g10,hO,t,g5,hA⟩;rw [take_length] at g5 hA;simp (maxDischargeDepth:=12) only [go_sem,reduceEqDiff,reduceCtorEq,g5,g9,g10,Nat.lt_irrefl];exact ⟨t,rfl,hA,hO⟩)
 exact ⟨t,H2,h1,h2⟩
theorem Z7t (hs:Sl H v 3 61 (l.map Pos.Trn.row)) (hl:l.length<=Z2) (hc:caps.map ZV=caps) (hg:∀ x ∈ l,∀ Hc,Old H.n H Hc -> ∀ lo K,VO (Z9 PT (R PT) lo g (.agg [.str x.name,.str x.track,.int .i64 x.speed]::caps) Hc) K=K (.bool (q x)) Hc) :
 ∃ t H2,R PT (.call H.n 167 [v,.fn g [] caps] H)=some (.ofVal (.ps t ((l.filter q).map Pos.Trn.row)) H2)/\ZB H.n H2 t ((l.filter q).map Pos.Trn.row) 3 61/\Old H.n H H2:=by
 obtain ⟨w,H2,h1,t,rfl,h2⟩:=Zd (C:=PT) (f:=167) (lo:=H.n) (args:=[v,.fn g [] caps]) (H:=H) (fn:=Tryz.f167) (Q:=fun w H2=>∃ t,w=.ps t ((l.filter q).map Pos.Trn.row)/\ZB H.n H2 t ((l.filter q).map Pos.Trn.row) 3 61/\Old H.n H H2) (by kernel_rfl) Tryz.func167 rfl rfl (by
  have hlen:=fun H'=>hs.len (t:=45) (by kernel_rfl) H'
  simp only [length_map] at hlen;simp (maxDischargeDepth:=12) only [go_sem,reduceEqDiff,reduceAdd,reduceCtorEq,hlen];refine ZP (fun k T Hc M=>M=[]/\Z1 T 1=.fn g [] caps/\Z1 T 8=v/\Z1 T 9=i64 (l.length:Nat)/\Z1 T 10=i64 k/\Old H.n H Hc /\ ∃ t,Z1 T 5=.ps t (((l.take k).filter q).map Pos.Trn.row)/\ZB H.n Hc t (((l.take k).filter q).map Pos.Trn.row) 3 61) l.length ?_ ?_ ?_
  . simp (maxDischargeDepth:=12) only [go_sem,reduceEqDiff,reduceCtorEq];exact ⟨.nil,rfl,.inl ⟨rfl,rfl⟩⟩
  . rintro k T Hc M hk ⟨rfl,g1,g8,g9,g10,hO,t,g5,hA⟩;obtain ⟨x,hx⟩:∃ x,l[k]? = some x:=⟨l[k],by simp⟩;have hw:=ZQ hk hl;have hN:=eq_true hO.1;have hi:=hs.idx (t:=45) (by kernel_rfl) (by kernel_rfl) (ZD (by intro x;rfl) l) (by rw [length_map];exact hk) .i64;have hd:=hs.ld (by kernel_rfl) (by kernel_rfl) (ZD (by intro x;rfl) l) (Zy hx) hO;have hg1:=hg x (mem_of_getElem? hx);obtain ⟨z,hz⟩:∃ z,ZF NC.P 61=some z:=⟨_,Vh⟩;have hA1:=hA.new (.cells z.cells 61) (.cells (Pos.Trn.row x) 61);have hft:=Gq (q:=q) hx;have hlt:((l.take k).filter q).length<=k:=Nat.le_trans (length_filter_le _ _) (by rw [length_take];omega);cases hq:q x with
    | true =>
      obtain ⟨t',H',ha,hA',_,hO',_⟩:=Xm (lo:=H.n) hA1 (by simp;have:=hO.1;omega) (Nat.le_refl _) (r:=Pos.Trn.row x) (by rw [length_map];omega) rfl (by decide) (Ql (by intro x;rfl) _);have e1:(Pos.Trn.row x).map AV.strip0=Pos.Trn.row x:=rfl;rw [hq,if_pos rfl] at hft;have e2:((l.take k).filter q).map Pos.Trn.row++[Pos.Trn.row x]=((l.take (k+1)).filter q).map Pos.Trn.row:=by rw [hft,map_append];rfl
      rw [e1,e2] at ha hA';have hO2:Old H.n H H':=(hO.new _ _).trans hO';rw [Vh] at hz;cases hz;simp only [Pos.Trn.row] at hd ha;simp (maxDischargeDepth:=12) only [go_sem] at ha;have hra:=Ql (f:=Pos.Trn.row) (sz:=3) (by intro x;rfl) ((l.take k).filter q);simp (maxDischargeDepth:=12) only [go_sem,reduceEqDiff,reduceAdd,reduceMul,reduceLeDiff,g1,g5,g8,g9,g10,hk,hw,hN,hi,hd,hc,hg1,hO,hq,Zu,ha];exact ⟨hO2,t',by first | rfl | simp only [Pos.Trn.row],by first | exact hA' | simpa only [Pos.Trn.row] using hA'⟩
    | false =>
      rw [hq,if_neg (by simp)] at hft;rw [Vh] at hz;cases hz;rw [<- hft] at g5 hA1;simp only [Pos.Trn.row] at hd hA1;simp (maxDischargeDepth:=12) only [go_sem] at hA1;simp (maxDischargeDepth:=12) only [go_sem,reduceEqDiff,reduceAdd,g1,g5,g8,g9,g10,hk,hw,hN,hi,hd,hc,hg1,hO,hq];exact ⟨t,rfl,hA1⟩
  . rintro T Hc M ⟨rfl,g1,g8,g9,g10,hO,t,g5,hA⟩;rw [take_length] at g5 hA;simp (maxDischargeDepth:=12) only [go_sem,reduceEqDiff,reduceCtorEq,g5,g9,g10,Nat.lt_irrefl];exact ⟨t,rfl,hA,hO⟩)
 exact ⟨t,H2,h1,h2⟩
theorem Z7u {l:List Mch} (hs:Sl H v 2 67 (l.map Pos.Mch.row)) (hl:l.length<=Z2) {q:Mch->Bool} (hc:caps.map ZV=caps) (hg:∀ x ∈ l,∀ Hc,Old H.n H Hc -> ∀ lo K,VO (Z9 PT (R PT) lo g (.agg [.str x.name,.str x.poss]::caps) Hc) K=K (.bool (q x)) Hc) :
 ∃ t H2,R PT (.call H.n 180 [v,.fn g [] caps] H)=some (.ofVal (.ps t ((l.filter q).map Pos.Mch.row)) H2)/\ZB H.n H2 t ((l.filter q).map Pos.Mch.row) 2 67/\Old H.n H H2:=by
 obtain ⟨w,H2,h1,t,rfl,h2⟩:=Zd (C:=PT) (f:=180) (lo:=H.n) (args:=[v,.fn g [] caps]) (H:=H) (fn:=Tryz.f180) (Q:=fun w H2=>∃ t,w=.ps t ((l.filter q).map Pos.Mch.row)/\ZB H.n H2 t ((l.filter q).map Pos.Mch.row) 2 67/\Old H.n H H2) (by kernel_rfl) Tryz.func180 rfl rfl (by
  have hlen:=fun H'=>hs.len (t:=47) (by kernel_rfl) H'
  simp only [length_map] at hlen;simp (maxDischargeDepth:=12) only [go_sem,reduceEqDiff,reduceAdd,reduceCtorEq,hlen];refine ZP (fun k T Hc M=>M=[]/\Z1 T 1=.fn g [] caps/\Z1 T 8=v/\Z1 T 9=i64 (l.length:Nat)/\Z1 T 10=i64 k/\Old H.n H Hc /\ ∃ t,Z1 T 5=.ps t (((l.take k).filter q).map Pos.Mch.row)/\ZB H.n Hc t (((l.take k).filter q).map Pos.Mch.row) 2 67) l.length ?_ ?_ ?_
  . simp (maxDischargeDepth:=12) only [go_sem,reduceEqDiff,reduceCtorEq];exact ⟨.nil,rfl,.inl ⟨rfl,rfl⟩⟩
  . rintro k T Hc M hk ⟨rfl,g1,g8,g9,g10,hO,t,g5,hA⟩;obtain ⟨x,hx⟩:∃ x,l[k]? = some x:=⟨l[k],by simp⟩;have hw:=ZQ hk hl;have hN:=eq_true hO.1;have hi:=hs.idx (t:=47) (by kernel_rfl) (by kernel_rfl) (ZD (by intro x;rfl) l) (by rw [length_map];exact hk) .i64;have hd:=hs.ld (by kernel_rfl) (by kernel_rfl) (ZD (by intro x;rfl) l) (Zy hx) hO;have hg1:=hg x (mem_of_getElem? hx);obtain ⟨z,hz⟩:∃ z,ZF NC.P 67=some z:=⟨_,K9⟩;have hA1:=hA.new (.cells z.cells 67) (.cells (Pos.Mch.row x) 67);have hft:=Gq (q:=q) hx;have hlt:((l.take k).filter q).length<=k:=Nat.le_trans (length_filter_le _ _) (by rw [length_take];omega);cases hq:q x with
    | true =>
      obtain ⟨t',H',ha,hA',_,hO',_⟩:=Xm (lo:=H.n) hA1 (by simp;have:=hO.1;omega) (Nat.le_refl _) (r:=Pos.Mch.row x) (by rw [length_map];omega) rfl (by decide) (Ql (by intro x;rfl) _);have e1:(Pos.Mch.row x).map AV.strip0=Pos.Mch.row x:=rfl;rw [hq,if_pos rfl] at hft;have e2:((l.take k).filter q).map Pos.Mch.row++[Pos.Mch.row x]=((l.take (k+1)).filter q).map Pos.Mch.row:=by rw [hft,map_append];rfl
      rw [e1,e2] at ha hA';have hO2:Old H.n H H':=(hO.new _ _).trans hO';rw [K9] at hz;cases hz;simp only [Pos.Mch.row] at hd ha;simp (maxDischargeDepth:=12) only [go_sem] at ha;have hra:=Ql (f:=Pos.Mch.row) (sz:=2) (by intro x;rfl) ((l.take k).filter q);simp (maxDischargeDepth:=12) only [go_sem,reduceEqDiff,reduceAdd,reduceMul,reduceLeDiff,g1,g5,g8,g9,g10,hk,hw,hN,hi,hd,hc,hg1,hO,hq,Zu,ha];exact ⟨hO2,t',by first | rfl | simp only [Pos.Mch.row],by first | exact hA' | simpa only [Pos.Mch.row] using hA'⟩
    | false =>
      rw [hq,if_neg (by simp)] at hft;rw [K9] at hz;cases hz;rw [<- hft] at g5 hA1;simp only [Pos.Mch.row] at hd hA1;simp (maxDischargeDepth:=12) only [go_sem] at hA1;simp (maxDischargeDepth:=12) only [go_sem,reduceEqDiff,reduceAdd,g1,g5,g8,g9,g10,hk,hw,hN,hi,hd,hc,hg1,hO,hq];exact ⟨t,rfl,hA1⟩
  . rintro T Hc M ⟨rfl,g1,g8,g9,g10,hO,t,g5,hA⟩;rw [take_length] at g5 hA;simp (maxDischargeDepth:=12) only [go_sem,reduceEqDiff,reduceCtorEq,g5,g9,g10,Nat.lt_irrefl];exact ⟨t,rfl,hA,hO⟩)
 exact ⟨t,H2,h1,h2⟩
theorem en244:ZY 244:=Y0
theorem en167:Q6 167:=Qm
theorem en180:Q6 180:=Qm
theorem en237:ZY 237:=Y0
theorem en292:ZY 292:=Y0
def KL (q:Flt->Bool) (l:List Flt):Int:=match l.findIdx? q with
 | some i=>i
 | none=>-1
theorem Z7v {l:List Flt} (hs:Sl H v 7 65 (l.map Pos.Flt.row)) (hl:l.length<=Z2) {q:Flt->Bool} (hc:caps.map ZV=caps) (hg:∀ x ∈ l,∀ Hc,Old H.n H Hc -> ∀ lo K,VO (Z9 PT (R PT) lo g (.agg [.str x.name,.str x.track,.int .i64 x.frm,.int .i64 x.to,.int .i64 x.speed,.bool x.ans,.bool x.rep]::caps) Hc) K=K (.bool (q x)) Hc) :
 ∃ w H2,R PT (.call H.n 292 [v,.fn g [] caps] H)=some (.ofVal w H2)/\w=.int .i64 (KL q l):=by
 refine Zd (C:=PT) (f:=292) (lo:=H.n) (args:=[v,.fn g [] caps]) (H:=H) (fn:=Tryz.f292) (Q:=fun w _=>w=.int .i64 (KL q l)) (by kernel_rfl) Tryz.func292 rfl rfl ?_;have hlen:=fun H'=>hs.len (t:=44) (by kernel_rfl) H'
 simp only [length_map] at hlen;simp (maxDischargeDepth:=12) only [go_sem,reduceEqDiff,reduceAdd,reduceCtorEq,hlen];refine ZP (fun k T Hc M=>M=[]/\Z1 T 0=v/\Z1 T 1=.fn g [] caps/\Z1 T 7=i64 (l.length:Nat)/\Z1 T 8=i64 k/\Old H.n H Hc /\ ∀ x ∈ l.take k,q x=false) l.length ?_ ?_ ?_
 . simp (maxDischargeDepth:=12) only [go_sem,reduceEqDiff,reduceCtorEq];exact fun x hx=>by simp at hx
 . rintro k T Hc M hk ⟨rfl,g0,g1,g7,g8,hO,hn⟩;obtain ⟨x,hx⟩:∃ x,l[k]? = some x:=⟨l[k],by simp⟩;have hw:=ZQ hk hl;have hi:=hs.idx (t:=44) (by kernel_rfl) (by kernel_rfl) (ZD (by intro x;rfl) l) (by rw [length_map];exact hk) .i64;have hd:=hs.ld (by kernel_rfl) (by kernel_rfl) (ZD (by intro x;rfl) l) (Zy hx) hO;have hg1:=hg x (mem_of_getElem? hx);simp only [Pos.Flt.row] at hd;cases hq:q x with
   | true =>
     simp (maxDischargeDepth:=12) only [go_sem,reduceEqDiff,reduceCtorEq,g0,g1,g7,g8,hk,hi,hd,hc,hg1,hO,hq];have:l.findIdx? q=some k:=by
      rw [findIdx?_eq_some_iff_getElem];obtain ⟨hlt,he⟩:=List.getElem?_eq_some_iff.1 hx;refine ⟨hlt,by rw [he];exact hq,fun j hj => ?_⟩;have:=hn l[j] (mem_take_iff_getElem.2 ⟨j,by omega,rfl⟩);simp [this]
     unfold KL;rw [this]
   | false =>
     simp (maxDischargeDepth:=12) only [go_sem,reduceEqDiff,reduceCtorEq,g0,g1,g7,g8,hk,hw,hi,hd,hc,hg1,hO,hq];intro y hy;rw [take_add_one,hx] at hy;rcases mem_append.1 hy with hy | hy
     . exact hn y hy
     . simp only [Option.toList,mem_singleton] at hy;rw [hy];exact hq
 . rintro T Hc M ⟨rfl,g0,g1,g7,g8,hO,hn⟩;rw [take_length] at hn;simp (maxDischargeDepth:=12) only [go_sem,reduceEqDiff,reduceCtorEq,g7,g8,Nat.lt_irrefl];have:l.findIdx? q=none:=by
    rw [findIdx?_eq_none_iff];exact fun x hx=>by simp [hn x hx]
   unfold KL;rw [this]
theorem Z7w (q:Flt->Bool) (l:List Flt):(KL q l < 0)=(l.any q=false):=by
 unfold KL;cases h:l.findIdx? q with
 | none =>
   rw [findIdx?_eq_none_iff] at h;simp only [eq_iff_iff];refine ⟨fun _ => ?_,fun _=>by decide⟩;rw [any_eq_false];exact fun x hx=>by simp [h x hx]
 | some i =>
   rw [findIdx?_eq_some_iff_getElem] at h;obtain ⟨hlt,hq,_⟩:=h;simp only [eq_iff_iff];refine ⟨fun h=>by omega,fun h => ?_⟩;rw [any_eq_false] at h;exact absurd hq (h _ (getElem_mem hlt))
theorem Z7x {l:List Flt} (hs:Sl H v 7 65 (l.map Pos.Flt.row)) (hl:l.length<=Z2) {q:Flt->Bool} (hc:caps.map ZV=caps) (hg:∀ x ∈ l,∀ Hc,Old H.n H Hc -> ∀ lo K,VO (Z9 PT (R PT) lo g (.agg [.str x.name,.str x.track,.int .i64 x.frm,.int .i64 x.to,.int .i64 x.speed,.bool x.ans,.bool x.rep]::caps) Hc) K=K (.bool (q x)) Hc) :
 ∃ w H2,R PT (.call H.n 237 [v,.fn g [] caps] H)=some (.ofVal w H2)/\w=.bool (l.any q):=by
 refine Zd (C:=PT) (f:=237) (lo:=H.n) (args:=[v,.fn g [] caps]) (H:=H) (fn:=Tryz.f237) (Q:=fun w _=>w=.bool (l.any q)) (by kernel_rfl) Tryz.func237 rfl rfl ?_;have e1:∀ lo K,VO (Z9 PT (R PT) lo 292 [ZV v,.fn g [] caps] H) K=K (.int .i64 (KL q l)) H:=fun lo K=>by
  obtain ⟨w,H2,h1,h2⟩:=Z7v hs.strip hl hc hg;exact ZX (en292 rfl) ⟨H2,h1⟩ (by rw [h2];rfl) rfl
 simp (maxDischargeDepth:=12) only [go_sem,reduceEqDiff,reduceAdd,reduceCtorEq,e1,Z7w];cases l.any q<;>simp
theorem Z7y {l:List Flt} (hs:Sl H v 7 65 (l.map Pos.Flt.row)) (hl:l.length<=Z2) {q:Flt->Bool} (hc:caps.map ZV=caps) (hg:∀ x ∈ l,∀ Hc,Old H.n H Hc -> ∀ lo K,VO (Z9 PT (R PT) lo g (.agg [.str x.name,.str x.track,.int .i64 x.frm,.int .i64 x.to,.int .i64 x.speed,.bool x.ans,.bool x.rep]::caps) Hc) K=K (.bool (q x)) Hc) {K:AV->Heap->Prop}:VO (Z9 PT (R PT) lo 237 [ZV v,.fn g [] caps] H) K=K (.bool (l.any q)) H:=by
 obtain ⟨w,H2,h1,h2⟩:=Z7x hs.strip hl hc hg;exact ZX (en237 rfl) ⟨H2,h1⟩ (by rw [h2];rfl) rfl
theorem en270:ZY 270:=Y0
theorem en310:ZY 310:=Y0
def KM (q:Trn->Bool) (l:List Trn):Int:=match l.findIdx? q with
 | some i=>i
 | none=>-1
theorem Z7z (hs:Sl H v 3 61 (l.map Pos.Trn.row)) (hl:l.length<=Z2) (hc:caps.map ZV=caps) (hg:∀ x ∈ l,∀ Hc,Old H.n H Hc -> ∀ lo K,VO (Z9 PT (R PT) lo g (.agg [.str x.name,.str x.track,.int .i64 x.speed]::caps) Hc) K=K (.bool (q x)) Hc) :
 ∃ w H2,R PT (.call H.n 310 [v,.fn g [] caps] H)=some (.ofVal w H2)/\w=.int .i64 (KM q l):=by
 refine Zd (C:=PT) (f:=310) (lo:=H.n) (args:=[v,.fn g [] caps]) (H:=H) (fn:=Tryz.f310) (Q:=fun w _=>w=.int .i64 (KM q l)) (by kernel_rfl) Tryz.func310 rfl rfl ?_;have hlen:=fun H'=>hs.len (t:=45) (by kernel_rfl) H'
 simp only [length_map] at hlen;simp (maxDischargeDepth:=12) only [go_sem,reduceEqDiff,reduceAdd,reduceCtorEq,hlen];refine ZP (fun k T Hc M=>M=[]/\Z1 T 0=v/\Z1 T 1=.fn g [] caps/\Z1 T 7=i64 (l.length:Nat)/\Z1 T 8=i64 k/\Old H.n H Hc /\ ∀ x ∈ l.take k,q x=false) l.length ?_ ?_ ?_
 . simp (maxDischargeDepth:=12) only [go_sem,reduceEqDiff,reduceCtorEq];exact fun x hx=>by simp at hx
 . rintro k T Hc M hk ⟨rfl,g0,g1,g7,g8,hO,hn⟩;obtain ⟨x,hx⟩:∃ x,l[k]? = some x:=⟨l[k],by simp⟩;have hw:=ZQ hk hl;have hi:=hs.idx (t:=45) (by kernel_rfl) (by kernel_rfl) (ZD (by intro x;rfl) l) (by rw [length_map];exact hk) .i64;have hd:=hs.ld (by kernel_rfl) (by kernel_rfl) (ZD (by intro x;rfl) l) (Zy hx) hO;have hg1:=hg x (mem_of_getElem? hx);simp only [Pos.Trn.row] at hd;cases hq:q x with
   | true =>
     simp (maxDischargeDepth:=12) only [go_sem,reduceEqDiff,reduceCtorEq,g0,g1,g7,g8,hk,hi,hd,hc,hg1,hO,hq];have:l.findIdx? q=some k:=by
      rw [findIdx?_eq_some_iff_getElem];obtain ⟨hlt,he⟩:=List.getElem?_eq_some_iff.1 hx;refine ⟨hlt,by rw [he];exact hq,fun j hj => ?_⟩;have:=hn l[j] (mem_take_iff_getElem.2 ⟨j,by omega,rfl⟩);simp [this]
     unfold KM;rw [this]
   | false =>
     simp (maxDischargeDepth:=12) only [go_sem,reduceEqDiff,reduceCtorEq,g0,g1,g7,g8,hk,hw,hi,hd,hc,hg1,hO,hq];intro y hy;rw [take_add_one,hx] at hy;rcases mem_append.1 hy with hy | hy
     . exact hn y hy
     . simp only [Option.toList,mem_singleton] at hy;rw [hy];exact hq
 . rintro T Hc M ⟨rfl,g0,g1,g7,g8,hO,hn⟩;rw [take_length] at hn;simp (maxDischargeDepth:=12) only [go_sem,reduceEqDiff,reduceCtorEq,g7,g8,Nat.lt_irrefl];have:l.findIdx? q=none:=by
    rw [findIdx?_eq_none_iff];exact fun x hx=>by simp [hn x hx]
   unfold KM;rw [this]
theorem Z7A (q:Trn->Bool) (l:List Trn):(KM q l < 0)=(l.any q=false):=by
 unfold KM;cases h:l.findIdx? q with
 | none =>
   rw [findIdx?_eq_none_iff] at h;simp only [eq_iff_iff];refine ⟨fun _ => ?_,fun _=>by decide⟩;rw [any_eq_false];exact fun x hx=>by simp [h x hx]
 | some i =>
   rw [findIdx?_eq_some_iff_getElem] at h;obtain ⟨hlt,hq,_⟩:=h;simp only [eq_iff_iff];refine ⟨fun h=>by omega,fun h => ?_⟩;rw [any_eq_false] at h;exact absurd hq (h _ (getElem_mem hlt))
theorem Z7B (hs:Sl H v 3 61 (l.map Pos.Trn.row)) (hl:l.length<=Z2) (hc:caps.map ZV=caps) (hg:∀ x ∈ l,∀ Hc,Old H.n H Hc -> ∀ lo K,VO (Z9 PT (R PT) lo g (.agg [.str x.name,.str x.track,.int .i64 x.speed]::caps) Hc) K=K (.bool (q x)) Hc) :
 ∃ w H2,R PT (.call H.n 270 [v,.fn g [] caps] H)=some (.ofVal w H2)/\w=.bool (l.any q):=by
 refine Zd (C:=PT) (f:=270) (lo:=H.n) (args:=[v,.fn g [] caps]) (H:=H) (fn:=Tryz.f270) (Q:=fun w _=>w=.bool (l.any q)) (by kernel_rfl) Tryz.func270 rfl rfl ?_;have e1:∀ lo K,VO (Z9 PT (R PT) lo 310 [ZV v,.fn g [] caps] H) K=K (.int .i64 (KM q l)) H:=fun lo K=>by
  obtain ⟨w,H2,h1,h2⟩:=Z7z hs.strip hl hc hg;exact ZX (en310 rfl) ⟨H2,h1⟩ (by rw [h2];rfl) rfl
 simp (maxDischargeDepth:=12) only [go_sem,reduceEqDiff,reduceAdd,reduceCtorEq,e1,Z7A];cases l.any q<;>simp
theorem Z7C (hs:Sl H v 3 61 (l.map Pos.Trn.row)) (hl:l.length<=Z2) (hc:caps.map ZV=caps) (hg:∀ x ∈ l,∀ Hc,Old H.n H Hc -> ∀ lo K,VO (Z9 PT (R PT) lo g (.agg [.str x.name,.str x.track,.int .i64 x.speed]::caps) Hc) K=K (.bool (q x)) Hc) {K:AV->Heap->Prop}:VO (Z9 PT (R PT) lo 270 [ZV v,.fn g [] caps] H) K=K (.bool (l.any q)) H:=by
 obtain ⟨w,H2,h1,h2⟩:=Z7B hs.strip hl hc hg;exact ZX (en270 rfl) ⟨H2,h1⟩ (by rw [h2];rfl) rfl
theorem el_T {V:RegV} (h:RegIs H b o r V) {x:Trk} (hx:r.tracks[i]? = some x):elA V.vT 2 i=.pptr [.str x.name,.int .i64 x.speed]:=by
 obtain ⟨t,e,_⟩:=h.aT;rw [e];show AV.pptr _=_;rw [Zy hx];rfl
theorem Cl (h:Pos.SV sz te H v rows) (hr:Len sz rows) {row:List AV} (hx:rows[i]? = some row):∃ id,elA v sz i=.ptr id (i * sz)∧id < H.n ∧
 (∀ {H':Heap},Old H.n H H' → ∀ {k:Nat} {c:AV} {t:TypeId},row[k]? = some c→(Zf NC.P t).isSome=true→aggOf NC.P t=some false→sld H' t (.ptr id (i * sz+k))=some c) ∧
 (∀ {H':Heap},Old H.n H H' → ∀ {k n:Nat} {t:TypeId},k+n≤row.length→Zf NC.P t=some n→aggOf NC.P t=some true→sld H' t (.ptr id (i * sz+k))=some (.agg ((row.drop k).take n))):=by
 rcases h with ⟨rfl,rfl⟩ | ⟨id,cs,m,rfl,h2,h3,h4⟩
 · cases hx
 refine ⟨id,by show AV.ptr id (0+i * sz)=_;rw [zero_add],h2,fun {H'} ho {k c t} hk hs hg => ?_,fun {H'} ho {k n t} hk hs hg => ?_⟩
 · obtain ⟨n,hn⟩:=isSome_iff_exists.1 hs;have hc:=Xg hr hx hk;have hc2:ZW (rows.flatten++cs) (i * sz+k) 1=some [c]:=by
    unfold ZW at hc ⊢;split at hc
    · rename_i hle
      rw [if_pos (by rw [length_append];omega),drop_append_of_le_length (by omega),take_append_of_le_length (by rw [length_drop];omega)];exact hc
    · cases hc
   show Yl NC.P H' t (.ptr id (i * sz+k))=some c;unfold Yl;simp only [hn,hg,YB,ho.2 id h2,h3,Xw,if_false,hc2,QS,false_eq_true]
 · have hf:=Zx hr hx;have hl:=hr row (mem_of_getElem? hx);have hc2:ZW (rows.flatten++cs) (i * sz+k) n=some ((row.drop k).take n):=by
    unfold ZW at hf ⊢;split at hf
    · rename_i hle
      have hf:=Option.some.inj hf;rw [if_pos (by rw [length_append];omega),drop_append_of_le_length (by omega),take_append_of_le_length (by rw [length_drop];omega)];rw [← drop_drop,← hf,drop_take,take_take]
      congr 1
      congr 1
      omega
    · cases hf
   show Yl NC.P H' t (.ptr id (i * sz+k))=_;unfold Yl;simp only [hs,hg,YB,ho.2 id h2,h3,Xw,if_true,hc2,QS]
structure PtF (H:Heap) (id off:Nat) (x:Flt):Prop where
 lt:id < H.n
 f0:∀ {H':Heap},Old H.n H H'->sld H' 9 (.ptr id off)=some (.str x.name)
 f1:∀ {H':Heap},Old H.n H H'->sld H' 9 (.ptr id (off+1))=some (.str x.track)
 f2:∀ {H':Heap},Old H.n H H'->sld H' 3 (.ptr id (off+2))=some (.int .i64 x.frm)
 f3:∀ {H':Heap},Old H.n H H'->sld H' 3 (.ptr id (off+3))=some (.int .i64 x.to)
 f4:∀ {H':Heap},Old H.n H H'->sld H' 3 (.ptr id (off+4))=some (.int .i64 x.speed)
 f5:∀ {H':Heap},Old H.n H H'->sld H' 4 (.ptr id (off+5))=some (.bool x.ans)
 f6:∀ {H':Heap},Old H.n H H'->sld H' 4 (.ptr id (off+6))=some (.bool x.rep)
structure PtP (H:Heap) (id off:Nat) (x:Pos):Prop where
 lt:id < H.n
 f0:∀ {H':Heap},Old H.n H H'->sld H' 9 (.ptr id off)=some (.str x.name)
 f1:∀ {H':Heap},Old H.n H H'->sld H' 9 (.ptr id (off+1))=some (.str x.track)
 f2:∀ {H':Heap},Old H.n H H'->sld H' 3 (.ptr id (off+2))=some (.int .i64 x.frm)
 f3:∀ {H':Heap},Old H.n H H'->sld H' 3 (.ptr id (off+3))=some (.int .i64 x.to)
 f4:∀ {H':Heap},Old H.n H H'->sld H' 4 (.ptr id (off+4))=some (.bool x.ret)
 f5:∀ {H':Heap},Old H.n H H'->sld H' 4 (.ptr id (off+5))=some (.bool x.prot)
 f6:∀ {H':Heap},Old H.n H H'->sld H' 4 (.ptr id (off+6))=some (.bool x.opn)
 f7:∀ {H':Heap},Old H.n H H'->sld H' 3 (.ptr id (off+7))=some (.int .i64 x.closed)
 f8:∀ {H':Heap},Old H.n H H'->sld H' 3 (.ptr id (off+8))=some (.int .i64 x.pers)
 f9:∀ {H':Heap},Old H.n H H'->sld H' 3 (.ptr id (off+9))=some (.int .i64 x.speed)
 sp:∀ {H':Heap},Old H.n H H'->sld H' 57 (.ptr id (off+2))=some (.agg [.int .i64 x.frm,.int .i64 x.to])
theorem el_F {V:RegV} (h:RegIs H b o r V) {x:Flt} (hx:r.faults[i]? = some x):∃ id,elA V.vF 7 i=.ptr id (i * 7)/\PtF H id (i * 7) x:=by
 obtain ⟨id,h1,h2,h3,h4⟩:=Cl h.aF (ZD (by intro x;rfl) _) (Zy hx);exact ⟨id,h1,h2,fun ho=>h3 ho (k:=0) rfl (by kernel_rfl) (by kernel_rfl),fun ho=>h3 ho rfl (by kernel_rfl) (by kernel_rfl),fun ho=>h3 ho rfl (by kernel_rfl) (by kernel_rfl),fun ho=>h3 ho rfl (by kernel_rfl) (by kernel_rfl),fun ho=>h3 ho rfl (by kernel_rfl) (by kernel_rfl),fun ho=>h3 ho rfl (by kernel_rfl) (by kernel_rfl),fun ho=>h3 ho rfl (by kernel_rfl) (by kernel_rfl)⟩
theorem Qn {V:RegV} (h:RegIs H b o r V) {x:Pos} (hx:r.poss[i]? = some x):∃ id,elA V.vP 10 i=.ptr id (i * 10)/\PtP H id (i * 10) x:=by
 obtain ⟨id,h1,h2,h3,h4⟩:=Cl h.aP (ZD (by intro x;rfl) _) (Zy hx);exact ⟨id,h1,h2,fun ho=>h3 ho (k:=0) rfl (by kernel_rfl) (by kernel_rfl),fun ho=>h3 ho rfl (by kernel_rfl) (by kernel_rfl),fun ho=>h3 ho rfl (by kernel_rfl) (by kernel_rfl),fun ho=>h3 ho rfl (by kernel_rfl) (by kernel_rfl),fun ho=>h3 ho rfl (by kernel_rfl) (by kernel_rfl),fun ho=>h3 ho rfl (by kernel_rfl) (by kernel_rfl),fun ho=>h3 ho rfl (by kernel_rfl) (by kernel_rfl),fun ho=>h3 ho rfl (by kernel_rfl) (by kernel_rfl),fun ho=>h3 ho rfl (by kernel_rfl) (by kernel_rfl),fun ho=>h3 ho rfl (by kernel_rfl) (by kernel_rfl),fun ho=>h4 ho (k:=2) (n:=2) (by show 2+2<=10;decide) (by kernel_rfl) (by kernel_rfl)⟩
theorem en122:ZY 122:=Y0
theorem en113:ZY 113:=Y0
theorem en238:ZY 238:=Y0
theorem en111:ZY 111:=Y0
theorem Z7D {V:RegV} (h:RegIs H b o r V):∃ w H2,R PT (.call H.n 122 [.ptr b o] H)=some (.ofVal w H2)/\w.strip=.ps .unk ((r.faults.filter Flt.silent).map Pos.Flt.row):=by
 refine Zd (C:=PT) (f:=122) (lo:=H.n) (args:=[.ptr b o]) (H:=H) (fn:=Tryz.f122) (Q:=fun w _=>w.strip=.ps .unk ((r.faults.filter Flt.silent).map Pos.Flt.row)) (by kernel_rfl) Tryz.func122 rfl rfl ?_;have l2:=fun H'=>h.l2 (H':=H')
 have e1:∀ lo K,VO (Z9 PT (R PT) lo 244 [ZV V.vF,.fn 245 [] []] H) K=K (.ps .unk ((r.faults.filter Flt.silent).map Pos.Flt.row)) H:=fun lo K=>by
  obtain ⟨t,H2,h1,_,_⟩:=Z7s h.sF.strip h.lF (g:=245) (caps:=[]) (q:=Flt.silent) rfl (fun x _ Hc _ lo K=>by
   have hp:=Hv x;simp only [Pos.Flt.row] at hp;simp (maxDischargeDepth:=12) only [go_sem,hp])
  refine ZX (en244 rfl) ⟨H2,h1⟩ rfl ?_;rfl
 simp (maxDischargeDepth:=12) only [go_sem,reduceEqDiff,reduceCtorEq,l2,e1]
theorem Z7E {V:RegV} (h:RegIs H b o r V) (ho:Old H.n H Hc) {K:AV->Heap->Prop}:VO (Z9 PT (R PT) lo 122 [.ptr b o] Hc) K=K (.ps .unk ((r.faults.filter Flt.silent).map Pos.Flt.row)) Hc:=by
 obtain ⟨w,H2,h1,h2⟩:=Z7D (h.old ho);exact ZX (en122 rfl) ⟨H2,h1⟩ h2 rfl
theorem Z7F {f:Flt} (hid:id < H.n) (hg:H.get id=.cells [.str s] 9) {K:AV->Heap->Prop}:VO (Z9 PT (R PT) lo 238 [.agg [.str f.name,.str f.track,.int .i64 f.frm,.int .i64 f.to,.int .i64 f.speed,.bool f.ans,.bool f.rep],.ptr id 0] H) K=K (.bool (decide (f.track=s))) H:=by
 obtain ⟨w,H2,h1,h2⟩:=Zd (C:=PT) (f:=238) (lo:=H.n) (args:=[.agg [.str f.name,.str f.track,.int .i64 f.frm,.int .i64 f.to,.int .i64 f.speed,.bool f.ans,.bool f.rep],.ptr id 0]) (H:=H) (fn:=Tryz.f238) (Q:=fun w _=>w=.bool (decide (f.track=s))) (by kernel_rfl) Tryz.func238 rfl rfl (by
  have hne:(id=H.n)=False:=eq_false (by omega);simp (maxDischargeDepth:=12) only [go_sem,reduceEqDiff,reduceAdd,reduceCtorEq,hne,hg,Ys])
 exact ZX (en238 rfl) ⟨H2,h1⟩ (by rw [h2];rfl) rfl
theorem Z7G {V:RegV} (h:RegIs H b o r V) (s:Nm):∃ w H2,R PT (.call H.n 113 [.ptr b o,.str s] H)=some (.ofVal w H2)/\w=.bool (r.silentOn s):=by
 refine Zd (C:=PT) (f:=113) (lo:=H.n) (args:=[.ptr b o,.str s]) (H:=H) (fn:=Tryz.f113) (Q:=fun w _=>w=.bool (r.silentOn s)) (by kernel_rfl) Tryz.func113 rfl rfl ?_;have e1:=fun lo K=>Z7E h ((Old.refl H).push (.cells [.str s] 9)) (lo:=lo) (K:=K)
 have e2:∀ lo K,VO (Z9 PT (R PT) lo 237 [.ps .unk ((r.faults.filter Flt.silent).map Pos.Flt.row),.fn 238 [] [.ptr H.n 0]] (H.push (.cells [.str s] 9))) K=K (.bool ((r.faults.filter Flt.silent).any fun f=>decide (f.track=s))) (H.push (.cells [.str s] 9)):=fun lo K =>
  Z7y (v:=.ps .unk ((r.faults.filter Flt.silent).map Pos.Flt.row)) (.inl ⟨_,rfl,rfl⟩) (Nat.le_trans (length_filter_le _ _) h.lF) rfl (fun x _ Hc ho lo K=>Z7F (lt_of_lt_of_le (by simp) ho.1) (by rw [ho.2 _ (by simp),Heap.get_push,if_pos rfl]))
 have e3:r.silentOn s=(r.faults.filter Flt.silent).any fun f=>decide (f.track=s):=by
  unfold Pos.Reg.silentOn;rw [List.any_filter]
  congr 1
  funext f
  rw [Bool.and_comm]
 rw [e3];simp (maxDischargeDepth:=12) only [go_sem,reduceEqDiff,reduceAdd,reduceCtorEq,e1,e2]
theorem Z7H {V:RegV} (h:RegIs H b o r V) (s:Nm) (ho:Old H.n H Hc) {K:AV->Heap->Prop}:VO (Z9 PT (R PT) lo 113 [.ptr b o,.str s] Hc) K=K (.bool (r.silentOn s)) Hc:=by
 obtain ⟨w,H2,h1,h2⟩:=Z7G (h.old ho) s;exact ZX (en113 rfl) ⟨H2,h1⟩ (by rw [h2];rfl) rfl
def KN (s:Nm) (f:Flt):Bool:=decide (f.track=s) && (f.ans && !f.rep)
def KO (s:Nm) (p:Pos):Bool:=decide (p.track=s) && p.ret
theorem Z7I (a b:Int):minI a b<=a:=by unfold minI;split<;>omega
theorem I7 (l:List Int) (a:Int):l.foldl minI a<=a:=by
 induction l generalizing a with
 | nil=>exact Int.le_refl _
 | cons x r ih=>exact Int.le_trans (ih _) (Z7I a x)
theorem I8 {q:α->Bool} {u:α->Int} {l:List α} {x:α} (h:l[k]? = some x) (a:Int):(((l.take (k+1)).filter q).map u).foldl minI a=if q x then minI ((((l.take k).filter q).map u).foldl minI a) (u x) else (((l.take k).filter q).map u).foldl minI a:=by
 rw [Gq h];cases hq:q x with
 | true=>rw [if_pos rfl,if_pos rfl,map_append,foldl_append];rfl
 | false=>rw [if_neg (by simp),if_neg (by simp)]
theorem Z7J {V:RegV} (h:RegIs H b o r V) (hy:r.track? s=some y):∃ w H2,R PT (.call H.n 111 [.ptr b o,.str s] H)=some (.ofVal w H2)/\w=.int .i64 (r.permitted s):=by
 refine Zd (C:=PT) (f:=111) (lo:=H.n) (args:=[.ptr b o,.str s]) (H:=H) (fn:=Tryz.f111) (Q:=fun w _=>w=.int .i64 (r.permitted s)) (by kernel_rfl) Tryz.func111 rfl rfl ?_;have l2:=fun H'=>h.l2 (H':=H')
 have l4:=fun H'=>h.l4 (H':=H')
 obtain ⟨i,hi,hx,hlt,_⟩:=Vq hy;have e1:=fun lo K=>Z7p h hi hlt (Old.refl H) (lo:=lo) (K:=K)
 have e2:=el_T h hx;have hlenF:=fun H'=>h.sF.len (t:=44) (by kernel_rfl) H'
 have hlenP:=fun H'=>h.sP.len (t:=46) (by kernel_rfl) H'
 simp only [length_map] at hlenF hlenP;have hspec:r.permitted s=((r.poss.filter (KO s)).map (·.speed)).foldl minI (((r.faults.filter (KN s)).map (·.speed)).foldl minI y.speed):=by
  unfold Pos.Reg.permitted;rw [hy];rfl
 rw [hspec];simp (maxDischargeDepth:=12) only [go_sem,reduceEqDiff,reduceAdd,reduceCtorEq,e1,e2,l2,hlenF];refine ZP (fun k T Hc M=>M=[]/\Z1 T 0=.ptr b o/\Z1 T 1=.str s/\Z1 T 5=i64 y.speed/\Z1 T 6=i64 ((((r.faults.take k).filter (KN s)).map (·.speed)).foldl minI y.speed)/\Z1 T 21=V.vF/\Z1 T 22=i64 (r.faults.length:Nat)/\Z1 T 23=i64 k/\Old H.n H Hc) r.faults.length ?_ ?_ ?_
 . simp (maxDischargeDepth:=12) only [go_sem,reduceEqDiff,reduceCtorEq];rfl
 . rintro k T Hc M hk ⟨rfl,g0,g1,g5,g6,g21,g22,g23,hO⟩;obtain ⟨x,hx⟩:∃ x,r.faults[k]? = some x:=⟨r.faults[k],by simp⟩;have hw:=ZQ hk h.lF;have hN:=eq_true hO.1;have hi:=h.sF.idx (t:=44) (by kernel_rfl) (by kernel_rfl) (ZD (by intro x;rfl) _) (by rw [length_map];exact hk) .i64;have hd:=h.sF.ld (by kernel_rfl) (by kernel_rfl) (ZD (by intro x;rfl) _) (Zy hx) hO;have hf:=I8 (q:=KN s) (u:=(·.speed)) hx y.speed;obtain ⟨nm,tr,fa,fb,sp,an,re⟩:=x;simp only [Pos.Flt.row] at hd;obtain ⟨q,hq⟩:∃ q,KN s ⟨nm,tr,fa,fb,sp,an,re⟩=q:=⟨_,rfl⟩;rw [hq] at hf;rw [hf];unfold KN at hq;by_cases c1:tr=s<;>cases an<;>cases re
   all_goals
    simp only [c1,decide_true,decide_false,Bool.not_true,Bool.not_false,Bool.and_true,Bool.and_false] at hq;subst hq;generalize (((r.faults.take k).filter (KN s)).map (·.speed)).foldl minI y.speed=z at *;simp (maxDischargeDepth:=12) only [go_sem,reduceEqDiff,reduceAdd,reduceCtorEq,g0,g1,g5,g6,g21,g22,g23,hk,hw,hN,hi,hd,hO,Ys,c1];try rfl
 . rintro T Hc M ⟨rfl,g0,g1,g5,g6,g21,g22,g23,hO⟩;rw [take_length] at g6;generalize hz:((r.faults.filter (KN s)).map (·.speed)).foldl minI y.speed=z at *;have hz:z<=y.speed:=by rw [<- hz];exact I7 _ _
   simp (maxDischargeDepth:=12) only [go_sem,reduceEqDiff,reduceCtorEq,g0,g22,g23,Nat.lt_irrefl,l4,hlenP,hO];refine ZP (fun k T Hc M=>M=[]/\Z1 T 1=.str s/\Z1 T 5=i64 y.speed/\Z1 T 6=i64 ((((r.poss.take k).filter (KO s)).map (·.speed)).foldl minI z)/\Z1 T 48=V.vP/\Z1 T 49=i64 (r.poss.length:Nat)/\Z1 T 50=i64 k/\Old H.n H Hc) r.poss.length ?_ ?_ ?_
   . simp (maxDischargeDepth:=12) only [go_sem,reduceEqDiff,g1,g5,g6];exact ⟨rfl,hO⟩
   . rintro k T Hc M hk ⟨rfl,g1,g5,g6,g48,g49,g50,hO⟩;obtain ⟨x,hx⟩:∃ x,r.poss[k]? = some x:=⟨r.poss[k],by simp⟩;have hw:=ZQ hk h.lP;have hN:=eq_true hO.1;have hi:=h.sP.idx (t:=46) (by kernel_rfl) (by kernel_rfl) (ZD (by intro x;rfl) _) (by rw [length_map];exact hk) .i64;have hd:=h.sP.ld (by kernel_rfl) (by kernel_rfl) (ZD (by intro x;rfl) _) (Zy hx) hO;have hf:=I8 (q:=KO s) (u:=(·.speed)) hx z;obtain ⟨nm,tr,fa,fb,re,pr,op,cl,pe,sp⟩:=x;simp only [Pos.Pos.row] at hd;obtain ⟨q,hq⟩:∃ q,KO s ⟨nm,tr,fa,fb,re,pr,op,cl,pe,sp⟩=q:=⟨_,rfl⟩;rw [hq] at hf;rw [hf];unfold KO at hq;have hle:=I7 (((r.poss.take k).filter (KO s)).map (·.speed)) z;by_cases c1:tr=s<;>cases re<;>by_cases c2:sp < y.speed
     all_goals
      simp only [c1,decide_true,decide_false,Bool.and_true,Bool.and_false] at hq;subst hq;generalize (((r.poss.take k).filter (KO s)).map (·.speed)).foldl minI z=z2 at *;simp (maxDischargeDepth:=12) only [go_sem,reduceEqDiff,reduceAdd,reduceLeDiff,g1,g5,g6,g48,g49,g50,hk,hw,hN,hi,hd,hO,Ys,c1,c2];try first
      | rfl
      | (have:minI z2 sp=z2:=by unfold minI;rw [if_neg (by omega)]
         simp only [this])
   . rintro T Hc M ⟨rfl,g1,g5,g6,g48,g49,g50,hO⟩;rw [take_length] at g6;simp (maxDischargeDepth:=12) only [go_sem,reduceEqDiff,reduceCtorEq,g6,g49,g50,Nat.lt_irrefl]
theorem Z7K {V:RegV} (h:RegIs H b o r V) (hy:r.track? s=some y) (ho:Old H.n H Hc) {K:AV->Heap->Prop}:VO (Z9 PT (R PT) lo 111 [.ptr b o,.str s] Hc) K=K (.int .i64 (r.permitted s)) Hc:=by
 obtain ⟨w,H2,h1,h2⟩:=Z7J (h.old ho) hy;exact ZX (en111 rfl) ⟨H2,h1⟩ (by rw [h2];rfl) rfl
theorem Vr:(H.push a).get H.n=a:=by rw [Heap.get_push,if_pos rfl]
theorem Cm {b:ABlk}:((H.push a).push b).get H.n=a:=by rw [Heap.get_push,if_neg (by simp only [Heap.n_push];omega),Vr]
theorem I9 {b:ABlk}:((H.push a).push b).get (H.n+1)=b:=by rw [Heap.get_push];exact if_pos rfl
theorem n_pp {b:ABlk}:((H.push a).push b).n=H.n+1+1:=rfl
theorem en86:ZY 86:=Y0
theorem en199:ZY 199:=Y0
theorem en85:ZY 85:=Y0
theorem en197:ZY 197:=Y0
theorem Co {l:List Mch} (hs:Sl H v 2 67 (l.map Pos.Mch.row)) (hl:l.length<=Z2) {q:Mch->Bool} (hc:caps.map ZV=caps) (hg:∀ x ∈ l,∀ Hc,Old H.n H Hc -> ∀ lo K,VO (Z9 PT (R PT) lo g (.agg [.str x.name,.str x.poss]::caps) Hc) K=K (.bool (q x)) Hc) :
 ∃ t H2,(∀ lo K,VO (Z9 PT (R PT) lo 180 [ZV v,.fn g [] caps] H) K=K (.ps t ((l.filter q).map Pos.Mch.row)) H2)/\ZB H.n H2 t ((l.filter q).map Pos.Mch.row) 2 67/\Old H.n H H2:=by
 obtain ⟨t,H2,h1,h2⟩:=Z7u hs.strip hl hc hg;exact ⟨t,H2,fun lo K=>QA (en180 rfl) h1,h2⟩
theorem Z7L (hs:Sl H v 3 61 (l.map Pos.Trn.row)) (hl:l.length<=Z2) (hc:caps.map ZV=caps) (hg:∀ x ∈ l,∀ Hc,Old H.n H Hc -> ∀ lo K,VO (Z9 PT (R PT) lo g (.agg [.str x.name,.str x.track,.int .i64 x.speed]::caps) Hc) K=K (.bool (q x)) Hc) :
 ∃ t H2,(∀ lo K,VO (Z9 PT (R PT) lo 167 [ZV v,.fn g [] caps] H) K=K (.ps t ((l.filter q).map Pos.Trn.row)) H2)/\ZB H.n H2 t ((l.filter q).map Pos.Trn.row) 3 61/\Old H.n H H2:=by
 obtain ⟨t,H2,h1,h2⟩:=Z7t hs.strip hl hc hg;exact ⟨t,H2,fun lo K=>QA (en167 rfl) h1,h2⟩
theorem Z7M (l:List Mch) (hl:l.length<=Z2) :
 ∃ t H2,(∀ lo K,VO (Z9 PT (R PT) lo 196 [.ps .unk (l.map Pos.Mch.row),.fn 198 [] []] H) K=K (.ps t (Z0 (l.map (·.name)))) H2)/\ZB H.n H2 t (Z0 (l.map (·.name))) 1 9/\Old H.n H H2:=by
 obtain ⟨t,H2,h1,h2⟩:=Z7m (H:=H) (v:=.ps .unk (l.map Pos.Mch.row)) (l:=l) (.inl ⟨_,rfl,rfl⟩) hl;exact ⟨t,H2,fun lo K=>QA (I5 rfl) h1,h2⟩
theorem Z7N (hid:id < H.n) (hg:H.get id=.cells [.str s] 9) {K:AV->Heap->Prop}:VO (Z9 PT (R PT) lo 199 [.agg [.str m.name,.str m.poss],.ptr id 0] H) K=K (.bool (decide (m.poss=s))) H:=by
 obtain ⟨w,H2,h1,h2⟩:=Zd (C:=PT) (f:=199) (lo:=H.n) (args:=[.agg [.str m.name,.str m.poss],.ptr id 0]) (H:=H) (fn:=Tryz.f199) (Q:=fun w _=>w=.bool (decide (m.poss=s))) (by kernel_rfl) Tryz.func199 rfl rfl (by
  have hne:(id=H.n)=False:=eq_false (by omega);simp (maxDischargeDepth:=12) only [go_sem,reduceEqDiff,reduceAdd,reduceCtorEq,hne,hg,Ys])
 exact ZX (en199 rfl) ⟨H2,h1⟩ (by rw [h2];rfl) rfl
theorem Z7O (hid:id < H.n) (hg:H.get id=.cells [.str s] 9) {K:AV->Heap->Prop}:VO (Z9 PT (R PT) lo 197 [.agg [.str m.name,.str m.poss],.ptr id 0] H) K=K (.bool (decide (m.poss=s))) H:=by
 obtain ⟨w,H2,h1,h2⟩:=Zd (C:=PT) (f:=197) (lo:=H.n) (args:=[.agg [.str m.name,.str m.poss],.ptr id 0]) (H:=H) (fn:=Tryz.f197) (Q:=fun w _=>w=.bool (decide (m.poss=s))) (by kernel_rfl) Tryz.func197 rfl rfl (by
  have hne:(id=H.n)=False:=eq_false (by omega);simp (maxDischargeDepth:=12) only [go_sem,reduceEqDiff,reduceAdd,reduceCtorEq,hne,hg,Ys])
 exact ZX (en197 rfl) ⟨H2,h1⟩ (by rw [h2];rfl) rfl
theorem ab2 (a b:Int):YC NC.P 73 [(0,.int .i64 a),(1,.int .i64 b)]=some (.agg [.int .i64 a,.int .i64 b]):=by kernel_rfl
theorem Z7P {V:RegV} (h:RegIs H b o r V) (hp:r.poss? s=some p):∃ w H2,R PT (.call H.n 86 [.ptr b o,.str s] H)=some (.ofVal w H2)/\w=.agg [i64 ((r.within s).length:Nat),i64 p.pers]:=by
 refine Zd (C:=PT) (f:=86) (lo:=H.n) (args:=[.ptr b o,.str s]) (H:=H) (fn:=Tryz.f86) (Q:=fun w _=>w=.agg [i64 ((r.within s).length:Nat),i64 p.pers]) (by kernel_rfl) Tryz.func86 rfl rfl ?_;have l5:=fun H'=>h.l5 (H':=H')
 obtain ⟨i,hi,hx,hlt,_⟩:=Vq hp;obtain ⟨id,he,hP⟩:=Qn h hx;obtain ⟨z,hz⟩:∃ z,ZF NC.P 73=some z:=⟨_,C5⟩;have hO1:Old H.n H ((H.push (.cells [.str s] 9)).push (.cells z.cells 73)):=((Old.refl H).push _).push _;obtain ⟨t,H2,m5,hA,hO2⟩:=Co (h.sM.old hO1) h.lM (g:=199) (caps:=[.ptr H.n 0]) (q:=fun m=>decide (m.poss=s)) rfl (fun x _ Hc ho lo K=>Z7N (lt_of_lt_of_le (by rw [n_pp];omega) ho.1) (by rw [ho.2 _ (by rw [n_pp];omega),Cm]));have hO:=hO1.to hO2;have e1:=fun lo K=>JL h hi hlt hO (lo:=lo) (K:=K)
 rw [C5] at hz;cases hz;have b1:H2.get H.n=.cells [.str s] 9:=by rw [hO2.2 _ (by rw [n_pp];omega),Cm]
 have b2:H2.get (H.n+1)=.cells [.int .i64 0,.int .i64 0] 73:=by rw [hO2.2 _ (by rw [n_pp];omega),I9];rfl
 simp only [AV.cells] at m5;simp (maxDischargeDepth:=12) only [go_sem,reduceEqDiff,reduceAdd,reduceCtorEq,l5,m5,e1,he,hP.f8,hO,b1,b2,ab2];rfl
theorem Cp {V:RegV} (h:RegIs H b o r V) (hp:r.poss? s=some p) (ho:Old H.n H Hc) {K:AV->Heap->Prop}:VO (Z9 PT (R PT) lo 86 [.ptr b o,.str s] Hc) K=K (.agg [i64 ((r.within s).length:Nat),i64 p.pers]) Hc:=by
 obtain ⟨w,H2,h1,h2⟩:=Z7P (h.old ho) hp;exact ZX (en86 rfl) ⟨H2,h1⟩ (by rw [h2];rfl) rfl
def Xn (r:Reg) (s:Nm) (p:Pos):List Nm:=(r.within s).map (·.name)++(if 0 < p.pers then [[115,116,97,102,102]] else [])++(if p.opn then [[109,101,97,115,117,114,101,109,101,110,116]] else [])++(if p.prot then [[112,114,111,116,101,99,116,105,111,110]] else [])
theorem Cq {t:Tok} {l:List Nm} (c:Prop) [Decidable c] (x:Nm) (h:ZB b H t (Z0 l) 1 9) (hb:b<=H.n) (hlo:lo<=b) (hl:l.length+1<=Z2) :
 ∃ u K,(c->Xx lo H 1 9 (.ps t (Z0 l)) [[.str x]]=some (.ps u (Z0 (l++if c then [x] else [])),K))/\(¬ c->u=t/\K=H)/\ZB b K u (Z0 (l++if c then [x] else [])) 1 9/\Old b H K:=by
 by_cases hc:c
 . obtain ⟨t',H',ha,hA',_,hO,_⟩:=Xm h hb hlo (r:=[.str x]) (by rw [Zv];exact hl) rfl (by decide) (Jr _);have e1:Z0 l++[[AV.str x].map AV.strip0]=Z0 (l++if c then [x] else []):=by
    rw [if_pos hc];unfold Z0;rw [map_append];rfl
   rw [e1] at ha hA';exact ⟨t',H',fun _=>ha,fun h=>absurd hc h,hA',hO⟩
 . rw [if_neg hc,append_nil];exact ⟨t,H,fun h=>absurd h hc,fun _=>⟨rfl,rfl⟩,h,⟨hb,fun _ _=>rfl⟩⟩
theorem Z7Q {V:RegV} (h:RegIs H b o r V) (hp:r.poss? s=some p) (hM:r.machs.length+3<=Z2):∃ w H2,R PT (.call H.n 85 [.ptr b o,.str s] H)=some (.ofVal w H2)/\w.strip=.ps .unk (Z0 (Xn r s p)):=by
 refine Zd (C:=PT) (f:=85) (lo:=H.n) (args:=[.ptr b o,.str s]) (H:=H) (fn:=Tryz.f85) (Q:=fun w _=>w.strip=.ps .unk (Z0 (Xn r s p))) (by kernel_rfl) Tryz.func85 rfl rfl ?_;have l5:=fun H'=>h.l5 (H':=H')
 obtain ⟨i,hi,hx,hlt,_⟩:=Vq hp;obtain ⟨id,he,hP⟩:=Qn h hx;have hO1:Old H.n H (H.push (.cells [.str s] 9)):=(Old.refl H).push _;obtain ⟨t,H2,m5,hA,hO2⟩:=Co (h.sM.old hO1) h.lM (g:=197) (caps:=[.ptr H.n 0]) (q:=fun m=>decide (m.poss=s)) rfl (fun x _ Hc ho lo K=>Z7O (lt_of_lt_of_le (by simp only [Heap.n_push];omega) ho.1) (by rw [ho.2 _ (by simp only [Heap.n_push];omega),Vr]));have hle:(r.machs.filter fun m=>decide (m.poss=s)).length<=r.machs.length:=length_filter_le _ _;obtain ⟨t3,H3,m6,hA3,hO3⟩:=Z7M (H:=H2) (r.machs.filter fun m=>decide (m.poss=s)) (by omega);have hO12:=hO1.to hO2;have hO:=hO12.to hO3;have b1:H3.get H.n=.cells [.str s] 9:=by
  rw [hO3.2 _ (lt_of_lt_of_le (by simp only [Heap.n_push];omega) hO2.1),hO2.2 _ (by simp only [Heap.n_push];omega),Vr]
 obtain ⟨u1,K1,a1,c1,A1,O1⟩:=Cq (lo:=H.n) (b:=H2.n) (0 < p.pers) [115,116,97,102,102] hA3 hO3.1 hO12.1 (by rw [length_map];omega);have n1:∀ (c:Prop) [Decidable c] (x:Nm) (l:List Nm),(l++if c then [x] else []).length<=l.length+1:=fun c _ x l=>by
  rw [length_append];split<;>simp
 have q1:=n1 (0 < p.pers) [115,116,97,102,102] ((r.machs.filter fun m=>decide (m.poss=s)).map (·.name));rw [length_map] at q1;obtain ⟨u2,K2,a2,c2,A2,O2⟩:=Cq (lo:=H.n) (b:=H2.n) (p.opn=true) [109,101,97,115,117,114,101,109,101,110,116] A1 O1.1 hO12.1 (by omega);have q2:=n1 (p.opn=true) [109,101,97,115,117,114,101,109,101,110,116] ((r.machs.filter fun m=>decide (m.poss=s)).map (·.name)++if 0 < p.pers then [[115,116,97,102,102]] else [])
 obtain ⟨u3,K3,a3,c3,A3,O3⟩:=Cq (lo:=H.n) (b:=H2.n) (p.prot=true) [112,114,111,116,101,99,116,105,111,110] A2 O2.1 hO12.1 (by omega);have hO4:Old H.n H K1:=⟨Nat.le_trans hO12.1 O1.1,fun j hj=>by rw [O1.2 j (lt_of_lt_of_le hj hO12.1),hO.2 j hj]⟩;have hO5:Old H.n H K2:=⟨Nat.le_trans hO12.1 O2.1,fun j hj=>by rw [O2.2 j (lt_of_lt_of_le hj hO12.1),hO4.2 j hj]⟩;have e1:=fun lo K=>JL h hi hlt hO (lo:=lo) (K:=K)
 have hL:Xn r s p=(((r.machs.filter fun m=>decide (m.poss=s)).map (·.name)++if 0 < p.pers then [[115,116,97,102,102]] else [])++if p.opn=true then [[109,101,97,115,117,114,101,109,101,110,116]] else [])++if p.prot=true then [[112,114,111,116,101,99,116,105,111,110]] else []:=rfl
 rw [hL];generalize hL0:(r.machs.filter fun m=>decide (m.poss=s)).map (·.name)=L0 at *;generalize hL1:(L0++if 0 < p.pers then [[115,116,97,102,102]] else [])=L1 at *
 generalize hL2:(L1++if p.opn=true then [[109,101,97,115,117,114,101,109,101,110,116]] else [])=L2 at *
 generalize hL3:(L2++if p.prot=true then [[112,114,111,116,101,99,116,105,111,110]] else [])=L3 at *
 have hopn:=hP.f6 (H':=K1) hO4;have hprot:=hP.f5 (H':=K2) hO5;have hpers:=hP.f8 (H':=H3) hO;have s1:=Jr L0;have s2:=Jr L1;have s3:=Jr L2;by_cases g1:0 < p.pers<;>cases g2:p.opn<;>cases g3:p.prot
 all_goals
  rw [g2] at hopn;rw [g3] at hprot
  first | (have d1:=a1 g1) | (obtain ⟨rfl,rfl⟩:=c1 g1;have e0:L1=L0:=(by rw [<- hL1,if_neg g1];simp);subst e0)
  first | (have d2:=a2 g2) | (obtain ⟨rfl,rfl⟩:=c2 (by rw [g2];simp);have e2:L2=L1:=(by rw [<- hL2,g2];simp);subst e2)
  first | (have d3:=a3 g3) | (obtain ⟨rfl,rfl⟩:=c3 (by rw [g3];simp))
  simp (maxDischargeDepth:=12) only [go_sem,reduceEqDiff,reduceAdd,reduceMul,reduceLeDiff,reduceCtorEq,Zu, *];try (rw [<- hL3,<- hL2,g2,g3];simp)
theorem Cr {V:RegV} (h:RegIs H b o r V) (hp:r.poss? s=some p) (hM:r.machs.length+3<=Z2) (ho:Old H.n H Hc) {K:AV->Heap->Prop}:VO (Z9 PT (R PT) lo 85 [.ptr b o,.str s] Hc) K=K (.ps .unk (Z0 (Xn r s p))) Hc:=by
 obtain ⟨w,H2,h1,h2⟩:=Z7Q (h.old ho) hp hM;exact ZX (en85 rfl) ⟨H2,h1⟩ h2 rfl
theorem ins_Q (lo:Nat) (H:Heap) (m:Nat) (s:Nm) (v:AV) (K:Heap->Prop):AO (Q1 NC.P lo H 214 (.map m) (.str s) v) K=Vn (lo<=m) H m s v.strip (AO (HS NC.P lo H 214 (.map m) (.str s) v) K) K:=by
 unfold Vn;split
 . rename_i hlo
   unfold Ui;split
   . rename_i es hg
     unfold insF;split
     . rename_i hf
       have e:Q1 NC.P lo H 214 (.map m) (.str s) v=some (H.set m (.map (es++[(.str s,v.strip)]))):=by
        unfold Q1;rw [H9];simp only [keyS,hlo,decide_true,Bool.and_true,if_true,hg,Ch s es 0 hf]
       rw [e];rfl
     . rfl
   . rfl
 . rfl
attribute [go_sem ↓] ins_Q
def Cs:List (AV × AV):=[
 (.str Z4u,.agg [.int .u8 116,.fn 211 [] []]),
 (.str Z4v,.agg [.int .u8 116,.fn 212 [] []]),
 (.str Z4w,.agg [.int .u8 112,.fn 216 [] []]),
 (.str Z4x,.agg [.int .u8 112,.fn 217 [] []]),
 (.str Z4y,.agg [.int .u8 0,.fn 218 [] []]),
 (.str Z4z,.agg [.int .u8 0,.fn 220 [] []]),
 (.str Z4A,.agg [.int .u8 0,.fn 225 [] []])]
theorem Z7R {P:PF} (lo:Nat) (H:Heap) (hlo:lo<=H.n):∃ H',R (NC.withPrims P) (.call lo 102 [] H)=some (.ofVal (.map H.n) H')/\H'.n=H.n+1/\(∀ i,i < H.n->H'.get i=H.get i)/\H'.get H.n=.map Cs:=by
 obtain ⟨v,H',h1,rfl,h2⟩:=Zd (C:=NC.withPrims P) (f:=102) (lo:=lo) (args:=[]) (H:=H) (fn:=Tryz.f102) (Q:=fun v H'=>v=.map H.n/\H'.n=H.n+1/\(∀ i,i < H.n->H'.get i=H.get i)/\H'.get H.n=.map Cs) (by kernel_rfl) Tryz.func102 rfl rfl (by
  have hl:=eq_true hlo;simp (maxDischargeDepth:=12) only [go_sem,reduceEqDiff,reduceAdd,reduceCtorEq,hl,KJ,Ys,List.cons.injEq,false_and,and_false,decide_false,cond_false,reduceAdd];refine ⟨fun i hi => ?_, ?_⟩
  . have e0:(i=H.n)=False:=by simp only [eq_iff_iff,iff_false];omega
    simp only [e0,if_false]
  . rfl)
 exact ⟨H',h1,h2⟩
def Kb (H:Heap):Nat->Heap
 | 0=>H.push (.map (J6 H.n))
 | k+1=>(Kb H k).push (boxM (k+1))
theorem Gr (H:Heap):∀ k,(Kb H k).n=H.n+k+1
 | 0=>by simp [Kb]
 | k+1=>by simp [Kb,Gr H k];omega
theorem Ct (H:Heap) (id:Nat):∀ k,(Kb H k).get id=if id=H.n then .map (J6 H.n) else if H.n < id/\id<=H.n+k then boxM (id - H.n) else H.get id
 | 0=>by
   unfold Kb;rw [Heap.get_push];by_cases h:id=H.n
   . rw [if_pos h,if_pos h]
   . rw [if_neg h,if_neg h,if_neg (by omega)]
 | k+1=>by
   unfold Kb;rw [Heap.get_push,Gr,Ct H id k];by_cases h:id=H.n+k+1
   . have e:id - H.n=k+1:=by omega
     rw [if_pos h,if_neg (by omega),if_pos (by omega),e]
   . rw [if_neg h];by_cases h1:id=H.n
     . rw [if_pos h1,if_pos h1]
     . rw [if_neg h1,if_neg h1];by_cases h2:H.n < id/\id<=H.n+k
       . rw [if_pos h2,if_pos (by omega)]
       . rw [if_neg h2,if_neg (by omega)]
def Cu:Born:=fun f=>cond (Nat.beq f 77) (some fun args H=>match args with
 | []=>some (.map H.n,Kb H 16)
 | _=>none) (cond (Nat.beq f 102) (some fun args H=>match args with
 | []=>some (.map H.n,H.push (.map Cs))
 | _=>none) none)
theorem Z7S:∀ f p args H v H',Cu f=some p->p args H=some (v,H')->Za NC H.n f args H v H':=by
 have noP:PrimsOk NC (fun _=>none):=ZK;intro f p args H v H' h1 h2;unfold Cu at h1;cases hf:Nat.beq f 77 with
 | true =>
   rw [hf] at h1;cases Option.some.inj h1;have:=eq_of_beq_eq_true hf;subst this;cases args with
   | cons a r=>cases h2
   | nil =>
     cases h2;obtain ⟨H1,hr,hn,hk,hF⟩:=Uj (P:=fun _=>none) rfl rfl H.n H (Nat.le_refl _);refine Za.congr (H1:=H1) (by rw [hn,Gr]) (fun id hid => ?_) (fun ho id hid => ?_) ((Qj noP).1 (BP (KE.withPrims noP) (Nat.le_refl _) hr))
     . rw [Ct];by_cases e:id=H.n
       . rw [if_pos e,e];exact hF.map
       . rw [if_neg e];by_cases e2:H.n < id/\id<=H.n+16
         . rw [if_pos e2];have:=hF.box (id - H.n) (by omega) (by omega)
           rwa [show H.n+(id - H.n)=id from by omega] at this
         . rw [if_neg e2];exact hk id (by omega)
     . rw [Gr] at hid;rw [Ct,if_neg (by omega),if_neg (by omega)];exact ho id (by omega)
 | false =>
   rw [hf] at h1;cases hq:Nat.beq f 102 with
   | false=>rw [hq] at h1;cases h1
   | true =>
     rw [hq] at h1;cases Option.some.inj h1;have:=eq_of_beq_eq_true hq;subst this;cases args with
     | cons a r=>cases h2
     | nil =>
       cases h2;obtain ⟨H1,hr,hn,hk,hm⟩:=Z7R (P:=fun _=>none) H.n H (Nat.le_refl _);refine Za.congr (H1:=H1) (by rw [hn,Heap.n_push]) (fun id hid => ?_) (fun ho id hid => ?_) ((Qj noP).1 (BP (KE.withPrims noP) (Nat.le_refl _) hr))
       . rw [Heap.get_push];by_cases e:id=H.n
         . rw [if_pos e,e];exact hm
         . rw [if_neg e];exact hk id (by omega)
       . rw [Heap.n_push] at hid;rw [Heap.get_push,if_neg (by omega)];exact ho id (by omega)
def Cv:List AV->Option AV
 | [.bool b,.int .i64 n]=>some (i64 (Z5 b n))
 | _=>none
theorem Z7T:∀ args v,Cv args=some v -> ∀ lo H,Za NC lo 88 args H v H:=by
 intro args v h;unfold Cv at h;split at h
 . cases h;exact c88 _ _
 . cases h
def Gs:List (List AV)->Option (List Int)
 | []=>some []
 | [.int .i64 n]::r=>match Gs r with
   | some l=>some (n::l)
   | none=>none
 | _=>none
theorem Ia:∀ {rows:List (List AV)} {l:List Int},Gs rows=some l->rows=Z3 l
 | [],l,h=>by cases h;rfl
 | x::r,l,h=>by
   unfold Gs at h;split at h
   . rename_i he;cases he
   . rename_i n r' he
     split at h
     . rename_i l' hl
       cases he;cases h;rw [Ia hl];rfl
     . cases h
   . cases h
def Cw:List AV->Option AV
 | [.ps .unk rows]=>match Gs rows with
   | some l=>if l.length<=Z2 then some (i64 (Zc l)) else none
   | none=>none
 | _=>none
theorem Z7U:∀ args v,Cw args=some v -> ∀ lo H,Za NC lo 87 args H v H:=by
 intro args v h;unfold Cw at h;split at h
 . split at h
   . rename_i l hl
     split at h
     . rename_i hle
       cases h;rw [Ia hl];exact c87 l hle
     . cases h
   . cases h
 . cases h
theorem Ib:∀ {rows:List (List AV)} {l:List Nm},J0 rows=some l->rows=Z0 l
 | [],l,h=>by cases h;rfl
 | x::r,l,h=>by
   unfold J0 at h;split at h
   . rename_i he;cases he
   . rename_i n r' he
     split at h
     . rename_i l' hl
       cases he;cases h;rw [Ib hl];rfl
     . cases h
   . cases h
def Cx:List AV->Option AV
 | [.ps .unk rows,.str w]=>match J0 rows with
   | some l=>if l.length<=Z2 then some (.bool (decide (w ∈ l))) else none
   | none=>none
 | _=>none
theorem Z7V:∀ args v,Cx args=some v -> ∀ lo H,Za NC lo 150 args H v H:=by
 intro args v h;unfold Cx at h;split at h
 . split at h
   . rename_i l hl
     split at h
     . rename_i hle
       cases h;rw [Ib hl];exact c150 l _ hle
     . cases h
   . cases h
 . cases h
def PPC:PF:=Zo 88 Cv (Zo 87 Cw (Zo 150 Cx (Zo 250 p250 (Zo 249 p249 (Zo 280 p280 fun _=>none)))))
theorem Z7W:PrimsOk NC PPC:=Yn (Yn (Yn (Pa (Pa (Yn ZK (by kernel_rfl) (by kernel_rfl) Z6i) Z6j) Z6h) (by kernel_rfl) (by kernel_rfl) Z7V) (by kernel_rfl) (by kernel_rfl) Z7U) (by kernel_rfl) (by kernel_rfl) Z7T
def CC (g:List (FuncId × List Known)):Cfg:=NC.closed PPC Cu g
theorem QL {g:List (FuncId × List Known)} (hg:K8 NC g) {l:List Known} (h:l.all (kOk (CC g) 200000)=true):∀ k ∈ l,∀ lo H,Za NC lo k.f k.args H k.v H:=R0 KE Z7W Z7S hg h
def awQ:List Ev:=[⟨1,[116,114,97,99,107],[[117,112]],[0,160],[]⟩,
 ⟨2,[102,97,117,108,116],[[102],[117,112]],[1,100,120,40],[]⟩,
 ⟨3,[101,110,116,101,114],[[116],[117,112]],[1,30],[]⟩,
 ⟨3,[97,110,115,119,101,114],[[102]],[2],[]⟩,
 ⟨4,[101,110,116,101,114],[[116],[117,112]],[2,50],[]⟩,
 ⟨4,[116,97,107,101],[[112],[117,112]],[3,90,200],[]⟩,
 ⟨5,[101,110,116,101,114],[[116],[117,112]],[3,30],[]⟩,
 ⟨5,[105,110],[[114,97,109],[112]],[3],[]⟩,
 ⟨5,[112,114,111,116,101,99,116],[[112]],[3],[]⟩,
 ⟨6,[105,110],[[116,97,109,112,101,114],[112]],[4],[]⟩,
 ⟨7,[115,116,97,102,102],[[112]],[4,5],[]⟩,
 ⟨8,[116,97,107,101],[[113],[117,112]],[4,199,300],[]⟩,
 ⟨8,[114,101,116,117,114,110],[[112]],[5],[]⟩,
 ⟨8,[99,108,101,97,114],[[112]],[5],[]⟩,
 ⟨8,[114,101,112,97,105,114],[[102],[112]],[5],[]⟩,
 ⟨9,[111,117,116],[[116,97,109,112,101,114]],[6],[]⟩,
 ⟨10,[111,102,102],[[112]],[6,5],[]⟩,
 ⟨11,[99,108,101,97,114],[[112]],[7],[]⟩,
 ⟨12,[114,101,116,117,114,110],[[112]],[8],[]⟩,
 ⟨12,[111,112,101,110],[[112]],[8],[]⟩,
 ⟨13,[99,108,111,115,101],[[112]],[9,80],[]⟩,
 ⟨14,[114,101,116,117,114,110],[[112]],[9],[]⟩,
 ⟨15,[117,110,100,111],[],[],[]⟩,
 ⟨15,[114,97,105,115,101],[[112]],[10,80],[]⟩,
 ⟨15,[114,97,105,115,101],[[112]],[10,160],[]⟩]
def Cy:List Ev->List Ev
 | a::b::r=>if a.num=b.num then Cy (b::r) else a::Cy (b::r)
 | l=>l
def awE:List Ev:=Cy awQ
def awW (e:Ev):List Nm:=e.kind::(e.names++e.vals.map Ve)
def unw:List Nm->Nm
 | []=>[]
 | [w]=>w
 | w::r=>w++32::unw r
def sumN (s:Nm):Nat:=s.foldl (fun x c=>(347 * x+c) % 9999677) 1
def dig7 (n:Nat):Nat->Nm->Nm
 | 0,l=>l
 | k+1,l=>dig7 (n / 10) k ((48+n % 10)::l)
def awB (e:Ev):Nm:=unw (Ve e.num::awW e)
def awR (e:Ev):Nm:=awB e++35::dig7 (sumN (awB e)) 7 []
def Ic:Nm:=awE.flatMap fun e=>awR e++[10]
def spl (l:List Nm):Known:=⟨134,[.str (unw l),.str [32],.int .i64 0,.int .i64 (-1)],.ps .unk (Z0 l)⟩
def kChk:List Known:=awQ.map fun e=>⟨57,[.agg e.row],i64 0⟩
def kOwn:List Known:=awQ.map fun e=>⟨76,[.agg e.row],.agg e.row⟩
def kEvt:List Known:=awQ.map fun e=>⟨104,[i64 e.num,.ps .unk (Z0 (awW e))],.tup [.agg e.row,.bool true]⟩
def kSpl:List Known:=(awQ.map fun e=>spl (awW e))++(awE.map fun e=>spl (Ve e.num::awW e))++[spl [[115,112,101,101,100],[117,112]],spl [[115,105,108,101,110,116]],spl [[98,97,114,114,105,101,114],[112]]]
def kRec:List Known:=awE.map fun e=>⟨89,[.agg e.row],.str (awR e++[10])⟩
def Id:List Known:=awE.map fun e=>⟨91,[.str (awR e),i64 e.num],.tup [.agg e.row,i64 0]⟩
theorem Cz:∀ e ∈ awQ,(e.names.length<=Z2/\e.vals.length<=Z2)/\Y1 Z7 e=0:=by decide +kernel
theorem CA:∀ k ∈ kChk,∀ lo H,Za NC lo k.f k.args H k.v H:=by
 intro k hk;obtain ⟨e,he,rfl⟩:=mem_map.1 hk;have:=c57 e (Cz e he).1
 rwa [(Cz e he).2] at this
theorem Ie:∀ k ∈ kOwn,∀ lo H,Za NC lo k.f k.args H k.v H:=by
 intro k hk;obtain ⟨e,he,rfl⟩:=mem_map.1 hk;exact c76 e (Cz e he).1
theorem KP:K8 NC []:=fun x h=>by cases h
theorem XE {x:FuncId × List Known} {g:List (FuncId × List Known)} (h:∀ k ∈ x.2,∀ lo H,Za NC lo k.f k.args H k.v H) (hg:K8 NC g):K8 NC (x::g):=fun y hy=>by
 rcases mem_cons.1 hy with rfl | hy
 . exact h
 . exact hg y hy
end Go.Sim
