/-
Lemmas of one proof, the texts SimOps2 to SimOps13 joined.
-/
import Derived.Test.YtlooccmcmeofhaaGreatDoorT04
import Derived.Laws.StructEq
set_option linter.unusedSimpArgs false
set_option linter.unusedVariables false
set_option maxRecDepth 100000
set_option maxHeartbeats 32000000
noncomputable section
open Go
open Bool (and_eq_true false_eq_true not_eq_true)
open Int (ofNat_eq_natCast toNat_natCast)
open List (all_eq_true append_assoc drop_append drop_drop drop_eq_nil_of_le drop_succ_cons drop_take drop_zero eq_nil_of_length_eq_zero ext_getElem extract_eq_take_drop flatten_append flatten_cons foldlM_cons foldl_cons forIn_cons getElem?_append_left getElem?_append_right getElem?_cons_succ getElem?_cons_zero getElem?_drop getElem?_map getElem?_take getElem?_toArray length_append length_cons length_drop length_map length_nil length_take mapM_cons map_append map_congr_left map_cons map_drop map_flatten map_map map_take mem_append mem_cons mem_flatten mem_map mem_of_getElem? mem_of_mem_drop mem_of_mem_take nil_append range_add range_eq_range' replicate_succ set_eq_take_append_cons_drop size_toArray take_append take_append_drop take_of_length_le take_succ_cons take_zero toList_toArray zipIdx_cons)
open Nat (add_assoc add_comm add_mod_left add_mul add_sub_cancel add_sub_cancel_left add_zero beq_eq blt_eq div_one eq_of_beq_eq_true le_of_ble_eq_true le_of_eq le_of_lt le_of_mul_le_mul_right le_succ lt_of_lt_of_le lt_or_ge lt_succ_self min_eq_left min_eq_right mod_eq_of_lt mul_eq_zero mul_le_mul mul_le_mul_left mul_le_mul_right ne_of_lt sub_mul sub_zero succ_mul zero_add zero_le zero_mul)
open Option (isSome_iff_exists map_none map_some)
variable {H':Go.Sim.Heap} {a c r s x z:Go.Sim.AV} {b bytes cap f h i id k lim lo m n' o off sCap sLen sz:Nat} {b':Go.Sim.ABlk} {cc ci ck cm cx v zc:Go.Value} {ch cl:Option Go.Value} {cs vs:List Go.Sim.AV} {cv rest vals:List Go.Value} {e elem kt t ts tx:Go.TypeId} {g':Go.Sim.Gh} {high low:Option Go.Sim.AV} {l:Go.Sim.Loc} {rows rx:List (List Go.Sim.AV)} {tok:Go.Sim.Tok} {w':Go.World}

namespace Go.Sim
variable {C:Cfg} {P:Program} {g:Gh} {n:Nat} {H:Heap} {w:World}
theorem VJ (a b:Int):eqI a b=(a == b):=by
 cases a<;>cases b<;>simp only [eqI]<;>rw [Bool.eq_iff_iff]<;>simp only [beq_iff_eq,beq_eq,false_eq_true,false_iff,ofNat_eq_natCast]<;>omega
theorem Ac (a b:Int):ltI a b=decide (a < b):=by
 cases a<;>cases b<;>simp only [ltI]<;>rw [Bool.eq_iff_iff]<;>simp only [decide_eq_true_eq,blt_eq,false_eq_true,false_iff,true_iff,ofNat_eq_natCast]<;>omega
theorem UJ {k l:IntKind} (h:Nat.beq (X5 k) (X5 l)=true):k=l:=by
 cases k<;>cases l<;>first | rfl | (simp [X5] at h)
theorem Lq {k:IntKind} {x:Int} (h:inK k x=true):k.wrap x=x:=by
 cases k with
 | i8 =>
   have h':-128<=x/\x<=127:=by
    cases x with
    | ofNat m=>have h2:m<=127:=le_of_ble_eq_true h;simp only [ofNat_eq_natCast];omega
    | negSucc m=>have h2:m<=127:=le_of_ble_eq_true h;omega
   have e:IntKind.i8.wrap x=if (decide (x % 256 >= 128))=true then x % 256 - 256 else x % 256:=rfl
   rw [e];simp only [decide_eq_true_eq];split<;>omega
 | i16 =>
   have h':-32768<=x/\x<=32767:=by
    cases x with
    | ofNat m=>have h2:m<=32767:=le_of_ble_eq_true h;simp only [ofNat_eq_natCast];omega
    | negSucc m=>have h2:m<=32767:=le_of_ble_eq_true h;omega
   have e:IntKind.i16.wrap x=if (decide (x % 65536 >= 32768))=true then x % 65536 - 65536 else x % 65536:=rfl
   rw [e];simp only [decide_eq_true_eq];split<;>omega
 | i32 =>
   have h':-2147483648<=x/\x<=2147483647:=by
    cases x with
    | ofNat m=>have h2:m<=2147483647:=le_of_ble_eq_true h;simp only [ofNat_eq_natCast];omega
    | negSucc m=>have h2:m<=2147483647:=le_of_ble_eq_true h;omega
   have e:IntKind.i32.wrap x=if (decide (x % 4294967296 >= 2147483648))=true then x % 4294967296 - 4294967296 else x % 4294967296:=rfl
   rw [e];simp only [decide_eq_true_eq];split<;>omega
 | i64 =>
   have h':-9223372036854775808<=x/\x<=9223372036854775807:=by
    cases x with
    | ofNat m=>have h2:m<=9223372036854775807:=le_of_ble_eq_true h;simp only [ofNat_eq_natCast];omega
    | negSucc m=>have h2:m<=9223372036854775807:=le_of_ble_eq_true h;omega
   have e:IntKind.i64.wrap x=if (decide (x % 18446744073709551616 >= 9223372036854775808))=true then x % 18446744073709551616 - 18446744073709551616 else x % 18446744073709551616:=rfl
   rw [e];simp only [decide_eq_true_eq];split<;>omega
 | u8 =>
   have h':0<=x/\x<=255:=by
    cases x with
    | ofNat m=>have h2:m<=255:=le_of_ble_eq_true h;simp only [ofNat_eq_natCast];omega
    | negSucc m=>simp [inK,KV] at h
   have e:IntKind.u8.wrap x=x % 256:=rfl;rw [e];omega
 | u16 =>
   have h':0<=x/\x<=65535:=by
    cases x with
    | ofNat m=>have h2:m<=65535:=le_of_ble_eq_true h;simp only [ofNat_eq_natCast];omega
    | negSucc m=>simp [inK,KV] at h
   have e:IntKind.u16.wrap x=x % 65536:=rfl;rw [e];omega
 | u32 =>
   have h':0<=x/\x<=4294967295:=by
    cases x with
    | ofNat m=>have h2:m<=4294967295:=le_of_ble_eq_true h;simp only [ofNat_eq_natCast];omega
    | negSucc m=>simp [inK,KV] at h
   have e:IntKind.u32.wrap x=x % 4294967296:=rfl;rw [e];omega
 | u64 =>
   have h':0<=x/\x<=18446744073709551615:=by
    cases x with
    | ofNat m=>have h2:m<=18446744073709551615:=le_of_ble_eq_true h;simp only [ofNat_eq_natCast];omega
    | negSucc m=>simp [inK,KV] at h
   have e:IntKind.u64.wrap x=x % 18446744073709551616:=rfl;rw [e];omega
theorem GS (k:IntKind) (x:Int):ZC k x=k.wrap x:=by
 unfold ZC;cases h:inK k x with
 | true=>exact (Lq h).symm
 | false=>rfl
theorem JP:∀ (a b:List Nat),Z6 a b=(a == b)
 | [],[]=>rfl
 | [],_::_=>rfl
 | _::_,[]=>rfl
 | a::x,b::y=>by
   simp only [Z6,JP x y];cases h:Nat.beq a b with
   | true =>
     have:=eq_of_beq_eq_true h;subst this;simp [cond]
   | false =>
     have:a ≠ b:=fun e=>by subst e;simp at h
     simp [cond,this]
theorem Ae {a b:ByteArray} (h:a.data.toList.map UInt8.toNat=b.data.toList.map UInt8.toNat):a=b:=by
 have inj:∀ (x y:List UInt8),x.map UInt8.toNat=y.map UInt8.toNat->x=y:=by
  intro x
  induction x with
  | nil=>intro y h;cases y<;>simp at h;rfl
  | cons c x ih =>
    intro y h;cases y with
    | nil=>simp at h
    | cons d y =>
      simp only [map_cons,List.cons.injEq] at h;rw [UInt8.toNat_inj.1 h.1,ih y h.2]
 have h':a.data.toList=b.data.toList:=inj _ _ h;have h2:a.data=b.data:=by
  cases ha:a.data;cases hb:b.data;rw [ha,hb] at h';simp at h';rw [h']
 cases a;cases b;simp at h2;rw [h2]
theorem GT (a:ByteArray):a.toList=a.data.toList:=ByteArray.toList_eq a
theorem GU (a b:ByteArray):(a.toList == b.toList)=(a.data.toList.map UInt8.toNat == b.data.toList.map UInt8.toNat):=by
 rw [Bool.eq_iff_iff];simp only [beq_iff_eq,GT];constructor
 . intro h;rw [h]
 . intro h;rw [Ae h]
theorem Af:∀ (x y:List UInt8),Op.bytesLess x y=Jb (x.map UInt8.toNat) (y.map UInt8.toNat)
 | [],[]=>rfl
 | _::_,[]=>by simp [Op.bytesLess,Jb]
 | [],_::_=>by simp [Op.bytesLess,Jb]
 | a::x,b::y=>by
   simp only [Op.bytesLess,Jb,map_cons,Af x y]
   congr 1
   . rw [Bool.eq_iff_iff];simp [UInt8.lt_iff_toNat_lt]
   . congr 1
     rw [Bool.eq_iff_iff];simp [UInt8.toNat_inj]
theorem JQ {b:ByteArray} {s:List Nat} (h:b.data.toList.map UInt8.toNat=s):b.size=s.length:=by
 subst h;simp
theorem Jh {α:Type} {s:Sem α} {a:α} (h:QG s=some a):s.run P w=.ok a w:=by
 cases s<;>simp [QG] at h;subst h;rfl
theorem Ji {v:Option Value} (h:QH v=some r):∃ cv,v=some cv/\VRel g n r cv:=by
 unfold QH at h;split at h<;>simp at h<;>subst h
 . exact ⟨_,rfl,.int _ _⟩
 . exact ⟨_,rfl,.bool _⟩
 . exact ⟨_,rfl,.flt _ _⟩
theorem Lr {op:BinOp} {k:IntKind} {a b:Int} (t:TypeId) (h:ibin op k a b=some r) (ht:∀ t',Go.binOp op t (.int k a) (.int k b)=Go.binOp op t' (.int k a) (.int k b)) :
 ∃ cv,(Go.binOp op t (.int k a) (.int k b)).run P w=.ok cv w/\VRel g n r cv:=by
 have ge:∀ x y:Int,(!(decide (x < y)))=decide (x >= y):=fun x y=>by rw [Bool.eq_iff_iff];simp
 unfold ibin at h;cases op<;>simp only [Option.some.injEq] at h<;>first
  | (subst h;refine ⟨_,by simp only [Go.binOp,ne_eq,not_true,if_false];rfl, ?_⟩;first | (rw [GS];exact .int _ _) | (rw [VJ];exact .bool _) | (simp only [Ac,ge];exact .bool _))
  | (obtain ⟨cv,h1,h2⟩:=Ji (g:=g) (n:=n) h;exact ⟨cv,by rw [ht 0];exact Jh h1,h2⟩)
theorem Zb.get {vs:List Value} (h:Zb g n cs vs) (ha:cs[i]? = some a):∃ v,vs[i]? = some v/\VRel g n a v:=Zh.get h ha
theorem JR {t:Nat} {vs:List Value} (h:XG P t cs off=some r) (hv:Zb g n cs vs) :
 ∃ cr,(part t vs.toArray off).run P w=.ok cr w/\VRel g n r cr:=by
 unfold XG at h;split at h
 . rename_i k hag hsz
   split at h
   . rename_i l hl
     simp at h;subst h;obtain ⟨rfl,hle⟩:=UH hl;refine ⟨.agg ((vs.drop off).take k).toArray, ?_,VRel.aggOf (Zh.take k (Zh.drop off hv))⟩;simp only [part,Sem.run_bind,UF hag,Result.andThen_ok,if_true,Yw hsz];simp [extract_eq_take_drop]
   . cases h
 . rename_i k hag hsz
   obtain ⟨v,hv1,hv2⟩:=Zb.get hv h;refine ⟨v, ?_,hv2⟩;simp [part,UF hag,hv1]
 . cases h
theorem Ls {fs:List Field} {d:Nat} {xs ys:List AV} {vx vy:List Value} {b:Bool} {rec:TypeId->AV->AV->Option Bool}
 (ih:∀ t x y cx cy b,rec t x y=some b->VRel g n x cx->VRel g n y cy->(Op.equalIn d t cx cy).run P w=.ok b w)
 (h:QU (fun f:Field=>if f.name ≠ "_" then (match XG P f.type xs f.offset,XG P f.type ys f.offset with
   | some a,some b=>rec f.type a b
   | _,_=>none) else none) fs=some b) (hx:Zb g n xs vx) (hy:Zb g n ys vy) :
 (Op.eqFields d vx.toArray vy.toArray fs).run P w=.ok b w:=by
 induction fs with
 | nil=>simp [QU] at h;subst h;simp [Op.eqFields]
 | cons f fs ihf =>
   unfold QU at h;by_cases hn:f.name ≠ "_"
   . rw [if_pos hn] at h;simp only [Op.eqFields,if_pos hn,Sem.run_bind];cases hp:XG P f.type xs f.offset with
     | none=>simp [hp] at h
     | some a =>
       cases hq:XG P f.type ys f.offset with
       | none=>simp [hp,hq] at h
       | some c =>
         obtain ⟨ca,h1,h2⟩:=JR (w:=w) hp hx;obtain ⟨cc,h3,h4⟩:=JR (w:=w) hq hy;rw [h1];simp only [Result.andThen_ok];rw [h3];simp only [Result.andThen_ok];simp only [hp,hq] at h;cases hr:rec f.type a c with
         | none=>simp [hr] at h
         | some r =>
           rw [ih _ _ _ _ _ r hr h2 h4];simp only [Result.andThen_ok];cases r with
           | true=>simp only [hr] at h;simp only [Bool.not_true,false_eq_true,if_false];exact ihf h
           | false=>simp only [hr,Option.some.injEq] at h;subst h;simp
   . rw [if_neg hn] at h;cases h
theorem Ag {e d sz:Nat} {xs ys:List AV} {vx vy:List Value} {rec:AV->AV->Option Bool}
 (ih:∀ x y cx cy b,rec x y=some b->VRel g n x cx->VRel g n y cy->(Op.equalIn d e cx cy).run P w=.ok b w) (hx:Zb g n xs vx) (hy:Zb g n ys vy) :
 ∀ (l:List Nat) (b:Bool),QU (fun i=>match XG P e xs (i * sz),XG P e ys (i * sz) with
     | some a,some b=>rec a b
     | _,_=>none) l=some b ->
 (forIn (m:=Sem) l ((none,()):Option Bool × Unit) fun i _=>do
   if !(<- Op.equalIn d e (<- part e vx.toArray (i * sz)) (<- part e vy.toArray (i * sz))) then pure (.done (some false,())) else pure (.yield (none,()))).run P w
   = .ok (if b then (none,()) else (some false,())) w
 | [],b,h=>by simp [QU] at h;subst h;simp
 | i::l,b,h=>by
   unfold QU at h;cases hp:XG P e xs (i * sz) with
   | none=>simp [hp] at h
   | some a =>
     cases hq:XG P e ys (i * sz) with
     | none=>simp [hp,hq] at h
     | some c =>
       obtain ⟨ca,h1,h2⟩:=JR (w:=w) hp hx;obtain ⟨cc,h3,h4⟩:=JR (w:=w) hq hy;simp only [hp,hq] at h;cases hr:rec a c with
       | none=>simp [hr] at h
       | some r =>
         have h5:=ih _ _ _ _ r hr h2 h4;have ihl:=Ag (sz:=sz) ih hx hy l;simp only [forIn_cons,Sem.run_bind,h1,h3,h5,Result.andThen_ok];cases r with
         | true=>simp only [hr] at h;simp only [Bool.not_true,false_eq_true,if_false,Sem.run_pure,Result.andThen_ok];exact ihl b h
         | false=>simp only [hr,Option.some.injEq] at h;subst h;simp
theorem GV:∀ (d' d:Nat) (t:TypeId) (x y:AV) (cx cy:Value) (b:Bool),d<=d'->Y5 P d t x y=some b->VRel g n x cx->VRel g n y cy ->
 (Op.equalIn d' t cx cy).run P w=.ok b w:=by
 intro d'
 induction d' with
 | zero=>intro d t x y cx cy b hd h;have:d=0:=by omega
         subst this;simp [Y5] at h
 | succ d' ih =>
   intro d t x y cx cy b hd h hx hy;cases d with
   | zero=>simp [Y5] at h
   | succ d =>
     unfold Y5 at h;split at h
     . rename_i ht
       simp at h;subst h;cases hx;cases hy;exact run_equalIn_bool w d' t _ _ ht
     . rename_i k1 a1 l1 c1 ht
       cases hx;cases hy;cases hk:Nat.beq (X5 k1) (X5 l1) with
       | false=>simp [hk] at h
       | true =>
         have:=UJ hk;subst this;simp only [hk,cond,Option.some.injEq] at h;subst h;rw [VJ];exact run_equalIn_int w d' t _ _ _ _ ht
     . rename_i ht
       simp at h;subst h;cases hx with
       | str h1=>cases hy with
         | str h2=>rw [run_equalIn_string w d' t _ _ ht,GU,h1,h2,JP]
     . rename_i fs xs ys ht
       obtain ⟨vx,rfl,hvx⟩:=hx.inv_agg;obtain ⟨vy,rfl,hvy⟩:=hy.inv_agg;cases hs:P.stoodInHeld t with
       | true=>simp [hs] at h
       | false =>
         have hfs:P.fieldsOf t=fs:=by simp [Program.fieldsOf,ht]
         rw [run_equalIn_agg w d' t _ _ (by rw [hfs];exact ht) hs,hfs];simp only [hs,cond] at h;exact Ls (rec:=Y5 P d) (fun t x y cx cy b hr h1 h2=>ih d t x y cx cy b (by omega) hr h1 h2) h hvx hvy
     . rename_i len e xs ys ht
       obtain ⟨vx,rfl,hvx⟩:=hx.inv_agg;obtain ⟨vy,rfl,hvy⟩:=hy.inv_agg;split at h
       . rename_i sz hsz
         have h5:=Ag (P:=P) (w:=w) (sz:=sz) (rec:=Y5 P d e) (fun x y cx cy b hr h1 h2=>ih d e x y cx cy b (by omega) hr h1 h2) hvx hvy (List.range len) b h;simp only [Op.equalIn,Sem.run_bind,Zm ht,Yw hsz,Result.andThen_ok];rw [Std.Legacy.Range.forIn_eq_forIn_range'];simp only [Std.Legacy.Range.size,sub_zero,add_sub_cancel,div_one];rw [show List.range' 0 len 1=List.range len from by rw [range_eq_range']]
         rw [h5];cases b<;>simp
       . cases h
     . cases h
theorem Lt:∀ (k d:Nat) (t:TypeId),k<=d->Qa P k t=true->P.eqGuardType d t=false:=by
 intro k
 induction k with
 | zero=>intro d t _ h;simp [Qa] at h
 | succ k ih =>
   intro d t hd h;obtain ⟨d,rfl⟩:∃ e,d=e+1:=⟨d - 1,by omega⟩;unfold Qa at h;unfold Program.eqGuardType;split at h<;>rename_i ht
   . rw [ht]
   . rw [ht]
   . rw [ht]
   . rw [ht];simp only [and_eq_true,Array.all_eq_true'] at h;simp only [Array.any_eq_false'];intro f hf;simp only [and_eq_true,not_and,not_eq_true];intro _;exact ih d f.type (by omega) (h.2 f hf).2
   . rw [ht];simp only [];exact ih d _ (by omega) h
   . cases h
theorem Lu (h:VRel g n (.ps .nil []) v):v=.slice none 0 0:=by
 cases h with
 | ps vals hsz hl hk hv hcap htok=>exact htok.elim
 | psnil h=>rfl
 | psz h=>exact h.elim
theorem V1 {op:BinOp} {x y:Operand} {a b:Value} (h1:¬ (a=.nilIface/\b=.nilIface)) (h2:∀ xs ys,a=.agg xs->b=.agg ys->P.eqGuardType P.depth t=false) :
 (eqGuard op t x y a b).run P w=.ok () w:=by
 have inner:(match a,b with
  | .nilIface,.nilIface =>
    if (x matches .const _) || (y matches .const _) then (Pure.pure ():Sem Unit) else do
     if <- Op.eqGuardIn Op.maxDepth t a b then unsupported (.noEntry "binop/eql: two nil values of an interface type with methods, neither of them the literal nil")
  | .agg _,.agg _=>do
    if !(<- program).eqGuardType (<- program).depth t then return
    if <- Op.eqGuardIn Op.maxDepth t a b then unsupported (.noEntry "binop/eql: two nil values of an interface type with methods, in a part of a struct or an array")
  | _,_=>Pure.pure ()).run P w=.ok () w:=by
  cases a<;>first
   | (cases b<;>first | rfl | (exact absurd ⟨rfl,rfl⟩ h1) | (simp [h2 _ _ rfl rfl]))
 unfold eqGuard;rw [Sem.run_ite];generalize (!(match op with | .eql=>true | .neq=>true | _=>false))=c
 cases c with
 | true=>simp
 | false=>exact inner
theorem GW (ht:P.underlying t=some (.slice e)) (a:Option Addr) (l c:Nat):(Op.equal t (.slice a l c) (.slice none 0 0)).run P w=.ok a.isNone w:=by
 have:∀ d,(Op.equalIn (d+1) t (.slice a l c) (.slice none 0 0)).run P w=.ok a.isNone w:=fun d=>by
  cases a<;>simp [Op.equalIn,Zm ht]
 exact this 9999
theorem Lv (hd:100<=P.depth) {op:BinOp} {y:AV} (h:Kl P op t x y=some r) {cy:Value} (hx:VRel g n x cx) (hy:VRel g n y cy) (ox oy:Operand) :
 ∃ cr,(do eqGuard op t ox oy cx cy;Go.binOp op t cx cy:Sem Value).run P w=.ok cr w/\VRel g n r cr:=by
 unfold Kl at h;split at h
 . -- integers
   rename_i k a l b
   cases hx;cases hy;have hg:(eqGuard op t ox oy (.int k a) (.int l b)).run P w=.ok () w:=V1 (by simp) (by simp);cases hk:Nat.beq (X5 k) (X5 l) with
   | true =>
     have:=UJ hk;subst this;simp only [hk,cond] at h;obtain ⟨cv,h1,h2⟩:=Lr (P:=P) (w:=w) (g:=g) (n:=n) t h (fun t'=>by cases op<;>rfl);exact ⟨cv,by simp only [Sem.run_bind,hg,Result.andThen_ok,h1],h2⟩
   | false =>
     simp only [hk,cond] at h;obtain ⟨cv,h1,h2⟩:=Ji (g:=g) (n:=n) h;exact ⟨cv,by simp only [Sem.run_bind,hg,Result.andThen_ok,Jh h1],h2⟩
 . -- floats
   rename_i k a l b
   cases hx;cases hy;have hg:(eqGuard op t ox oy (.float k a) (.float l b)).run P w=.ok () w:=V1 (by simp) (by simp);obtain ⟨cv,h1,h2⟩:=Ji (g:=g) (n:=n) h;exact ⟨cv,by simp only [Sem.run_bind,hg,Result.andThen_ok,Jh h1],h2⟩
 . -- strings
   rename_i a b
   cases hx with
   | str h1=>cases hy with
     | str h2 =>
       rename_i ba bb
       have hg:(eqGuard op t ox oy (.string ba) (.string bb)).run P w=.ok () w:=V1 (by simp) (by simp);have he:(ba.toList == bb.toList)=Z6 a b:=by rw [GU,h1,h2,JP]
       have hl:Op.bytesLess ba.toList bb.toList=Jb a b:=by rw [GT,GT,Af,h1,h2]
       have hsz:((ba.size+bb.size:Nat):Int)=((a.length+b.length:Nat):Int):=by rw [JQ h1,JQ h2]
       simp only [Sem.run_bind,hg,Result.andThen_ok];cases op<;>simp only [Option.some.injEq] at h<;>try (cases h;done)
       case add =>
        split at h
        . rename_i hle
          simp at h;subst h;refine ⟨.string (ba++bb), ?_,.str ?_⟩
          . simp only [Go.binOp,Op.stringOp];rw [if_neg]
            . rfl
            . rw [hsz];have:IntKind.i64.max=9223372036854775807:=by decide
              rw [this];omega
          . simp [h1,h2]
        . cases h
       all_goals
        subst h;refine ⟨_,rfl, ?_⟩;simp only [he,hl];exact .bool _
 . -- a slice held against nil
   rename_i tok rows
   have:=Lu hy;subst this;cases he:Yk P t with
   | none=>simp [he] at h
   | some e =>
     have ht:=Jf he;simp only [he] at h;have key:∀ b,KW tok rows=some b->(Op.equal t cx (.slice none 0 0)).run P w=.ok b w/\(∃ a l c,cx=.slice a l c):=by
      intro b hb;cases hx with
      | ps vals hsz hl hk hv hcap htok =>
        have:b=false:=by
         cases tok<;>cases rows<;>simp [KW] at hb<;>first | exact hb.symm | exact hb | exact (show False from htok).elim
        subst this;exact ⟨GW ht _ _ _,_,_,_,rfl⟩
      | psz hm =>
        have:b=false:=by
         cases tok<;>simp [KW] at hb<;>first | exact hb.symm | exact hb | exact (show False from hm).elim
        subst this;exact ⟨GW ht _ _ _,_,_,_,rfl⟩
      | psnil hm =>
        have:b=true:=by
         cases tok<;>simp [KW] at hb<;>first | exact hb.symm | exact hb | exact (show False from hm).elim
        subst this;exact ⟨GW ht _ _ _,_,_,_,rfl⟩
     cases hb:KW tok rows with
     | none=>rw [hb] at h;cases op<;>cases h
     | some b =>
       rw [hb] at h;obtain ⟨h5,a,l,c,rfl⟩:=key b hb;have hg:(eqGuard op t ox oy (.slice a l c) (.slice none 0 0)).run P w=.ok () w:=V1 (by simp) (by simp);cases op<;>simp only [Option.some.injEq] at h<;>try (cases h;done)
       case eql=>subst h;exact ⟨.bool b,by simp only [Sem.run_bind,hg,Result.andThen_ok,Go.binOp,h5,Sem.run_pure],.bool _⟩
       case neq=>subst h;exact ⟨.bool (!b),by simp only [Sem.run_bind,hg,Result.andThen_ok,Go.binOp,h5,Sem.run_pure],.bool _⟩
 . -- a pointer held against nil
   rename_i id off
   cases hy;cases hx with
   | ptr hid =>
     split at h
     . rename_i e ht
       have h5:∀ a:Addr,(Op.equal t (.pointer (some a)) (.pointer none)).run P w=.ok false w:=fun a=>by
        have:∀ d,(Op.equalIn (d+1) t (.pointer (some a)) (.pointer none)).run P w=.ok false w:=fun d=>by
         simp [Op.equalIn,Zm ht]
        exact this 9999
       have hg:∀ a:Addr,(eqGuard op t ox oy (.pointer (some a)) (.pointer none)).run P w=.ok () w:=fun a=>V1 (by simp) (by simp)
       cases op<;>simp only [Option.some.injEq] at h<;>try (cases h;done)
       case eql=>subst h;exact ⟨.bool false,by simp only [Sem.run_bind,hg,Result.andThen_ok,Go.binOp,h5,Sem.run_pure],.bool _⟩
       case neq=>subst h;exact ⟨.bool true,by simp only [Sem.run_bind,hg,Result.andThen_ok,Go.binOp,h5,Sem.run_pure,Bool.not_false],.bool _⟩
     . cases h
 . -- '==' by the type
   have key:∀ b,Qa P 100 t=true->Y5 P 100 t x y=some b ->
    (eqGuard op t ox oy cx cy).run P w=.ok () w/\(Go.binOp .eql t cx cy).run P w=.ok (.bool b) w/\(Go.binOp .neq t cx cy).run P w=.ok (.bool (!b)) w:=by
    intro b ht hb;have h5:=GV (P:=P) (w:=w) 10000 100 t x y cx cy b (by omega) hb hx hy;have hg:=Lt 100 P.depth t hd ht;refine ⟨V1 ?_ fun _ _ _ _=>hg, ?_⟩
    . rintro ⟨rfl,rfl⟩;cases hx;cases hy;unfold Y5 at hb;split at hb<;>first | (simp_all;done) | cases hb
    . unfold Y5 at hb;split at hb
      . cases hx;cases hy;exact ⟨by simp only [Go.binOp,Op.equal,Op.maxDepth,Sem.run_bind,h5,Result.andThen_ok,Sem.run_pure],by simp only [Go.binOp,Op.equal,Op.maxDepth,Sem.run_bind,h5,Result.andThen_ok,Sem.run_pure]⟩
      . rename_i hno _;clear h h5 hx hy ht hg hb;exfalso;first | (simp_all;done) | (simp_all;rename_i hno;exact hno _ _ _ _ rfl rfl rfl rfl)
      . clear h h5 hx hy ht hg hb;exfalso;simp_all
      . obtain ⟨vx,rfl,_⟩:=hx.inv_agg;obtain ⟨vy,rfl,_⟩:=hy.inv_agg;exact ⟨by rw [run_eql_struct,h5];rfl,by rw [run_neq_struct,h5];rfl⟩
      . obtain ⟨vx,rfl,_⟩:=hx.inv_agg;obtain ⟨vy,rfl,_⟩:=hy.inv_agg;exact ⟨by rw [run_eql_struct,h5];rfl,by rw [run_neq_struct,h5];rfl⟩
      . cases hb
   split at h
   . split at h
     . split at h
       . rename_i ht _ b hb
         simp at h;subst h;obtain ⟨h1,h2,_⟩:=key b ht hb;exact ⟨_,by simp only [Sem.run_bind,h1,Result.andThen_ok,h2],.bool _⟩
       . cases h
     . cases h
   . split at h
     . split at h
       . rename_i ht _ b hb
         simp at h;subst h;obtain ⟨h1,_,h2⟩:=key b ht hb;exact ⟨_,by simp only [Sem.run_bind,h1,Result.andThen_ok,h2],.bool _⟩
       . cases h
     . cases h
   . cases h
theorem Lw {op:UnOp} (h:aun op x=some r) (hx:VRel g n x cx):∃ cr,(Op.unary op cx).run P w=.ok cr w/\VRel g n r cr:=by
 unfold aun at h;split at h
 . cases hx;obtain ⟨cv,h1,h2⟩:=Ji (g:=g) (n:=n) h;exact ⟨cv,Jh h1,h2⟩
 . cases hx;obtain ⟨cv,h1,h2⟩:=Ji (g:=g) (n:=n) h;exact ⟨cv,Jh h1,h2⟩
 . cases hx;obtain ⟨cv,h1,h2⟩:=Ji (g:=g) (n:=n) h;exact ⟨cv,Jh h1,h2⟩
 . cases h
theorem Lx {s d:TypeId} (h:GI P s d x=some r) (hx:VRel g n x cx):∃ cr,(Go.convert s d cx).run P w=.ok cr w/\VRel g n r cr:=by
 unfold GI at h;split at h
 . rename_i ds k i hs hd
   cases hx;obtain ⟨cv,h1,h2⟩:=Ji (g:=g) (n:=n) h;refine ⟨cv, ?_,h2⟩;simp only [Go.convert,Sem.run_bind,Zm hs,Zm hd,Result.andThen_ok];exact Jh h1
 . rename_i ds k i hs hd
   cases hx;obtain ⟨cv,h1,h2⟩:=Ji (g:=g) (n:=n) h;refine ⟨cv, ?_,h2⟩;simp only [Go.convert,Sem.run_bind,Zm hs,Zm hd,Result.andThen_ok];exact Jh h1
 . rename_i ds k s b hs hd
   cases hx;obtain ⟨cv,h1,h2⟩:=Ji (g:=g) (n:=n) h;refine ⟨cv, ?_,h2⟩;simp only [Go.convert,Sem.run_bind,Zm hs,Zm hd,Result.andThen_ok];exact Jh h1
 . rename_i ds k s b hs hd
   cases hx;obtain ⟨cv,h1,h2⟩:=Ji (g:=g) (n:=n) h;refine ⟨cv, ?_,h2⟩;simp only [Go.convert,Sem.run_bind,Zm hs,Zm hd,Result.andThen_ok];exact Jh h1
 . rename_i hs hd
   simp at h;subst h;cases hx with
   | str hh =>
     refine ⟨_, ?_,.str hh⟩;simp [Go.convert,Zm hs,Zm hd]
 . cases h
theorem Ah {t:Nat} {fd:Field} (h:Ja P t f=some fd):∃ fs,P.underlying t=some (.struct fs)/\fs[f]? = some fd:=by
 unfold Ja at h;split at h
 . rename_i fs hfs;exact ⟨fs,hfs,h⟩
 . cases h
theorem Ly {t:Nat} (h:JE P t x f=some r) (hx:VRel g n x cx):∃ cr,(Instr.field t cx f).run P w=.ok cr w/\VRel g n r cr:=by
 unfold JE at h;split at h
 . rename_i fd cs hf
   obtain ⟨fs,h1,h2⟩:=Ah hf;obtain ⟨vs,rfl,hv⟩:=hx.inv_agg;obtain ⟨cr,h3,h4⟩:=JR (w:=w) h hv;exact ⟨cr,by simp [Instr.field,Zm h1,h2,asAgg,h3],h4⟩
 . cases h
theorem Ai (h:VRel g n (.pptr cs) (.pointer (some ⟨b,o,none⟩))):VRel g n (.pptr (cs.drop k)) (.pointer (some ⟨b,o+k,none⟩)):=by
 cases h with
 | pptr vals hl hk hv =>
   refine .pptr (vals.drop k) (by simp [hl]) (fun i v hi => ?_) (fun i c v hc hv' => ?_)
   . rw [getElem?_drop] at hi;rw [add_assoc];exact hk _ v hi
   . rw [getElem?_drop] at hc hv';exact hv _ c v hc hv'
theorem Aj (h:VRel g n (.pptr cs) v):∃ b o,v=.pointer (some ⟨b,o,none⟩):=by
 cases h with | pptr vals hl hk hv=>exact ⟨_,_,rfl⟩
theorem VRel.ptr' (h:id < n):VRel g n (.ptr id (off+k)) (.pointer (some ⟨(g.L id).b,(g.L id).o+off+k,none⟩)):=by
 rw [add_assoc];exact .ptr h
theorem Lz {t:Nat} (h:Jc P t x f=some r) (hx:VRel g n x cx):∃ cr,(Instr.fieldAt t cx f).run P w=.ok cr w/\VRel g n r cr:=by
 unfold Jc at h;split at h
 . rename_i fd hf
   obtain ⟨fs,h1,h2⟩:=Ah hf;split at h
   . rename_i k hsz
     have place:∀ ad:Addr,ad.spot=none->(fieldPlace ad fd).run P w=.ok ⟨ad.block,ad.off+fd.offset,none⟩ w:=fun ad hs=>by
      simp [fieldPlace,Yw hsz,addr_add hs]
     split at h
     . simp at h;subst h;cases hx with
       | ptr hid =>
         refine ⟨_, ?_,VRel.ptr' hid⟩;simp [Instr.fieldAt,Zm h1,h2,Instr.sureAddr,place]
     . simp at h;subst h;obtain ⟨b,o,rfl⟩:=Aj hx;refine ⟨_, ?_,Ai hx⟩;simp [Instr.fieldAt,Zm h1,h2,Instr.sureAddr,place]
     . cases h
   . cases h
 . cases h
theorem V2 {i:AV} (h:YI lim i=some m) (hi:VRel g n i ci):∃ k,ci=.int k (m:Int)/\m < lim:=by
 unfold YI at h;split at h
 . split at h
   . simp at h;subst h;cases hi;exact ⟨_,rfl,by assumption⟩
   . cases h
 . cases h
theorem LA (hsz:∀ r ∈ rows,r.length=sz) {r:List AV} (hr:rows[i]? = some r) :
 r.length=sz /\ ∀ j a,r[j]? = some a->rows.flatten[i * sz+j]? = some a:=by
 induction rows generalizing i with
 | nil=>simp at hr
 | cons x rows ih =>
   have hx:x.length=sz:=hsz x (by simp);cases i with
   | zero =>
     simp at hr;subst hr;refine ⟨hx,fun j a ha => ?_⟩;rw [zero_mul,zero_add,flatten_cons,getElem?_append_left]
     . exact ha
     . exact (List.getElem?_eq_some_iff.1 ha).1
   | succ i =>
     obtain ⟨h1,h2⟩:=ih (fun r hr=>hsz r (by simp [hr])) (by simpa using hr);refine ⟨h1,fun j a ha => ?_⟩;rw [flatten_cons,getElem?_append_right (by rw [hx,succ_mul];omega)];rw [show (i+1) * sz+j - x.length=i * sz+j by rw [hx,succ_mul];omega];exact h2 j a ha
theorem QX (hsz:∀ r ∈ rows,r.length=sz):rows.flatten.length=rows.length * sz:=by
 induction rows with
 | nil=>simp
 | cons x rows ih=>simp [ih (fun r hr=>hsz r (by simp [hr])),hsz x (by simp),succ_mul,add_comm]
theorem LB {t:Nat} {i:AV} (h:Qb P t x i=some r) (hx:VRel g n x cx) (hi:VRel g n i ci) :
 ∃ cr,(Instr.indexAt t cx ci).run P w=.ok cr w/\VRel g n r cr:=by
 unfold Qb at h;split at h
 . rename_i e ht
   split at h
   . rename_i tok rows
     split at h
     . rename_i m hm
       obtain ⟨k,rfl,hlt⟩:=V2 hm hi;split at h
       . rename_i row sz hr hsz
         split at h
         . rename_i hrl
           simp at h;subst h;cases hx with
           | @ps _ _ _ b o cap sz' vals hszs hl hk hv hcap htok =>
             obtain ⟨h1,h2⟩:=LA hszs hr;have hs:sz'=sz:=by rw [<- h1,hrl]
             subst hs;have hvl:((vals.drop (m * sz')).take sz').length=sz':=by
              have:m * sz'+sz'<=rows.length * sz':=by
               rw [<- succ_mul];exact mul_le_mul_right _ hlt
              have hfl:=QX hszs;simp;omega
             refine ⟨.pointer (some ⟨b,o+m * sz',none⟩), ?_,.pptr ((vals.drop (m * sz')).take sz') (by rw [hvl,h1]) (fun j v hj => ?_) (fun j c v hc hj => ?_)⟩
             . have:((m:Int) < (rows.length:Int)):=by omega
               simp [Instr.indexAt,asIntOf,Zm ht,hlt,Yw hsz,addr_add]
             . rw [getElem?_take] at hj;split at hj
               . rw [getElem?_drop] at hj;rw [add_assoc];exact hk _ v hj
               . cases hj
             . rw [getElem?_take] at hj;split at hj
               . rw [getElem?_drop] at hj;exact hv _ c v (h2 j c hc) hj
               . cases hj
           | psnil hm=>simp at hr
           | psz hm=>simp at hr
         . cases h
       . cases h
     . cases h
   . rename_i id off len sz cap
     split at h
     . rename_i m hm
       obtain ⟨k,rfl,hlt⟩:=V2 hm hi;split at h
       . rename_i hsz
         simp at h;subst h;cases hx with
         | rs hid hlen hcap =>
           refine ⟨_, ?_,VRel.ptr' hid⟩;have:((m:Int) < (len:Int)):=by omega
           simp [Instr.indexAt,asIntOf,Zm ht,hlt,Yw hsz,addr_add]
       . cases h
     . cases h
   . cases h
 . rename_i len e ht
   split at h
   . rename_i m sz hm hsz
     obtain ⟨k,rfl,hlt⟩:=V2 hm hi;have:((m:Int) < (len:Int)):=by omega
     split at h
     . simp at h;subst h;cases hx with
       | ptr hid =>
         refine ⟨_, ?_,VRel.ptr' hid⟩;simp [Instr.indexAt,asIntOf,Zm ht,Instr.sureAddr,hlt,Yw hsz,addr_add]
     . simp at h;subst h;obtain ⟨b,o,rfl⟩:=Aj hx;refine ⟨_, ?_,Ai hx⟩;simp [Instr.indexAt,asIntOf,Zm ht,Instr.sureAddr,hlt,Yw hsz,addr_add]
     . cases h
   . cases h
 . cases h
theorem LC {t:Nat} {i:AV} (h:Km P t x i=some r) (hx:VRel g n x cx) (hi:VRel g n i ci) :
 ∃ cr,(Instr.index t cx ci).run P w=.ok cr w/\VRel g n r cr:=by
 unfold Km at h;split at h
 . rename_i len e cs ht
   split at h
   . rename_i m sz hm hsz
     obtain ⟨k,rfl,hlt⟩:=V2 hm hi;obtain ⟨vs,rfl,hv⟩:=hx.inv_agg;obtain ⟨cr,h3,h4⟩:=JR (w:=w) h hv;have:((m:Int) < (len:Int)):=by omega
     exact ⟨cr,by simp [Instr.index,asIntOf,Zm ht,hlt,Yw hsz,h3],h4⟩
   . cases h
 . rename_i s ht
   split at h
   . rename_i m hm
     obtain ⟨k,rfl,hlt⟩:=V2 hm hi;split at h
     . rename_i b hb
       simp at h;subst h;cases hx with
       | @str _ _ bs hs =>
         have hsz:=JQ hs;subst hs;have hlt':m < bs.size:=by omega
         have hbb:(bs[m]'hlt').toNat=b:=by
          rw [getElem?_map] at hb;have hd:bs.data.toList[m]? = some bs[m]:=by
           rw [Array.getElem?_toList];exact Array.getElem?_eq_getElem hlt'
          rw [hd] at hb;simpa using hb
         refine ⟨.int .u8 b, ?_,.int _ _⟩;have hget:bs[m]? = some bs[m]:=getElem?_pos bs m hlt';simp [Instr.index,asIntOf,Zm ht,hget,hbb]
     . cases h
   . cases h
 . cases h
def Ku (g:Gh) (n:Nat):Option AV->Option Value->Prop
 | none,none=>True
 | some a,some v=>VRel g n a v
 | _,_=>False
theorem JS (h:YI (lim+1) x=some m) (hx:VRel g n x cx) {y:Nat} (hy:lim<=y) (code:BoundsCode) :
 (Instr.sliceBound cx y code).run P w=.ok m w/\m<=lim:=by
 obtain ⟨k,rfl,hlt⟩:=V2 h hx;have h2:m<=y:=by omega
 exact ⟨by simp [Instr.sliceBound,asIntOf,h2],by omega⟩
theorem VK {isSlice:Bool} {len l:Nat} (hh:YS lim lim high=some h) (hl:YS 0 h low=some l)
 (rl:Ku g n low cl) (rh:Ku g n high ch) (hlim:lim=len) (hc:len<=cap) :
 (Instr.sliceBounds isSlice len cap cl ch none).run P w=.ok (l,h,cap) w/\l<=h/\h<=len:=by
 subst hlim;have e1:h<=lim /\ ∀ code,(match ch with | some v=>Instr.sliceBound v cap code | none=>Pure.pure lim:Sem Nat).run P w=.ok h w:=by
  cases high with
  | none=>cases ch with
    | none=>simp [YS] at hh;subst hh;exact ⟨Nat.le_refl _,fun _=>rfl⟩
    | some v=>exact rh.elim
  | some a=>cases ch with
    | none=>exact rh.elim
    | some v=>exact ⟨(JS (P:=P) (w:=w) hh rh hc .index).2,fun code=>(JS hh rh hc code).1⟩
 have e2:l<=h /\ ∀ code,(match cl with | some v=>Instr.sliceBound v h code | none=>Pure.pure 0:Sem Nat).run P w=.ok l w:=by
  cases low with
  | none=>cases cl with
    | none=>simp [YS] at hl;subst hl;exact ⟨zero_le _,fun _=>rfl⟩
    | some v=>exact rl.elim
  | some a=>cases cl with
    | none=>exact rl.elim
    | some v=>exact ⟨(JS (P:=P) (w:=w) hl rl (Nat.le_refl h) .index).2,fun code=>(JS hl rl (Nat.le_refl h) code).1⟩
 refine ⟨?_,e2.1,e1.1⟩;unfold Instr.sliceBounds;simp only [Sem.run_bind,Sem.run_pure,Result.andThen_ok];have e1':=e1.2 (if isSlice then .sliceAcap else .sliceAlen)
 cases ch with
 | none =>
   simp only [Sem.run_pure,Result.ok.injEq,and_true] at e1';simp only [];rw [e1'];have e2':=e2.2 .sliceB;cases cl with
   | none=>simp only [Sem.run_pure,Result.ok.injEq,and_true] at e2';simp [e2']
   | some v=>simp only [] at e2';simp [e2']
 | some u =>
   simp only [] at e1';simp only [];have e2':=e2.2 .sliceB;cases cl with
   | none=>simp only [Sem.run_pure,Result.ok.injEq,and_true] at e2';simp [e1',e2']
   | some v=>simp only [] at e2';simp [e1',e2']
theorem GX {len l:Nat} {hi mx:AV} {ch:Value} (hm:YI (lim+1) mx=some m) (hh:YI (m+1) hi=some h) (hl:YS 0 h low=some l)
 (rl:Ku g n low cl) (rh:VRel g n hi ch) (rm:VRel g n mx cm) (hlim:lim=len) (hc:len<=cap) :
 (Instr.sliceBounds true len cap cl (some ch) (some cm)).run P w=.ok (l,h,m) w/\l<=h/\h<=m/\m<=len:=by
 subst hlim;have e0:=JS (P:=P) (w:=w) hm rm hc .slice3Acap;have e1:=JS (P:=P) (w:=w) hh rh (Nat.le_refl m) .slice3B;have e2:l<=h /\ ∀ code,(match cl with | some v=>Instr.sliceBound v h code | none=>Pure.pure 0:Sem Nat).run P w=.ok l w:=by
  cases low with
  | none=>cases cl with
    | none=>simp [YS] at hl;subst hl;exact ⟨zero_le _,fun _=>rfl⟩
    | some v=>exact rl.elim
  | some a=>cases cl with
    | none=>exact rl.elim
    | some v=>exact ⟨(JS (P:=P) (w:=w) hl rl (Nat.le_refl h) .index).2,fun code=>(JS hl rl (Nat.le_refl h) code).1⟩
 refine ⟨?_,e2.1,e1.2,e0.2⟩;unfold Instr.sliceBounds;simp only [Sem.run_bind,if_true,e0.1,e1.1,Result.andThen_ok];have e2':=e2.2 .slice3C;cases cl with
 | none=>simp only [Sem.run_pure,Result.ok.injEq,and_true] at e2';simp [e2']
 | some v=>simp only [] at e2';simp [e2']
theorem UK {l:Nat} (vals:List Value) (hsz:∀ r ∈ rows,r.length=sz)
 (hl:rows.flatten.length=vals.length) (hk:∀ (i:Nat) v,vals[i]? = some v→g.K b (o+i)=some v)
 (hv:∀ (i:Nat) c v,rows.flatten[i]? = some c→vals[i]? = some v→VRel g 0 c v)
 (h1:l≤h) (h2:h≤rows.length) {c:Nat} (hc:h - l≤c) {o':Nat} (ho:l < h→o'=o+l * sz) (ht:QJ g n (h - l) sz b o' c tok) :
 VRel g n (.ps tok ((rows.take h).drop l)) (.slice (some ⟨b,o',none⟩) (h - l) c):=by
 have hlen:((rows.take h).drop l).length=h - l:=by simp;omega
 have hsz':∀ r ∈ (rows.take h).drop l,r.length=sz:=fun r hr=>hsz r (mem_of_mem_take (mem_of_mem_drop hr))
 have hfl:((rows.take h).drop l).flatten=(rows.flatten.drop (l * sz)).take ((h - l) * sz):=by
  clear hlen hsz' hl hk hv hc ho ht
  induction rows generalizing l h with
  | nil=>simp
  | cons x rows ih =>
    have hx:x.length=sz:=hsz x (by simp);cases h with
    | zero=>simp
    | succ h =>
      cases l with
      | zero =>
        have:=ih (l:=0) (h:=h) (fun r hr=>hsz r (by simp [hr])) (zero_le _) (by simpa using h2);simp only [take_succ_cons,drop_zero,flatten_cons,zero_mul,sub_zero] at this ⊢;rw [this,take_append,hx];simp [succ_mul,take_of_length_le (show x.length≤h * sz+sz by omega)]
      | succ l =>
        have:=ih (l:=l) (h:=h) (fun r hr=>hsz r (by simp [hr])) (by omega) (by simpa using h2);simp only [take_succ_cons,drop_succ_cons,flatten_cons];rw [this,drop_append,hx];rw [show (l+1) * sz - sz=l * sz by rw [succ_mul];omega,show h+1 - (l+1)=h - l by omega];have hx0:x.drop ((l+1) * sz)=[]:=drop_eq_nil_of_le (by rw [hx,succ_mul];omega);rw [hx0];simp
 rw [← hlen] at hc ht ⊢;have hfl2:=QX hsz;refine .ps (sz:=sz) ((vals.drop (l * sz)).take ((h - l) * sz)) hsz' ?_ ?_ ?_ hc ht
 · rw [hfl];simp only [length_take,length_drop];rw [hl]
 · intro i v hi;rw [getElem?_take] at hi;split at hi
   · rename_i hlt
     rw [getElem?_drop] at hi;have hlh:l < h:=by
      rcases lt_or_ge l h with hh | hh
      · exact hh
      · have:h - l=0:=by omega
        rw [this] at hlt;omega
     rw [ho hlh,add_assoc];exact hk _ v hi
   · cases hi
 · intro i c' v hc' hi;rw [hfl] at hc';rw [getElem?_take] at hi hc';split at hi
   · rename_i hlt
     rw [if_pos hlt,getElem?_drop] at hc';rw [getElem?_drop] at hi;exact hv _ c' v hc' hi
   · cases hi
theorem LD {s:List Nat} {b:ByteArray} (h:b.data.toList.map UInt8.toNat=s) (l k:Nat):(b.extract l k).data.toList.map UInt8.toNat=(s.take k).drop l:=by
 subst h;rw [ByteArray.data_extract];simp [extract_eq_take_drop,map_take,map_drop,drop_take]
theorem LE {max:Option AV} (h:XH P t x low high max=some r) {cm:Option Value}
 (hx:VRel g n x cx) (rl:Ku g n low cl) (rh:Ku g n high ch) (rm:Ku g n max cm) :
 ∃ cr,(Instr.sliceAt t cx cl ch cm).run P w=.ok cr w/\VRel g n r cr:=by
 have noArr:∀ {d:TypeDesc} {s:Sem Value} {res:Result Value},P.underlying t=some d->(∀ k e,d ≠ .array k e)->s=Instr.slice t cx cl ch cm->s.run P w=res->(Instr.sliceAt t cx cl ch cm).run P w=res:=by
  intro d s res ht hd hs hr;subst hs;unfold Instr.sliceAt;simp only [Sem.run_bind,Zm ht,Result.andThen_ok];cases d<;>first | exact hr | exact absurd rfl (hd _ _)
 unfold XH at h;split at h
 . rename_i s ht
   cases max with
   | some m=>cases h
   | none =>
     have hcm:cm=none:=by cases cm with | none=>rfl | some v=>exact rm.elim
     subst hcm;simp only [] at h;split at h
     . rename_i hh hb
       split at h
       . rename_i ll hb2
         simp at h;subst h;cases hx with
         | @str _ _ bs hs =>
           have hsz:=JQ hs;obtain ⟨h1,_,_⟩:=VK (P:=P) (w:=w) (isSlice:=false) (len:=bs.size) (cap:=bs.size) hb hb2 rl rh hsz.symm (Nat.le_refl _);refine ⟨_,noArr ht (by simp) rfl ?_,.str (LD hs ll hh)⟩;simp [Instr.slice,Zm ht,h1]
       . cases h
     . cases h
 . rename_i e tok rows ht
   split at h
   . rename_i sz hsz
     split at h
     . rename_i hall
       have hrs:∀ r ∈ rows,r.length=sz:=by simpa using hall
       unfold GJ at h;cases max with
       | none =>
         have hcm:cm=none:=by cases cm with | none=>rfl | some v=>exact rm.elim
         subst hcm;simp only [] at h;split at h
         . rename_i hh hb
           split at h
           . rename_i ll hb2
             simp at h;subst h;cases hx with
             | @ps _ _ _ b o cap sz' vals hsz' hl hk hv hcap htok =>
               obtain ⟨h1,hle,hle2⟩:=VK (P:=P) (w:=w) (isSlice:=true) (len:=rows.length) (cap:=cap) hb hb2 rl rh rfl hcap;refine ⟨_,noArr ht (by simp) rfl (by simp only [Instr.slice,Sem.run_bind,Zm ht,Result.andThen_ok,h1,Yw hsz];rfl), ?_⟩;have hszs:∀ r ∈ rows,r.length=sz'/\sz'=sz:=fun r hr=>⟨hsz' r hr,by rw [<- hsz' r hr,hrs r hr]⟩
               by_cases hcl:cap=ll
               . rw [if_pos hcl];refine UK vals hsz' hl hk hv hle hle2 (by omega) (fun hlt=>by omega) ?_;cases tok<;>simp only [VC]
                 case nil=>exact htok.elim
                 case exact=>split;exact (show cap - ll=hh - ll by omega);trivial
                 case tok k=>rw [if_neg (by simp;omega)];trivial
                 all_goals trivial
               . rw [if_neg hcl];have hadd:(some (⟨b,o,none⟩:Addr)).map (·.add (ll * sz))=some ⟨b,o+ll * sz,none⟩:=by simp [addr_add]
                 rw [hadd];refine UK vals hsz' hl hk hv hle hle2 (by omega) (fun hlt => ?_) ?_
                 . cases hr:rows with
                   | nil=>rw [hr] at hle2;simp at hle2;omega
                   | cons x _=>rw [(hszs x (by rw [hr];simp)).2]
                 . cases tok<;>simp only [VC]
                   case nil=>exact htok.elim
                   case exact=>split;exact (show cap - ll=hh - ll by have:cap=rows.length:=htok;omega);trivial
                   case tok k =>
                    split
                    . rename_i hc
                      simp at hc;obtain ⟨hk1,hk2,hk3,hk4⟩:=htok;have hs2:sz'=sz:=by
                       cases hr:rows with
                       | nil=>rw [hr] at hle2;simp at hle2;omega
                       | cons x _=>exact (hszs x (by rw [hr];simp)).2
                      subst hs2;refine ⟨hk1,hk2, ?_, ?_⟩
                      . rw [hk3,hc.1,sub_mul];have:ll * sz'<=rows.length * sz':=mul_le_mul_right _ (by omega);omega
                      . rw [hk4,sub_mul];have:ll * sz'<=cap * sz':=mul_le_mul_right _ (by omega);omega
                    . trivial
                   all_goals trivial
             | psnil hm =>
               obtain ⟨h1,hle,hle2⟩:=VK (P:=P) (w:=w) (isSlice:=true) (len:=0) (cap:=0) hb hb2 rl rh rfl (Nat.le_refl _);have hh0:hh=0:=by omega
               have hl0:ll=0:=by omega
               subst hh0 hl0;refine ⟨_,noArr ht (by simp) rfl (by simp only [Instr.slice,Sem.run_bind,Zm ht,Result.andThen_ok,h1,Yw hsz];rfl), ?_⟩;simp only [take_zero,drop_zero,if_true,sub_zero];refine .psnil ?_;cases tok<;>simp [VC,Tok.mayNil]<;>exact hm
             | psz hm =>
               obtain ⟨h1,hle,hle2⟩:=VK (P:=P) (w:=w) (isSlice:=true) (len:=0) (cap:=0) hb hb2 rl rh rfl (Nat.le_refl _);have hh0:hh=0:=by omega
               have hl0:ll=0:=by omega
               subst hh0 hl0;refine ⟨_,noArr ht (by simp) rfl (by simp only [Instr.slice,Sem.run_bind,Zm ht,Result.andThen_ok,h1,Yw hsz];rfl), ?_⟩;simp only [take_zero,drop_zero,if_true,sub_zero];refine .psz ?_;cases tok<;>simp [VC,Tok.mayZ]<;>exact hm
           . cases h
         . cases h
       | some m =>
         cases cm with
         | none=>exact rm.elim
         | some vm =>
           simp only [] at h;split at h
           . rename_i mm hi hm
             split at h
             . rename_i hh hb
               split at h
               . rename_i ll hb2
                 simp at h;subst h;cases ch with
                 | none=>exact rh.elim
                 | some vh =>
                   cases hx with
                   | @ps _ _ _ b o cap sz' vals hsz' hl hk hv hcap htok =>
                     obtain ⟨h1,hle,hle2,hle3⟩:=GX (P:=P) (w:=w) (len:=rows.length) (cap:=cap) hm hb hb2 rl rh rm rfl hcap;refine ⟨_,noArr ht (by simp) rfl (by simp only [Instr.slice,Sem.run_bind,Zm ht,Result.andThen_ok,h1,Yw hsz];rfl), ?_⟩;have hszs:∀ r ∈ rows,sz'=sz:=fun r hr=>by rw [<- hsz' r hr,hrs r hr]
                     have htk:∀ o',QJ g n (hh - ll) sz' b o' (mm - ll) (if hh=mm then Tok.exact else Tok.unk):=fun o'=>by
                      split
                      . rename_i e;exact (show mm - ll=hh - ll by omega)
                      . trivial
                     by_cases hcl:mm=ll
                     . rw [if_pos hcl];exact UK vals hsz' hl hk hv hle (by omega) (by omega) (fun hlt=>by omega) (htk _)
                     . rw [if_neg hcl];have hadd:(some (⟨b,o,none⟩:Addr)).map (·.add (ll * sz))=some ⟨b,o+ll * sz,none⟩:=by simp [addr_add]
                       rw [hadd];refine UK vals hsz' hl hk hv hle (by omega) (by omega) (fun hlt => ?_) (htk _);cases hr:rows with
                       | nil=>rw [hr] at hle3;simp at hle3;omega
                       | cons x _=>rw [hszs x (by rw [hr];simp)]
                   | psnil hmn =>
                     obtain ⟨h1,hle,hle2,hle3⟩:=GX (P:=P) (w:=w) (len:=0) (cap:=0) hm hb hb2 rl rh rm rfl (Nat.le_refl _);have hh0:hh=0:=by omega
                     have hl0:ll=0:=by omega
                     have hm0:mm=0:=by omega
                     subst hh0 hl0 hm0;refine ⟨_,noArr ht (by simp) rfl (by simp only [Instr.slice,Sem.run_bind,Zm ht,Result.andThen_ok,h1,Yw hsz];rfl), ?_⟩;simp only [take_zero,drop_zero,if_true,sub_zero];exact .psnil trivial
                   | psz hmn =>
                     obtain ⟨h1,hle,hle2,hle3⟩:=GX (P:=P) (w:=w) (len:=0) (cap:=0) hm hb hb2 rl rh rm rfl (Nat.le_refl _);have hh0:hh=0:=by omega
                     have hl0:ll=0:=by omega
                     have hm0:mm=0:=by omega
                     subst hh0 hl0 hm0;refine ⟨_,noArr ht (by simp) rfl (by simp only [Instr.slice,Sem.run_bind,Zm ht,Result.andThen_ok,h1,Yw hsz];rfl), ?_⟩;simp only [take_zero,drop_zero,if_true,sub_zero];exact .psz trivial
               . cases h
             . cases h
           . cases h
     . cases h
   . cases h
 . rename_i e id off len sz cap ht
   split at h
   . rename_i hsz
     cases max with
     | some m=>cases h
     | none =>
       have hcm:cm=none:=by cases cm with | none=>rfl | some v=>exact rm.elim
       subst hcm;simp only [] at h;split at h
       . rename_i hh hb
         split at h
         . rename_i ll hb2
           simp only [Option.some.injEq] at h;cases hx with
           | @rs _ _ _ _ _ c _ hid hlen hcap =>
             obtain ⟨h1,hle,hle2⟩:=VK (P:=P) (w:=w) (isSlice:=true) (len:=len) (cap:=c) hb hb2 rl rh rfl hlen;refine ⟨_,noArr ht (by simp) rfl (by simp only [Instr.slice,Sem.run_bind,Zm ht,Result.andThen_ok,h1,Yw hsz];rfl), ?_⟩;by_cases hlh:ll=hh/\ll ≠ 0
             . rw [if_pos hlh] at h;subst h;have h0:hh - ll=0:=by omega
               rw [h0];by_cases hcl:c=ll
               . rw [if_pos hcl];exact .ps (sz:=sz) (rows:=[]) [] (by simp) rfl (by simp) (by simp) (zero_le _) trivial
               . rw [if_neg hcl];have hadd:(some (⟨(g.L id).b,(g.L id).o+off,none⟩:Addr)).map (·.add (ll * sz))=some ⟨(g.L id).b,(g.L id).o+off+ll * sz,none⟩:=by simp [addr_add]
                 rw [hadd];exact .ps (sz:=sz) (rows:=[]) [] (by simp) rfl (by simp) (by simp) (zero_le _) trivial
             . rw [if_neg hlh] at h;subst h;have hadd:(if c=ll then some (⟨(g.L id).b,(g.L id).o+off,none⟩:Addr) else (some (⟨(g.L id).b,(g.L id).o+off,none⟩:Addr)).map (·.add (ll * sz)))=some ⟨(g.L id).b,(g.L id).o+(off+ll * sz),none⟩:=by
                by_cases hz:ll=0
                . subst hz;split<;>simp [addr_add]
                . rw [if_neg (show c ≠ ll by omega)];simp [addr_add,add_assoc]
               rw [hadd];refine .rs hid (by omega) ?_;cases cap with
               | some k=>simp only [map_some];simp only [] at hcap;omega
               | none =>
                 simp only [map_none];simp only [] at hcap;rw [hcap,sub_mul];have:ll * sz<=c * sz:=mul_le_mul_right _ (by omega);omega
         . cases h
       . cases h
   . cases h
 . cases h
theorem UL (hR:Rel C g H w) {es:List (AV × AV)} (h:H.get id=.map es) (hid:id < H.n) :
 ∃ ents clk,w.heap[(g.L id).b]? = some (.map ents clk)/\Zh (fun (p:AV × AV) (m:MapEntry)=>VRel g H.n p.1 m.key/\VRel g H.n p.2 m.val) es ents.toList:=by
 have:=hR.blk id hid;rw [h] at this;exact this
theorem LF (hR:Rel C g H w) (h:YJ P H t x=some r) (hx:VRel g H.n x cx) (ty:TypeId) :
 ∃ cr,(Builtin.len_ #[t] ty #[cx]).run P w=.ok cr w/\VRel g H.n r cr:=by
 unfold YJ at h;split at h
 . rename_i s ht
   simp at h;subst h;cases hx with
   | str hs =>
     refine ⟨_, ?_,.int _ _⟩;simp [Builtin.len_,Zm ht,goInt,JQ hs]
 . rename_i k e ht
   simp at h;subst h;refine ⟨_, ?_,.int _ _⟩;simp [Builtin.len_,Zm ht,goInt]
 . rename_i e tok rows ht
   simp at h;subst h;cases hx with
   | ps vals hsz hl hk hv hcap htok=>exact ⟨_,by simp [Builtin.len_,Zm ht,goInt],.int _ _⟩
   | psnil hm=>exact ⟨_,by simp [Builtin.len_,Zm ht,goInt],.int _ _⟩
   | psz hm=>exact ⟨_,by simp [Builtin.len_,Zm ht,goInt],.int _ _⟩
 . rename_i e id off len sz cap ht
   simp at h;subst h;cases hx with
   | rs hid hlen hcap=>exact ⟨_,by simp [Builtin.len_,Zm ht,goInt],.int _ _⟩
 . rename_i k e ht
   simp at h;subst h;cases hx;exact ⟨_,by simp [Builtin.len_,Zm ht,goInt],.int _ _⟩
 . rename_i k e id ht
   split at h
   . rename_i es hes
     simp at h;subst h;cases hx with
     | map hid =>
       obtain ⟨ents,clk,hb,hall⟩:=UL hR hes hid;refine ⟨.int .i64 es.length, ?_,.int _ _⟩;have hl:es.length=ents.size:=by have:=hall.1;simpa using this
       simp [Builtin.len_,Zm ht,goInt,getObj,Sem.run,hb,hl]
   . cases h
 . cases h
theorem GY {f:Int->Int->Int} {m2:Value->Value->Sem Value} (hm:∀ k a l b,m2 (.int k a) (.int l b)=Pure.pure (.int k (f a b))) :
 ∀ {l:List AV} {x r:AV} {cx:Value} {cl:List Value},JF f x l=some r->VRel g n x cx->Zb g n l cl -> ∃ cr,(cl.foldlM m2 cx).run P w=.ok cr w/\VRel g n r cr
 | [],x,r,cx,cl,h,hx,hl=>by
   simp [JF] at h;subst h;rw [hl.nil_left];exact ⟨cx,by simp,hx⟩
 | y::l,x,r,cx,cl,h,hx,hl=>by
   obtain ⟨cy,cl',rfl,hy,hl'⟩:=hl.cons_left;unfold JF at h;split at h
   . simp at *
   . rename_i k a l0 b l' heq
     simp at heq;obtain ⟨rfl,rfl⟩:=heq;cases hx;cases hy;obtain ⟨cr,h1,h2⟩:=GY hm h (.int k (f a b)) hl';exact ⟨cr,by simp [foldlM_cons,hm,h1],h2⟩
   . cases h
theorem GZ:∀ (vs:List Value) (off:Nat) (k:Nat) (c:Array Value),(vs.zipIdx k).foldl (fun cs (x:Value × Nat)=>cs.setIfInBounds (off+x.2) x.1) c =
 (vs.zipIdx 0).foldl (fun cs (x:Value × Nat)=>cs.setIfInBounds (off+k+x.2) x.1) c
 | [],_,_,_=>rfl
 | v::r,off,k,c=>by
   simp only [zipIdx_cons,foldl_cons,add_zero];rw [GZ r off (k+1),GZ r (off+k) (0+1)];simp [add_assoc]
theorem UM:∀ (vs:List Value) (off:Nat) (c:Array Value),off+vs.length<=c.size ->
 ((vs.zipIdx 0).foldl (fun cs (x:Value × Nat)=>cs.setIfInBounds (off+x.2) x.1) c).toList=c.toList.take off++vs++c.toList.drop (off+vs.length)
 | [],off,c,h=>by simp
 | v::r,off,c,h=>by
   simp only [length_cons] at h;simp only [zipIdx_cons,foldl_cons,add_zero];rw [GZ r off (0+1)];simp only [zero_add];rw [UM r (off+1) _ (by simp;omega)];have hlt:off < c.toList.length:=by simp;omega
   simp only [Array.toList_setIfInBounds];rw [set_eq_take_append_cons_drop,if_pos hlt];have hA:(c.toList.take off).length=off:=by simp;omega
   rw [take_append,drop_append,hA];have e1:(c.toList.take off).take (off+1)=c.toList.take off:=take_of_length_le (by omega);have e2:(c.toList.take off).drop (off+1+r.length)=[]:=drop_eq_nil_of_le (by omega);rw [e1,e2];rw [show off+1 - off=1 by omega,show off+1+r.length - off=r.length+1 by omega];simp only [take_succ_cons,take_zero,nil_append,drop_succ_cons,drop_drop,length_cons];rw [show off+1+r.length=off+(r.length+1) by omega];simp
theorem LG {cc:List Value} (hc:Zb g n cs cc) (hv:Zb g n vs cv) (off:Nat) :
 Zb g n (over cs off vs) (cc.take off++cv++cc.drop (off+cv.length)):=by
 unfold over;rw [hv.1];exact ((Zh.take off hc).append hv).append (Zh.drop _ hc)
theorem F0 {place cplace:Nat->Option (Nat × Nat)} (hp:∀ i p,place i=some p->cplace i=some p):∀ {l:List (Nat × AV)} {cl:List (Nat × Value)} {cs r:List AV} {cc:Array Value},
 YK place cs l=some r->Zh (fun (x:Nat × AV) (y:Nat × Value)=>x.1=y.1/\VRel g n x.2 y.2) l cl->Zb g n cs cc.toList ->
 ∃ cr,Instr.fill cplace cc cl=some cr/\Zb g n r cr.toList
 | [],cl,cs,r,cc,h,hl,hc=>by
   simp [YK] at h;subst h;rw [hl.nil_left];exact ⟨cc,rfl,hc⟩
 | (i,v)::l,cl,cs,r,cc,h,hl,hc=>by
   obtain ⟨⟨j,cv⟩,cl',rfl,⟨hij,hv⟩,hl'⟩:=hl.cons_left;simp at hij hv;subst hij;unfold YK at h;split at h
   . rename_i off k hpl
     split at h
     . rename_i hcond
       simp at hcond;obtain ⟨⟨h1,h2⟩,h3⟩:=hcond;have hcells:=hv.cells;have hlen:cv.cells.size=k:=by have:=hcells.1;simp at this;omega
       have hle:off+cv.cells.size<=cc.size:=by have:=hc.1;simp at this;omega
       obtain ⟨cr,h4,h5⟩:=F0 hp (cc:=(cv.cells.zipIdx.foldl (fun cs (c,j)=>cs.setIfInBounds (off+j) c) cc)) h hl' (by
        have:=LG hc hcells off;have e:=UM cv.cells.toList off cc (by simpa using hle);have e2:cv.cells.zipIdx.foldl (fun cs (x:Value × Nat)=>cs.setIfInBounds (off+x.2) x.1) cc=(cv.cells.toList.zipIdx 0).foldl (fun cs (x:Value × Nat)=>cs.setIfInBounds (off+x.2) x.1) cc:=by
         rw [<- Array.foldl_toList,Array.toList_zipIdx]
        show Zb g n _ (cv.cells.zipIdx.foldl (fun cs (x:Value × Nat)=>cs.setIfInBounds (off+x.2) x.1) cc).toList;rw [e2,e];exact this)
       refine ⟨cr, ?_,h5⟩;unfold Instr.fill;rw [hp i _ hpl];simp only [];rw [if_neg (by simp [hlen];omega)];exact h4
     . cases h
   . cases h
theorem LH {fs:Array Field} (hall:fs.all (fun f=>(Zf P f.type).isSome)=true) :
 (fs.mapM fun f=>do pure (f.offset,<- sizeOf f.type):Sem (Array (Nat × Nat))).run P w=.ok (fs.map fun f=>(f.offset,(Zf P f.type).getD 0)) w:=by
 have key:∀ (l:List Field),(∀ f ∈ l,(Zf P f.type).isSome=true)->(l.mapM fun f=>do pure (f.offset,<- sizeOf f.type):Sem (List (Nat × Nat))).run P w=.ok (l.map fun f=>(f.offset,(Zf P f.type).getD 0)) w:=by
  intro l
  induction l with
  | nil=>intro _;simp
  | cons f l ih =>
    intro h;obtain ⟨k,hk⟩:=isSome_iff_exists.1 (h f (by simp));have:=ih (fun f hf=>h f (by simp [hf]));simp only [mapM_cons,Sem.run_bind,Yw hk,Result.andThen_ok,Sem.run_pure,this];simp [hk]
 rw [Array.mapM_eq_mapM_toList];simp only [Sem.run_map];rw [key fs.toList (by
  intro f hf;have:=Array.all_eq_true'.1 hall f (by simpa using hf);exact this)]
 simp only [Result.andThen_ok];rw [<- Array.toList_map,Array.toArray_toList]
theorem LI {l:List (Nat × AV)} (h:YC P t l=some r) {cl:List (Nat × Value)} (hl:Zh (fun (x:Nat × AV) (y:Nat × Value)=>x.1=y.1/\VRel g n x.2 y.2) l cl) :
 ∃ cr,(Instr.build t cl.toArray).run P w=.ok cr w/\VRel g n r cr:=by
 unfold YC at h;split at h
 . rename_i z hz
   obtain ⟨cz,h1,h2,_⟩:=Jg (w:=w) hz;have hzc:=(h2 g n).cells;split at h
   . rename_i fs ht
     split at h
     . rename_i hall
       split at h
       . rename_i cs hf
         simp at h;subst h;obtain ⟨cr,h3,h4⟩:=F0 (cplace:=fun i=>(fs.map fun f=>(f.offset,(Zf P f.type).getD 0))[i]?) (fun i p hp=>by
          simp only [Array.getElem?_map];unfold GL at hp;cases hi:fs[i]? with
          | none=>simp [hi] at hp
          | some f=>simp [hi] at hp;simp [hp]) hf hl hzc
         refine ⟨.agg cr, ?_, ?_⟩
         . simp only [Instr.build,Sem.run_bind,h1,Result.andThen_ok,Zm ht,LH hall,h3,Sem.run_pure]
         . have:=VRel.aggOf h4;simpa using this
       . cases h
     . cases h
   . rename_i k e ht
     split at h
     . rename_i sz hsz
       split at h
       . rename_i cs hf
         simp at h;subst h;obtain ⟨cr,h3,h4⟩:=F0 (cplace:=fun i=>some (i * sz,sz)) (fun i p hp=>hp) hf hl hzc;refine ⟨.agg cr, ?_, ?_⟩
         . simp only [Instr.build,Sem.run_bind,h1,Result.andThen_ok,Zm ht,Yw hsz,h3,Sem.run_pure]
         . have:=VRel.aggOf h4;simpa using this
       . cases h
     . cases h
   . cases h
 . cases h
theorem F1 {α:Type} {f:α->Option Bool}:∀ {l:List α},QU f l=some true -> ∀ a ∈ l,f a=some true
 | [],_,_,h=>by simp at h
 | x::l,h,a,ha=>by
   unfold QU at h;split at h
   . rename_i hx
     rcases mem_cons.1 ha with rfl | ha
     . exact hx
     . exact F1 h a ha
   . simp at h
   . cases h
theorem Ak:∀ (d' d:Nat) (t:TypeId) (x y:AV) (cx:Value) (empty:Bool),d<=d'->Y5 P d t x y=some true->VRel g n x cx ->
 (Instr.checkKey empty d' t cx).run P w=.ok () w:=by
 intro d'
 induction d' with
 | zero=>intro d t x y cx empty hd h;have:d=0:=by omega
         subst this;simp [Y5] at h
 | succ d' ih =>
   intro d t x y cx empty hd h hx;cases d with
   | zero=>simp [Y5] at h
   | succ d =>
     unfold Y5 at h;split at h
     . rename_i ht;cases hx;simp [Instr.checkKey,Zm ht]
     . rename_i ht;cases hx;simp [Instr.checkKey,Zm ht]
     . rename_i ht;cases hx;simp [Instr.checkKey,Zm ht]
     . rename_i fs xs ys ht
       obtain ⟨vx,rfl,hvx⟩:=hx.inv_agg;cases hs:P.stoodInHeld t with
       | true=>simp [hs] at h
       | false =>
         simp only [hs,cond] at h;have hall:=F1 h;clear h;simp only [Instr.checkKey,Sem.run_bind,Zm ht,Result.andThen_ok];rw [<- Array.forIn_toList];generalize fs.toList=l at hall
         induction l with
         | nil=>simp
         | cons f l ihl =>
           have hf:=hall f (by simp);have ihl':=ihl fun a ha=>hall a (by simp [ha])
           by_cases hn:f.name ≠ "_"
           . rw [if_pos hn] at hf;split at hf
             . rename_i a b ha hb
               obtain ⟨ca,h1,h2⟩:=JR (w:=w) ha hvx;have h3:=ih d f.type a b ca empty (by omega) hf h2;simp only [forIn_cons,Sem.run_bind,if_pos hn,h1,Result.andThen_ok,h3,Sem.run_pure];exact ihl'
             . cases hf
           . rw [if_neg hn] at hf;cases hf
     . rename_i len e xs ys ht
       obtain ⟨vx,rfl,hvx⟩:=hx.inv_agg;split at h
       . rename_i sz hsz
         have hall:=F1 h;clear h;simp only [Instr.checkKey,Sem.run_bind,Zm ht,Result.andThen_ok];rw [Std.Legacy.Range.forIn_eq_forIn_range'];simp only [Std.Legacy.Range.size,sub_zero,add_sub_cancel,div_one];rw [show List.range' 0 len 1=List.range len from by rw [range_eq_range']]
         generalize List.range len=l at hall
         induction l with
         | nil=>simp
         | cons i l ihl =>
           have hf:=hall i (by simp);have ihl':=ihl fun a ha=>hall a (by simp [ha])
           split at hf
           . rename_i a b ha hb
             obtain ⟨ca,h1,h2⟩:=JR (w:=w) ha hvx;have h3:=ih d e a b ca empty (by omega) hf h2;simp only [forIn_cons,Sem.run_bind,Yw hsz,Result.andThen_ok,h1,h3,Sem.run_pure];exact ihl'
           . cases hf
       . cases h
     . cases h
def VL (g:Gh) (n:Nat):Option (Nat × AV × AV)->Option (Nat × Value)->Prop
 | none,none=>True
 | some (i,_,v),some (j,cv)=>i=j/\VRel g n v cv
 | _,_=>False
abbrev Kv (g:Gh) (n:Nat) (p:AV × AV) (m:MapEntry):Prop:=VRel g n p.1 m.key/\VRel g n p.2 m.val
theorem Al {kt:TypeId} {k:AV} {ck:Value} (hk:VRel g n k ck):∀ {es:List (AV × AV)} {ents:List MapEntry} {i:Nat} {r:Option (Nat × AV × AV)},
 X6 P kt k es i=some r->Zh (Kv g n) es ents -> ∃ cr,(Instr.findAsking kt ck ents i).run P w=.ok cr w/\VL g n r cr
 | [],ents,i,r,h,he=>by
   simp [X6] at h;subst h;rw [he.nil_left];exact ⟨none,by simp [Instr.findAsking],trivial⟩
 | (k',v)::es,ents,i,r,h,he=>by
   obtain ⟨m,ents',rfl,⟨h1,h2⟩,he'⟩:=he.cons_left;unfold X6 at h;split at h
   . rename_i hq
     simp at h;subst h;refine ⟨some (i,m.val), ?_,rfl,h2⟩;simp [Instr.findAsking,Op.equal,Op.maxDepth,GV (P:=P) (w:=w) 10000 100 kt k k' ck m.key true (by omega) hq hk h1]
   . rename_i hq
     obtain ⟨cr,h3,h4⟩:=Al hk h he';refine ⟨cr, ?_,h4⟩;simp [Instr.findAsking,Op.equal,Op.maxDepth,GV (P:=P) (w:=w) 10000 100 kt k k' ck m.key false (by omega) hq hk h1,h3]
   . cases h
theorem Am {kt:TypeId} {d:TypeDesc} (hd:P.underlying kt=some d) {k:AV} {ck:Value} (hk:VRel g n k ck) (hb:d=.bool\/(∃ i,d=.int i)\/d=.string) :
 ∀ {es:List (AV × AV)} {ents:List MapEntry} {i:Nat} {r:Option (Nat × AV × AV)},
 X6 P kt k es i=some r->Zh (Kv g n) es ents -> ∃ cr,Instr.findNow d ck ents i=some cr/\VL g n r cr
 | [],ents,i,r,h,he=>by
   simp [X6] at h;subst h;rw [he.nil_left];exact ⟨none,rfl,trivial⟩
 | (k',v)::es,ents,i,r,h,he=>by
   obtain ⟨m,ents',rfl,⟨h1,h2⟩,he'⟩:=he.cons_left;simp at h1 h2;have key:∀ b,Y5 P 100 kt k k'=some b->Instr.sameNow d ck m.key=some b:=by
    intro b hq;unfold Y5 at hq;rw [hd] at hq;rcases hb with rfl | ⟨i,rfl⟩ | rfl
    . split at hq<;>rename_i hh<;>try (simp at hh;done)
      . simp at hq;subst hq;generalize m.key=ck' at h1;cases hk;cases h1;rfl
      . cases hq
    . split at hq<;>rename_i hh<;>try (simp at hh;done)
      . rename_i k1 a1 l1 b1
        generalize m.key=ck' at h1;cases hk;cases h1;cases hkk:Nat.beq (X5 k1) (X5 l1) with
        | false=>simp [hkk] at hq
        | true =>
          have:=UJ hkk;subst this;simp only [hkk,cond,Option.some.injEq] at hq;subst hq;simp [Instr.sameNow,VJ]
      . cases hq
    . split at hq<;>rename_i hh<;>try (simp at hh;done)
      . simp at hq;subst hq;generalize m.key=ck' at h1;cases hk with
        | str e1=>cases h1 with
          | str e2=>simp only [Instr.sameNow];rw [JP,<- e1,<- e2,beq_toListBytes,GU]
      . cases hq
   unfold X6 at h;split at h
   . rename_i hq
     simp at h;subst h;exact ⟨some (i,m.val),by simp [Instr.findNow,key true hq],rfl,h2⟩
   . rename_i hq
     obtain ⟨cr,h3,h4⟩:=Am hd hk hb h he';exact ⟨cr,by simp [Instr.findNow,key false hq,h3],h4⟩
   . cases h
theorem UN {k:AV} (hk:VRel g n k ck) {es:List (AV × AV)} {ents:List MapEntry} {r:Option (Nat × AV × AV)}
 (h:X6 P kt k es 0=some r) (he:Zh (Kv g n) es ents) (hok:Y5 P 100 kt k k=some true):∃ cr,(Instr.findKey kt ck ents).run P w=.ok cr w/\VL g n r cr:=by
 obtain ⟨cr2,h3,h4⟩:=Al (w:=w) hk h he;have hok':=hok;unfold Y5 at hok';cases hd:P.underlying kt with
 | none=>simp [hd] at hok'
 | some d =>
   rw [hd] at hok';have plain:(d=.bool\/(∃ i,d=.int i)\/d=.string) -> ∃ cr,(Instr.findKey kt ck ents).run P w=.ok cr w/\VL g n r cr:=fun hb=>by
    obtain ⟨cr,h1,h2⟩:=Am hd hk hb h he;exact ⟨cr,by simp [Instr.findKey,Zm hd,h1],h2⟩
   have asks:(∀ a b,Instr.sameNow d a b=none) -> ∃ cr,(Instr.findKey kt ck ents).run P w=.ok cr w/\VL g n r cr:=fun hno=>by
    cases ents with
    | nil =>
      have:=he.nil_right;subst this;simp [X6] at h;subst h;exact ⟨none,by simp [Instr.findKey,Zm hd,Instr.findNow],trivial⟩
    | cons m ents=>exact ⟨cr2,by simp [Instr.findKey,Zm hd,Instr.findNow,hno,h3],h4⟩
   cases d<;>first
    | exact plain (.inl rfl)
    | exact plain (.inr (.inl ⟨_,rfl⟩))
    | exact plain (.inr (.inr rfl))
    | exact asks fun a b=>by cases a<;>cases b<;>rfl
theorem An {k:AV} (h:KZ P kt k=true):Y5 P 100 kt k k=some true:=by
 unfold KZ at h;simp only [and_eq_true] at h;have:=h.2;split at this
 . assumption
 . cases this
theorem LJ (hR:Rel C g H w) {m k:AV} {ok:Bool} (h:JG P H t m k ok=some r) (hm:VRel g H.n m cm) (hk:VRel g H.n k ck) :
 ∃ cr,(Instr.lookup t cm ck ok).run P w=.ok cr w/\VRel g H.n r cr:=by
 unfold JG at h;split at h
 . rename_i kt et ht
   split at h
   . rename_i hok
     have hok':=An hok;split at h
     . rename_i z es hz hes
       obtain ⟨cz,hz1,hz2,_⟩:=Jg (w:=w) hz;have hent:∃ ents:Array MapEntry,((cm=.map none/\ents = #[]) \/ ∃ b clk,cm=.map (some b)/\w.heap[b]? = some (.map ents clk))/\Zh (Kv g H.n) es ents.toList:=by
        unfold UC at hes;split at hes
        . simp at hes;subst hes;cases hm;exact ⟨#[],.inl ⟨rfl,rfl⟩,.nil⟩
        . rename_i id
          split at hes
          . rename_i es' he
            simp at hes;subst hes;cases hm with
            | map hid =>
              obtain ⟨ents,clk,hb,hall⟩:=UL hR he hid;exact ⟨ents,.inr ⟨_,clk,rfl,hb⟩,hall⟩
          . cases hes
        . cases hes
       obtain ⟨ents,hrun,hall⟩:=hent;have hchk:=Ak (P:=P) (w:=w) 10000 100 kt k k ck ents.isEmpty (by omega) hok' hk;split at h
       . rename_i i kk v hf
         simp at h;subst h;obtain ⟨cr,h1,h2⟩:=UN (w:=w) hk hf hall hok';cases cr with
         | none=>exact h2.elim
         | some p =>
           obtain ⟨j,cv⟩:=p;obtain ⟨_,hv⟩:=h2;cases ok with
           | true =>
             refine ⟨.tuple #[cv,.bool true], ?_,VRel.tupOf (vs:=[cv,.bool true]) (.cons hv (.cons (.bool true) .nil))⟩;rcases hrun with ⟨rfl,rfl⟩ | ⟨b,clk,rfl,hb⟩
             . simp at hchk h1;simp [Instr.lookup,Zm ht,hchk,h1]
             . simp [Instr.lookup,Zm ht,getObj,Sem.run,hb,hchk,h1]
           | false =>
             refine ⟨cv, ?_,hv⟩;rcases hrun with ⟨rfl,rfl⟩ | ⟨b,clk,rfl,hb⟩
             . simp at hchk h1;simp [Instr.lookup,Zm ht,hchk,h1]
             . simp [Instr.lookup,Zm ht,getObj,Sem.run,hb,hchk,h1]
       . rename_i hf
         simp at h;subst h;obtain ⟨cr,h1,h2⟩:=UN (w:=w) hk hf hall hok';cases cr with
         | some p=>exact h2.elim
         | none =>
           cases ok with
           | true =>
             refine ⟨.tuple #[cz,.bool false], ?_,VRel.tupOf (vs:=[cz,.bool false]) (.cons (hz2 _ _) (.cons (.bool false) .nil))⟩;rcases hrun with ⟨rfl,rfl⟩ | ⟨b,clk,rfl,hb⟩
             . simp at hchk h1;simp [Instr.lookup,Zm ht,hchk,h1,hz1]
             . simp [Instr.lookup,Zm ht,getObj,Sem.run,hb,hchk,h1,hz1]
           | false =>
             refine ⟨cz, ?_,hz2 _ _⟩;rcases hrun with ⟨rfl,rfl⟩ | ⟨b,clk,rfl,hb⟩
             . simp at hchk h1;simp [Instr.lookup,Zm ht,hchk,h1,hz1]
             . simp [Instr.lookup,Zm ht,getObj,Sem.run,hb,hchk,h1,hz1]
       . cases h
     . cases h
   . cases h
 . cases h
theorem Jj {b:ABlk} (h:b.live=false):b=.dead:=by
 cases b<;>simp [ABlk.live] at h;rfl
theorem Ao {w:World} {a:Addr} (h:w'.heap[a.block]? = w.heap[a.block]?):w'.frozen? a=w.frozen? a:=by
 unfold World.frozen?;rw [h]
theorem QY {w:World} {a:Addr} (h:w'.heap[a.block]? = w.heap[a.block]?):w'.cell? a=w.cell? a:=by
 unfold World.cell?;rw [h]
theorem X7.mono {g:Gh} {n:Nat} {w:World} (h:X7 g n w l cs) (hn:n<=n') (hg:Gh.le n g g') (hw:w'.heap[l.b]? = w.heap[l.b]?):X7 g' n' w' l cs:=by
 obtain ⟨⟨c,e,fz,h1,h2,h3⟩,h4⟩:=h;exact ⟨⟨c,e,fz,hw.trans h1,fun i a hi=>let ⟨v,hv,hr⟩:=h2 i a hi;⟨v,hv,hr.mono hn hg⟩,h3⟩,fun x hx=>(Ao hw).trans (h4 x hx)⟩
theorem Yj.mono {g:Gh} {n:Nat} {w:World} {b:ABlk} (h:Yj C g n w l b) (hn:n<=n') (hg:Gh.le n g g') (hw:w'.heap[l.b]? = w.heap[l.b]?):Yj C g' n' w' l b:=by
 cases b with
 | dead=>trivial
 | cells cs e=>exact ⟨X7.mono h.1 hn hg hw,let ⟨c,fz,h1,h2⟩:=h.2;⟨c,fz,hw.trans h1,h2⟩⟩
 | row cs sz e=>exact ⟨X7.mono h.1 hn hg hw,let ⟨c,fz,h1,h2⟩:=h.2;⟨c,fz,hw.trans h1,h2⟩⟩
 | map es =>
   obtain ⟨ents,clk,h1,h2⟩:=h;exact ⟨ents,clk,hw.trans h1,Zh.mono h2 fun p m r=>⟨r.1.mono hn hg,r.2.mono hn hg⟩⟩
 | loop r =>
   obtain ⟨c,h1,h2,h4,h5,h6,h7,h8,h9,h10,h11,h12,h13,h14⟩:=h;exact ⟨c,hw.trans h1,h2,h4,h5.mono hn hg,h6,h7,h8,by rw [hg.L _ h10];exact h9,lt_of_lt_of_le h10 hn,h11,h12,h13,h14⟩
 | defr=>exact hw.trans h
 | sit s pos=>exact let ⟨h0,bs,h1,h2⟩:=h;⟨h0,bs,hw.trans h1,h2⟩
theorem JT (hR:Rel C g H w) (h:g.K b o=some v):b < w.heap.size :=
 World.block_lt_of_cell? w ⟨b,o,none⟩ (hR.know b o v h)
theorem Rel.congr (hR:Rel C g H w) (h:w'.heap=w.heap):Rel C g H w' where
 blk:=fun id hid=>(hR.blk id hid).mono (Nat.le_refl _) (.refl _ _) (by rw [h])
 out:=hR.out
 lt:=fun id hid hl=>by rw [h];exact hR.lt id hid hl
 inj:=hR.inj
 know:=fun b o v hk=>(QY (by rw [h])).trans (hR.know b o v hk)
 apart:=hR.apart
 glob:=hR.glob
 gsz:=fun x cs hx=>by rw [h];exact hR.gsz x cs hx
theorem Ext.ofHeap (h:w'.heap=w.heap) (h1:w'.os=w.os) (h2:w'.output=w.output) (h3:w'.tape=w.tape):Ext lo g H w g H w' :=
 ⟨.refl _ _,Nat.le_refl _,fun _ _ _=>rfl,fun _ h=>.inl h,fun _ _ _ h=>.inl h,fun _ _ _=>by rw [h],by rw [h];exact Nat.le_refl _,h1,h2,h3⟩
def Gh.fresh (g:Gh) (n b base e:Nat) (Kn:Nat->Option Value):Gh :=
 ⟨fun id=>if id=n then ⟨b,base,e⟩ else g.L id,fun b' o=>if b'=b then Kn o else g.K b' o⟩
theorem UO (hR:Rel C g H w) (base e:Nat) (Kn:Nat->Option Value):Gh.le H.n g (g.fresh H.n w.heap.size base e Kn) :=
 ⟨fun id hid=>by simp only [Gh.fresh];rw [if_neg (ne_of_lt hid)],fun b o v hk=>by
   have:=JT hR hk;simp only [Gh.fresh];rw [if_neg (ne_of_lt this)];exact hk⟩
theorem JH {o:Obj} (h:b < w.heap.size):(w.alloc o).heap[b]? = w.heap[b]?:=by
 show (w.heap.push o)[b]? = w.heap[b]?;rw [Array.getElem?_push];rw [if_neg (by omega)]
theorem Qv {o:Obj}:(w.alloc o).heap[w.heap.size]? = some o:=by
 show (w.heap.push o)[w.heap.size]? = some o;simp
theorem Rel.push (hR:Rel C g H w) (lo:Nat) (o:Obj) (b:ABlk) (base e:Nat) (Kn:Nat→Option Value)
 (hK:∀ i v,Kn i=some v→(w.alloc o).cell? ⟨w.heap.size,i,none⟩=some v∧i < base) (hl:b.live=true)
 (hb:Yj C (g.fresh H.n w.heap.size base e Kn) (H.n+1) (w.alloc o) ⟨w.heap.size,base,e⟩ b) :
 Rel C (g.fresh H.n w.heap.size base e Kn) (H.push b) (w.alloc o)∧Ext lo g H w (g.fresh H.n w.heap.size base e Kn) (H.push b) (w.alloc o):=by
 have hle:=UO hR base e Kn;have hL:∀ id,id < H.n→(g.fresh H.n w.heap.size base e Kn).L id=g.L id:=hle.L;have hLn:(g.fresh H.n w.heap.size base e Kn).L H.n=⟨w.heap.size,base,e⟩:=by simp [Gh.fresh]
 have hget:∀ id,id < H.n→(H.push b).get id=H.get id:=fun id hid=>by rw [Heap.get_push,if_neg (ne_of_lt hid)]
 have hgetn:(H.push b).get H.n=b:=by rw [Heap.get_push,if_pos rfl]
 refine Kt (fun hE=>⟨?_, ?_, ?_, ?_, ?_, ?_, ?_,hR.gsz_ext hE⟩) ?_
 · intro id hid;simp only [Heap.n_push] at hid ⊢;rcases lt_or_ge id H.n with h | h
   · rw [hget id h,hL id h];cases hlv:(H.get id).live with
     | true=>exact (hR.blk id h).mono (by omega) hle (JH (hR.lt id h hlv))
     | false =>
       have:H.get id=.dead:=Jj hlv;rw [this];trivial
   · have:id=H.n:=by omega
     subst this;rw [hgetn,hLn];exact hb
 · intro id hid;simp only [Heap.n_push] at hid;rw [Heap.get_push,if_neg (by omega)];exact hR.out id (by omega)
 · intro id hid hlv;simp only [Heap.n_push] at hid;simp only [World.size_alloc];rcases lt_or_ge id H.n with h | h
   · rw [hget id h] at hlv;rw [hL id h];have:=hR.lt id h hlv;omega
   · have:id=H.n:=by omega
     subst this;rw [hLn];simp
 · intro i j hi hj hli hlj hne;simp only [Heap.n_push] at hi hj;rcases lt_or_ge i H.n with h | h<;>rcases lt_or_ge j H.n with h' | h'
   · rw [hget i h] at hli;rw [hget j h'] at hlj;rw [hL i h,hL j h'];exact hR.inj i j h h' hli hlj hne
   · have:j=H.n:=by omega
     subst this;rw [hget i h] at hli;rw [hL i h,hLn];have:=hR.lt i h hli;simp;omega
   · have:i=H.n:=by omega
     subst this;rw [hget j h'] at hlj;rw [hL j h',hLn];have:=hR.lt j h' hlj;simp;omega
   · omega
 · intro b' o' v hk;simp only [Gh.fresh] at hk;split at hk
   · rename_i e';subst e';exact (hK o' v hk).1
   · exact (QY (JH (JT hR hk))).trans (hR.know b' o' v hk)
 · intro id hid hlv o' v hk;simp only [Heap.n_push] at hid;rcases lt_or_ge id H.n with h | h
   · rw [hget id h] at hlv;rw [hL id h] at hk ⊢;simp only [Gh.fresh] at hk;rw [if_neg (ne_of_lt (hR.lt id h hlv))] at hk;exact hR.apart id h hlv o' v hk
   · have:id=H.n:=by omega
     subst this;rw [hLn] at hk ⊢;simp only [Gh.fresh,if_true] at hk;exact (hK o' v hk).2
 · intro x cs hx;obtain ⟨vals,h1,h2⟩:=hR.glob x cs hx;exact ⟨vals,h1.mono (Nat.le_refl _) (hle.mono (zero_le _)),fun i v hi=>hle.K _ _ _ (h2 i v hi)⟩
 · refine ⟨hle,by simp,fun id hid _=>hget id hid, ?_, ?_,fun b' hb' _=>JH hb',by simp,rfl,rfl,rfl⟩
   · rintro b' ⟨id,hid,hlv,rfl⟩;simp only [Heap.n_push] at hid;rcases lt_or_ge id H.n with h | h
     · rw [hget id h] at hlv;exact .inl ⟨id,h,hlv,(congrArg Loc.b (hL id h)).symm⟩
     · have:id=H.n:=by omega
       subst this;rw [hLn];exact .inr (Nat.le_refl _)
   · intro b' o' v hk;simp only [Gh.fresh] at hk;split at hk
     · rename_i e';exact .inr (.inr (le_of_eq e'.symm))
     · exact .inl hk
theorem Rel.learn (hR:Rel C g H w) (lo:Nat) (o:Obj) (Kn:Nat->Option Value) (hK:∀ i v,Kn i=some v->(w.alloc o).cell? ⟨w.heap.size,i,none⟩=some v) :
 Rel C { g with K:=fun b' o=>if b'=w.heap.size then Kn o else g.K b' o } H (w.alloc o) /\
 Ext lo g H w { g with K:=fun b' o=>if b'=w.heap.size then Kn o else g.K b' o } H (w.alloc o):=by
 have hle:Gh.le H.n g { g with K:=fun b' o=>if b'=w.heap.size then Kn o else g.K b' o } :=
  ⟨fun _ _=>rfl,fun b o v hk=>by
    have:=JT hR hk;simp only [];rw [if_neg (ne_of_lt this)];exact hk⟩
 refine Kt (fun hE=>⟨?_,hR.out, ?_,hR.inj, ?_, ?_, ?_,hR.gsz_ext hE⟩) ?_
 . intro id hid;cases hlv:(H.get id).live with
   | true=>exact (hR.blk id hid).mono (Nat.le_refl _) hle (JH (hR.lt id hid hlv))
   | false =>
     have:H.get id=.dead:=Jj hlv;rw [this];trivial
 . intro id hid hlv;have:=hR.lt id hid hlv;simp only [World.size_alloc];omega
 . intro b' o' v hk;simp only [] at hk;split at hk
   . rename_i e';subst e';exact hK o' v hk
   . exact (QY (JH (JT hR hk))).trans (hR.know b' o' v hk)
 . intro id hid hlv o' v hk;simp only [] at hk;rw [if_neg (ne_of_lt (hR.lt id hid hlv))] at hk;exact hR.apart id hid hlv o' v hk
 . intro x cs hx;obtain ⟨vals,h1,h2⟩:=hR.glob x cs hx;exact ⟨vals,h1.mono (Nat.le_refl _) (hle.mono (zero_le _)),fun i v hi=>hle.K _ _ _ (h2 i v hi)⟩
 . refine ⟨hle,Nat.le_refl _,fun _ _ _=>rfl,fun b' h=>.inl h, ?_,fun b' hb' _=>JH hb',by simp,rfl,rfl,rfl⟩;intro b' o' v hk;simp only [] at hk;split at hk
   . rename_i e';exact .inr (.inr (le_of_eq e'.symm))
   . exact .inl hk
theorem Rel.upd (hR:Rel C g H w) (hlo:lo≤id) (hid:id < H.n) (hl:(H.get id).live=true)
 (hw:∀ b,b ≠ (g.L id).b→w'.heap[b]? = w.heap[b]?) (hs:w'.heap.size=w.heap.size) (h1:w'.os=w.os) (h2:w'.output=w.output) (h3:w'.tape=w.tape)
 (hb:Yj C g H.n w' (g.L id) b') (hk:∀ o v,g.K (g.L id).b o=some v→w'.cell? ⟨(g.L id).b,o,none⟩=some v) :
 Rel C g (H.set id b') w'∧Ext lo g H w g (H.set id b') w':=by
 have hget:∀ j,j ≠ id→(H.set id b').get j=H.get j:=fun j hj=>by rw [Heap.get_set,if_neg hj]
 have hgeti:(H.set id b').get id=b':=by rw [Heap.get_set,if_pos rfl]
 have hlive:∀ j,((H.set id b').get j).live=true→(H.get j).live=true:=fun j hj=>by
  by_cases e:j=id
  · subst e;exact hl
  · rwa [hget j e] at hj
 refine Kt (fun hE=>⟨?_, ?_, ?_, ?_, ?_, ?_,hR.glob,hR.gsz_ext hE⟩) ?_
 · intro j hj;simp only [Heap.n_set] at hj ⊢;by_cases e:j=id
   · subst e;rw [hgeti];exact hb
   · rw [hget j e];cases hlv:(H.get j).live with
     | true=>exact (hR.blk j hj).mono (Nat.le_refl _) (.refl _ _) (hw _ (hR.inj j id hj hid hlv hl e))
     | false =>
       have:H.get j=.dead:=Jj hlv;rw [this];trivial
 · intro j hj;simp only [Heap.n_set] at hj;rw [hget j (by omega)];exact hR.out j hj
 · intro j hj hlv;rw [hs];exact hR.lt j hj (hlive j hlv)
 · intro i j hi hj hli hlj hne;exact hR.inj i j hi hj (hlive i hli) (hlive j hlj) hne
 · intro b o v hkk;by_cases e:b=(g.L id).b
   · subst e;exact hk o v hkk
   · exact (QY (hw b e)).trans (hR.know b o v hkk)
 · intro j hj hlv o v hkk;exact hR.apart j hj (hlive j hlv) o v hkk
 · refine ⟨.refl _ _,by simp,fun j _ hj2=>hget j (by omega), ?_,fun _ _ _ h=>.inl h, ?_,by omega,h1,h2,h3⟩
   · rintro b ⟨j,hj,hlv,rfl⟩;exact .inl ⟨j,hj,hlive j hlv,rfl⟩
   · intro b _ hno;exact hw b fun e=>hno ⟨id,hid,hl,e.symm⟩
theorem Rel.kill (hR:Rel C g H w) (hlo:lo<=id) (hid:id < H.n):Rel C g (H.set id .dead) w/\Ext lo g H w g (H.set id .dead) w:=by
 cases hl:(H.get id).live with
 | true=>exact hR.upd hlo hid hl (fun _ _=>rfl) rfl rfl rfl rfl trivial fun o v hk=>hR.know _ _ _ hk
 | false =>
   have hd:H.get id=.dead:=Jj hl;have hget:∀ j,(H.set id .dead).get j=H.get j:=fun j=>by
    rw [Heap.get_set];split
    . rename_i e;subst e;exact hd.symm
    . rfl
   refine Kt (fun hE=>⟨fun j hj=>by rw [hget];exact hR.blk j hj,fun j hj=>by rw [hget];exact hR.out j hj,fun j hj h=>hR.lt j hj (by rwa [hget] at h),fun i j hi hj h h'=>hR.inj i j hi hj (by rwa [hget] at h) (by rwa [hget] at h'),hR.know,fun j hj h=>hR.apart j hj (by rwa [hget] at h),hR.glob,hR.gsz_ext hE⟩) ?_;exact ⟨.refl _ _,by simp,fun j _ _=>hget j,fun b ⟨j,hj,h,e⟩=>.inl ⟨j,hj,by rwa [hget] at h,e⟩,fun _ _ _ h=>.inl h,fun _ _ _=>rfl,Nat.le_refl _,rfl,rfl,rfl⟩
theorem Rel.move (hR:Rel C g H w) (hlo:lo≤k) (hk:k < H.n) (hl:(H.get k).live=true) (hl':b'.live=true) (base:Nat) (Kn:Nat→Option Value)
 (hw:∀ b,b ≠ (g.L k).b→w'.heap[b]? = w.heap[b]?) (hs:w'.heap.size=w.heap.size) (h1:w'.os=w.os) (h2:w'.output=w.output) (h3:w'.tape=w.tape)
 (hKn:∀ o v,Kn o=some v→w'.cell? ⟨(g.L k).b,o,none⟩=some v∧o < base) (hKo:∀ o v,g.K (g.L k).b o=some v→Kn o=some v)
 (hb:Yj C (g.fresh H.n (g.L k).b base (g.L k).e Kn) (H.n+1) w' ⟨(g.L k).b,base,(g.L k).e⟩ b') :
 Rel C (g.fresh H.n (g.L k).b base (g.L k).e Kn) ((H.set k .dead).push b') w'∧Ext lo g H w (g.fresh H.n (g.L k).b base (g.L k).e Kn) ((H.set k .dead).push b') w':=by
 have hle:Gh.le H.n g (g.fresh H.n (g.L k).b base (g.L k).e Kn) :=
  ⟨fun id hid=>by simp only [Gh.fresh];rw [if_neg (ne_of_lt hid)],fun b o v hkk=>by
    simp only [Gh.fresh];split
    · rename_i e;subst e;exact hKo o v hkk
    · exact hkk⟩
 have hL:=hle.L;have hLn:(g.fresh H.n (g.L k).b base (g.L k).e Kn).L H.n=⟨(g.L k).b,base,(g.L k).e⟩:=by simp [Gh.fresh]
 have hget:∀ id,id < H.n→id ≠ k→((H.set k .dead).push b').get id=H.get id:=fun id hid hne=>by
  rw [Heap.get_push,Heap.n_set,if_neg (ne_of_lt hid),Heap.get_set,if_neg hne]
 have hgetk:((H.set k .dead).push b').get k=.dead:=by
  rw [Heap.get_push,Heap.n_set,if_neg (ne_of_lt hk),Heap.get_set,if_pos rfl]
 have hgetn:((H.set k .dead).push b').get H.n=b':=by rw [Heap.get_push,Heap.n_set,if_pos rfl]
 have hother:∀ id,id < H.n→id ≠ k→(H.get id).live=true→(g.L id).b ≠ (g.L k).b:=fun id hid hne hlv=>hR.inj id k hid hk hlv hl hne
 refine Kt (fun hE=>⟨?_, ?_, ?_, ?_, ?_, ?_, ?_,hR.gsz_ext hE⟩) ?_
 · intro id hid;simp only [Heap.n_push,Heap.n_set] at hid ⊢;rcases lt_or_ge id H.n with h | h
   · by_cases e:id=k
     · subst e;rw [hgetk];trivial
     · rw [hget id h e,hL id h];cases hlv:(H.get id).live with
       | true=>exact (hR.blk id h).mono (by omega) hle (hw _ (hother id h e hlv))
       | false =>
         have:H.get id=.dead:=Jj hlv;rw [this];trivial
   · have:id=H.n:=by omega
     subst this;rw [hgetn,hLn];exact hb
 · intro id hid;simp only [Heap.n_push,Heap.n_set] at hid;rw [Heap.get_push,Heap.n_set,if_neg (by omega),Heap.get_set,if_neg (by omega)];exact hR.out id (by omega)
 · intro id hid hlv;simp only [Heap.n_push,Heap.n_set] at hid;rw [hs];rcases lt_or_ge id H.n with h | h
   · by_cases e:id=k
     · subst e;rw [hgetk] at hlv;simp [ABlk.live] at hlv
     · rw [hget id h e] at hlv;rw [hL id h];exact hR.lt id h hlv
   · have:id=H.n:=by omega
     subst this;rw [hLn];exact hR.lt k hk hl
 · intro i j hi hj hli hlj hne;simp only [Heap.n_push,Heap.n_set] at hi hj;have side:∀ id,id < H.n→(((H.set k .dead).push b').get id).live=true→id ≠ k∧(H.get id).live=true:=fun id h hlv=>by
    by_cases e:id=k
    · subst e;rw [hgetk] at hlv;simp [ABlk.live] at hlv
    · rw [hget id h e] at hlv;exact ⟨e,hlv⟩
   rcases lt_or_ge i H.n with h | h<;>rcases lt_or_ge j H.n with h' | h'
   · rw [hL i h,hL j h'];exact hR.inj i j h h' (side i h hli).2 (side j h' hlj).2 hne
   · have:j=H.n:=by omega
     subst this;rw [hL i h,hLn];exact hother i h (side i h hli).1 (side i h hli).2
   · have:i=H.n:=by omega
     subst this;rw [hL j h',hLn];exact Ne.symm (hother j h' (side j h' hlj).1 (side j h' hlj).2)
   · omega
 · intro b o v hkk;simp only [Gh.fresh] at hkk;split at hkk
   · rename_i e;subst e;exact (hKn o v hkk).1
   · rename_i e;exact (QY (hw b e)).trans (hR.know b o v hkk)
 · intro id hid hlv o v hkk;simp only [Heap.n_push,Heap.n_set] at hid;rcases lt_or_ge id H.n with h | h
   · by_cases e:id=k
     · subst e;rw [hgetk] at hlv;simp [ABlk.live] at hlv
     · rw [hget id h e] at hlv;rw [hL id h] at hkk ⊢;simp only [Gh.fresh] at hkk;rw [if_neg (hother id h e hlv)] at hkk;exact hR.apart id h hlv o v hkk
   · have:id=H.n:=by omega
     subst this;rw [hLn] at hkk ⊢;simp only [Gh.fresh,if_true] at hkk;exact (hKn o v hkk).2
 · intro x cs hx;obtain ⟨vals,h4,h5⟩:=hR.glob x cs hx;exact ⟨vals,h4.mono (Nat.le_refl _) (hle.mono (zero_le _)),fun i v hi=>hle.K _ _ _ (h5 i v hi)⟩
 · refine ⟨hle,by simp,fun id hid hid2=>hget id hid (by omega), ?_, ?_, ?_,by omega,h1,h2,h3⟩
   · rintro b ⟨id,hid,hlv,rfl⟩;simp only [Heap.n_push,Heap.n_set] at hid;rcases lt_or_ge id H.n with h | h
     · by_cases e:id=k
       · subst e;rw [hgetk] at hlv;simp [ABlk.live] at hlv
       · rw [hget id h e] at hlv;exact .inl ⟨id,h,hlv,(congrArg Loc.b (hL id h)).symm⟩
     · have:id=H.n:=by omega
       subst this;rw [hLn];exact .inl ⟨k,hk,hl,rfl⟩
   · intro b o v hkk;simp only [Gh.fresh] at hkk;split at hkk
     · rename_i e;exact .inr (.inl ⟨k,hk,hl,e.symm⟩)
     · exact .inl hkk
   · intro b _ hno;exact hw b fun e=>hno ⟨k,hk,hl,e.symm⟩
def ZI (C:Cfg) (lo:Nat) (g:Gh) (H:Heap) (w:World) (v:AV) (H':Heap) (cv:Value) (w':World):Prop :=
 ∃ g',Rel C g' H' w'/\Ext lo g H w g' H' w'/\VRel g' H'.n v cv
theorem ZI.same (hR:Rel C g H w) {v:AV} {cv:Value} (hv:VRel g H.n v cv):ZI C lo g H w v H cv w:=⟨g,hR,.refl _ _ _ _,hv⟩
theorem F2 {c:Array Value} (x:Nat):(w.alloc (.cells c e)).frozen? ⟨w.heap.size,x,none⟩=false:=by
 unfold World.frozen?;simp only [Qv];simp
theorem Ap {vs:List Value} (hv:Zb g' n' cs vs) (pre post:List Value) (hp:pre.length=k) (e e':Nat) :
 X7 g' n' (w.alloc (.cells (pre++vs++post).toArray e)) ⟨w.heap.size,k,e'⟩ cs:=by
 refine ⟨⟨_,e,(0,0),Qv,fun i a hi => ?_, ?_⟩,fun x _=>F2 x⟩
 . obtain ⟨v,h1,h2⟩:=Zh.get hv hi;refine ⟨v, ?_,h2⟩;have hlt:=(List.getElem?_eq_some_iff.1 h1).1;simp only [getElem?_toArray];rw [append_assoc,getElem?_append_right (by omega),hp,add_sub_cancel_left,getElem?_append_left hlt];exact h1
 . have:=hv.1;simp;omega
theorem F3:(newVar t v).run P w=.ok ⟨w.heap.size,0,none⟩ (w.alloc (.cells v.cells t)):=by
 simp [newVar,newRow]
theorem noK {w:World} {base:Nat}:∀ (i:Nat) (v:Value),(fun _=>none:Nat->Option Value) i=some v->w.cell? ⟨b,i,none⟩=some v/\i < base:=fun _ _ h=>by cases h
theorem Rel.newCells (hR:Rel C g H w) (lo:Nat) (hv:VRel g H.n a v) (t:TypeId) :
 ZI C lo g H w (.ptr H.n 0) (H.push (.cells a.cells t)) (.pointer (some ⟨w.heap.size,0,none⟩)) (w.alloc (.cells v.cells t)):=by
 have hle:=UO hR 0 v.cells.size (fun _=>none);have hc:X7 (g.fresh H.n w.heap.size 0 v.cells.size fun _=>none) (H.n+1) (w.alloc (.cells v.cells t)) ⟨w.heap.size,0,v.cells.size⟩ a.cells:=by
  have:=Ap (w:=w) (hv.cells.mono (le_succ H.n) hle) [] [] rfl t v.cells.size;simpa using this
 have hb:Yj C (g.fresh H.n w.heap.size 0 v.cells.size fun _=>none) (H.n+1) (w.alloc (.cells v.cells t)) ⟨w.heap.size,0,v.cells.size⟩ (.cells a.cells t):=⟨hc,_,(0,0),Qv,rfl,rfl,by simpa using hv.cells.1.symm⟩;obtain ⟨h1,h2⟩:=hR.push lo (.cells v.cells t) (.cells a.cells t) 0 v.cells.size (fun _=>none) noK rfl hb;refine ⟨_,h1,h2, ?_⟩;have:VRel (g.fresh H.n w.heap.size 0 v.cells.size fun _=>none) (H.n+1) (.ptr H.n 0) (.pointer (some ⟨((g.fresh H.n w.heap.size 0 v.cells.size fun _=>none).L H.n).b,((g.fresh H.n w.heap.size 0 v.cells.size fun _=>none).L H.n).o+0,none⟩)):=.ptr (lt_succ_self _);simpa [Gh.fresh] using this
theorem LK (hR:Rel C g H w) (lo:Nat) (hz:ZF P t=some z):∃ cv w',(Instr.alloc t true (.tuple #[])).run P w=.ok cv w'/\ZI C lo g H w (.ptr H.n 0) (H.push (.cells z.cells t)) cv w':=by
 obtain ⟨cz,h1,h2,_⟩:=Jg (w:=w) hz;refine ⟨_,_, ?_,hR.newCells lo (h2 g H.n) t⟩;simp [Instr.alloc,h1,F3]
theorem LL (hR:Rel C g H w) (lo:Nat) (hv:VRel g H.n a v):∃ cv w',(Instr.box t v).run P w=.ok cv w'/\ZI C lo g H w (.ptr H.n 0) (H.push (.cells a.cells t)) cv w' :=
 ⟨_,_,by simp [Instr.box,F3],hR.newCells lo hv t⟩
theorem LM (hR:Rel C g H w) (lo:Nat):∃ cv w',(Instr.makeMap t none).run P w=.ok cv w'/\ZI C lo g H w (.map H.n) (H.push (.map [])) cv w':=by
 have hb:Yj C (g.fresh H.n w.heap.size 0 0 fun _=>none) (H.n+1) (w.alloc (.map #[] 0)) ⟨w.heap.size,0,0⟩ (.map []):=⟨#[],0,Qv,.nil⟩;obtain ⟨h1,h2⟩:=hR.push lo (.map #[] 0) (.map []) 0 0 (fun _=>none) noK rfl hb;refine ⟨.map (some w.heap.size),w.alloc (.map #[] 0),by simp [Instr.makeMap],_,h1,h2, ?_⟩;have:VRel (g.fresh H.n w.heap.size 0 0 fun _=>none) (H.n+1) (.map H.n) (.map (some ((g.fresh H.n w.heap.size 0 0 fun _=>none).L H.n).b)):=.map (lt_succ_self _);simpa [Gh.fresh] using this
theorem LN (hR:Rel C g H w) (lo:Nat) (h:VE P H t x=some (r,H')) (hx:VRel g H.n x cx) :
 ∃ cv w',(Instr.range t cx).run P w=.ok cv w'/\ZI C lo g H w r H' cv w':=by
 unfold VE at h;split at h
 . rename_i s ht
   simp at h;obtain ⟨rfl,rfl⟩:=h;cases hx with
   | @str _ _ bs hs =>
     have hb:Yj C (g.fresh H.n w.heap.size 0 0 fun _=>none) (H.n+1) (w.alloc (.stringIter bs 0)) ⟨w.heap.size,0,0⟩ (.sit s 0):=⟨rfl,bs,Qv,hs⟩;obtain ⟨h1,h2⟩:=hR.push lo (.stringIter bs 0) (.sit s 0) 0 0 (fun _=>none) noK rfl hb;refine ⟨.pointer (some ⟨w.heap.size,0,none⟩),w.alloc (.stringIter bs 0),by simp [Instr.range,Zm ht],_,h1,h2, ?_⟩;have:VRel (g.fresh H.n w.heap.size 0 0 fun _=>none) (H.n+1) (.ptr H.n 0) (.pointer (some ⟨((g.fresh H.n w.heap.size 0 0 fun _=>none).L H.n).b,((g.fresh H.n w.heap.size 0 0 fun _=>none).L H.n).o+0,none⟩)):=.ptr (lt_succ_self _);simpa [Gh.fresh] using this
 . cases h
theorem LO (l:List Value) (o:Nat) (v:Value) (r:List Value) (h:o < l.length) :
 (l.set o v).take (o+1)++r++(l.set o v).drop (o+1+r.length)=l.take o++(v::r)++l.drop (o+(r.length+1)):=by
 rw [set_eq_take_append_cons_drop,if_pos h];have hA:(l.take o).length=o:=by simp;omega
 rw [take_append,drop_append,hA];have e1:(l.take o).take (o+1)=l.take o:=take_of_length_le (by omega);have e2:(l.take o).drop (o+1+r.length)=[]:=drop_eq_nil_of_le (by omega);rw [e1,e2];rw [show o+1 - o=1 by omega,show o+1+r.length - o=r.length+1 by omega];simp only [take_succ_cons,take_zero,nil_append,drop_succ_cons,drop_drop];rw [show o+1+r.length=o+(r.length+1) by omega];simp
theorem VM (b:Nat):∀ (vs:List Value) (o:Nat) (w:World) (c:Array Value) (e:TypeId) (fz:Nat × Nat),w.heap[b]? = some (.cells c e fz)->o+vs.length<=c.size ->
 (w.setCells b o vs).heap[b]? = some (.cells (c.toList.take o++vs++c.toList.drop (o+vs.length)).toArray e fz)/\(∀ b',b' ≠ b->(w.setCells b o vs).heap[b']? = w.heap[b']?) /\
 (w.setCells b o vs).heap.size=w.heap.size/\(w.setCells b o vs).os=w.os/\(w.setCells b o vs).output=w.output/\(w.setCells b o vs).tape=w.tape
 | [],o,w,c,e,fz,h,_=>by simp [World.setCells,h]
 | v::r,o,w,c,e,fz,h,hle=>by
   simp only [length_cons] at hle;have h1:(w.setCell ⟨b,o,none⟩ v).heap[b]? = some (.cells (c.setIfInBounds o v) e fz):=by
    unfold World.setCell;simp [Array.getElem?_modify,h]
   have hsz:(c.setIfInBounds o v).size=c.size:=by simp
   obtain ⟨i1,i2,i3,i4,i5,i6⟩:=VM b r (o+1) (w.setCell ⟨b,o,none⟩ v) _ e fz h1 (by omega);refine ⟨?_,fun b' hb' => ?_, ?_, ?_, ?_, ?_⟩
   . show (World.setCells _ b (o+1) r).heap[b]? = _;rw [i1];simp only [Array.toList_setIfInBounds];rw [LO _ _ _ _ (by simp;omega)];simp
   . show (World.setCells _ b (o+1) r).heap[b']? = _;rw [i2 b' hb'];unfold World.setCell;simp [Array.getElem?_modify,Ne.symm hb']
   . exact i3.trans (by simp)
   . exact i4
   . exact i5
   . exact i6
theorem Aq (h:X7 g n w l cs) (hv:Zb g n vs cv) (hle:off+vs.length<=cs.length) :
 X7 g n (w.setCells l.b (l.o+off) cv) l (over cs off vs) /\
 (∀ b',b' ≠ l.b->(w.setCells l.b (l.o+off) cv).heap[b']? = w.heap[b']?)/\(w.setCells l.b (l.o+off) cv).heap.size=w.heap.size /\
 (w.setCells l.b (l.o+off) cv).os=w.os/\(w.setCells l.b (l.o+off) cv).output=w.output/\(w.setCells l.b (l.o+off) cv).tape=w.tape /\
 (∀ x,x < l.o->(w.setCells l.b (l.o+off) cv).cell? ⟨l.b,x,none⟩=w.cell? ⟨l.b,x,none⟩) /\
 (∀ c e fz,w.heap[l.b]? = some (.cells c e fz) -> ∃ c',(w.setCells l.b (l.o+off) cv).heap[l.b]? = some (.cells c' e fz)/\c'.size=c.size):=by
 obtain ⟨⟨c,e,fz,h1,h2,h3⟩,h4⟩:=h;have hvl:=hv.1;obtain ⟨i1,i2,i3,i4,i5,i6⟩:=VM l.b cv (l.o+off) w c e fz h1 (by omega);refine ⟨⟨⟨_,e,fz,i1,fun i a hi => ?_, ?_⟩,fun x hx => ?_⟩,i2,i3,i4,i5,i6,fun x hx => ?_,fun c' e' fz' hc' => ?_⟩
 . simp only [getElem?_toArray];unfold over at hi;have hlen1:(c.toList.take (l.o+off)).length=l.o+off:=by simp;omega
   rcases lt_or_ge i off with hlt | hge
   . rw [append_assoc,getElem?_append_left (by simp;omega),getElem?_take,if_pos hlt] at hi;rw [append_assoc,getElem?_append_left (by omega),getElem?_take,if_pos (by omega)];obtain ⟨v,hv1,hv2⟩:=h2 i a hi;exact ⟨v,by simpa using hv1,hv2⟩
   . have hlen2:(cs.take off).length=off:=by simp;omega
     rw [append_assoc,getElem?_append_right (by omega),hlen2] at hi;rw [append_assoc,getElem?_append_right (by omega),hlen1,show l.o+i - (l.o+off)=i - off by omega];rcases lt_or_ge (i - off) vs.length with hlt2 | hge2
     . rw [getElem?_append_left hlt2] at hi;rw [getElem?_append_left (by omega)];exact Zh.get hv hi
     . rw [getElem?_append_right hge2,getElem?_drop] at hi;rw [getElem?_append_right (by omega),getElem?_drop];obtain ⟨v,hv1,hv2⟩:=h2 _ a hi;refine ⟨v, ?_,hv2⟩;rw [show l.o+off+cv.length+(i - off - cv.length)=l.o+(off+vs.length+(i - off - vs.length)) by omega];simpa using hv1
 . unfold over;simp;omega
 . rw [World.frozen?_setCells];exact h4 x hx
 . exact World.cell?_setCells_out l.b cv (l.o+off) w _ (fun _ _=>.inl (by simp;omega))
 . rw [h1] at hc';simp at hc';obtain ⟨rfl,rfl,rfl⟩:=hc';exact ⟨_,i1,by simp;omega⟩
theorem LP {b:ABlk} (hb:Yj C g n w l b) (h:Q8 b off vs=some b') (hv:Zb g n vs cv) :
 Yj C g n (w.setCells l.b (l.o+off) cv) l b'/\b.live=true/\b'.live=true /\
 (∀ b',b' ≠ l.b->(w.setCells l.b (l.o+off) cv).heap[b']? = w.heap[b']?)/\(w.setCells l.b (l.o+off) cv).heap.size=w.heap.size /\
 (w.setCells l.b (l.o+off) cv).os=w.os/\(w.setCells l.b (l.o+off) cv).output=w.output/\(w.setCells l.b (l.o+off) cv).tape=w.tape /\
 (∀ x,x < l.o->(w.setCells l.b (l.o+off) cv).cell? ⟨l.b,x,none⟩=w.cell? ⟨l.b,x,none⟩) /\
 (∀ j,j < vs.length->(w.cell? ⟨l.b,l.o+off+j,none⟩).isSome=true)/\(∀ j,j < vs.length->w.frozen? ⟨l.b,l.o+off+j,none⟩=false):=by
 have there:∀ cs,X7 g n w l cs->off+vs.length<=cs.length->(∀ j,j < vs.length->(w.cell? ⟨l.b,l.o+off+j,none⟩).isSome=true)/\(∀ j,j < vs.length->w.frozen? ⟨l.b,l.o+off+j,none⟩=false):=by
  intro cs hc hle;obtain ⟨⟨c,e,fz,h1,h2,h3⟩,h4⟩:=hc;refine ⟨fun j hj => ?_,fun j hj=>h4 _ (by omega)⟩;unfold World.cell?;simp only [h1];have:l.o+off+j < c.size:=by omega
  simp [this]
 cases b with
 | cells cs ee =>
   simp only [Q8] at h;split at h
   . rename_i hle
     simp at h;subst h;obtain ⟨h1,h2,h3,h4,h5,h6,h7,h8⟩:=Aq hb.1 hv hle;obtain ⟨c,fz,hc1,hc2⟩:=hb.2;obtain ⟨c',hc3,hc4⟩:=h8 c ee fz hc1;exact ⟨⟨h1,c',fz,hc3,hc4.trans hc2.1,hc2.2.1,by rw [hc4,hc2.2.2];unfold over;simp;omega⟩,rfl,rfl,h2,h3,h4,h5,h6,h7,there cs hb.1 hle⟩
   . cases h
 | row cs sz ee =>
   simp only [Q8] at h;split at h
   . rename_i hle
     simp at h;subst h;obtain ⟨h1,h2,h3,h4,h5,h6,h7,h8⟩:=Aq hb.1 hv hle;obtain ⟨c,fz,hc1,hc2⟩:=hb.2;obtain ⟨c',hc3,hc4⟩:=h8 c ee fz hc1;exact ⟨⟨h1,c',fz,hc3,hc4.trans hc2.1,hc2.2⟩,rfl,rfl,h2,h3,h4,h5,h6,h7,there cs hb.1 hle⟩
   . cases h
 | _=>simp [Q8] at h
theorem Rel.write (hR:Rel C g H w) (hlo:lo<=id) (hid:id < H.n) (h:Q8 (H.get id) off vs=some b') (hv:Zb g H.n vs cv) (hone:vs.all AV.one=true) (i:Nat) {o':Nat} (ho:o'+i=(g.L id).o+off) :
 (storeCells ⟨(g.L id).b,o',none⟩ cv i).run P w=.ok () (w.setCells (g.L id).b ((g.L id).o+off) cv) /\
 Rel C g (H.set id b') (w.setCells (g.L id).b ((g.L id).o+off) cv)/\Ext lo g H w g (H.set id b') (w.setCells (g.L id).b ((g.L id).o+off) cv):=by
 obtain ⟨h1,hl,hl',h2,h3,h4,h5,h6,h7,h8,h9⟩:=LP (hR.blk id hid) h hv;have hvl:=hv.1;refine ⟨?_,hR.upd hlo hid hl h2 h3 h4 h5 h6 h1 fun o v hk=>(h7 o (hR.apart id hid hl o v hk)).trans (hR.know _ _ _ hk)⟩;rw [<- ho];refine run_storeCells_cells _ _ _ _ _ (fun j hj => ?_) (fun j hj => ?_) (hv.ones hone)
 . rw [ho];exact h8 j (by omega)
 . rw [ho];exact h9 j (by omega)
theorem LQ (hR:Rel C g H w) {v:AV} (h:Q9 P lo H t a v=some H') {ca cv:Value} (ha:VRel g H.n a ca) (hv:VRel g H.n v cv) :
 ∃ w',(Instr.storeAt t ca cv).run P w=.ok () w'/\ZI C lo g H w Y9 H' Go.undef w':=by
 unfold Q9 at h;split at h
 . rename_i id off k hsz
   split at h
   . rename_i hc
     simp at hc;obtain ⟨⟨hc1,hc2⟩,hc3⟩:=hc;split at h
     . rename_i b' hb'
       simp at h;subst h;cases ha with
       | ptr hid =>
         have hcells:=hv.cells;obtain ⟨h1,h2,h3⟩:=hR.write (P:=P) hc3 hid hb' hcells (by simpa using hc2) 0 (o':=(g.L id).o+off) (by omega);refine ⟨_, ?_,g,h2,h3,VRel.undef⟩;have:¬ cv.cells.size ≠ k:=by have:=hcells.1;simp at this;omega
         simp only [Instr.storeAt,Sem.run_bind,Instr.sureAddr,Sem.run_pure,Result.andThen_ok,storeVar,Yw hsz,this,if_false,h1]
     . cases h
   . cases h
 . cases h
theorem F4 (h:(rows.all fun r=>decide (r.length=sz))=true):∀ r ∈ rows,r.length=sz:=by
 intro r hr;have:=all_eq_true.1 h r hr;simpa using this
theorem Ar {vs:List Value} (hv:Zb g n cs vs) (hp:cs.all (fun c=>c.strip0.pure && c.one)=true):Zb g 0 (cs.map AV.strip0) vs:=by
 refine Zh.map_left ⟨hv.1,fun i a b ha hb => ?_⟩;have h1:=hv.2 i a b ha hb;have h2:=all_eq_true.1 hp a (mem_of_getElem? ha);simp at h2;exact h1.strip0.pure h2.1
theorem As {sz:Nat}:∀ {l:List (Nat × AV)} {cl:List (Nat × Value)} {i:Nat} {rows:List (List AV)},KX sz i l=some rows→Zh (fun (x:Nat × AV) (y:Nat × Value)=>x.1=y.1∧VRel g n x.2 y.2) l cl →
 ∃ vals:List Value,Zb g 0 rows.flatten vals∧(∀ r ∈ rows,r.length=sz)∧rows.length=l.length ∧
   ∀ (pre post:List Value) ,pre.length=i * sz→l.length * sz≤post.length→Instr.fill (fun i=>some (i * sz,sz)) (pre++post).toArray cl=some (pre++vals++post.drop (l.length * sz)).toArray
 | [],cl,i,rows,h,hl=>by
   simp [KX] at h;subst h;rw [hl.nil_left];exact ⟨[],.nil,by simp,rfl,fun pre post _ _=>by simp [Instr.fill]⟩
 | (j,v)::l,cl,i,rows,h,hl=>by
   obtain ⟨⟨j',cv⟩,cl',rfl,⟨hj,hv⟩,hl'⟩:=hl.cons_left;simp at hj hv;subst hj;unfold KX at h;split at h
   · rename_i hc
     simp at hc;obtain ⟨⟨hc1,hc2⟩,hc3⟩:=hc;subst hc1;split at h
     · rename_i rest hrest
       simp at h;subst h;obtain ⟨vals,h1,h2,h3,h4⟩:=As hrest hl';have hcells:=hv.cells;have hp:=Ar hcells (by simpa using hc3);have hcl:cv.cells.size=sz:=by have:=hcells.1;simp at this;omega
       refine ⟨cv.cells.toList++vals, ?_, ?_,by simp [h3],fun pre post hpre hpost => ?_⟩
       · simp only [flatten_cons];exact hp.append h1
       · intro r hr;rcases mem_cons.1 hr with rfl | hr
         · simp [hc2]
         · exact h2 r hr
       · simp only [length_cons,succ_mul] at hpost ⊢;unfold Instr.fill;simp only [];rw [if_neg (by simp [hcl,hpre];omega)];have e:=UM cv.cells.toList (j * sz) (pre++post).toArray (by simp [hcl,hpre];omega);have e2:cv.cells.zipIdx.foldl (fun cs (x:Value × Nat)=>cs.setIfInBounds (j * sz+x.2) x.1) (pre++post).toArray=(cv.cells.toList.zipIdx 0).foldl (fun cs (x:Value × Nat)=>cs.setIfInBounds (j * sz+x.2) x.1) (pre++post).toArray:=by
          rw [← Array.foldl_toList,Array.toList_zipIdx]
         have e3:cv.cells.zipIdx.foldl (fun cs (x:Value × Nat)=>cs.setIfInBounds (j * sz+x.2) x.1) (pre++post).toArray=((pre++cv.cells.toList)++post.drop sz).toArray:=by
          rw [e2];apply Array.toList_inj.1;rw [e];have hcl':cv.cells.toList.length=sz:=by simpa using hcl
          rw [hcl'];have d1:(pre++post).take (j * sz)=pre:=by rw [← hpre];simp
          have d2:(pre++post).drop (j * sz+sz)=post.drop sz:=by
           rw [← hpre,drop_append,drop_eq_nil_of_le (by omega),show pre.length+sz - pre.length=sz by omega];simp
          rw [d1,d2]
         show Instr.fill _ (cv.cells.zipIdx.foldl (fun cs (x:Value × Nat)=>cs.setIfInBounds (j * sz+x.2) x.1) (pre++post).toArray) cl'=_;rw [e3,h4 (pre++cv.cells.toList) (post.drop sz) (by simp [hpre,hcl,succ_mul]) (by simp;omega)];simp [drop_drop,add_comm]
     · cases h
   · cases h
def Q2 (vals:List Value) (off:Nat):Nat->Option Value:=fun i=>if off<=i then vals[i - off]? else none
theorem F5 (off:Nat) (h:vals[i]? = some v):Q2 vals off (off+i)=some v:=by
 unfold Q2;rw [if_pos (by omega),add_sub_cancel_left];exact h
theorem LR {c:Array Value} (i:Nat):(w.alloc (.cells c e)).cell? ⟨w.heap.size,i,none⟩=c[i]?:=by
 unfold World.cell?;simp only [Qv];simp
theorem Au:∀ (i:Nat) (v:Value),Q2 vals 0 i=some v->(w.alloc (.cells (vals++rest).toArray e)).cell? ⟨w.heap.size,i,none⟩=some v/\i < vals.length:=by
 intro i v h;unfold Q2 at h;simp at h;have hlt:=(List.getElem?_eq_some_iff.1 h).1;refine ⟨?_,hlt⟩;rw [LR,getElem?_toArray,getElem?_append_left hlt];exact h
theorem LS (hR:Rel C g H w) (lo:Nat) {len:Nat} {l:List (Nat × AV)} (h:Ko P t len l=some r) {cl:List (Nat × Value)} (hl:Zh (fun (x:Nat × AV) (y:Nat × Value)=>x.1=y.1∧VRel g H.n x.2 y.2) l cl) :
 ∃ cv w',(Instr.buildSlice t len cl.toArray).run P w=.ok cv w' ∧ ∃ K,(∀ b o v,g.K b o=some v→K b o=some v)∧Rel C { g with K } H w'∧Ext lo g H w { g with K } H w'∧VRel { g with K } 0 r cv:=by
 unfold Ko at h;split at h
 · rename_i e he
   have ht:=Jf he;split at h
   · rename_i sz hsz
     split at h
     · rename_i hc
       simp at hc;obtain ⟨⟨hc1,hc2⟩,hc3⟩:=hc;split at h
       · rename_i rows hrows
         simp at h;subst h;obtain ⟨vals,h1,h2,h3,h4⟩:=As hrows hl;have hvl:vals.length=len * sz:=by rw [← h1.1,QX h2,h3,hc1]
         obtain ⟨zero,hz⟩:∃ zero:Array Value,(if len * sz=0 then Pure.pure #[] else do pure (← zeroValue e).cells:Sem (Array Value)).run P w=.ok zero w:=by
          rcases hc3 with h0 | ⟨_,hz⟩
          · exact ⟨#[],by rw [if_pos (by simp [h0])];rfl⟩
          · obtain ⟨z,hz⟩:=isSome_iff_exists.1 hz;obtain ⟨cz,hz1,_,_⟩:=Jg (w:=w) hz;by_cases h0:len * sz=0
            · exact ⟨#[],by rw [if_pos h0];rfl⟩
            · exact ⟨cz.cells,by rw [if_neg h0];simp [hz1]⟩
         have hfill:Instr.fill (fun i=>some (i * sz,sz)) ((Array.range (len * sz)).map (fun i=>zero[i % zero.size]!)) cl=some vals.toArray:=by
          have:=h4 [] ((Array.range (len * sz)).map (fun i=>zero[i % zero.size]!)).toList (by simp) (by simp [hc1]);rw [nil_append,Array.toArray_toList] at this;rw [this];rw [drop_eq_nil_of_le (by simp [hc1])];simp
         have hrun:(Instr.buildSlice t len cl.toArray).run P w=.ok (.slice (some ⟨w.heap.size,0,none⟩) len len) (w.alloc (.cells vals.toArray e)):=by
          simp only [Instr.buildSlice,Sem.run_bind,Zm ht,Result.andThen_ok,Yw hsz];have hno:¬ (len * sz > 2 ^ 24):=by simp;omega
          simp only [hno,if_false];by_cases h0:len * sz=0
          · simp only [h0,if_true,Sem.run_pure,Result.ok.injEq,and_true] at hz;subst hz;rw [if_pos h0];simp only [Sem.run_bind,Sem.run_pure,Result.andThen_ok];rw [h0] at hfill ⊢;simp only [hfill];simp [newRow]
          · rw [if_neg h0] at hz ⊢;simp only [Sem.run_bind,Sem.run_pure] at hz ⊢;cases hz2:(zeroValue e).run P w with
            | halt x y=>rw [hz2] at hz;simp [Result.andThen] at hz
            | ok cz w2 =>
              rw [hz2] at hz;simp only [Result.andThen_ok,Result.ok.injEq] at hz ⊢;obtain ⟨rfl,rfl⟩:=hz;simp only [hfill];simp [newRow]
         have hk:∀ (i:Nat) (v:Value),Q2 vals 0 i=some v→(w.alloc (.cells vals.toArray e)).cell? ⟨w.heap.size,i,none⟩=some v:=fun i v hi=>by
          have:=(Au (w:=w) (rest:=[]) (e:=e) i v hi).1;simpa using this
         obtain ⟨h5,h6⟩:=hR.learn lo (.cells vals.toArray e) (Q2 vals 0) hk;refine ⟨_,_,hrun,_,h6.le.K,h5,h6, ?_⟩;have hrl:rows.length=len:=by rw [h3,hc1]
         rw [← hrl];refine .ps (sz:=sz) vals h2 h1.1 (fun i v hi => ?_) (fun i c v hcc hvv => ?_) (Nat.le_refl _) rfl
         · simp only [if_true];simpa using F5 0 hi
         · exact (h1.2 i c v hcc hvv).any h6.le.K
       · cases h
     · cases h
   · cases h
 · cases h
theorem Av (newLen:Nat):∀ (r c:Nat),Builtin.growBy newLen r c<=max c (2 * newLen+1000)
 | 0,c=>by simp [Builtin.growBy];omega
 | r+1,c=>by
   unfold Builtin.growBy;split
   . omega
   . have:=Av newLen r (c+(c+768) / 4);omega
theorem LT {newLen oldCap:Nat} (h:oldCap < newLen):Builtin.nextslicecap newLen oldCap<=2 * newLen+1000:=by
 unfold Builtin.nextslicecap;split
 . omega
 . split
   . omega
   . have:=Av newLen 4 oldCap;omega
theorem F6 (hR:Rel C g H w) (h:XZ H sz x=some rx) (hx:VRel g H.n x cx) :
 ∃ vals:List Value,(∀ w':World,w'.heap=w.heap->(Builtin.lenOf cx).run P w'=.ok rx.length w'/\(Builtin.firstCells sz rx.length cx).run P w'=.ok vals.toArray w')/\Zb g H.n rx.flatten vals/\(∀ r ∈ rx,r.length=sz):=by
 unfold XZ at h;split at h
 . rename_i tok rows
   split at h
   . rename_i hall
     simp at h;subst h;have hrs:=F4 hall;cases hx with
     | @ps _ _ _ b o cap sz' vals hsz hl hk hv hcap htok =>
       refine ⟨vals,fun w' hw'=>⟨by simp [Builtin.lenOf], ?_⟩,⟨hl,fun i c v hc hvv=>(hv i c v hc hvv).any fun _ _ _ h=>h⟩,hrs⟩;have:rows.length * sz=vals.length:=by rw [<- hl,QX hrs]
       simp only [Builtin.firstCells];rw [this];exact VI rfl fun i v hi=>(QY (by rw [hw'])).trans (hR.know _ _ _ (hk i v hi))
     | psnil hm=>exact ⟨[],fun w' _=>⟨by simp [Builtin.lenOf],by simp [Builtin.firstCells]⟩,.nil,by simp⟩
     | psz hm=>exact ⟨[],fun w' _=>⟨by simp [Builtin.lenOf],by simp [Builtin.firstCells,loadCells,loadCellsFrom]⟩,.nil,by simp⟩
   . cases h
 . rename_i id off k sz' cap
   split at h
   . rename_i hs
     subst hs;split at h
     . rename_i cs hcs
       have chunk:∀ (m:Nat) (cs:List AV) (rx:List (List AV)),XY sz m cs=some rx->rx.length=m/\(∀ r ∈ rx,r.length=sz)/\(cs.length=m * sz->rx.flatten=cs):=by
        intro m
        induction m with
        | zero=>intro cs rx h;simp [XY] at h;subst h;exact ⟨rfl,by simp,fun h=>by simp at h;simp [h]⟩
        | succ m ih =>
          intro cs rx h;unfold XY at h;split at h
          . rename_i hle
            split at h
            . rename_i l hl
              simp at h;subst h;obtain ⟨h1,h2,h3⟩:=ih _ _ hl;refine ⟨by simp [h1],fun r hr => ?_,fun hlen => ?_⟩
              . rcases mem_cons.1 hr with rfl | hr
                . simp;omega
                . exact h2 r hr
              . simp only [flatten_cons];rw [h3 (by simp [hlen,succ_mul]),take_append_drop]
            . cases h
          . cases h
       obtain ⟨h1,h2,h3⟩:=chunk _ _ _ h;cases hx with
       | rs hid hlen hcap =>
         obtain ⟨ad,vs,had,hsp,hvs,hat,hlen2⟩:=UI hR hcs (VRel.ptr (off:=off) hid);simp at had;have hfl:=h3 hlen2;refine ⟨vs,fun w' hw'=>⟨by simp [Builtin.lenOf,h1], ?_⟩,by rw [hfl];exact hvs,h2⟩;simp only [Builtin.firstCells];rw [h1,<- hlen2,hvs.1];rw [<- had] at hat hsp;exact VI rfl fun i v hi=>(QY (by rw [hw'])).trans (hat i v hi)
     . cases h
   . cases h
 . rename_i s
   split at h
   . rename_i hs
     subst hs;simp at h;subst h;cases hx with
     | @str _ _ bs hb =>
       have hsz:=JQ hb;refine ⟨bs.data.toList.map fun b=>.int .u8 b.toNat,fun w' _=>⟨by simp [Builtin.lenOf,hsz], ?_⟩, ?_,by simp⟩
       . simp only [Builtin.firstCells,length_map,Sem.run_pure];rw [<- hsz]
         congr 1
         apply Array.toList_inj.1;simp []
       . subst hb;have e:((bs.data.toList.map UInt8.toNat).map fun (b:Nat)=>[AV.int .u8 (b:Int)]).flatten=bs.data.toList.map fun b=>AV.int .u8 (b.toNat:Int):=by
          rw [map_map];generalize bs.data.toList=l
          induction l with
          | nil=>rfl
          | cons x l ih=>simp [ih]
         rw [e];refine ⟨by simp,fun i a b ha hbb => ?_⟩;rw [getElem?_map] at ha hbb;cases hc:bs.data.toList[i]? with
         | none=>simp [hc] at ha
         | some c=>simp [hc] at ha hbb;subst ha hbb;exact .int _ _
   . cases h
 . cases h
structure AppArgs (P:Program) (w:World) (ts tx elem:TypeId) (sz bytes:Nat) (x:Value) (k:Nat) (new:List Value) (zc:Value):Prop where
 hts:P.underlying ts=some (.slice elem)
 htx:∃ d,P.underlying tx=some d /\ ∀ k,d ≠ .int k
 hsz:Zf P elem=some sz
 hbytes:YR P elem=some bytes
 hle:bytes<=4096
 zero:∃ i,P.info? elem=some i/\i.zero=some zc
 zlen:zc.cells.size=sz
 len:∀ w':World,w'.heap=w.heap->(Builtin.lenOf x).run P w'=.ok k w'
 cells:∀ w':World,w'.heap=w.heap->(Builtin.firstCells sz k x).run P w'=.ok new.toArray w'
theorem VN {x:Value} {new:List Value} (A:AppArgs P w ts tx elem sz bytes x k new zc) {base:Option Addr} (hfit:sLen+k<=sCap) (ty:TypeId)
 (hst:(match base with | some a=>storeCells (a.add (sLen * sz)) new | none=>Pure.pure ():Sem Unit).run P w=.ok () w') :
 (Builtin.append_ #[ts,tx] ty #[.slice base sLen sCap,x]).run P w=.ok (.slice base (sLen+k) sCap) w':=by
 obtain ⟨d,hd,hni⟩:=A.htx;have hz:(match d with | .int _=>true | _=>false)=false:=by cases d<;>first | rfl | exact absurd rfl (hni _)
 unfold Builtin.append_;simp only [];simp only [getElem?_toArray,getElem?_cons_succ,getElem?_cons_zero,Sem.run_bind,Zm A.hts,Zm hd,Result.andThen_ok,Yw A.hsz,Sem.run_pure];simp only [false_eq_true,if_false,A.len w rfl,Result.andThen_ok,hfit,if_true,Bool.not_false,A.cells w rfl,Sem.run_bind];cases base with
 | none=>simp only [Sem.run_pure] at hst;cases hst;simp
 | some a=>simp only [] at hst;simp [hst]
theorem F7 {x:Value} {new old:List Value} (A:AppArgs P w ts tx elem sz bytes x k new zc) {base:Option Addr} (hno:sCap < sLen+k) (hmax:sLen+k<=Z2) (hpos:0 < sz) (ty:TypeId)
 (hold:(Builtin.firstCells sz sLen (.slice base sLen sCap)).run P w.drew=.ok old.toArray w.drew) :
 ∃ (c:Nat) (rest:List Value),sLen+k<=c/\rest.length=(c - (sLen+k)) * sz /\
   (Builtin.append_ #[ts,tx] ty #[.slice base sLen sCap,x]).run P w=.ok (.slice (some ⟨w.heap.size,0,none⟩) (sLen+k) c) (w.drew.alloc (.cells (old++new++rest).toArray elem)):=by
 obtain ⟨d,hd,hni⟩:=A.htx;have hz:(match d with | .int _=>true | _=>false)=false:=by cases d<;>first | rfl | exact absurd rfl (hni _)
 obtain ⟨i,hi1,hi2⟩:=A.zero;have hib:i.bytes=bytes:=by
  have:=A.hbytes;simp [YR,hi1] at this;exact this
 refine ⟨(Question.appendCap (sLen+k) sCap elem).cut (w.tape w.drawn (.appendCap (sLen+k) sCap elem)),(Builtin.zeroCells zc.cells ((Question.appendCap (sLen+k) sCap elem).cut (w.tape w.drawn (.appendCap (sLen+k) sCap elem)) - (sLen+k))).toList, ?_, ?_, ?_⟩
 . simp [Question.cut]
 . simp [Builtin.zeroCells,A.zlen]
 . unfold Builtin.append_;simp only [];simp only [getElem?_toArray,getElem?_cons_succ,getElem?_cons_zero,Sem.run_bind,Zm A.hts,Zm hd,Result.andThen_ok,Yw A.hsz,Sem.run_pure];have hnf:¬ (sLen+k<=sCap):=by omega
   have hti:∀ w':World,(typeInfo elem).run P w'=.ok i w':=fun w'=>by simp [typeInfo,hi1]
   have hzv:∀ w':World,(zeroValue elem).run P w'=.ok zc w':=fun w'=>by simp [zeroValue,typeInfo,hi1,hi2]
   have h1:¬ (((sLen+k:Nat):Int) > IntKind.i64.max/\(false=true\/i.bytes=0)):=by
    rintro ⟨h,_⟩;have:IntKind.i64.max=9223372036854775807:=by decide
    rw [this] at h;unfold Z2 at hmax;omega
   have h2:¬ (Builtin.nextslicecap (sLen+k) sCap * i.bytes > 2 ^ 48):=by
    have h3:=LT hno;have h4:=A.hle;unfold Z2 at hmax;have:Builtin.nextslicecap (sLen+k) sCap * i.bytes<=2147484648 * 4096:=mul_le_mul (by omega) (by omega);omega
   simp only [false_eq_true,if_false,A.len w rfl,Result.andThen_ok,hnf,Bool.not_false,if_true,Sem.run_bind,hti,Sem.run_ite];rw [if_neg (by simpa using h1)];simp only [Sem.run_pure];rw [if_neg (by simpa using h2)];simp only [Result.andThen_ok,Go.run_choose,Question.forced,false_eq_true,if_false,run_askRoom];have hold':Sem.run P (Builtin.firstCells sz sLen (.slice base sLen sCap)) { w with drawn:=w.drawn+1 }=.ok old.toArray { w with drawn:=w.drawn+1 }:=hold
   simp only [hold',Result.andThen_ok,A.cells { w with drawn:=w.drawn+1 } rfl,hzv]
   simp [newRow];have e:∀ Z:Array Value,(old++new).toArray++Z=(old++(new++Z.toList)).toArray:=fun Z=>by apply Array.toList_inj.1;simp
   rw [e];rfl
theorem Aw (hR:Rel C g H w) (hrs:∀ r ∈ rows,r.length=sz) {cv:Value} (hv:VRel g H.n (.ps tok rows) cv) :
 ∃ base cap,cv=.slice base rows.length cap/\rows.length<=cap /\ ∃ old:List Value,Zb g 0 rows.flatten old /\
   (∀ w':World,w'.heap=w.heap->(Builtin.firstCells sz rows.length (.slice base rows.length cap)).run P w'=.ok old.toArray w') /\
   (∀ k,tok=.tok k -> ∃ b o,base=some ⟨b,o,none⟩/\k < H.n/\(g.L k).b=b/\(rows ≠ []->(g.L k).o=o+rows.length * sz/\(g.L k).e=o+cap * sz)) /\
   (tok=.exact\/tok=.nil->cap=rows.length) /\
   (∀ i v b o,base=some ⟨b,o,none⟩->old[i]? = some v->g.K b (o+i)=some v):=by
 cases hv with
 | @ps _ _ _ b o cap sz' vals hsz hl hk hvv hcap htok =>
   refine ⟨some ⟨b,o,none⟩,cap,rfl,hcap,vals,⟨hl,hvv⟩,fun w' hw' => ?_,fun k hk' => ?_,fun h => ?_,fun i v b' o' hb hi => ?_⟩
   . have:rows.length * sz=vals.length:=by rw [<- hl,QX hrs]
     simp only [Builtin.firstCells];rw [this];exact VI rfl fun i v hi=>(QY (by rw [hw'])).trans (hR.know _ _ _ (hk i v hi))
   . subst hk';obtain ⟨h1,h2,h3,h4⟩:=htok;refine ⟨b,o,rfl,h1,h2,fun hne => ?_⟩;have:sz'=sz:=by
      cases rows with
      | nil=>exact absurd rfl hne
      | cons r _=>rw [<- hsz r (by simp),hrs r (by simp)]
     subst this;exact ⟨h3,h4⟩
   . rcases h with rfl | rfl
     . exact htok
     . exact htok.elim
   . simp at hb;obtain ⟨rfl,rfl⟩:=hb;exact hk i v hi
 | psnil hm =>
   refine ⟨none,0,rfl,Nat.le_refl _,[],.nil,fun w' _=>by simp [Builtin.firstCells],fun k hk' => ?_,fun _=>rfl,fun i v b o hb=>by cases hb⟩;subst hk';exact hm.elim
 | @psz _ _ a hm =>
   refine ⟨some a,0,rfl,Nat.le_refl _,[],.nil,fun w' _=>by simp [Builtin.firstCells,loadCells,loadCellsFrom],fun k hk' => ?_,fun _=>rfl,fun i v b o _ hi=>by simp at hi⟩;subst hk';exact hm.elim
theorem Ax {g:Gh} {n:Nat} {a b:List (List AV)} {old new:List Value} (h1:Zb g n a.flatten old) (h2:Zb g n b.flatten new):Zb g n (a++b).flatten (old++new):=by
 simp only [flatten_append];exact h1.append h2
theorem Ay {new:List Value} (h:Zb g n rx.flatten new) (hp:rx.all Q0=true):Zb g 0 (rx.map (List.map AV.strip0)).flatten new:=by
 have e:(rx.map (List.map AV.strip0)).flatten=rx.flatten.map AV.strip0:=by
  rw [map_flatten]
 rw [e];refine Ar h ?_;rw [all_eq_true];intro c hc;obtain ⟨r,hr,hcr⟩:=mem_flatten.1 hc;exact all_eq_true.1 (all_eq_true.1 hp r hr) c hcr
theorem LU (hp:rx.all Q0=true):rx.flatten.all AV.one=true:=by
 rw [all_eq_true];intro c hc;obtain ⟨r,hr,hcr⟩:=mem_flatten.1 hc;have:=all_eq_true.1 (all_eq_true.1 hp r hr) c hcr;simp at this;exact this.2
theorem LV (hR:Rel C g H w) {dx:TypeDesc} (he:Yk P ts=some e) (hdx:P.underlying tx=some dx) (hni:(dx matches .int _)=false)
 (hsz:Zf P e=some sz) (hby:YR P e=some bytes) (hz:ZF P e=some z) (hzl:z.cells.length=sz) (hle:bytes<=4096) {x:AV} {cx:Value} {rx:List (List AV)} (hx:VRel g H.n x cx) (hrx:XZ H sz x=some rx) :
 ∃ new zc,AppArgs P w ts tx e sz bytes cx rx.length new zc/\Zb g H.n rx.flatten new/\(∀ r ∈ rx,r.length=sz):=by
 obtain ⟨new,hread,h3,h4⟩:=F6 (P:=P) hR hrx hx;obtain ⟨zc,_,hz2,i,hi1,hi2⟩:=Jg (w:=w) hz;have hzs:zc.cells.size=sz:=by
  have:=(hz2 g 0).cells.1;simp at this;omega
 exact ⟨new,zc,⟨Jf he,⟨dx,hdx,fun k hk=>by subst hk;simp at hni⟩,hsz,hby,hle,⟨i,hi1,hi2⟩,hzs,fun w' hw'=>(hread w' hw').1,fun w' hw'=>(hread w' hw').2⟩,h3,h4⟩
theorem LW (hR:Rel C g H w) {cs:Value} {new:List Value}
 (h:Xx lo H sz e s rx=some (r,H')) (A:AppArgs P w ts tx e sz bytes cx rx.length new zc) (hs:VRel g H.n s cs) (hnew:Zb g H.n rx.flatten new) (hrx:∀ r ∈ rx,r.length=sz) (ty:TypeId) :
 ∃ cv w',(Builtin.append_ #[ts,tx] ty #[cs,cx]).run P w=.ok cv w'/\ZI C lo g H w r H' cv w':=by
 unfold Xx at h;split at h
 . rename_i tok rows
   split at h
   . -- nothing is appended
     simp at h;obtain ⟨rfl,rfl⟩:=h;have hn0:new=[]:=by have:=hnew.1;simp at this;exact eq_nil_of_length_eq_zero this.symm
     subst hn0;have fits:∀ base cap,cs=.slice base rows.length cap->rows.length<=cap -> ∃ cv w',(Builtin.append_ #[ts,tx] ty #[cs,cx]).run P w=.ok cv w'/\ZI C lo g H w (.ps tok rows) H cv w':=by
      intro base cap hcs hcap;subst hcs;refine ⟨_,w,VN A (by simpa using hcap) ty ?_, ?_⟩
      . cases base<;>simp [storeCells]
      . exact ZI.same hR (by simpa using hs)
     cases hs with
     | ps vals hsz hl hk hv hcap htok=>exact fits _ _ rfl hcap
     | psnil hm=>exact fits _ _ rfl (Nat.le_refl _)
     | psz hm=>exact fits _ _ rfl (Nat.le_refl _)
   . rename_i x rx'
     split at h
     . rename_i hc
       simp only [and_eq_true,decide_eq_true_eq] at hc;obtain ⟨⟨⟨hc1,hc2⟩,hc3⟩,hc4⟩:=hc;have hrs:=F4 hc3;obtain ⟨base,cap,rfl,hcap,old,hold,hread,htk,hex,hkn⟩:=Aw (P:=P) hR hrs hs;have hstrip:=Ay hnew hc2;have hrx':∀ r ∈ ((x::rx').map (List.map AV.strip0)),r.length=sz:=by
        intro r hr;obtain ⟨r0,hr0,rfl⟩:=mem_map.1 hr;simpa using hrx r0 hr0
       have hall:∀ r ∈ rows++(x::rx').map (List.map AV.strip0),r.length=sz:=by
        intro r hr;rcases mem_append.1 hr with hr | hr
        . exact hrs r hr
        . exact hrx' r hr
       have hnl:new.length=(x::rx').length * sz:=by rw [<- hnew.1,QX hrx]
       have hol:old.length=rows.length * sz:=by rw [<- hold.1,QX hrs]
       have hboth:Zb g 0 (rows++(x::rx').map (List.map AV.strip0)).flatten (old++new):=Ax hold hstrip;have grow:cap < rows.length+(x::rx').length -> ∀ (H1:Heap) ,Rel C g H1 w->H1.n=H.n->Ext lo g H w g H1 w ->
        ∃ cv w',(Builtin.append_ #[ts,tx] ty #[.slice base rows.length cap,cx]).run P w=.ok cv w'/\ZI C lo g H w (.ps (.tok H.n) (rows++(x::rx').map (List.map AV.strip0))) (H1.push (.row [] sz e)) cv w':=by
        intro hno H1 hR1 hn1 hE1;obtain ⟨c,rest,g1,g2,g3⟩:=F7 A hno hc1 hc4 ty (hread w.drew rfl);refine ⟨_,_,g3, ?_⟩;have hRd:Rel C g H1 w.drew:=hR1.congr rfl;have hK:∀ i v,Q2 (old++new) 0 i=some v->(w.drew.alloc (.cells (old++new++rest).toArray e)).cell? ⟨w.drew.heap.size,i,none⟩=some v/\i < (old++new).length:=fun i v hi=>Au i v hi
        have hlen:(old++new).length=(rows.length+(x::rx').length) * sz:=by rw [length_append,hol,hnl,add_mul]
        have hsize:(old++new++rest).length=c * sz:=by
         rw [length_append,hlen,g2,<- add_mul];congr 1;omega
        have hb:Yj C (g.fresh H1.n w.drew.heap.size (old++new).length (c * sz) (Q2 (old++new) 0)) (H1.n+1) (w.drew.alloc (.cells (old++new++rest).toArray e)) ⟨w.drew.heap.size,(old++new).length,c * sz⟩ (.row [] sz e):=by
         refine ⟨⟨⟨_,e,(0,0),Qv,fun i a hi=>by simp at hi, ?_⟩,fun y _=>F2 y⟩,_,(0,0),Qv, ?_,Nat.le_refl _⟩
         . simp
         . simpa using hsize
        obtain ⟨p1,p2⟩:=hRd.push lo (.cells (old++new++rest).toArray e) (.row [] sz e) (old++new).length (c * sz) (Q2 (old++new) 0) hK rfl hb;have hEd:Ext lo g H1 w g H1 w.drew:=Ext.ofHeap rfl rfl rfl rfl;refine ⟨_,p1,hE1.trans (hEd.trans p2), ?_⟩;have hlr:(rows++(x::rx').map (List.map AV.strip0)).length=rows.length+(x::rx').length:=by simp
        rw [<- hlr];refine .ps (sz:=sz) (old++new) hall hboth.1 (fun i v hi => ?_) (fun i c' v hcc hvv=>(hboth.2 i c' v hcc hvv).any p2.le.K) (by rw [hlr];exact g1) ?_
        . show (if w.drew.heap.size=w.drew.heap.size then _ else _)=_
          rw [if_pos rfl];simpa using F5 0 hi
        . refine ⟨by simp [hn1], ?_, ?_, ?_⟩<;>simp only [Gh.fresh,hn1,if_true]
          . rfl
          . rw [hlen,hlr];simp
          . simp
       cases tok with
       | unk=>cases h
       | nn=>cases h
       | exact =>
         simp at h;obtain ⟨rfl,rfl⟩:=h;have hcl:=hex (.inl rfl);simpa using grow (by simp;omega) H hR rfl (.refl _ _ _ _)
       | nil =>
         simp at h;obtain ⟨rfl,rfl⟩:=h;have hcl:=hex (.inr rfl);simpa using grow (by simp;omega) H hR rfl (.refl _ _ _ _)
       | tok k =>
         simp only [] at h;split at h
         . rename_i sz' e' hrow
           split at h
           . rename_i hc5
             simp only [and_eq_true,decide_eq_true_eq] at hc5;obtain ⟨⟨⟨hsz',hlo⟩,hne⟩,hee⟩:=hc5;subst hee;have hne':rows ≠ []:=by simpa using hne
             simp at h;obtain ⟨rfl,rfl⟩:=h;obtain ⟨b,o,rfl,hkn2,hkb,hke⟩:=htk k rfl;have hlive:(H.get k).live=true:=by rw [hrow];rfl
             by_cases hfit:rows.length+(x::rx').length<=cap
             . -- in place
               obtain ⟨hko,hkE⟩:=hke hne';have hblk:=hR.blk k hkn2;rw [hrow] at hblk;obtain ⟨⟨_,hfree⟩,c,fz,hc,hcs,hfz⟩:=hblk;rw [hkb] at hc hfree;have hfit2:rows.length * sz+new.length<=cap * sz:=by
                rw [hnl,<- add_mul];exact mul_le_mul_right _ hfit
               have hin:o+rows.length * sz+new.length<=c.size:=by rw [hcs,hkE];omega
               obtain ⟨i1,i2,i3,i4,i5,i6⟩:=VM b new (o+rows.length * sz) w c e' fz hc hin;have hones:∀ v ∈ new,v.oneCell'=true:=hnew.ones (LU hc2);have hst:(storeCells ((⟨b,o,none⟩:Addr).add (rows.length * sz)) new).run P w=.ok () (w.setCells b (o+rows.length * sz) new):=by
                rw [addr_add rfl];have:=run_storeCells_cells (P:=P) b (o+rows.length * sz) new 0 w (fun j hj=>by
                 unfold World.cell?;simp only [hc];have:o+rows.length * sz+0+j < c.size:=by omega
                 simp only [add_zero] at this;simp [this]) (fun j hj=>hfree _ (by rw [hko];omega)) hones
                simpa using this
               have hrun:=VN A hfit ty (w':=w.setCells b (o+rows.length * sz) new) (base:=some ⟨b,o,none⟩) hst;have hKn:∀ i v,(match g.K b i with | some v=>some v | none=>Q2 new (o+rows.length * sz) i)=some v ->
                (w.setCells b (o+rows.length * sz) new).cell? ⟨b,i,none⟩=some v/\i < o+(rows.length+(x::rx').length) * sz:=by
                intro i v hi;split at hi
                . rename_i v' hv'
                  simp at hi;subst hi;have hlt:i < o+rows.length * sz:=by
                   have:=hR.apart k hkn2 hlive i v' (by rw [hkb];exact hv');rw [hko] at this;exact this
                  refine ⟨?_,by rw [add_mul];omega⟩;rw [World.cell?_setCells_out b new (o+rows.length * sz) w _ (fun _ _=>.inl (by simpa using hlt))];exact hR.know b i v' hv'
                . unfold Q2 at hi;split at hi
                  . rename_i hge
                    have hlt:=(List.getElem?_eq_some_iff.1 hi).1;refine ⟨?_,by rw [add_mul,<- hnl];omega⟩;unfold World.cell?;simp only [i1];have hl1:(c.toList.take (o+rows.length * sz)).length=o+rows.length * sz:=by simp;omega
                    simp only [getElem?_toArray];rw [append_assoc,getElem?_append_right (by omega),hl1,getElem?_append_left hlt];simpa using hi
                  . cases hi
               obtain ⟨m1,m2⟩:=hR.move (b':=.row [] sz e') hlo hkn2 hlive rfl (o+(rows.length+(x::rx').length) * sz) (fun i=>match g.K b i with | some v=>some v | none=>Q2 new (o+rows.length * sz) i)
                (w':=w.setCells b (o+rows.length * sz) new) (fun b' hb'=>i2 b' (by rw [hkb] at hb';exact hb')) i3 i4 i5 i6 (fun i v hi=>by rw [hkb];exact hKn i v hi) (fun i v hi=>by rw [hkb] at hi;simp [hi])
                (by
                  have hq:(rows.length+(x::rx').length) * sz=rows.length * sz+new.length:=by rw [add_mul,hnl]
                  refine ⟨⟨⟨_,e',fz,by rw [hkb];exact i1,fun i a hi=>by simp at hi, ?_⟩,fun y hy => ?_⟩,_,fz,by rw [hkb];exact i1, ?_,hfz⟩
                  . simp only [length_nil,add_zero];rw [hq];simp only [size_toArray,length_append,length_take,length_drop,Array.length_toList];omega
                  . simp only [] at hy;rw [World.frozen?_setCells,hkb];exact hfree y (by rw [hko];rw [add_mul] at hy;omega)
                  . simp;omega)
               refine ⟨_,_,hrun,_,m1,m2, ?_⟩;have hlr:(rows++(x::rx').map (List.map AV.strip0)).length=rows.length+(x::rx').length:=by simp
               rw [<- hlr];have hold2:∀ i v,old[i]? = some v->g.K b (o+i)=some v:=fun i v hi=>hkn i v b o rfl hi
               refine .ps (sz:=sz) (old++new) hall hboth.1 (fun i v hi => ?_) (fun i c' v hcc hvv=>(hboth.2 i c' v hcc hvv).any m2.le.K) (by simpa using hfit) ?_
               . simp only [Gh.fresh];rw [if_pos hkb.symm];rcases lt_or_ge i old.length with hlt | hge
                 . rw [getElem?_append_left hlt] at hi;rw [hold2 i v hi]
                 . rw [getElem?_append_right hge] at hi;have hnone:g.K b (o+i)=none:=by
                    cases hg:g.K b (o+i) with
                    | none=>rfl
                    | some u =>
                      have:=hR.apart k hkn2 hlive (o+i) u (by rw [hkb];exact hg);rw [hko] at this;omega
                   rw [hnone];simp only [];unfold Q2;rw [if_pos (by omega),show o+i - (o+rows.length * sz)=i - old.length by omega];exact hi
               . refine ⟨by simp, ?_, ?_, ?_⟩<;>simp only [Gh.fresh,if_true]
                 . exact hkb
                 . simp
                 . exact hkE
             . obtain ⟨r1,r2⟩:=hR.kill hlo hkn2;simpa using grow (by omega) (H.set k .dead) r1 rfl r2
           . cases h
         . cases h
     . cases h
 . cases h
theorem Rel.newRow (hR:Rel C g H w) (lo:Nat) {cells:List AV} (e:TypeId) {len c:Nat} (hv:Zb g H.n cells vals) (hlen:(vals++rest).length=c * sz) (hlc:len<=c) (cap:Option Nat) (hcap:∀ k,cap=some k->c=k) (isRow:Bool) (hrow:isRow=true\/cap.isSome) (hrest:isRow=false->rest=[]) :
 ZI C lo g H w (.rs H.n 0 len sz cap) (H.push (if isRow then .row cells sz e else .cells cells e)) (.slice (some ⟨w.heap.size,0,none⟩) len c) (w.alloc (.cells (vals++rest).toArray e)):=by
 have hle:=UO hR 0 (c * sz) (fun _=>none);have hc:X7 (g.fresh H.n w.heap.size 0 (c * sz) fun _=>none) (H.n+1) (w.alloc (.cells (vals++rest).toArray e)) ⟨w.heap.size,0,c * sz⟩ cells:=by
  have:=Ap (w:=w) (hv.mono (le_succ H.n) hle) [] rest rfl e (c * sz);simpa using this
 have hb:Yj C (g.fresh H.n w.heap.size 0 (c * sz) fun _=>none) (H.n+1) (w.alloc (.cells (vals++rest).toArray e)) ⟨w.heap.size,0,c * sz⟩ (if isRow then .row cells sz e else .cells cells e):=by
  cases isRow with
  | true=>exact ⟨hc,_,(0,0),Qv,by simpa using hlen,Nat.le_refl _⟩
  | false=>exact ⟨hc,_,(0,0),Qv,by simpa using hlen,rfl,by rw [hrest rfl];simpa using hv.1.symm⟩
 obtain ⟨h1,h2⟩:=hR.push lo (.cells (vals++rest).toArray e) (if isRow then .row cells sz e else .cells cells e) 0 (c * sz) (fun _=>none) noK (by cases isRow<;>rfl) hb
 refine ⟨_,h1,h2, ?_⟩;have:VRel (g.fresh H.n w.heap.size 0 (c * sz) fun _=>none) (H.n+1) (.rs H.n 0 len sz cap) (.slice (some ⟨((g.fresh H.n w.heap.size 0 (c * sz) fun _=>none).L H.n).b,((g.fresh H.n w.heap.size 0 (c * sz) fun _=>none).L H.n).o+0,none⟩) len c):=by
  refine .rs (lt_succ_self _) hlc ?_;cases cap with
  | none=>simp [Gh.fresh]
  | some k=>exact hcap k rfl
 simpa [Gh.fresh] using this
theorem LX (h:X7 g n w l cs) (hv:Zb g n vs cv) (hoff:off<=cs.length) {c:Array Value} {fz:Nat × Nat} (hc:w.heap[l.b]? = some (.cells c e fz))
 (hsz:l.o+cs.length+cv.length<=c.size) (e':Nat):X7 g n (w.setCells l.b (l.o+cs.length) cv) ⟨l.b,l.o+off,e'⟩ (cs.drop off++vs):=by
 obtain ⟨⟨c0,e0,fz0,h1,h2,h3⟩,h4⟩:=h;rw [hc] at h1;simp at h1;obtain ⟨rfl,rfl,rfl⟩:=h1;have hvl:=hv.1;obtain ⟨i1,i2,i3,i4,i5,i6⟩:=VM l.b cv (l.o+cs.length) w c e fz hc hsz;refine ⟨⟨_,e,fz,i1,fun i a hi => ?_, ?_⟩,fun x hx => ?_⟩
 . simp only [getElem?_toArray];have hlen1:(c.toList.take (l.o+cs.length)).length=l.o+cs.length:=by simp;omega
   rcases lt_or_ge i (cs.length - off) with hlt | hge
   . rw [getElem?_append_left (by simp;omega),getElem?_drop] at hi;rw [append_assoc,getElem?_append_left (by omega),getElem?_take,if_pos (by omega)];obtain ⟨v,hv1,hv2⟩:=h2 _ a hi;exact ⟨v,by rw [add_assoc];simpa using hv1,hv2⟩
   . rw [getElem?_append_right (by simp;omega)] at hi;obtain ⟨v,hv1,hv2⟩:=Zh.get hv hi;have hlt:=(List.getElem?_eq_some_iff.1 hv1).1;simp only [length_drop] at hv1 hlt;refine ⟨v, ?_,hv2⟩;rw [append_assoc,getElem?_append_right (by omega),hlen1,show l.o+off+i - (l.o+cs.length)=i - (cs.length - off) by omega,getElem?_append_left hlt];exact hv1
 . simp;omega
 . rw [World.frozen?_setCells];exact h4 x (by simp only [] at hx;omega)
theorem LY (hR:Rel C g H w) {cs:Value} {new:List Value}
 (h:Yv lo H sz e s rx=some (r,H')) (A:AppArgs P w ts tx e sz bytes cx rx.length new zc) (hs:VRel g H.n s cs) (hnew:Zb g H.n rx.flatten new) (hrx:∀ r ∈ rx,r.length=sz) (ty:TypeId) :
 ∃ cv w',(Builtin.append_ #[ts,tx] ty #[cs,cx]).run P w=.ok cv w'∧ZI C lo g H w r H' cv w':=by
 have hnl:new.length=rx.length * sz:=by rw [← hnew.1,QX hrx]
 have none:rx=[] → ∀ base len cap,cs=.slice base len cap→len≤cap → ∃ cv w',(Builtin.append_ #[ts,tx] ty #[cs,cx]).run P w=.ok cv w'∧ZI C lo g H w s H cv w':=by
  intro hr0 base len cap hcs hcap;subst hr0 hcs;have hn0:new=[]:=by have:=hnew.1;simp at this;exact eq_nil_of_length_eq_zero this.symm
  subst hn0;refine ⟨_,w,VN A (by simpa using hcap) ty ?_, ?_⟩
  · cases base<;>simp [storeCells]
  · exact ZI.same hR (by simpa using hs)
 unfold Yv at h;split at h
 · rename_i tok rows
   split at h
   · simp at h;obtain ⟨rfl,rfl⟩:=h;cases hs with
     | ps vals hsz hl hk hv hcap htok=>exact none rfl _ _ _ rfl hcap
     | psnil hm=>exact none rfl _ _ _ rfl (Nat.le_refl _)
     | psz hm=>exact none rfl _ _ _ rfl (Nat.le_refl _)
   · rename_i x rx'
     split at h
     · rename_i hc
       simp only [and_eq_true,decide_eq_true_eq] at hc;obtain ⟨⟨⟨⟨hc0,hc1⟩,hc2⟩,hc3⟩,hc4⟩:=hc;simp at h;obtain ⟨rfl,rfl⟩:=h;have hrs:=F4 hc3;obtain ⟨base,cap,rfl,hcap,old,hold,hread,htk,hex,hkn⟩:=Aw (P:=P) hR hrs hs;have hcl:cap=rows.length:=hex (by cases tok<;>simp [Tok.full] at hc0 ⊢);have hol:old.length=rows.length * sz:=by rw [← hold.1,QX hrs]
       obtain ⟨c,rest,g1,g2,g3⟩:=F7 A (by simp;omega) hc1 hc4 ty (hread w.drew rfl);refine ⟨_,_,g3, ?_⟩;have hRd:Rel C g H w.drew:=hR.congr rfl;have hEd:Ext lo g H w g H w.drew:=Ext.ofHeap rfl rfl rfl rfl;have hboth:Zb g H.n (rows++x::rx').flatten (old++new):=Ax (Zh.mono hold fun _ _ r=>r.any fun _ _ _ h=>h) hnew;obtain ⟨g',p1,p2,p3⟩:=hRd.newRow lo (rest:=rest) e (sz:=sz) (len:=rows.length+(x::rx').length) (c:=c) hboth (by
        rw [length_append,length_append,hol,hnl,g2,← add_mul,← add_mul];congr 1;omega) g1 Option.none (fun k hk=>by cases hk) true (.inl rfl) (fun h=>by cases h)
       exact ⟨g',by simpa using p1,by simpa using hEd.trans p2,by simpa using p3⟩
     · cases h
 · rename_i id off k sz' cap
   split at h
   · simp at h;obtain ⟨rfl,rfl⟩:=h;cases hs with
     | rs hid hlen hcap=>exact none rfl _ _ _ rfl hlen
   · rename_i x rx'
     split at h
     · rename_i hc
       simp only [and_eq_true,decide_eq_true_eq] at hc;obtain ⟨⟨⟨⟨⟨hc1,hc2⟩,hc3⟩,hc4⟩,hc5⟩,hc6⟩:=hc;subst hc3;have hcn:cap=Option.none:=by cases cap<;>simp at hc6 ⊢
       subst hcn;have hone:(x::rx').flatten.all AV.one=true:=by
        rw [all_eq_true];intro c hc;obtain ⟨r,hr,hcr⟩:=mem_flatten.1 hc;exact all_eq_true.1 (all_eq_true.1 hc2 r hr) c hcr
       have hones:∀ v ∈ new,v.oneCell'=true:=hnew.ones hone;cases hs with
       | @rs _ _ _ _ _ c _ hid hlen hcap =>
       have hcap:(g.L id).e=(g.L id).o+off+c * sz':=hcap;split at h
       · rename_i cells sz2 e2 hrow
         by_cases hee:e2=e
         case neg=>rw [if_neg hee] at h;cases h
         rw [if_pos hee] at h;subst hee;have hblk:=hR.blk id hid;rw [hrow] at hblk;have hcells:=hblk.1;obtain ⟨⟨_,hfree⟩,cc,fz,hcc,hcs,hfz⟩:=hblk;have hbound:(g.L id).o+cells.length≤cc.size:=by
          obtain ⟨⟨c0,e0,fz0,h1,h2,h3⟩,h4⟩:=hcells;rw [hcc] at h1;simp at h1;obtain ⟨rfl,rfl,rfl⟩:=h1;exact h3
         have hlive:(H.get id).live=true:=by rw [hrow];rfl
         split at h
         · rename_i hc7
           simp only [and_eq_true,decide_eq_true_eq] at hc7;obtain ⟨hs2,hend⟩:=hc7;subst hs2;simp at h;obtain ⟨rfl,rfl⟩:=h;obtain ⟨vals,hvals,hlies⟩:=Aa hcells (off:=off) (k:=k * sz2) (x:=cells.drop off) (by
            unfold ZW;rw [if_pos (by omega)];congr 1;rw [take_of_length_le (by simp;omega)])
           have hvl:vals.length=k * sz2:=by rw [← hvals.1];simp;omega
           by_cases hfit:k+(x::rx').length≤c
           · -- in place
             have hfit2:k * sz2+new.length≤c * sz2:=by
              rw [hnl,← add_mul];exact mul_le_mul_right _ hfit
             have hin:(g.L id).o+cells.length+new.length≤cc.size:=by rw [hcs,hcap];omega
             obtain ⟨i1,i2,i3,i4,i5,i6⟩:=VM (g.L id).b new ((g.L id).o+cells.length) w cc e2 fz hcc hin;have hst:(storeCells ((⟨(g.L id).b,(g.L id).o+off,Option.none⟩:Addr).add (k * sz2)) new).run P w=.ok () (w.setCells (g.L id).b ((g.L id).o+cells.length) new):=by
              rw [addr_add rfl];have:=run_storeCells_cells (P:=P) (g.L id).b ((g.L id).o+cells.length) new 0 w (fun j hj=>by
               unfold World.cell?;simp only [hcc];have:(g.L id).o+cells.length+0+j < cc.size:=by omega
               simp only [add_zero] at this;simp [this]) (fun j hj=>hfree _ (by omega)) hones
              have e1:(g.L id).o+off+k * sz2=(g.L id).o+cells.length:=by omega
              simp only [e1];simpa using this
             have hrun:=VN A hfit ty (w':=w.setCells (g.L id).b ((g.L id).o+cells.length) new) (base:=some ⟨(g.L id).b,(g.L id).o+off,Option.none⟩) hst;have hKn:∀ i v,g.K (g.L id).b i=some v→(w.setCells (g.L id).b ((g.L id).o+cells.length) new).cell? ⟨(g.L id).b,i,Option.none⟩=some v∧i < (g.L id).o+off:=by
              intro i v hi;have hlt:=hR.apart id hid hlive i v hi;refine ⟨?_,by omega⟩;rw [World.cell?_setCells_out (g.L id).b new ((g.L id).o+cells.length) w _ (fun _ _=>.inl (by simp;omega))];exact hR.know _ i v hi
             have hle2:Gh.le H.n g (g.fresh H.n (g.L id).b ((g.L id).o+off) (g.L id).e (g.K (g.L id).b)) :=
              ⟨fun j hj=>by simp only [Gh.fresh];rw [if_neg (ne_of_lt hj)],fun b' o' v hkk=>by
                simp only [Gh.fresh];split
                · rename_i e;subst e;exact hkk
                · exact hkk⟩
             have hext:=LX hcells hnew (off:=off) (by omega) hcc hin (g.L id).e;obtain ⟨m1,m2⟩:=hR.move (b':=.row (cells.drop off++(x::rx').flatten) sz2 e2) hc5 hid hlive rfl ((g.L id).o+off) (g.K (g.L id).b)
              (w':=w.setCells (g.L id).b ((g.L id).o+cells.length) new) i2 i3 i4 i5 i6 hKn (fun i v hi=>hi)
              ⟨X7.mono hext (le_succ _) hle2 rfl,_,fz,i1,by
                simp only [size_toArray,length_append,length_take,length_drop,Array.length_toList];omega,hfz⟩
             refine ⟨_,_,hrun,_,by simpa using m1,by simpa using m2, ?_⟩;have:VRel (g.fresh H.n (g.L id).b ((g.L id).o+off) (g.L id).e (g.K (g.L id).b)) (H.n+1) (.rs H.n 0 (k+(x::rx').length) sz2 Option.none)
              (.slice (some ⟨((g.fresh H.n (g.L id).b ((g.L id).o+off) (g.L id).e (g.K (g.L id).b)).L H.n).b,((g.fresh H.n (g.L id).b ((g.L id).o+off) (g.L id).e (g.K (g.L id).b)).L H.n).o+0,Option.none⟩) (k+(x::rx').length) c):=by
              refine .rs (lt_succ_self _) hfit ?_;simp [Gh.fresh,hcap]
             simpa [Gh.fresh] using this
           · -- a new row
             obtain ⟨r1,r2⟩:=hR.kill hc5 hid;obtain ⟨c',rest,g1,g2,g3⟩:=F7 A (by omega) hc1 hc4 ty (old:=vals) (base:=some ⟨(g.L id).b,(g.L id).o+off,Option.none⟩) (sLen:=k) (sCap:=c) (by
              simp only [Builtin.firstCells];rw [← hvl];exact VI rfl fun i v hi=>(QY rfl).trans (hlies i v hi))
             refine ⟨_,_,g3, ?_⟩;have hRd:Rel C g (H.set id .dead) w.drew:=r1.congr rfl;have hEd:Ext lo g (H.set id .dead) w g (H.set id .dead) w.drew:=Ext.ofHeap rfl rfl rfl rfl;obtain ⟨g',p1,p2,p3⟩:=hRd.newRow lo (rest:=rest) e2 (sz:=sz2) (len:=k+(x::rx').length) (c:=c') (hvals.append hnew) (by
              rw [length_append,length_append,hvl,hnl,g2,← add_mul,← add_mul];congr 1;omega) g1 Option.none (fun k hk=>by cases hk) true (.inl rfl) (fun h=>by cases h)
             exact ⟨g',by simpa using p1,by simpa using r2.trans (hEd.trans p2),by simpa using p3⟩
         · split at h
           · rename_i hc8
             simp only [and_eq_true,decide_eq_true_eq] at hc8;obtain ⟨hs2,hbd⟩:=hc8;subst hs2;simp only [Option.some.injEq,Prod.mk.injEq] at h;obtain ⟨rfl,rfl⟩:=h;have hfl:(x::rx').flatten.length=(x::rx').length * sz2:=QX hrx;have hfit:k+(x::rx').length≤c:=by
              refine le_of_mul_le_mul_right (c:=sz2) ?_ hc4;omega
             have hset:Q8 (H.get id) (off+k * sz2) (x::rx').flatten=some (.row (over cells (off+k * sz2) (x::rx').flatten) sz2 e2):=by
              rw [hrow];simp only [Q8];rw [if_pos];rw [hfl,add_assoc,← add_mul];exact hbd
             obtain ⟨h1,h2,h3⟩:=hR.write (P:=P) hc5 hid hset hnew hone 0 (o':=(g.L id).o+off+k * sz2) (by omega);refine ⟨_,_,VN A hfit ty (base:=some ⟨(g.L id).b,(g.L id).o+off,Option.none⟩) (by simp only [];rw [addr_add rfl];exact h1),g,h2,h3, ?_⟩;exact .rs hid hfit (by simp only [];exact hcap)
           · cases h
       · cases h
     · cases h
 · cases h
theorem Az {sz:Nat}:∀ {l:List (Nat × AV)} {cl:List (Nat × Value)} {i:Nat} {rows:List (List AV)},VD sz i l=some rows→Zh (fun (x:Nat × AV) (y:Nat × Value)=>x.1=y.1∧VRel g n x.2 y.2) l cl →
 ∃ vals:List Value,Zb g n rows.flatten vals∧(∀ r ∈ rows,r.length=sz)∧rows.length=l.length ∧
   ∀ (pre post:List Value) ,pre.length=i * sz→l.length * sz≤post.length→Instr.fill (fun i=>some (i * sz,sz)) (pre++post).toArray cl=some (pre++vals++post.drop (l.length * sz)).toArray
 | [],cl,i,rows,h,hl=>by
   simp [VD] at h;subst h;rw [hl.nil_left];exact ⟨[],.nil,by simp,rfl,fun pre post _ _=>by simp [Instr.fill]⟩
 | (j,v)::l,cl,i,rows,h,hl=>by
   obtain ⟨⟨j',cv⟩,cl',rfl,⟨hj,hv⟩,hl'⟩:=hl.cons_left;simp at hj hv;subst hj;unfold VD at h;split at h
   · rename_i hc
     simp at hc;obtain ⟨⟨hc1,hc2⟩,hc3⟩:=hc;subst hc1;split at h
     · rename_i rest hrest
       simp at h;subst h;obtain ⟨vals,h1,h2,h3,h4⟩:=Az hrest hl';have hcells:=hv.cells;have hp:=hcells;have hcl:cv.cells.size=sz:=by have:=hcells.1;simp at this;omega
       refine ⟨cv.cells.toList++vals, ?_, ?_,by simp [h3],fun pre post hpre hpost => ?_⟩
       · simp only [flatten_cons];exact hp.append h1
       · intro r hr;rcases mem_cons.1 hr with rfl | hr
         · simp [hc2]
         · exact h2 r hr
       · simp only [length_cons,succ_mul] at hpost ⊢;unfold Instr.fill;simp only [];rw [if_neg (by simp [hcl,hpre];omega)];have e:=UM cv.cells.toList (j * sz) (pre++post).toArray (by simp [hcl,hpre];omega);have e2:cv.cells.zipIdx.foldl (fun cs (x:Value × Nat)=>cs.setIfInBounds (j * sz+x.2) x.1) (pre++post).toArray=(cv.cells.toList.zipIdx 0).foldl (fun cs (x:Value × Nat)=>cs.setIfInBounds (j * sz+x.2) x.1) (pre++post).toArray:=by
          rw [← Array.foldl_toList,Array.toList_zipIdx]
         have e3:cv.cells.zipIdx.foldl (fun cs (x:Value × Nat)=>cs.setIfInBounds (j * sz+x.2) x.1) (pre++post).toArray=((pre++cv.cells.toList)++post.drop sz).toArray:=by
          rw [e2];apply Array.toList_inj.1;rw [e];have hcl':cv.cells.toList.length=sz:=by simpa using hcl
          rw [hcl'];have d1:(pre++post).take (j * sz)=pre:=by rw [← hpre];simp
          have d2:(pre++post).drop (j * sz+sz)=post.drop sz:=by
           rw [← hpre,drop_append,drop_eq_nil_of_le (by omega),show pre.length+sz - pre.length=sz by omega];simp
          rw [d1,d2]
         show Instr.fill _ (cv.cells.zipIdx.foldl (fun cs (x:Value × Nat)=>cs.setIfInBounds (j * sz+x.2) x.1) (pre++post).toArray) cl'=_;rw [e3,h4 (pre++cv.cells.toList) (post.drop sz) (by simp [hpre,hcl,succ_mul]) (by simp;omega)];simp [drop_drop,add_comm]
     · cases h
   · cases h
theorem LZ (hR:Rel C g H w) (lo:Nat) {len:Nat} {l:List (Nat × AV)} {H2:Heap} (h:GK P H t len l=some (r,H2)) {cl:List (Nat × Value)} (hl:Zh (fun (x:Nat × AV) (y:Nat × Value)=>x.1=y.1∧VRel g H.n x.2 y.2) l cl) :
 ∃ cv w',(Instr.buildSlice t len cl.toArray).run P w=.ok cv w'∧ZI C lo g H w r H2 cv w':=by
 unfold GK at h;split at h
 · rename_i e he
   have ht:=Jf he;split at h
   · rename_i sz hsz
     split at h
     · rename_i hc
       simp at hc;obtain ⟨⟨⟨⟨hc1,hc2⟩,hlp⟩,hsp⟩,hzs⟩:=hc;have hc3:len=0∨(0 < sz∧(ZF P e).isSome=true):=.inr ⟨hsp,hzs⟩;split at h
       · rename_i rows hrows
         simp at h;obtain ⟨rfl,rfl⟩:=h;obtain ⟨vals,h1,h2,h3,h4⟩:=Az hrows hl;have hvl:vals.length=len * sz:=by rw [← h1.1,QX h2,h3,hc1]
         obtain ⟨zero,hz⟩:∃ zero:Array Value,(if len * sz=0 then Pure.pure #[] else do pure (← zeroValue e).cells:Sem (Array Value)).run P w=.ok zero w:=by
          rcases hc3 with h0 | ⟨_,hz⟩
          · exact ⟨#[],by rw [if_pos (by simp [h0])];rfl⟩
          · obtain ⟨z,hz⟩:=isSome_iff_exists.1 hz;obtain ⟨cz,hz1,_,_⟩:=Jg (w:=w) hz;by_cases h0:len * sz=0
            · exact ⟨#[],by rw [if_pos h0];rfl⟩
            · exact ⟨cz.cells,by rw [if_neg h0];simp [hz1]⟩
         have hfill:Instr.fill (fun i=>some (i * sz,sz)) ((Array.range (len * sz)).map (fun i=>zero[i % zero.size]!)) cl=some vals.toArray:=by
          have:=h4 [] ((Array.range (len * sz)).map (fun i=>zero[i % zero.size]!)).toList (by simp) (by simp [hc1]);rw [nil_append,Array.toArray_toList] at this;rw [this];rw [drop_eq_nil_of_le (by simp [hc1])];simp
         have hrun:(Instr.buildSlice t len cl.toArray).run P w=.ok (.slice (some ⟨w.heap.size,0,none⟩) len len) (w.alloc (.cells vals.toArray e)):=by
          simp only [Instr.buildSlice,Sem.run_bind,Zm ht,Result.andThen_ok,Yw hsz];have hno:¬ (len * sz > 2 ^ 24):=by simp;omega
          simp only [hno,if_false];by_cases h0:len * sz=0
          · simp only [h0,if_true,Sem.run_pure,Result.ok.injEq,and_true] at hz;subst hz;rw [if_pos h0];simp only [Sem.run_bind,Sem.run_pure,Result.andThen_ok];rw [h0] at hfill ⊢;simp only [hfill];simp [newRow]
          · rw [if_neg h0] at hz ⊢;simp only [Sem.run_bind,Sem.run_pure] at hz ⊢;cases hz2:(zeroValue e).run P w with
            | halt x y=>rw [hz2] at hz;simp [Result.andThen] at hz
            | ok cz w2 =>
              rw [hz2] at hz;simp only [Result.andThen_ok,Result.ok.injEq] at hz ⊢;obtain ⟨rfl,rfl⟩:=hz;simp only [hfill];simp [newRow]
         have hrow:=hR.newRow lo (rest:=[]) e (sz:=sz) (len:=len) (c:=len) h1 (by simpa using hvl) (Nat.le_refl _) (some len) (fun _ h=>by cases h;rfl) false (.inr rfl) (fun _=>rfl);exact ⟨_,_,hrun,by simpa using hrow⟩
       · cases h
     · cases h
   · cases h
 · cases h
theorem F8 (zs:List Value):∀ k,(List.range (k * zs.length)).map (fun i=>zs[i % zs.length]!)=(List.replicate k zs).flatten
 | 0=>by simp
 | k+1=>by
   have ih:=F8 zs k;rw [succ_mul,add_comm,range_add,map_append,replicate_succ,flatten_cons,<- ih]
   congr 1
   . apply ext_getElem
     . simp
     . intro i h1 h2;simp at h1 h2;simp [mod_eq_of_lt h1,h1]
   . rw [map_map];apply map_congr_left;intro i _;simp [add_mod_left]
theorem F9 {cs:List AV} {vs:List Value} (h:Zb g n cs vs):∀ k,Zb g n (List.replicate k cs).flatten (List.replicate k vs).flatten
 | 0=>.nil
 | k+1=>by simp only [replicate_succ,flatten_cons];exact h.append (F9 h k)
theorem AA {l:AV} (h:Jd P H t l c=some (r,H')) {cl:Value} (hl:VRel g n l cl) (hc:VRel g n c cc) :
 ∃ (k m sz:Nat) (e:TypeId) (cs:List AV) (vals:List Value),((k=m/\r=.rs H.n 0 k sz (some k)/\H'=H.push (.cells cs e))\/(k < m/\l ≠ c/\r=.rs H.n 0 k sz none/\H'=H.push (.row cs sz e)))/\(∀ g' n',Zb g' n' cs vals)/\vals.length=m * sz /\
   ∀ w:World,(Instr.makeSlice t cl cc).run P w=.ok (.slice (some ⟨w.heap.size,0,none⟩) k m) (w.alloc (.cells vals.toArray e)):=by
 unfold Jd at h;split at h
 . rename_i e he
   split at h
   . rename_i _ _ _ _ _ sz bytes z kl k kc m hsz hby hz
     split at h
     . rename_i hcond
       simp only [and_eq_true,decide_eq_true_eq] at hcond;obtain ⟨⟨⟨⟨h1,h2⟩,h3⟩,h4⟩,h5⟩:=hcond;obtain ⟨cz,_,hz2,i,hi1,hi2⟩:=Jg (w:=(default:World)) hz;have hz1:∀ w':World,(zeroValue e).run P w'=.ok cz w':=fun w'=>by simp [zeroValue,typeInfo,hi1,hi2]
       have hzs:cz.cells.size=sz:=by
        have:=(hz2 g 0).cells.1;simp at this;omega
       have hib:i.bytes=bytes:=by simp [YR,hi1] at hby;exact hby
       cases hl;cases hc;have hlen:((List.replicate m cz.cells.toList).flatten).length=m * sz:=by simp [hzs]
       refine ⟨k,m,sz,e,(List.replicate m z.cells).flatten,(List.replicate m cz.cells.toList).flatten, ?_,fun g' n'=>F9 (hz2 g' n').cells m,hlen,fun w => ?_⟩
       . by_cases hkm:k=m
         . subst hkm;rw [if_pos rfl] at h;simp at h;exact .inl ⟨rfl,h.1.symm,h.2.symm⟩
         . rw [if_neg hkm] at h;simp at h;refine .inr ⟨by omega,fun he => ?_,h.1.symm,h.2.symm⟩;simp at he;exact hkm (by have:=he.2;omega)
       have hw1:IntKind.i64.wrap (Int.ofNat k)=(k:Int):=by
        rw [<- GS];unfold ZC inK;have:Nat.ble k (QT .i64)=true:=by simp [QT];unfold Z2 at h3;omega
        simp [this]
       have hw2:IntKind.i64.wrap (Int.ofNat m)=(m:Int):=by
        rw [<- GS];unfold ZC inK;have:Nat.ble m (QT .i64)=true:=by simp [QT];unfold Z2 at h3;omega
        simp [this]
       have hti:∀ w':World,(typeInfo e).run P w'=.ok i w':=fun w'=>by simp [typeInfo,hi1]
       have hnl:¬ ((i.bytes:Int) * (m:Int) > 2 ^ 48):=by
        rw [hib];have:(bytes:Int) * (m:Int)=((bytes * m:Nat):Int):=by simp
        rw [this];omega
       have hnl2:¬ ((i.bytes:Int) * (k:Int) > 2 ^ 48):=by
        rw [hib];have h6:bytes * k<=bytes * m:=mul_le_mul_left _ h1;have:(bytes:Int) * (k:Int)=((bytes * k:Nat):Int):=by simp
        rw [this];omega
       have hcells:(Array.range (m * sz)).map (fun x=>cz.cells[x % cz.cells.size]!)=(List.replicate m cz.cells.toList).flatten.toArray:=by
        apply Array.toList_inj.1;have:=F8 cz.cells.toList m;simp only [Array.length_toList,hzs] at this;rw [Array.toList_map,Array.toList_range,hzs,toList_toArray,<- this];apply map_congr_left;intro i _;rw [getElem!_def,getElem!_def,Array.getElem?_toList]
       have hai:∀ (kk:IntKind) (x:Nat) (w':World),(asInt (.int kk (Int.ofNat x))).run P w'=.ok (x:Int) w':=fun kk x w'=>by simp [asInt,asIntOf]
       have hw1':IntKind.i64.wrap (k:Int)=(k:Int):=hw1;have hw2':IntKind.i64.wrap (m:Int)=(m:Int):=hw2;unfold Instr.makeSlice;simp only [Sem.run_bind,Zm (Jf he),Result.andThen_ok,hai,hti,hw1',hw2'];have hd1:decide ((k:Int) < 0)=false:=by simp
       have hd1':decide ((m:Int) < 0)=false:=by simp
       have hd2:decide ((i.bytes:Int) * (m:Int) > 2 ^ 48)=false:=decide_eq_false hnl;have hd2':decide ((i.bytes:Int) * (k:Int) > 2 ^ 48)=false:=decide_eq_false hnl2;have hd3:decide ((k:Int) > (m:Int))=false:=by simp;omega
       simp only [hd1,hd1',hd2,hd2',hd3,Bool.or_false,false_eq_true,if_false,Sem.run_bind,Result.andThen_ok,run_askRoom,Yw hsz,toNat_natCast];by_cases hk:m * sz=0
       . have hk':m=0:=by
          rcases mul_eq_zero.1 hk with h | h
          . exact h
          . omega
         subst hk';have:k=0:=by omega
         subst this;simp [newRow]
         congr 2
         apply Array.eq_empty_of_size_eq_zero;simp
       . rw [if_neg hk];simp only [hz1,Sem.run_bind,Sem.run_pure,Result.andThen_ok,newRow,hcells];simp
     . cases h
   . cases h
 . cases h
theorem M0 (hR:Rel C g H w) (lo:Nat) {l:AV} (h:Jd P H t l c=some (r,H')) {cl:Value} (hl:VRel g H.n l cl) (hc:VRel g H.n c cc) :
 ∃ cv w',(Instr.makeSlice t cl cc).run P w=.ok cv w'/\ZI C lo g H w r H' cv w':=by
 obtain ⟨k,m,sz,e,cs,vals,h0,h3,h4,h5⟩:=AA h hl hc;refine ⟨_,_,h5 w, ?_⟩;rcases h0 with ⟨rfl,rfl,rfl⟩ | ⟨hlt,_,rfl,rfl⟩
 . have hrow:=hR.newRow lo (rest:=[]) e (sz:=sz) (len:=k) (c:=k) (h3 g H.n) (by simpa using h4) (Nat.le_refl _) (some k) (fun _ h=>by cases h;rfl) false (.inr rfl) (fun _=>rfl);simpa using hrow
 . have hrow:=hR.newRow lo (rest:=[]) e (sz:=sz) (len:=k) (c:=m) (h3 g H.n) (by simpa using h4) (le_of_lt hlt) none (fun _ h=>by cases h) true (.inl rfl) (fun h=>by cases h);simpa using hrow
theorem M4 (hR:Rel C g H w) {d:AV} (h:Je P lo H t d s=some (r,H')) {cd cs:Value} (hd:VRel g H.n d cd) (hs:VRel g H.n s cs) (ts:List TypeId) (ty:TypeId) :
 ∃ cv w',(Builtin.copy_ (t::ts).toArray ty #[cd,cs]).run P w=.ok cv w'/\ZI C lo g H w r H' cv w':=by
 unfold Je at h;split at h
 . rename_i e he
   split at h
   . rename_i sz hsz
     split at h
     . rename_i rows hrows
       obtain ⟨vals,hread,hvals,hlen⟩:=F6 (P:=P) hR hrows hs;obtain ⟨hl,hf⟩:=hread w rfl;split at h
       . rename_i id off k sz' cap
         split at h
         . rename_i hc
           simp only [and_eq_true,decide_eq_true_eq] at hc;obtain ⟨⟨⟨h1,h2⟩,h3⟩,h4⟩:=hc;subst h1;split at h
           . rename_i b' hb'
             simp at h;obtain ⟨rfl,rfl⟩:=h;cases hd with
             | rs hid hle hcap =>
               obtain ⟨w1,w2,w3⟩:=hR.write (P:=P) h2 hid hb' hvals h4 0 (o':=(g.L id).o+off) (by omega);refine ⟨goInt rows.length,_, ?_,g,w2,w3,.int _ _⟩;have hmin:Nat.min rows.length k=rows.length:=min_eq_left h3;unfold Builtin.copy_;simp [Zm (Jf he),hl,hmin,Yw hsz,hf,w1]
           . cases h
         . cases h
       . simp at h;obtain ⟨rfl,rfl⟩:=h;have hform:∃ base c,cd=.slice base 0 c:=by
          cases hd with
          | ps=>exact ⟨_,_,rfl⟩
          | psnil=>exact ⟨_,_,rfl⟩
          | psz=>exact ⟨_,_,rfl⟩
         obtain ⟨base,c,rfl⟩:=hform;have hcs:(Builtin.firstCells sz 0 cs).run P w=.ok #[] w:=by
          cases cs<;>simp [Builtin.lenOf] at hl<;>simp [Builtin.firstCells]
          rename_i b _ _
          cases b<;>simp [loadCells,loadCellsFrom]
         refine ⟨goInt 0,w, ?_,ZI.same hR (.int _ _)⟩;unfold Builtin.copy_;have hmin:Nat.min rows.length 0=0:=min_eq_right (zero_le _);cases base<;>simp [Zm (Jf he),hl,Yw hsz,hcs,storeCells]
       . cases h
     . cases h
   . cases h
 . cases h
theorem AB (cz:Array Value) (n:Nat):(Builtin.zeroCells cz n).toList=(List.replicate n cz.toList).flatten:=by
 unfold Builtin.zeroCells;have:=F8 cz.toList n;simp only [Array.length_toList] at this;rw [Array.toList_map,Array.toList_range,<- this];apply map_congr_left;intro i _;rw [getElem!_def,getElem!_def,Array.getElem?_toList]
theorem M5 (hR:Rel C g H w) (h:GN P lo H t x=some (r,H')) (hx:VRel g H.n x cx) (ty:TypeId) :
 ∃ cv w',(Builtin.clear_ #[t] ty #[cx]).run P w=.ok cv w'/\ZI C lo g H w r H' cv w':=by
 unfold GN at h;split at h
 . rename_i e he
   split at h
   . rename_i sz z hsz hz
     obtain ⟨cz,hz1,hz2,_⟩:=Jg (w:=w) hz;split at h
     . rename_i id off n sz' cap
       split at h
       . rename_i hn
         subst hn;simp at h;obtain ⟨rfl,rfl⟩:=h;cases hx with
         | rs hid hle hcap =>
           refine ⟨.tuple #[],w, ?_,ZI.same hR VRel.undef⟩;unfold Builtin.clear_;simp [Zm (Jf he)]
       . rename_i hn
         split at h
         . rename_i hc
           simp only [and_eq_true,decide_eq_true_eq] at hc;obtain ⟨⟨h1,h2⟩,h4⟩:=hc;split at h
           . rename_i b' hb'
             simp at h;obtain ⟨rfl,rfl⟩:=h;cases hx with
             | rs hid hle hcap =>
               obtain ⟨w1,w2,w3⟩:=hR.write (P:=P) h2 hid hb' (F9 (hz2 g H.n).cells n) h4 0 (o':=(g.L id).o+off) (by omega);refine ⟨.tuple #[],_, ?_,g,w2,w3,VRel.undef⟩;rw [<- AB] at w1;unfold Builtin.clear_;obtain ⟨m,rfl⟩:∃ m,n=m+1:=⟨n - 1,by omega⟩;simp [Zm (Jf he),hz1,w1];rw [AB]
           . cases h
         . cases h
     . simp at h;obtain ⟨rfl,rfl⟩:=h;have hform:∃ base c,cx=.slice base 0 c:=by
        cases hx with
        | ps=>exact ⟨_,_,rfl⟩
        | psnil=>exact ⟨_,_,rfl⟩
        | psz=>exact ⟨_,_,rfl⟩
       obtain ⟨base,c,rfl⟩:=hform;refine ⟨.tuple #[],w, ?_,ZI.same hR VRel.undef⟩;unfold Builtin.clear_;cases base<;>simp [Zm (Jf he)]
     . cases h
   . cases h
 . cases h
end Go.Sim
