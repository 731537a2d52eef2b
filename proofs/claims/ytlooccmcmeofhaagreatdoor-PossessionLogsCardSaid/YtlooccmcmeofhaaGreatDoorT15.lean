/-
Lemmas of one proof, the texts Lay3 to Chk2 joined.
-/
import Derived.Test.YtlooccmcmeofhaaGreatDoorT14
import Derived.Shelf.Strings.SlTrimAscii
import Derived.Test.YtlooccmcmeofhaaGreatDoorProg
set_option linter.unusedSimpArgs false
set_option linter.unusedVariables false
open Nat (reduceEqDiff reduceAdd reduceMul reduceSub reduceLeDiff reduceLT)

namespace Go.Proofs
def Tryz.lays160_ren:Go.Shelf.Ren:=⟨fun | 119=>340 | 120=>333 | 137=>339 | 151=>316 | 152=>332 | 160=>203 | 197=>304 | 217=>311 | 224=>313 | 225=>312 | 227=>283 | 228=>315 | 231=>281 | 232=>282 | 233=>284 | 234=>285 | 235=>286 | 236=>287 | 260=>329 | 266=>330 | 271=>317 | n=>n,fun | 0=>0 | 3=>3 | 4=>4 | 5=>5 | 9=>9 | 21=>21 | 46=>315 | 105=>360 | 116=>340 | 117=>341 | 119=>391 | 124=>344 | 138=>393 | 139=>394 | n=>n,fun | 3=>2 | 4=>3 | n=>n⟩
theorem Tryz.lays160:Go.Proofs.Lays.n160 Tryz.prog Tryz.lays160_ren:={
 mixed:=by kernel_rfl
 f119:=Tryz.func340.trans (congrArg some (by kernel_rfl))
 f120:=Tryz.func333.trans (congrArg some (by kernel_rfl))
 f137:=Tryz.func339.trans (congrArg some (by kernel_rfl))
 f151:=Tryz.func316.trans (congrArg some (by kernel_rfl))
 f152:=Tryz.func332.trans (congrArg some (by kernel_rfl))
 f160:=Tryz.func203.trans (congrArg some (by kernel_rfl))
 f197:=Tryz.func304.trans (congrArg some (by kernel_rfl))
 f217:=Tryz.func311.trans (congrArg some (by kernel_rfl))
 f224:=Tryz.func313.trans (congrArg some (by kernel_rfl))
 f225:=Tryz.func312.trans (congrArg some (by kernel_rfl))
 f227:=Tryz.func283.trans (congrArg some (by kernel_rfl))
 f228:=Tryz.func315.trans (congrArg some (by kernel_rfl))
 f231:=Tryz.func281.trans (congrArg some (by kernel_rfl))
 f232:=Tryz.func282.trans (congrArg some (by kernel_rfl))
 f233:=Tryz.func284.trans (congrArg some (by kernel_rfl))
 f234:=Tryz.func285.trans (congrArg some (by kernel_rfl))
 f235:=Tryz.func286.trans (congrArg some (by kernel_rfl))
 f236:=Tryz.func287.trans (congrArg some (by kernel_rfl))
 f260:=Tryz.func329.trans (congrArg some (by kernel_rfl))
 f266:=Tryz.func330.trans (congrArg some (by kernel_rfl))
 f271:=Tryz.func317.trans (congrArg some (by kernel_rfl))
 t0:=Tryz.underlying0
 a0:=Tryz.isAgg0
 z0:=Tryz.sizeOf0
 v0:=Tryz.zeroValue0
 t3:=Tryz.underlying3
 a3:=Tryz.isAgg3
 z3:=Tryz.sizeOf3
 v3:=Tryz.zeroValue3
 t4:=Tryz.underlying4
 a4:=Tryz.isAgg4
 z4:=Tryz.sizeOf4
 v4:=Tryz.zeroValue4
 t5:=Tryz.underlying5
 a5:=Tryz.isAgg5
 z5:=Tryz.sizeOf5
 v5:=Tryz.zeroValue5
 t9:=Tryz.underlying9
 a9:=Tryz.isAgg9
 z9:=Tryz.sizeOf9
 v9:=Tryz.zeroValue9
 t21:=Tryz.underlying21
 a21:=Tryz.isAgg21
 z21:=Tryz.sizeOf21
 v21:=Tryz.zeroValue21
 t46:=Tryz.underlying315
 a46:=Tryz.isAgg315
 z46:=Tryz.sizeOf315
 v46:=Tryz.zeroValue315
 t105:=Tryz.underlying360
 a105:=Tryz.isAgg360
 z105:=Tryz.sizeOf360
 v105:=Tryz.zeroValue360
 t116:=Tryz.underlying340
 a116:=Tryz.isAgg340
 z116:=Tryz.sizeOf340
 t117:=Tryz.underlying341
 a117:=Tryz.isAgg341
 z117:=Tryz.sizeOf341
 v117:=Tryz.zeroValue341
 t119:=Tryz.underlying391
 a119:=Tryz.isAgg391
 z119:=Tryz.sizeOf391
 t124:=Tryz.underlying344
 a124:=Tryz.isAgg344
 z124:=Tryz.sizeOf344
 v124:=Tryz.zeroValue344
 t138:=Tryz.underlying393
 a138:=Tryz.isAgg393
 z138:=Tryz.sizeOf393
 v138:=Tryz.zeroValue393
 t139:=Tryz.underlying394
 a139:=Tryz.isAgg394
 z139:=Tryz.sizeOf394
 v139:=Tryz.zeroValue394
 g3:=by kernel_rfl
 g4:=by kernel_rfl }
end Go.Proofs

namespace Go.Sim
open Go Go.Proofs Go.Shelf Go.RowKit
open Go.Sim.Pos (Nm)
set_option maxRecDepth 100000
set_option maxHeartbeats 8000000
def Jk:List Nat:=[48,49,50,51,52,53,54,55,56,57]
def VS (s:List Nat):List Nat:=((s.reverse.dropWhile (Jk.contains ·)).reverse).dropWhile (Jk.contains ·)
theorem Z7l (l:List UInt8) (u:UInt8):(l.map UInt8.toNat).contains u.toNat=l.contains u:=by
 induction l with
 | nil=>rfl
 | cons a r ih =>
   rw [List.map_cons,List.contains_cons,List.contains_cons,ih]
   congr 1
   rw [Bool.eq_iff_iff,beq_iff_eq,beq_iff_eq];exact UInt8.toNat_inj
theorem IT {cs:List UInt8} {L:List Nat} (h:cs.map UInt8.toNat=L) (l:List UInt8):(l.dropWhile (cs.contains ·)).map UInt8.toNat=(l.map UInt8.toNat).dropWhile (L.contains ·):=by
 subst h
 induction l with
 | nil=>rfl
 | cons a r ih =>
   rw [List.map_cons,List.dropWhile_cons,List.dropWhile_cons,Z7l];split
   · exact ih
   · rfl
theorem Z7m {cs:List UInt8} (h:cs.map UInt8.toNat=Jk) (l:List UInt8):(Lib.trimS l cs).map UInt8.toNat=VS (l.map UInt8.toNat):=by
 unfold Lib.trimS Lib.trimLeftS Lib.trimRightS VS;rw [IT h,List.map_reverse,IT h,List.map_reverse]
theorem Ak {p:Nat→Bool}:∀ {l:List Nat},l.dropWhile p=[]→l.all p=true
 | [],_=>rfl
 | a::r,h=>by
   rw [List.dropWhile_cons] at h;split at h
   · rename_i hp
     rw [List.all_cons,hp,Ak h];rfl
   · cases h
theorem IU {p:Nat→Bool}:∀ {l:List Nat},l.all p=true→l.dropWhile p=[]
 | [],_=>rfl
 | a::r,h=>by
   rw [List.all_cons,Bool.and_eq_true] at h;rw [List.dropWhile_cons,if_pos h.1,IU h.2]
theorem IV {p:Nat→Bool}:∀ {l:List Nat} {a:Nat} {r:List Nat},l.dropWhile p=a::r→p a=false
 | b::l,a,r,h=>by
   rw [List.dropWhile_cons] at h;split at h
   · exact IV h
   · rename_i hp
     cases h;simpa using hp
theorem Z7n (c:Nat):Jk.contains c=ZY (c:Int):=by
 rw [Bool.eq_iff_iff,JY];simp only [Jk,List.contains_eq_mem,List.mem_cons,List.not_mem_nil,or_false,decide_eq_true_eq];omega
theorem Z7o (s:List Nat):Z6 (VS s) []=Yc s:=by
 have hd:Yc s=s.all (Jk.contains ·):=by
  unfold Yc
  congr 1
  funext c
  exact (Z7n c).symm
 rw [YV,hd,Bool.eq_iff_iff,beq_iff_eq];unfold VS;constructor
 · intro h;have h1:=Ak h;rw [List.all_reverse] at h1;cases h2:s.reverse.dropWhile (Jk.contains ·) with
   | nil =>
     have:=Ak h2
     rwa [List.all_reverse] at this
   | cons a r =>
     have h3:=IV h2;rw [h2,List.all_cons,h3] at h1;cases h1
 · intro h;rw [IU (l:=s.reverse) (by rw [List.all_reverse];exact h)];rfl
def G5:List AV→Option AV
 | [.str s,.str c]=>if s.length≤Z1∧c=Jk then some (.str (VS s)) else none
 | _=>none
theorem Z7p:Pok G5 203:=by
 intro args v h lo H;unfold G5 at h;split at h
 · rename_i s c
   split at h
   · rename_i hc
     obtain ⟨hl,rfl⟩:=hc;simp at h;subst h;refine ⟨⟨Tryz.f203,Tryz.func203,rfl,by kernel_rfl⟩,fun g w cargs hR ha => ?_⟩;obtain ⟨x,y,rfl,hx,hy⟩:=UH ha;cases hx with
     | str hx =>
     cases hy with
     | str hy =>
     rename_i bs bc
     show CallsIn Fence.wide 0 Tryz.prog 203 _ w _;rw [callsIn_wide];have hy':bc.data.toList.map UInt8.toNat=Jk:=hy;have hlen:bc.data.toList.length=10:=by
      have:=congrArg List.length hy';rw [List.length_map] at this;exact this
     have hsz:bs.size=s.length:=by
      have:=congrArg List.length hx;rw [List.length_map] at this;rw [← this];rfl
     refine (Any.strings_Trim_laid Tryz.lays160 (by kernel_rfl) bs bc w (by rw [hsz];unfold Z1 at hl;omega) (by have:bc.size=10:=hlen;omega) ?_).mono ?_
     · intro j b hb;have hm:b.toNat ∈ Jk:=by rw [← hy'];exact List.mem_map_of_mem (List.mem_of_getElem? hb)
       simp only [Jk,List.mem_cons,List.not_mem_nil,or_false] at hm;omega
     · rintro e w' ⟨rfl,hb⟩;obtain ⟨r1,r2⟩:=hR.below hb lo;refine ⟨g,r1,r2,.str ?_⟩;rw [← hx];exact Z7m hy' _
   · cases h
 · cases h
theorem IW (s:List Nat) (hp:s.length≤Z1):G5 [.str s,.str [48,49,50,51,52,53,54,55,56,57]]=some (.str (VS s)):=if_pos ⟨hp,rfl⟩
attribute [go_sem] IW
noncomputable def rqI (op:BinOp) (t:TypeId) (x y:AV):Option AV:=Kf NC.P op t x y
section
variable {P:PF} {rec:Rec} {fid lo:Nat} {T:TT AV} {H:Heap} {K:AV→Heap→Prop} {d:Option Tmp} {t:TypeId} {p:String} {af:Array Edge} {gd:Option (Nat × Bool)}
theorem Z7q (t':TypeId) (x y:Operand) (u:TypeId):VO (aop (NC.withPrims P) rec fid lo ⟨d,.binOp .rem t' x y u,t,p,af,gd⟩ T H) K=AO (Z4 (NC.withPrims P) T x) fun x=>AO (Z4 (NC.withPrims P) T y) fun y=>AO (rqI .rem t' x y) fun v=>K v H:=Dh .rem t' x y u
theorem Z7r (t':TypeId) (x y:Operand) (u:TypeId):VO (aop (NC.withPrims P) rec fid lo ⟨d,.binOp .quo t' x y u,t,p,af,gd⟩ T H) K=AO (Z4 (NC.withPrims P) T x) fun x=>AO (Z4 (NC.withPrims P) T y) fun y=>AO (rqI .quo t' x y) fun v=>K v H:=Dh .quo t' x y u
end
attribute [go_sem ↓ 2000] Z7q Z7r
theorem F5 (a b:Nat) (hb:0 < b):rqI .rem 3 (.int .i64 (a:Int)) (.int .i64 (b:Int))=some (.int .i64 ((a % b:Nat):Int)):=by
 have hu:NC.P.underlying 3=some (.int .i64):=by kernel_rfl
 have hb':((b:Int)=0)=False:=by simp only [eq_iff_iff,iff_false];omega
 unfold rqI;simp (maxDischargeDepth:=12) only [go_sem,hb'];rfl
theorem IX (a b:Nat) (hb:0 < b) (ha:a≤9223372036854775807):rqI .quo 3 (.int .i64 (a:Int)) (.int .i64 (b:Int))=some (.int .i64 ((a / b:Nat):Int)):=by
 have hu:NC.P.underlying 3=some (.int .i64):=by kernel_rfl
 have hb':((b:Int)=0)=False:=by simp only [eq_iff_iff,iff_false];omega
 have hq:a / b≤9223372036854775807:=Nat.le_trans (Nat.div_le_self _ _) ha;have hw:IntKind.i64.wrap (Int.tdiv (a:Int) (b:Int))=((a / b:Nat):Int):=Ag (n:=((a / b:Nat):Int)) (Int.natCast_nonneg _) (by omega);unfold rqI;simp (maxDischargeDepth:=12) only [go_sem,hb'];rw [hw];rfl
theorem Al {c:Nat} (h:c < 256):QB NC.P 5 3 (.int .u8 (c:Int))=some (.int .i64 (c:Int)):=by
 have e:QB NC.P 5 3 (.int .u8 (c:Int))=some (.int .i64 (IntKind.wrap .i64 (c:Int))):=by kernel_rfl
 rw [e,Ag (by omega) (by omega)]
theorem Z7s {c:Nat} (h:c < 256):QB NC.P 3 5 (.int .i64 (c:Int))=some (.int .u8 (c:Int)):=by
 have e:QB NC.P 3 5 (.int .i64 (c:Int))=some (.int .u8 (IntKind.wrap .u8 (c:Int))):=by kernel_rfl
 have hw:IntKind.wrap .u8 (c:Int)=(c:Int):=by
  unfold IntKind.wrap;have h8:((2:Int) ^ (IntKind.bits .u8))=256:=by decide
  simp only [h8];have e:(c:Int) % 256=c:=by omega
  rw [e];rfl
 rw [e,hw]
theorem Z7t (z v:AV) (m:Nat) (R:List AV):over (List.replicate (m+1) z++R) m [v]=List.replicate m z++v::R:=by
 unfold over;have e1:(List.replicate (m+1) z++R).take m=List.replicate m z:=by
  rw [List.take_append_of_le_length (by simp)];simp
 have e2:(List.replicate (m+1) z++R).drop (m+[v].length)=R:=by
  have:m+[v].length=(List.replicate (m+1) z).length:=by simp
  rw [this,List.drop_left]
 rw [e1,e2,List.append_assoc];rfl
def dgL (x:Nat):Nat→List AV
 | 0=>[]
 | k+1=>.int .u8 ((48+x / 10 ^ k % 10:Nat):Int)::dgL x k
theorem IY (x k:Nat):(dgL x k).length=k:=by
 induction k with
 | zero=>rfl
 | succ k ih=>rw [dgL,List.length_cons,ih]
theorem Z7u (x:Nat):Kg ((dgL x 7).map fun a=>[a])=some (Pos.QQ x):=by
 have h:∀ y:Nat,48+y % 10 < 256:=fun y=>by omega
 have e:∀ y:Nat,(((48+y % 10:Nat):Int))=Int.ofNat (48+y % 10):=fun _=>rfl
 simp only [dgL,List.map_cons,List.map_nil,e,Kg,h,if_true,Pos.QQ,Nat.pow_zero,Nat.div_one,Nat.pow_one,Nat.reducePow]
theorem IZ {s:List Nat} {k c:Nat} (h:s[k]? = some c):Pos.Qy 1 (s.take (k+1))=(347 * Pos.Qy 1 (s.take k)+c) % 9999677:=by
 rw [List.take_add_one,h,Pos.I9];rfl
theorem Z7v {H:Heap} {x e:Nat} (h:H.get 0=.cells (dgL x 7) e):JR NC.P H 129 9 (.rs 0 0 7 1 (some 7))=some (.str (Pos.QQ x)):=by
 have u1:NC.P.underlying 129=some (.slice 5):=by kernel_rfl
 have u2:NC.P.underlying 9=some .string:=by kernel_rfl
 have u3:NC.P.underlying 5=some (.int .u8):=by kernel_rfl
 have hb:=Z7u x;have hl:=IY x 7;have hx:dgL x 7=[_,_,_,_,_,_,_]:=rfl;generalize hL:dgL x 7=L at h hb hl
 match L,hl with
 | [a0,a1,a2,a3,a4,a5,a6],_ =>
   unfold JR;simp only [u1,u2,u3,J0,YT,h,XM];have hc:Qq 1 7 [a0,a1,a2,a3,a4,a5,a6]=some [[a0],[a1],[a2],[a3],[a4],[a5],[a6]]:=rfl;simp only [List.map_cons,List.map_nil] at hb;have hs:Yp [a0,a1,a2,a3,a4,a5,a6] 0 (7 * 1)=some [a0,a1,a2,a3,a4,a5,a6]:=rfl;simp only [if_true,hs,hc,hb]
noncomputable def Z7w:PF:=fun _=>none
theorem Z7x:PrimsOk NC Z7w:=ZA
theorem c201 (s:Nm) (hp:s.length≤Z1 ∧ ∀ c ∈ s,c < 256):∀ lo H,Zc NC lo 201 [.str s] H (.str (Pos.X7 s)) H:=by
 refine Cn Z7x Tryz.func201 rfl rfl ?_;obtain ⟨hl,hb⟩:=hp;have hmk:∀ H:Heap,J1 NC.P H 129 (.int .i64 7) (.int .i64 7)=some (.rs H.n 0 7 1 (some 7),H.push (.cells (List.replicate 7 (.int .u8 0)) 5)):=fun H =>
  Aa (H:=H) (t:=129) (e:=5) (z:=.int .u8 0) (b:=1) (N:=7) (by kernel_rfl) (by kernel_rfl) (by kernel_rfl) (by kernel_rfl) rfl (by decide) (by decide) (by unfold Z1;decide)
 simp (maxDischargeDepth:=12) only [go_sem,reduceEqDiff,reduceCtorEq];refine ZK (fun k T H M=>M=[]∧H.n=0∧Z2 T 0=.str s∧Z2 T 3=.int .i64 ((Pos.Qy 1 (s.take k):Nat):Int)∧Z2 T 8=.int .i64 (s.length:Int)∧Z2 T 9=.int .i64 (k:Int)) s.length ?_ ?_ ?_
 · simp (maxDischargeDepth:=12) only [go_sem,reduceEqDiff,reduceCtorEq];rfl
 · rintro k T H M hk ⟨rfl,hn,g0,g3,g8,g9⟩;obtain ⟨c,hc⟩:∃ c,s[k]? = some c:=⟨s[k],by simp⟩;have hc8:=hb c (List.mem_of_getElem? hc);have hs:=Pos.UO (s.take k) (x:=1) (by decide);rw [IZ hc];generalize Pos.Qy 1 (s.take k)=X at g3 hs ⊢;have w1:Zk .i64 (Int.mul 347 (X:Int))=((347 * X:Nat):Int):=Ym (n:=347 * X) (by omega);have w2:Zk .i64 (Int.add ((347 * X:Nat):Int) (c:Int))=((347 * X+c:Nat):Int):=Ym (n:=347 * X+c) (by omega);have r1:=F5 (347 * X+c) 9999677 (by decide);have r1':rqI .rem 3 (.int .i64 ((347 * X+c:Nat):Int)) (.int .i64 9999677)=some (.int .i64 (((347 * X+c) % 9999677:Nat):Int)):=r1;have v1:=Al hc8;have hw:=ZP hk hl;generalize hQ:(347 * X+c) % 9999677=Q at r1' ⊢;simp (maxDischargeDepth:=12) only [go_sem,reduceEqDiff,reduceCtorEq,g0,g3,g8,g9,hk,hc,w1,w2,r1',v1,hw,hn]
 · rintro T H M ⟨rfl,hn,g0,g3,g8,g9⟩;rw [List.take_length] at g3;have hs:=Pos.UO s (x:=1) (by decide);unfold Pos.X7;generalize Pos.Qy 1 s=X at g3 hs ⊢;simp (maxDischargeDepth:=12) only [go_sem,reduceEqDiff,reduceCtorEq,g8,g9,Nat.lt_irrefl,hmk,hn];refine ZK (fun k T H M=>M=[]∧k≤7∧H.n=1∧H.get 0=.cells (List.replicate (7 - k) (.int .u8 0)++dgL X k) 5∧Z2 T 3=.int .i64 ((X / 10 ^ k:Nat):Int)∧Z2 T 5=.rs 0 0 7 1 (some 7)∧Z2 T 22=.int .i64 (k:Int)) 7 ?_ ?_ ?_
   · simp (maxDischargeDepth:=12) only [go_sem,reduceEqDiff,reduceSub];simp [dgL,hn,g3]
   · rintro k T H M hk ⟨rfl,_,hn,h0,g3,g5,g22⟩;have hlt:((k:Int) < 7)=True:=by simp only [eq_iff_iff,iff_true];omega
     have hpos:X / 10 ^ k≤X:=Nat.div_le_self _ _;have w1:Zk .i64 (Int.sub 6 (k:Int))=((6 - k:Nat):Int):=by
      have:Int.sub 6 (k:Int)=((6 - k:Nat):Int):=by show (6:Int) - k=_;omega
      rw [this];exact Ym (by omega)
     have r1:rqI .rem 3 (.int .i64 ((X / 10 ^ k:Nat):Int)) (.int .i64 10)=some (.int .i64 ((X / 10 ^ k % 10:Nat):Int)):=F5 _ 10 (by decide);have r2:rqI .quo 3 (.int .i64 ((X / 10 ^ k:Nat):Int)) (.int .i64 10)=some (.int .i64 ((X / 10 ^ (k+1):Nat):Int)):=by
      have:=IX (X / 10 ^ k) 10 (by decide) (by omega);rw [Nat.div_div_eq_div_mul,← Nat.pow_succ] at this;exact this
     have w2:Zk .i64 (Int.add 48 ((X / 10 ^ k % 10:Nat):Int))=((48+X / 10 ^ k % 10:Nat):Int):=Ym (n:=48+X / 10 ^ k % 10) (by omega);have v1:=Z7s (c:=48+X / 10 ^ k % 10) (by omega);have hw:Zk .i64 (Int.add (k:Int) 1)=((k+1:Nat):Int):=Ym (n:=k+1) (by omega);have e7:7 - k=6 - k+1:=by omega
     have hov:=Z7t (.int .u8 0) (.int .u8 ((48+X / 10 ^ k % 10:Nat):Int)) (6 - k) (dgL X k);have e6:7 - (k+1)=6 - k:=by omega
     have h67:(6 - k < 7)=True:=by simp only [eq_iff_iff,iff_true];omega
     have hk7:(k+1≤7)=True:=by simp only [eq_iff_iff,iff_true];omega
     have hln:(List.replicate (6 - k+1) (AV.int .u8 0)++dgL X k).length=7:=by simp [IY];omega
     have hle:(6 - k+1≤(List.replicate (6 - k+1) (AV.int .u8 0)++dgL X k).length)=True:=by rw [hln];simp only [eq_iff_iff,iff_true];omega
     have hdg:dgL X (k+1)=.int .u8 ((48+X / 10 ^ k % 10:Nat):Int)::dgL X k:=rfl;rw [e6,hdg];rw [e7] at h0;generalize hC:List.replicate (6 - k+1) (AV.int .u8 0)++dgL X k=CC at h0 hov hle;unfold over at hov;simp only [List.length_cons,List.length_nil] at hov;generalize hQ:X / 10 ^ (k+1)=Q at r2 ⊢;simp (maxDischargeDepth:=12) only [go_sem,reduceEqDiff,hlt,g3,g5,g22,w1,r1,r2,w2,v1,hw,h0,h67,hle,hov,hn,hk7,Nat.mul_one]
   · rintro T H M ⟨rfl,_,hn,h0,g3,g5,g22⟩;have hb7:=Z7v (H:=H) (x:=X) (e:=5) (by rw [h0];rfl);have hlt:(((7:Nat):Int) < 7)=False:=by decide
     simp (maxDischargeDepth:=12) only [go_sem,reduceEqDiff,reduceCtorEq,g5,g22,hlt,hb7]
noncomputable def VT:List AV→Option AV:=Zy (α:=(Nm)) (fun x=>[.str x]) (fun x=>x.length≤Z1 ∧ ∀ c ∈ x,c < 256) (fun x=>.str (Pos.X7 x))
theorem L4:Pok VT 201:=by
 intro args v h;obtain ⟨x,rfl,hp,rfl⟩:=ZD h;exact c201 x hp
theorem Am (s:Nm) (hp:s.length≤Z1 ∧ ∀ c ∈ s,c < 256):VT [.str s]=some (.str (Pos.X7 s)):=ZE (by intro x y h;(simp only [List.cons.injEq,AV.str.injEq,and_true] at h;first | simpa only [Prod.ext_iff] using h | simpa only [Prod.ext_iff,and_assoc] using h)) s hp
attribute [go_sem] Am
end Go.Sim

namespace Go.Sim
open Go Go.Proofs
open Go.Sim.Pos (Nm Ev)
set_option maxRecDepth 100000
set_option maxHeartbeats 8000000
section
variable {P:PF}
theorem Z7y {lo:Nat} {rec:Rec} {args:List AV} {H:Heap} {K:AV→Heap→Prop}:VO (Z8 (NC.withPrims P) rec lo 107 args H) K=AO (Kq args) fun v=>K v H:=by
 refine Ze rfl ?_;show (match NC.prim 107 with | some p=>some p | none=>P 107)=some Kq
 have:NC.prim 107=some Kq:=by kernel_rfl
 rw [this]
theorem Z7z {lo:Nat} {rec:Rec} {args:List AV} {H:Heap} {K:AV→Heap→Prop}:VO (Z8 (NC.withPrims P) rec lo 109 args H) K=AO (Jb args) fun v=>K v H:=by
 refine Ze rfl ?_;show (match NC.prim 109 with | some p=>some p | none=>P 109)=some Jb
 have:NC.prim 109=some Jb:=by kernel_rfl
 rw [this]
end
attribute [go_sem ↓] Z7y Z7z
def itR (n:Int):Prop:=-9223372036854775808≤n∧n≤9223372036854775807
theorem F6 {n:Int} (h:itR n):Kq [.int .i64 n]=some (.str (Zi n)):=by
 unfold Kq;simp only;rw [if_pos ⟨h.1,h.2⟩]
theorem An:∀ l:List Nm,JD (Z0 l)=some l
 | []=>rfl
 | w::r=>by
   show (match JD (Z0 r) with
    | some l=>some (w::l)
    | none=>none)=_
   rw [An r]
theorem L5:∀ l:List Nm,Ja [32] l=ZV 32 l
 | []=>rfl
 | [w]=>by simp [Ja,ZV]
 | w::v::r=>by
   have ih:=L5 (v::r);show w++(([32]++v)++((r.map ([32] ++ ·)).flatten))=w++32::ZV 32 (v::r);rw [← ih];simp [Ja]
theorem L6 {l:List Nm} {t:Tok} (h1:(ZV 32 l).length≤Z1) (h2:l.length≤Z1):Jb [.ps t (Z0 l),.str [32]]=some (.str (ZV 32 l)):=by
 unfold Jb;simp only [An];rw [L5,if_pos ⟨h1,by simpa [Z0] using h2⟩]
theorem Z7A:∀ l:List Nm,Ja [] l=l.flatten
 | []=>rfl
 | [w]=>by simp [Ja]
 | w::v::r=>by simp [Ja]
theorem Z7B {l:List Nm} {t:Tok} (h1:l.flatten.length≤Z1) (h2:l.length≤Z1):Jb [.ps t (Z0 l),.str []]=some (.str l.flatten):=by
 unfold Jb;simp only [An];rw [Z7A,if_pos ⟨h1,by simpa [Z0] using h2⟩]
theorem Z7C {α:Type} {u:α→Nm} {l:List α} {k:Nat} {x:α} (h:l[k]? = some x):Z0 ((l.take (k+1)).map u)=Z0 ((l.take k).map u)++[[.str (u x)]]:=by
 rw [F2 h];unfold Z0;rw [List.map_append];rfl
noncomputable def Z7D:PF:=fun _=>none
theorem Z7E:PrimsOk NC Z7D:=ZA
theorem c279 (l:List Int) (hp:l.length≤Z1 ∧ ∀ v ∈ l,itR v):∀ lo H,Zc NC lo 279 [.ps .unk (Z3 l),.fn 107 [] []] H (.ps .unk (Z0 (l.map Zi))) H:=by
 refine Cn Z7E Tryz.func279 rfl rfl ?_;obtain ⟨hp,hit⟩:=hp;simp (maxDischargeDepth:=12) only [go_sem,reduceEqDiff,reduceAdd,reduceCtorEq];refine ZK (fun k T H M=>M=[]∧Z2 T 1=.fn 107 [] []∧Z2 T 8=.ps .unk (Z3 l)∧Z2 T 9=i64 (l.length:Nat)∧Z2 T 10=i64 k ∧ ∃ t,Z2 T 5=.ps t (Z0 ((l.take k).map Zi))∧Zj 0 H t (Z0 ((l.take k).map Zi)) 1 9) l.length ?_ ?_ ?_
 · simp (maxDischargeDepth:=12) only [go_sem,reduceEqDiff,reduceCtorEq,Y4];exact ⟨.nil,rfl,.inl ⟨rfl,rfl⟩⟩
 · rintro k T H M hk ⟨rfl,g1,g8,g9,g10,t,g5,hA⟩;obtain ⟨x,hx⟩:∃ x,l[k]? = some x:=⟨l[k],by simp⟩;have hr:=KD hx;have hw:=ZP hk hp;have hi:=F6 (hit x (List.mem_of_getElem? hx));obtain ⟨t',H',ha,hA',_⟩:=YR (lo:=0) hA (Nat.zero_le _) (Nat.le_refl _) (r:=[.str (Zi x)]) (by rw [Zt,List.length_map,List.length_take];omega) rfl (by decide) (Xz _);have e1:[AV.str (Zi x)].map AV.strip0=[.str (Zi x)]:=rfl;rw [e1,← Z7C hx] at ha hA';simp (maxDischargeDepth:=12) only [go_sem,reduceEqDiff,reduceMul,reduceLeDiff,g1,g5,g8,g9,g10,hk,Y4,hr,hw,hi,ZT,ha];exact ⟨t',rfl,hA'⟩
 · rintro T H M ⟨rfl,g1,g8,g9,g10,t,g5,hA⟩;rw [List.take_length] at g5;simp (maxDischargeDepth:=12) only [go_sem,reduceEqDiff,reduceCtorEq,g5,g9,g10,Nat.lt_irrefl]
noncomputable def p279:List AV→Option AV:=Zy (α:=(List Int)) (fun x=>[.ps .unk (Z3 x),.fn 107 [] []]) (fun x=>x.length≤Z1 ∧ ∀ v ∈ x,itR v) (fun x=>.ps .unk (Z0 (x.map Zi)))
theorem Z7F:Pok p279 279:=by
 intro args v h;obtain ⟨x,rfl,hp,rfl⟩:=ZD h;exact c279 x hp
theorem L7 (l:List Int) (hp:l.length≤Z1 ∧ ∀ v ∈ l,itR v):p279 [.ps .unk (Z3 l),.fn 107 [] []]=some (.ps .unk (Z0 (l.map Zi))):=ZE (by intro x y h;(simp only [List.cons.injEq,AV.ps.injEq,K7,true_and,and_true] at h;first | simpa only [Prod.ext_iff] using h | simpa only [Prod.ext_iff,and_assoc] using h)) l hp
attribute [go_sem] L7
def AppX (H:Heap) (t:Tok) (l:List Nm):Prop:=t=.exact ∨ ∃ j,t=.tok j∧l ≠ []∧j < H.n∧H.get j=.row [] 1 9
theorem L8 {H:Heap} {t:Tok} {l m:List Nm} (h:AppX H t l) (hl:l.length+m.length≤Z1) :
 ∃ t' H',Xn 0 H 1 9 (.ps t (Z0 l)) (Z0 m)=some (.ps t' (Z0 (l++m)),H')∧AppX H' t' (l++m)∧H.n≤H'.n∧(∀ i c u,i < H.n→H.get i=.cells c u→H'.get i=.cells c u):=by
 cases m with
 | nil=>rw [List.append_nil];exact ⟨t,H,rfl,h,Nat.le_refl _,fun _ _ _ _ h=>h⟩
 | cons a r =>
   have h1:(Z0 l).length+(Z0 (a::r)).length≤Z1:=by rw [Zt,Zt];exact hl
   have h2:(Z0 (a::r)).all XV=true:=by
    rw [List.all_eq_true];intro x hx;obtain ⟨y,_,rfl⟩:=List.mem_map.1 hx;rfl
   have h3:=Xz l;have h4:(Z0 (a::r)).map (List.map AV.strip0)=Z0 (a::r):=by
    unfold Z0;rw [List.map_map];rfl
   have h5:Z0 (l++a::r)=Z0 l++Z0 (a::r):=List.map_append;have hne:Z0 (a::r) ≠ []:=by simp [Z0]
   rw [h5];generalize hR:Z0 (a::r)=R at h1 h2 h4 hne ⊢
   match R,hne with
   | z::R,_ =>
   rcases h with rfl | ⟨j,rfl,h6,h7,h8⟩
   · refine ⟨.tok H.n,H.push (.row [] 1 9), ?_,.inr ⟨H.n,rfl,by simp,by simp,by rw [Heap.get_push,if_pos rfl]⟩,by simp,fun i c u hi hc => ?_⟩
     · unfold Xn;simp only [h1,h2,h3,h4,decide_true,Bool.and_self,if_true,Nat.zero_lt_one]
     · rw [Heap.get_push,if_neg (by omega)];exact hc
   · have h6':(Z0 l).isEmpty=false:=by cases l with | nil=>exact absurd rfl h6 | cons b q=>rfl
     refine ⟨.tok H.n,(H.set j .dead).push (.row [] 1 9), ?_,.inr ⟨H.n,rfl,by simp,by simp,by rw [Heap.get_push,if_pos (by simp)]⟩,by simp,fun i c u hi hc => ?_⟩
     · unfold Xn;simp only [h1,h2,h3,h4,h8,h6',decide_true,Bool.and_self,if_true,Nat.zero_lt_one,Nat.zero_le,Bool.not_false]
     · rw [Heap.get_push,if_neg (by simp;omega),Heap.get_set,if_neg (fun he=>by rw [he,h8] at hc;cases hc)];exact hc
structure Prn (e:Ev):Prop where
 num:itR e.num
 vals:∀ v ∈ e.vals,itR v
 nl:e.names.length≤1000000
 vl:e.vals.length≤1000000
 len:(Pos.YP e).length≤100000000
 small:∀ c ∈ Pos.YP e,c < 256
noncomputable def L9:PF:=Zd 279 p279 (fun _=>none)
theorem Z7G:PrimsOk NC L9:=Pa (ZA) Z7F
theorem Z7H:En L9 279 p279:=Ze (by rfl) (by kernel_rfl)
attribute [go_sem ↓] Z7H
theorem c200 (e:Ev) (hp:Prn e):∀ lo H,Zc NC lo 200 [.agg e.row] H (.str (Pos.YP e)) H:=by
 refine Cn Z7G Tryz.func200 rfl rfl ?_;have hl:=hp.nl;have hv:=hp.vl;have hb:=hp.len;have hi:=F6 hp.num;have hm:=L7 e.vals ⟨by unfold Z1;omega,hp.vals⟩;unfold Pos.YP Pos.Kx at hb ⊢;obtain ⟨num,kind,names,vals,text⟩:=e;simp only at hl hv hb hi hm;obtain ⟨t1,H1,ha1,hA1,hn1,hk1⟩:=L8 (H:=Heap.empty.push (.cells (Ev.row ⟨num,kind,names,vals,text⟩) 53)) (t:=.exact) (l:=[Zi num,kind]) (m:=names) (.inl rfl) (by simp;unfold Z1;omega);have hg1:=hk1 0 _ _ (by simp) (by rw [Heap.get_push];rfl);obtain ⟨t2,H2,ha2,hA2,hn2,hk2⟩:=L8 (m:=vals.map Zi) hA1 (by simp;unfold Z1;omega);have hj:=L6 (t:=.unk) (l:=[Zi num,kind]++names++vals.map Zi) (by
  have:[Zi num,kind]++names++vals.map Zi=Zi num::kind::(names++vals.map Zi):=by simp
  rw [this];unfold Z1;omega) (by simp;unfold Z1;omega)
 have hs1:Z0 [Zi num,kind]=[[.str (Zi num)],[.str kind]]:=rfl;have hall1:=Xz names;have hall2:=Xz (vals.map Zi);simp only [Pos.Ev.row] at ha1 hg1;rw [hs1] at ha1;simp only [List.cons_append,List.nil_append] at ha1 ha2 hj;simp (maxDischargeDepth:=12) only [go_sem,reduceEqDiff,reduceAdd,reduceMul,reduceSub,reduceLeDiff,reduceCtorEq,Pos.Ev.row,hi,ZT,hall1,ha1,hg1,hm,hall2,ha2,hj]
noncomputable def p200:List AV→Option AV:=Zy (α:=(Ev)) (fun x=>[.agg x.row]) (fun x=>Prn x) (fun x=>.str (Pos.YP x))
theorem Z7I:Pok p200 200:=by
 intro args v h;obtain ⟨x,rfl,hp,rfl⟩:=ZD h;exact c200 x hp
theorem La (e:Ev) (hp:Prn e):p200 [.agg e.row]=some (.str (Pos.YP e)):=ZE (by intro x y h;(simp only [List.cons.injEq,AV.agg.injEq,Pos.Ev.row_inj,and_true] at h;first | simpa only [Prod.ext_iff] using h | simpa only [Prod.ext_iff,and_assoc] using h)) e hp
attribute [go_sem] La
noncomputable def Ao:PF:=Zd 201 VT (Zd 200 p200 (fun _=>none))
theorem Z7J:PrimsOk NC Ao:=Pa (Pa (ZA) Z7I) L4
theorem Z7K:En Ao 200 p200:=Ze (by rfl) (by kernel_rfl)
theorem Z7L:En Ao 201 VT:=Ze (by rfl) (by kernel_rfl)
attribute [go_sem ↓] Z7K Z7L
theorem c89 (e:Ev) (hp:Prn e):∀ lo H,Zc NC lo 89 [.agg e.row] H (.str (Pos.Xy e++[10])) H:=by
 refine Cn Z7J Tryz.func89 rfl rfl ?_;have hb:=hp.len;have h1:=La e hp;have h2:=Am (Pos.YP e) ⟨by unfold Z1;omega,hp.small⟩;have hs:(Pos.X7 (Pos.YP e)).length=7:=rfl;unfold Pos.Xy;generalize Pos.YP e=B at *;generalize Pos.X7 B=S at *;obtain ⟨num,kind,names,vals,text⟩:=e;simp only [Pos.Ev.row] at h1 ⊢;have c1:(B.length+1≤9223372036854775807)=True:=by simp only [eq_iff_iff,iff_true];omega
 have c2:((B++[35]).length+S.length≤9223372036854775807)=True:=by simp only [eq_iff_iff,iff_true,List.length_append,List.length_cons,List.length_nil];omega
 have c3:((B++[35]++S).length+1≤9223372036854775807)=True:=by simp only [eq_iff_iff,iff_true,List.length_append,List.length_cons,List.length_nil];omega
 simp (maxDischargeDepth:=12) only [go_sem,reduceEqDiff,reduceAdd,reduceCtorEq,h1,h2,c1,c2,c3];simp
noncomputable def p89:List AV→Option AV:=Zy (α:=(Ev)) (fun x=>[.agg x.row]) (fun x=>Prn x) (fun x=>.str (Pos.Xy x++[10]))
theorem Lb:Pok p89 89:=by
 intro args v h;obtain ⟨x,rfl,hp,rfl⟩:=ZD h;exact c89 x hp
theorem pe89 (e:Ev) (hp:Prn e):p89 [.agg e.row]=some (.str (Pos.Xy e++[10])):=ZE (by intro x y h;(simp only [List.cons.injEq,AV.agg.injEq,Pos.Ev.row_inj,and_true] at h;first | simpa only [Prod.ext_iff] using h | simpa only [Prod.ext_iff,and_assoc] using h)) e hp
attribute [go_sem] pe89
def Y5:List Nm × Bool→Nm × (List Nm × Bool)
 | ([],_)=>([],[],true)
 | (w::r,bad)=>if w=[] then ([],[],true) else (w,r,bad)
def XA (s:List Nm × Bool):Int × (List Nm × Bool):=((Y0 (Y5 s).1).1,(Y5 s).2.1,(Y5 s).2.2 || !(Y0 (Y5 s).1).2)
theorem Ap {w:Nm} {r:List Nm}:Ys NC.P 50 (.ps .unk (Z0 (w::r))) (some (.int .i64 1)) none none=some (.ps .unk (Z0 r)):=by
 have u1:NC.P.underlying 50=some (.slice 9):=by kernel_rfl
 have u2:Zh NC.P 9=some 1:=by kernel_rfl
 have hb:Yx 0 (Z0 (w::r)).length (some (.int .i64 1))=some 1:=by
  have:(Z0 (w::r)).length=r.length+1:=Zt _;unfold Yx;show (if 0≤1∧1≤(Z0 (w::r)).length then some 1 else none)=some 1
  rw [if_pos (by omega)]
 have hall:=Xz (w::r);unfold Ys Gk;simp only [u1,u2,hall,if_true];have h0:Yx (Z0 (w::r)).length (Z0 (w::r)).length none=some (Z0 (w::r)).length:=rfl;simp only [h0,hb,List.take_length];rfl
def QS (H:Heap) (b:Nat) (s:List Nm × Bool):Prop:=∃ t,(t=.unk∨(t=.nil∧s.1=[]))∧H.get b=.cells [.ps t (Z0 s.1),.bool s.2] 297
theorem Aq {P:PF} {lo b:Nat} {H:Heap} {s:List Nm × Bool} (hg:QS H b s) (hlo:lo≤b) :
 ∃ v H',R (NC.withPrims P) (.call lo 229 [.ptr b 0] H)=some (.ofVal v H')∧v=.str (Y5 s).1∧H'.n=H.n∧QS H' b (Y5 s).2 ∧ ∀ i,i ≠ b→H'.get i=H.get i:=by
 obtain ⟨ws,bad⟩:=s;obtain ⟨t,ht,hg⟩:=hg;simp only at hg ht;refine Za (C:=NC.withPrims P) (f:=229) (lo:=lo) (args:=[.ptr b 0]) (H:=H) (fn:=Tryz.f229) (Q:=fun v H'=>v=.str (Y5 (ws,bad)).1∧H'.n=H.n∧QS H' b (Y5 (ws,bad)).2 ∧ ∀ i,i ≠ b→H'.get i=H.get i) (by kernel_rfl) Tryz.func229 rfl rfl ?_;have hl:=eq_true hlo;cases ws with
 | nil =>
   have hs:Z0 []=[]:=rfl;rw [hs] at hg;simp (maxDischargeDepth:=12) only [go_sem,reduceEqDiff,reduceAdd,reduceLeDiff,reduceCtorEq,hg,hl,Y5];refine ⟨⟨.nil,.inr ⟨rfl,rfl⟩,by rw [Heap.get_set,if_pos rfl];rfl⟩,fun i hi => ?_⟩;simp only [hi,if_false]
 | cons w r =>
   have h0:(Z0 (w::r))[0]? = some [.str w]:=rfl;have hlen:(0 < (Z0 (w::r)).length)=True:=by simp [Z0]
   have hln:(((Z0 (w::r)).length:Int)=0)=False:=by simp [Z0];omega
   have hsl:=Ap (w:=w) (r:=r);obtain rfl:t=.unk:=by rcases ht with h | ⟨_,h⟩;exact h;cases h
   have hall:=Xz (w::r);by_cases hw:w=[]
   · subst hw;have hb:Z6 ([]:List Nat) []=true:=rfl;simp (maxDischargeDepth:=12) only [go_sem,reduceEqDiff,reduceAdd,reduceLeDiff,reduceCtorEq,hg,hl,Y5,h0,hlen,hln,hb];refine ⟨⟨.nil,.inr ⟨rfl,rfl⟩,by rw [Heap.get_set,if_pos rfl];rfl⟩,fun i hi => ?_⟩;simp only [hi,if_false]
   · have hb:Z6 w []=false:=by rw [YV];simpa using hw
     simp (maxDischargeDepth:=12) only [go_sem,reduceEqDiff,reduceAdd,reduceLeDiff,reduceCtorEq,hg,hl,Y5,h0,hlen,hln,hb,hsl,hw];refine ⟨⟨.unk,.inl rfl,by rw [Heap.get_set,if_pos rfl]⟩,fun i hi => ?_⟩;simp only [hi,if_false]
abbrev YS (f:FuncId):Prop:=∀ {P:PF} (_hP:P f=none) {lo:Nat} {args:List AV} {H:Heap} {K:AV→Heap→Prop},VO (Z8 (NC.withPrims P) (R (NC.withPrims P)) lo f args H) K=AO (R (NC.withPrims P) (.call lo f args H)) fun o=>K o.val o.s.H
theorem YY {f:FuncId} (h1:NC.prim f=none:=by kernel_rfl) (h2:NC.hprim f=none:=by kernel_rfl) (h3:NC.twice f=false:=by kernel_rfl) (h4:NC.mode f=.free:=by kernel_rfl):YS f:=by
 intro P hP lo args H K;refine Z0v rfl ?_ h2 h3 h4;show (match NC.prim f with | some p=>some p | none=>P f)=none
 rw [h1];exact hP
theorem F7:YS 229:=YY
theorem en230:YS 230:=YY
theorem VU (r:List Nm) (b:Bool):Y5 ([]::r,b)=([],[],true):=by simp [Y5]
theorem G6 {w:Nm} (h:w ≠ []) (r:List Nm) (b:Bool):Y5 (w::r,b)=(w,r,b):=by simp [Y5,h]
section
variable {P:PF}
theorem en_of {f:FuncId} {p:List AV→Option AV} (h0:NC.prim f=none) (hP:P f=some p) {lo:Nat} {rec:Rec} {args:List AV} {H:Heap} {K:AV→Heap→Prop}:VO (Z8 (NC.withPrims P) rec lo f args H) K=AO (p args) fun v=>K v H:=by
 refine Ze rfl ?_;show (match NC.prim f with | some p=>some p | none=>P f)=some p
 rw [h0,hP]
theorem Z7M (hw:P 229=none) (hi:P 204=some Vg) {lo b:Nat} {H:Heap} {s:List Nm × Bool} (hg:QS H b s) (hlo:lo≤b) (hs:∀ w ∈ s.1,w.length≤Z1) :
 ∃ v H',R (NC.withPrims P) (.call lo 230 [.ptr b 0] H)=some (.ofVal v H')∧v=.int .i64 (XA s).1∧H'.n=H.n∧QS H' b (XA s).2 ∧ ∀ i,i ≠ b→H'.get i=H.get i:=by
 refine Za (C:=NC.withPrims P) (f:=230) (lo:=lo) (args:=[.ptr b 0]) (H:=H) (fn:=Tryz.f230) (Q:=fun v H'=>v=.int .i64 (XA s).1∧H'.n=H.n∧QS H' b (XA s).2 ∧ ∀ i,i ≠ b→H'.get i=H.get i) (by kernel_rfl) Tryz.func230 rfl rfl ?_;obtain ⟨v,H1,hr,rfl,hn1,⟨t,htk,ht⟩,hk⟩:=Aq (P:=P) hg hlo;have hl:=eq_true hlo;have hin:=@en_of P 204 Vg (by kernel_rfl) hi;have hlen:(Y5 s).1.length≤Z1:=by
  obtain ⟨ws,bad⟩:=s;cases ws with
  | nil=>exact Nat.zero_le _
  | cons w r =>
    by_cases h:w=[]
    · rw [h,VU];exact Nat.zero_le _
    · rw [G6 h];exact hs w (List.mem_cons_self ..)
 have hp:=Ai (Y5 s).1 hlen;unfold XA;generalize Y5 s=q at *;obtain ⟨w,ws,bad⟩:=q;simp only at *;generalize Y0 w=z at *;obtain ⟨z,ok⟩:=z;simp only at *;cases bad<;>cases ok
 all_goals
  simp (maxDischargeDepth:=12) only [go_sem,reduceEqDiff,reduceAdd,reduceCtorEq,F7 hw,hr,hin,hp,ht,hl];refine ⟨hn1,⟨t,htk,by rw [Heap.get_set,if_pos rfl]⟩,fun i hi => ?_⟩;simp only [hi,if_false];try exact hk i hi
end
def itW (s:List Nm × Bool):Nat→List Nm × Bool
 | 0=>s
 | k+1=>(Y5 (itW s k)).2
def itN (s:List Nm × Bool):Nat→List Nm × Bool
 | 0=>s
 | k+1=>(XA (itN s k)).2
def wsK (s:List Nm × Bool) (k:Nat):List Nm:=(List.range k).map fun i=>(Y5 (itW s i)).1
def nsK (s:List Nm × Bool) (k:Nat):List Int:=(List.range k).map fun i=>(XA (itN s i)).1
theorem Lc (s:List Nm × Bool) (k:Nat):wsK s (k+1)=wsK s k++[(Y5 (itW s k)).1]:=by unfold wsK;rw [List.range_succ,List.map_append];rfl
theorem Ld (s:List Nm × Bool) (k:Nat):nsK s (k+1)=nsK s k++[(XA (itN s k)).1]:=by unfold nsK;rw [List.range_succ,List.map_append];rfl
theorem Ar (s:List Nm × Bool) (k:Nat):(wsK s k).length=k:=by simp [wsK]
theorem Le (s:List Nm × Bool) (k:Nat):(nsK s k).length=k:=by simp [nsK]
def evQ (num:Int) (ws:List Nm):Ev × Bool:=match Pos.YO (Y5 (ws,false)).1 with
 | none=>(⟨0,[],[],[],[]⟩,false)
 | some (a,b)=>(⟨num,(Y5 (ws,false)).1,wsK (Y5 (ws,false)).2 a,nsK (itW (Y5 (ws,false)).2 a) b,[]⟩,!(itN (itW (Y5 (ws,false)).2 a) b).2 && decide ((itN (itW (Y5 (ws,false)).2 a) b).1=[]))
theorem As (s:List Nm × Bool):∀ w ∈ (Y5 s).2.1,w ∈ s.1:=by
 obtain ⟨ws,bad⟩:=s;cases ws with
 | nil=>exact fun w h=>h
 | cons x r =>
   by_cases h:x=[]
   · rw [h,VU];exact fun w h=>by cases h
   · rw [G6 h];exact fun w h=>List.mem_cons_of_mem _ h
theorem Z7N (s:List Nm × Bool):∀ w ∈ (XA s).2.1,w ∈ s.1:=As s
theorem Lf (s:List Nm × Bool):∀ k,∀ w ∈ (itW s k).1,w ∈ s.1
 | 0,w,h=>h
 | k+1,w,h=>Lf s k w (As _ w h)
theorem Lg (s:List Nm × Bool):∀ k,∀ w ∈ (itN s k).1,w ∈ s.1
 | 0,w,h=>h
 | k+1,w,h=>Lg s k w (Z7N _ w h)
def G7 (n:Nat) (A:Option AV) (B:Option (Nat × Nat)):Prop:=(A=none∧B=none) ∨ ∃ nm fv f1 f2 l1 l2,A=some (.agg [.str nm,.int .i64 ((fv:Nat):Int),.fn f1 [] l1,.fn f2 [] l2])∧B=some (nm.length,fv)∧(∀ x ∈ nm,x < 128)∧nm.length≤2∧fv≤4∧l1.map AV.strip=l1∧l2.map AV.strip=l2∧(∀ m,n+17≤m→Yi m l1=true) ∧ ∀ m,n+17≤m→Yi m l2=true
theorem G7.cons {n:Nat} {p:Prop} [Decidable p] {v:AV} {x:Nat × Nat} {A:Option AV} {B:Option (Nat × Nat)} (h:∃ nm fv f1 f2 l1 l2,v=.agg [.str nm,.int .i64 ((fv:Nat):Int),.fn f1 [] l1,.fn f2 [] l2]∧x=(nm.length,fv)∧(∀ x ∈ nm,x < 128)∧nm.length≤2∧fv≤4∧l1.map AV.strip=l1∧l2.map AV.strip=l2∧(∀ m,n+17≤m→Yi m l1=true) ∧ ∀ m,n+17≤m→Yi m l2=true) (hr:G7 n A B):G7 n (if p then some v else A) (if p then some x else B):=by
 split
 · obtain ⟨nm,fv,f1,f2,l1,l2,rfl,rfl,h⟩:=h;exact .inr ⟨nm,fv,f1,f2,l1,l2,rfl,rfl,h⟩
 · exact hr
theorem Lh {n j m:Nat} (hj:j≤16) (h:n+17≤m):Yi m [.ptr (n+j) 0]=true:=by
 simp only [Yi,AV.under,Bool.and_true,Nat.blt_eq];omega
theorem Au (k:Nm) (n:Nat):G7 n (lkS k (Ji n)) (Pos.YO k):=by
 unfold Ji Pos.YO;simp only [lkS]
 iterate 18
  refine G7.cons ⟨_,_,_,_,_,_,rfl,rfl,by decide,by decide,by decide,rfl,rfl, ?_, ?_⟩ ?_
  · intro m h;first | rfl | exact Lh (by decide) h
  · intro m h;first | rfl | exact Lh (by decide) h
 exact .inl ⟨rfl,rfl⟩
end Go.Sim

namespace Go.Sim
open Go Go.Proofs
open Go.Sim.Pos (Nm Ev)
set_option maxRecDepth 100000
set_option maxHeartbeats 16000000
theorem Zj.same {b:Nat} {H H':Heap} {t:Tok} {rows:List (List AV)} {sz:Nat} {e:TypeId} (h:Zj b H t rows sz e) (hn:H.n≤H'.n) (hk:∀ i,b≤i→H'.get i=H.get i):Zj b H' t rows sz e:=by
 rcases h with h | ⟨j,h1,h2,h3,h4,h5⟩
 · exact .inl h
 · exact .inr ⟨j,h1,h2,h3,by omega,by rw [hk j h3];exact h5⟩
theorem QS.same {H H':Heap} {b:Nat} {s:List Nm × Bool} (h:QS H b s) (hk:H'.get b=H.get b):QS H' b s:=by
 obtain ⟨t,h1,h⟩:=h;exact ⟨t,h1,by rw [hk];exact h⟩
noncomputable def Jl:PF:=Zd 204 Vg (fun _=>none)
theorem Z7O:PrimsOk NC Jl:=Pa (ZA) IK
theorem c104 (num:Int) (ws:List Nm) (hp:ws.length≤Z1 ∧ ∀ w ∈ ws,w.length≤Z1):∀ lo H,Zc NC lo 104 [i64 num,.ps .unk (Z0 ws)] H (.tup [.agg (evQ num ws).1.row,.bool (evQ num ws).2]) H:=by
 refine Cn Z7O Tryz.func104 rfl rfl ?_;obtain ⟨hl,hwl⟩:=hp;obtain ⟨v1,H1,hr1,rfl,hn1,ht1,hk1⟩:=Aq (P:=Jl) (lo:=0) (b:=1) (H:=(Heap.empty.push (.cells [.int .i64 0,.str [],.ps .nil [],.ps .nil [],.str []] 53)).push (.cells [.ps .unk (Z0 ws),.bool false] 297)) (s:=(ws,false)) ⟨.unk,.inl rfl,rfl⟩ (Nat.zero_le _);have hn1:H1.n=2:=hn1;have hs1:∀ x ∈ (Y5 (ws,false)).2.1,x.length≤Z1:=fun x hx=>hwl x (As (ws,false) x hx)
 have h10:H1.get 0=.cells [.int .i64 0,.str [],.ps .nil [],.ps .nil [],.str []] 53:=by rw [hk1 0 (by decide)];rfl
 unfold evQ;generalize Y5 (ws,false)=q at *;obtain ⟨w,s⟩:=q;simp only at hr1 ht1 hs1 ⊢;obtain ⟨H3,hr3,hn3,hk3,hF⟩:=Ve (P:=Jl) (by rfl) (by rfl) 3 ((H1.push (.cells [.int .i64 0,.str [],.ps .nil [],.ps .nil [],.str []] 53)).set 2 (.cells [.int .i64 num,.str w,.ps .nil [],.ps .nil [],.str []] 53)) (by simp [hn1]);have hnn:((H1.push (.cells [.int .i64 0,.str [],.ps .nil [],.ps .nil [],.str []] 53)).set 2 (.cells [.int .i64 num,.str w,.ps .nil [],.ps .nil [],.str []] 53)).n=3:=by simp [hn1]
 rw [hnn] at hr3 hn3 hk3 hF;have h30:H3.get 0=.cells [.int .i64 0,.str [],.ps .nil [],.ps .nil [],.str []] 53:=by
  rw [hk3 0 (by omega),Heap.get_set,if_neg (by decide),Heap.get_push,if_neg (by omega)];exact h10
 have h31:QS H3 1 s:=ht1.same (by rw [hk3 1 (by omega),Heap.get_set,if_neg (by decide),Heap.get_push,if_neg (by omega)]);have h32:H3.get 2=.cells [.int .i64 num,.str w,.ps .nil [],.ps .nil [],.str []] 53:=by
  rw [hk3 2 (by omega),Heap.get_set,if_pos rfl]
 have hlk2:=(KF hF.map (KG _) w).2;have hlk1:=(KF hF.map (KG _) w).1;have hn3:H3.n=20:=hn3;rcases Au w 3 with ⟨hA,hB⟩ | ⟨nm,fv,f1,f2,l1,l2,hA,hB,hasc,hnm,hfv,hst1,hst2,hu1,hu2⟩
 · rw [hA] at hlk1;rw [hB];simp (maxDischargeDepth:=12) only [go_sem,reduceEqDiff,reduceAdd,reduceSub,reduceLeDiff,reduceLT,reduceCtorEq,F7 (P:=Jl) rfl,hr1,hn1,Xk (P:=Jl) rfl,hr3,hlk1,h30,hn3];rfl
 rw [hA] at hlk1;rw [hB];simp only;simp (maxDischargeDepth:=12) only [go_sem,reduceEqDiff,reduceAdd,reduceSub,reduceLeDiff,reduceLT,reduceCtorEq,F7 (P:=Jl) rfl,hr1,hn1,Xk (P:=Jl) rfl,hr3,hlk1,hn3];refine ZK (fun k T H M=>M=[]∧Z2 T 4=.ptr 0 0∧Z2 T 6=.ptr 1 0∧Z2 T 7=.fn 229 [.ptr 1 0] []∧Z2 T 8=.ptr 2 0∧Z2 T 9=.ptr 20 0∧Z2 T 34=.ptr 21 0∧22≤H.n∧H.get 0=.cells [.int .i64 0,.str [],.ps .nil [],.ps .nil [],.str []] 53∧QS H 1 (itW s k)∧(∃ t,H.get 2=.cells [.int .i64 num,.str w,.ps t (Z0 (wsK s k)),.ps .nil [],.str []] 53∧Zj 22 H t (Z0 (wsK s k)) 1 9)∧H.get 20=.cells [.str nm,.int .i64 (fv:Int),.fn f1 [] l1,.fn f2 [] l2] 175∧H.get 21=.sit nm k) nm.length ?_ ?_ ?_
 · simp (maxDischargeDepth:=12) only [go_sem,reduceEqDiff,reduceAdd,reduceCtorEq,h30,h32,hn3];exact ⟨h31.same (by simp [Heap.get_set,Heap.get_push,hn3]),.nil,rfl,.inl ⟨rfl,rfl⟩⟩
 · rintro k T H M hk ⟨rfl,g4,g6,g7,g8,g9,g34,hn,hz,hT,⟨t,he,hA⟩,hf,hsit⟩;obtain ⟨c,hc⟩:∃ c,nm[k]? = some c:=⟨nm[k],by simp⟩;have hde:=A0 hc (hasc c (List.mem_of_getElem? hc));obtain ⟨v2,H4,hr4,rfl,hn4,hT4,hk4⟩:=Aq (P:=Jl) (lo:=0) (b:=1) (H:=H.set 21 (.sit nm (k+1))) (s:=itW s k) (hT.same (by rw [Heap.get_set,if_neg (by decide)])) (Nat.zero_le _);have hn4:H4.n=H.n:=hn4;have h42:H4.get 2=.cells [.int .i64 num,.str w,.ps t (Z0 (wsK s k)),.ps .nil [],.str []] 53:=by rw [hk4 2 (by decide),Heap.get_set,if_neg (by decide)];exact he
   have hA4:Zj 22 H4 t (Z0 (wsK s k)) 1 9:=hA.same (by omega) fun i hi=>by rw [hk4 i (by omega),Heap.get_set,if_neg (by omega)]
   obtain ⟨t',H5,ha,hA5,hn5,hO5,_⟩:=YR (lo:=0) hA4 (by omega) (Nat.zero_le _) (r:=[.str (Y5 (itW s k)).1]) (by rw [Zt,Ar];unfold Z1;omega) rfl (by decide) (Xz _);have e1:[AV.str (Y5 (itW s k)).1].map AV.strip0=[.str (Y5 (itW s k)).1]:=rfl;have e2:Z0 (wsK s (k+1))=Z0 (wsK s k)++[[.str (Y5 (itW s k)).1]]:=by rw [Lc];unfold Z0;rw [List.map_append];rfl
   rw [e1,← e2] at ha hA5;have k5:∀ i,i < 22→i ≠ 1→i ≠ 21→H5.get i=H.get i:=fun i h1 h2 h3=>by rw [hO5.2 i h1,hk4 i h2,Heap.get_set,if_neg h3]
   have h52:H5.get 2=.cells [.int .i64 num,.str w,.ps t (Z0 (wsK s k)),.ps .nil [],.str []] 53:=by rw [hO5.2 2 (by decide)];exact h42
   have h521:H5.get 21=.sit nm (k+1):=by rw [hO5.2 21 (by decide),hk4 21 (by decide),Heap.get_set,if_pos rfl]
   simp (maxDischargeDepth:=12) only [go_sem,reduceEqDiff,reduceAdd,reduceMul,reduceLeDiff,g4,g6,g7,g8,g9,g34,hsit,hk,hde,F7 (P:=Jl) rfl,hr4,h42,ZT,ha,h52];refine ⟨by omega, ?_, ?_,⟨t',rfl,hA5.set _ (by rw [h52];simp)⟩, ?_,h521⟩
   · rw [k5 0 (by decide) (by decide) (by decide)];exact hz
   · exact hT4.same (by rw [Heap.get_set,if_neg (by decide),hO5.2 1 (by decide)])
   · rw [k5 20 (by decide) (by decide) (by decide)];exact hf
 · rintro T H M ⟨rfl,g4,g6,g7,g8,g9,g34,hn,hz,hT,⟨t,he,hA⟩,hf,hsit⟩;have hwl2:∀ k,∀ x ∈ (itN (itW s nm.length) k).1,x.length≤Z1:=fun k x hx=>hs1 x (Lf s _ x (Lg _ k x hx))
   generalize itW s nm.length=s2 at *;have hwk:=Ar s nm.length;generalize wsK s nm.length=N at *;clear hA;simp (maxDischargeDepth:=12) only [go_sem,reduceEqDiff,reduceAdd,reduceLeDiff,reduceCtorEq,g4,g9,g34,hsit,Nat.lt_irrefl,hf];refine ZK (fun k T H M=>M=[]∧Z2 T 4=.ptr 0 0∧Z2 T 6=.ptr 1 0∧Z2 T 8=.ptr 2 0∧Z2 T 46=.int .i64 (fv:Int)∧Z2 T 47=.int .i64 (k:Int)∧22≤H.n∧H.get 0=.cells [.int .i64 0,.str [],.ps .nil [],.ps .nil [],.str []] 53∧QS H 1 (itN s2 k) ∧ ∃ t',H.get 2=.cells [.int .i64 num,.str w,.ps t (Z0 N),.ps t' (Z3 (nsK s2 k)),.str []] 53∧Zj 22 H t' (Z3 (nsK s2 k)) 1 3) fv ?_ ?_ ?_
   · simp (maxDischargeDepth:=12) only [go_sem,reduceEqDiff,g4,g6,g8,hz,he,hn];exact ⟨hT,.nil,rfl,.inl ⟨rfl,rfl⟩⟩
   · rintro k T H M hk ⟨rfl,g4,g6,g8,g46,g47,hn,hz,hT,t',he,hA⟩;have hw:=ZP (k:=k) (n:=fv) hk (by unfold Z1;omega);have hkf:((k:Int) < (fv:Int))=True:=eq_true (by omega);obtain ⟨v2,H4,hr4,rfl,hn4,hT4,hk4⟩:=Z7M (P:=Jl) rfl rfl (lo:=0) (b:=1) (H:=H) (s:=itN s2 k) hT (Nat.zero_le _) (hwl2 k);have h42:H4.get 2=.cells [.int .i64 num,.str w,.ps t (Z0 N),.ps t' (Z3 (nsK s2 k)),.str []] 53:=by rw [hk4 2 (by decide)];exact he
     have hA4:Zj 22 H4 t' (Z3 (nsK s2 k)) 1 3:=hA.same (by omega) fun i hi=>hk4 i (by omega)
     obtain ⟨t2,H5,ha,hA5,hn5,hO5,_⟩:=YR (lo:=0) hA4 (by omega) (Nat.zero_le _) (r:=[.int .i64 (XA (itN s2 k)).1]) (by rw [Y4,Le];unfold Z1;omega) rfl (by decide) (CU _);have e1:[AV.int .i64 (XA (itN s2 k)).1].map AV.strip0=[.int .i64 (XA (itN s2 k)).1]:=rfl;have e2:Z3 (nsK s2 (k+1))=Z3 (nsK s2 k)++[[.int .i64 (XA (itN s2 k)).1]]:=by rw [Ld];unfold Z3;rw [List.map_append];rfl
     rw [e1,← e2] at ha hA5;have h52:H5.get 2=.cells [.int .i64 num,.str w,.ps t (Z0 N),.ps t' (Z3 (nsK s2 k)),.str []] 53:=by rw [hO5.2 2 (by decide)];exact h42
     simp (maxDischargeDepth:=12) only [go_sem,reduceEqDiff,reduceAdd,reduceMul,reduceLeDiff,g4,g6,g8,g46,g47,hkf,hw,en230 (P:=Jl) rfl,hr4,h42,ZT,ha,h52];refine ⟨by omega, ?_, ?_,t2,rfl,hA5.set _ (by rw [h52];simp)⟩
     · rw [hO5.2 0 (by decide),hk4 0 (by decide)];exact hz
     · exact hT4.same (by rw [Heap.get_set,if_neg (by decide),hO5.2 1 (by decide)])
   · rintro T H M ⟨rfl,g4,g6,g8,g46,g47,hn,hz,⟨tt,htt,hT⟩,t',he,hA⟩;generalize itN s2 fv=s3 at *;generalize nsK s2 fv=V at *;obtain ⟨rest,bad⟩:=s3;simp only at hT htt ⊢;have q0:(H.n=0)=False:=eq_false (by omega);have q1:(H.n≤0)=False:=eq_false (by omega);have q2:(0 < H.n)=True:=eq_true (by omega);have q3:(1 < H.n)=True:=eq_true (by omega);have q4:(2 < H.n)=True:=eq_true (by omega);have q5:Z0 []=[]:=rfl;have q6:Z0 rest=[] ↔ rest=[]:=by cases rest<;>simp [Z0]
     rcases htt with rfl | ⟨rfl,h0⟩<;>(try subst h0)<;>cases bad
     · have hrl:((((Z0 rest).length:Nat):Int)=0)=(rest=[]):=by
        rw [Zt,eq_iff_iff];exact ⟨fun h=>List.length_eq_zero_iff.1 (by omega),fun h=>by rw [h];rfl⟩
       by_cases hr:rest=[]
       · have hrl:=hrl.trans (eq_true hr);simp (maxDischargeDepth:=12) only [go_sem,reduceEqDiff,reduceAdd,reduceSub,reduceLeDiff,Nat.reduceBEq,reduceCtorEq,g4,g6,g8,g46,g47,hz,hT,he,Int.lt_irrefl,hrl];simp [hr];rfl
       · have hrl:=hrl.trans (eq_false hr);simp (maxDischargeDepth:=12) only [go_sem,reduceEqDiff,reduceAdd,reduceSub,reduceLeDiff,Nat.reduceBEq,reduceCtorEq,g4,g6,g8,g46,g47,hz,hT,he,Int.lt_irrefl,hrl];simp [hr];rfl
     · simp (maxDischargeDepth:=12) only [go_sem,reduceEqDiff,reduceAdd,reduceSub,Nat.reduceBEq,reduceCtorEq,g4,g6,g8,g46,g47,hz,hT,he,Int.lt_irrefl];rfl
     · simp (maxDischargeDepth:=12) only [go_sem,reduceEqDiff,reduceAdd,reduceSub,reduceLeDiff,Nat.reduceBEq,reduceCtorEq,g4,g6,g8,g46,g47,hz,hT,he,q5,Int.lt_irrefl];rfl
     · simp (maxDischargeDepth:=12) only [go_sem,reduceEqDiff,reduceAdd,reduceSub,Nat.reduceBEq,reduceCtorEq,g4,g6,g8,g46,g47,hz,hT,he,q5,Int.lt_irrefl];rfl
noncomputable def VV:List AV→Option AV:=Zy (α:=(Int) × (List Nm)) (fun x=>[i64 x.1,.ps .unk (Z0 x.2)]) (fun x=>x.2.length≤Z1 ∧ ∀ w ∈ x.2,w.length≤Z1) (fun x=>.tup [.agg (evQ x.1 x.2).1.row,.bool (evQ x.1 x.2).2])
theorem Li:Pok VV 104:=by
 intro args v h;obtain ⟨x,rfl,hp,rfl⟩:=ZD h;exact c104 x.1 x.2 hp
theorem Av (num:Int) (ws:List Nm) (hp:ws.length≤Z1 ∧ ∀ w ∈ ws,w.length≤Z1):VV [.int .i64 num,.ps .unk (Z0 ws)]=some (.tup [.agg (evQ num ws).1.row,.bool (evQ num ws).2]):=ZE (by intro x y h;(simp only [List.cons.injEq,AV.int.injEq,AV.ps.injEq,KC,KC,true_and,and_true] at h;first | simpa only [Prod.ext_iff] using h | simpa only [Prod.ext_iff,and_assoc] using h)) (num,ws) hp
attribute [go_sem] Av
end Go.Sim

namespace Go.Sim
open Go Go.Proofs
open Go.Sim.Pos (Nm Ev)
set_option maxRecDepth 100000
def neB (w:Nm):Bool:=!w.isEmpty
def F8 (r:List Nm) (k:Nat):Prop:=k≤r.length∧(r.take k).all neB=true
def F9 (r:List Nm) (k:Nat):Prop:=k≤r.length∧(r.take k).all neB=true∧(r.take k).all (fun w=>(Y0 w).2)=true
theorem Aw (b:Bool):Y5 ([],b)=([],[],true):=rfl
theorem VW {p:Nm→Bool} {r:List Nm} {k:Nat}:(r.take (k+1)).all p=true ↔ (r.take k).all p=true ∧ ∀ w,r[k]? = some w→p w=true:=by
 rw [List.take_add_one,List.all_append,Bool.and_eq_true];cases h:r[k]? with
 | none=>simp
 | some w=>simp
theorem Fa {r:List Nm} {k:Nat} (h:k < r.length):∃ w,r[k]? = some w∧r.drop k=w::r.drop (k+1):=⟨r[k],by simp,List.drop_eq_getElem_cons h⟩
theorem Fb (w:Nm):neB w=true ↔ w ≠ []:=by cases w<;>simp [neB]
theorem Ax {r:List Nm} {b:Bool}:∀ {k:Nat},F8 r k→itW (r,b) k=(r.drop k,b)∧wsK (r,b) k=r.take k
 | 0,_=>⟨rfl,rfl⟩
 | k+1,⟨h1,h2⟩=>by
   obtain ⟨h3,h4⟩:=VW.1 h2;obtain ⟨i1,i2⟩:=Ax (r:=r) (b:=b) (k:=k) ⟨by omega,h3⟩;obtain ⟨w,hw,hd⟩:=Fa (r:=r) (k:=k) (by omega);have hne:=(Fb w).1 (h4 w hw);have ht:Y5 (itW (r,b) k)=(w,r.drop (k+1),b):=by rw [i1,hd,G6 hne]
   refine ⟨by rw [itW,ht], ?_⟩;rw [Lc,i2,ht,List.take_add_one,hw];rfl
theorem Lj {r:List Nm} {b:Bool}:∀ {k:Nat},¬ F8 r k→itW (r,b) k=([],true)
 | 0,h=>absurd ⟨Nat.zero_le _,rfl⟩ h
 | k+1,h=>by
   by_cases hk:F8 r k
   · obtain ⟨i1,_⟩:=Ax (b:=b) hk;rw [itW,i1];by_cases hl:k < r.length
     · obtain ⟨w,hw,hd⟩:=Fa hl;have hw0:w=[]:=Decidable.byContradiction fun hne=>h ⟨hl,VW.2 ⟨hk.2,fun w' hw'=>by rw [hw] at hw';cases hw';exact (Fb w).2 hne⟩⟩
       rw [hd,hw0,VU]
     · rw [List.drop_of_length_le (by omega),Aw]
   · rw [itW,Lj hk,Aw]
theorem Ay {w:Nm} (h:w ≠ []) (r:List Nm) (b:Bool):XA (w::r,b)=((Y0 w).1,r,b || !(Y0 w).2):=by unfold XA;rw [G6 h]
theorem Lk (s:List Nm × Bool) (h:s.2=true):(XA s).2.2=true:=by
 obtain ⟨ws,b⟩:=s;cases h;cases ws with
 | nil=>rfl
 | cons w r =>
   by_cases hw:w=[]
   · subst hw;unfold XA;rw [VU];rfl
   · rw [Ay hw];rfl
theorem Ll (s:List Nm × Bool) (h:s.2=true):∀ k,(itN s k).2=true
 | 0=>h
 | k+1=>Lk _ (Ll s h k)
theorem Az {r:List Nm}:∀ {k:Nat},F9 r k→itN (r,false) k=(r.drop k,false)∧nsK (r,false) k=(r.take k).map fun w=>(Y0 w).1
 | 0,_=>⟨rfl,rfl⟩
 | k+1,⟨h1,h2,h3⟩=>by
   obtain ⟨h4,h5⟩:=VW.1 h2;obtain ⟨h6,h7⟩:=VW.1 h3;obtain ⟨i1,i2⟩:=Az (r:=r) (k:=k) ⟨by omega,h4,h6⟩;obtain ⟨w,hw,hd⟩:=Fa (r:=r) (k:=k) (by omega);have hne:=(Fb w).1 (h5 w hw);have ht:XA (itN (r,false) k)=((Y0 w).1,r.drop (k+1),false):=by rw [i1,hd,Ay hne,h7 w hw];rfl
   refine ⟨by rw [itN,ht], ?_⟩;rw [Ld,i2,ht,List.take_add_one,hw,List.map_append];rfl
theorem Lm {r:List Nm}:∀ {k:Nat},¬ F9 r k→(itN (r,false) k).2=true
 | 0,h=>absurd ⟨Nat.zero_le _,rfl,rfl⟩ h
 | k+1,h=>by
   by_cases hk:F9 r k
   · obtain ⟨i1,_⟩:=Az hk;rw [itN,i1];by_cases hl:k < r.length
     · obtain ⟨w,hw,hd⟩:=Fa hl;by_cases hne:w=[]
       · rw [hd,hne];unfold XA;rw [VU];rfl
       · have hi:(Y0 w).2=false:=by
          cases hi:(Y0 w).2 with
          | false=>rfl
          | true=>exact absurd ⟨hl,VW.2 ⟨hk.2.1,fun w' hw'=>by rw [hw] at hw';cases hw';exact (Fb w).2 hne⟩,VW.2 ⟨hk.2.2,fun w' hw'=>by rw [hw] at hw';cases hw';exact hi⟩⟩ h
         rw [hd,Ay hne,hi];rfl
     · rw [List.drop_of_length_le (by omega)];rfl
   · exact Lk _ (Lm hk)
theorem Z7P {w:Nm} (h:(Zo w).2=true):(Y0 w).1=(Zo w).1:=by
 unfold Zo at h ⊢;split at h
 · rename_i hc
   unfold Y0;rw [if_pos ⟨hc.2.2.1,hc.2.1⟩,if_pos hc]
 · cases h
theorem AA:Pos.YO []=none:=by decide
theorem Ln (num:Int) (ws:List Nm):((evQ num ws).2=true→Pos.Q4 num ws=some (evQ num ws).1)∧((evQ num ws).2=false→Pos.Q4 num ws=none):=by
 cases ws with
 | nil =>
   have h:evQ num []=(⟨0,[],[],[],[]⟩,false):=by unfold evQ;rw [Aw,AA]
   rw [h];exact ⟨fun h=>(by cases h),fun _=>rfl⟩
 | cons k rest =>
   by_cases hk:k=[]
   · subst hk;have h:evQ num ([]::rest)=(⟨0,[],[],[],[]⟩,false):=by unfold evQ;rw [VU,AA]
     rw [h];exact ⟨fun h=>(by cases h),fun _=>by unfold Pos.Q4;simp only [AA]⟩
   unfold evQ;rw [G6 hk];simp only [];cases hf:Pos.YO k with
   | none=>exact ⟨fun h=>(by cases h),fun _=>by unfold Pos.Q4;simp only [hf]⟩
   | some x =>
     obtain ⟨a,b⟩:=x;unfold Pos.Q4;simp only [hf];by_cases hW:F8 rest a
     · obtain ⟨i1,i2⟩:=Ax (b:=false) hW;rw [i1,i2];by_cases hN:F9 (rest.drop a) b
       · obtain ⟨j1,j2⟩:=Az hN;rw [j1,j2];simp only [Bool.not_false,Bool.true_and,decide_eq_true_eq,decide_eq_false_iff_not];have hall:(rest.drop a).length≤b→((rest.drop a).take b=rest.drop a):=fun h=>List.take_of_length_le h
         constructor
         · intro h;have hl:(rest.drop a).length≤b:=by
            have:=congrArg List.length h;simp only [List.length_drop,List.length_nil] at this;rw [List.length_drop];omega
           have hl2:=hN.1;rw [List.length_drop] at hl hl2;rw [if_pos]
           · rw [hall (by rw [List.length_drop];omega)];have hm:∀ l:List Nm,(l.all fun w=>(Y0 w).2)=true→(l.map fun w=>(Y0 w).1)=l.map fun w=>(Zo w).1:=fun l hl=>by
              refine List.map_congr_left fun w hw=>Z7P ?_
              have:=List.all_eq_true.1 hl w hw
              rwa [UK] at this
             have h3:=hN.2.2;rw [hall (by rw [List.length_drop];omega)] at h3;rw [hm _ h3]
           · have h2:=hN.2.1;have h3:=hN.2.2;rw [hall (by rw [List.length_drop];omega)] at h2 h3;refine ⟨by have:=hW.1;omega, ?_, ?_⟩
             · have:rest=rest.take a++rest.drop a:=(List.take_append_drop a rest).symm;rw [this,List.all_append];have h4:=hW.2;unfold neB at h4 h2;rw [h4,h2];rfl
             · rw [List.all_eq_true] at h3 ⊢;intro w hw;rw [← UK];exact h3 w hw
         · intro h;rw [if_neg];rintro ⟨h1,_⟩;refine h ?_;rw [List.drop_drop];exact List.drop_of_length_le (by omega)
       · rw [Lm hN];refine ⟨fun h=>(by simp at h),fun _ => ?_⟩;rw [if_neg];rintro ⟨h1,h2,h3⟩;refine hN ⟨by rw [List.length_drop];omega, ?_, ?_⟩
         · rw [List.all_eq_true] at h2 ⊢;exact fun w hw=>h2 w (List.mem_of_mem_drop (List.mem_of_mem_take hw))
         · rw [List.all_eq_true] at h3 ⊢;intro w hw;rw [UK];exact h3 w (List.mem_of_mem_take hw)
     · rw [Lj hW,Ll _ rfl];refine ⟨fun h=>(by simp at h),fun _ => ?_⟩;rw [if_neg];rintro ⟨h1,h2,h3⟩;refine hW ⟨by omega, ?_⟩;rw [List.all_eq_true] at h2 ⊢;exact fun w hw=>h2 w (List.mem_of_mem_take hw)
theorem Lo (num:Int) (ws:List Nm):(evQ num ws).1.names.length≤4∧(evQ num ws).1.vals.length≤4:=by
 unfold evQ;rcases Au (Y5 (ws,false)).1 0 with ⟨_,hB⟩ | ⟨nm,fv,f1,f2,l1,l2,_,hB,_,hnm,hfv,_⟩
 · rw [hB];exact ⟨Nat.zero_le _,Nat.zero_le _⟩
 · rw [hB];simp only [Ar,Le];omega
def Ka:Ev:=⟨0,[],[],[],[]⟩
def KH (s:Nm) (n:Int):Ev × Int:=match Pos.YQ s with
 | (some e,_)=>(e,if e.num=n then 0 else 11)
 | (none,c)=>(Ka,c)
theorem Lp (w:Nm) (r:List Nm):Pos.Va (w::r)=if (Zo w).2=true then Pos.Q4 (Zo w).1 r else none:=by
 cases r with
 | nil=>unfold Pos.Va Pos.Q4;simp
 | cons k rest =>
   unfold Pos.Va Pos.Q4;cases hf:Pos.YO k with
   | none=>simp only [hf,ite_self]
   | some x =>
     obtain ⟨a,b⟩:=x;simp only [hf];by_cases h:(Zo w).2=true
     · simp only [h,true_and,if_true]
     · simp only [h,false_and,if_false,Bool.false_eq_true]
end Go.Sim

namespace Go.Sim
open Go Go.Proofs
open Go.Sim.Pos (Nm Ev)
set_option maxRecDepth 100000
set_option maxHeartbeats 16000000
theorem AB {c:Nat}:∀ (s cur:List Nat),∀ w ∈ Xw c cur s,w.length≤cur.length+s.length
 | [],cur,w,h=>by
   have:w=cur:=by simpa [Xw] using h
   rw [this];simp
 | x::r,cur,w,h=>by
   rw [Kv] at h;split at h
   · rcases List.mem_cons.1 h with rfl | h
     · simp
     · have:=AB r [] w h;simp at this ⊢;omega
   · have:=AB r (cur++[x]) w h;simp at this ⊢;omega
theorem Fc {c:Nat} {s w:List Nat} (h:w ∈ Zu c s):w.length≤s.length:=by
 have:=AB s [] w h;simpa using this
theorem Fd (c:Nat) (s:List Nat):(Zu c s).length≤s.length+1:=by
 rw [Jc];have:=CN c s;omega
theorem G8 (c:Nat) (s:List Nat):Zu c s ≠ []:=fun e=>by have:=Jc c s;rw [e] at this;simp at this
theorem Lq {num:Int} {ws:List Nm} (h:(evQ num ws).2=true):(evQ num ws).1.num=num:=by
 unfold evQ at h ⊢;split
 · rename_i hf;rw [hf] at h;cases h
 · rfl
theorem Lr:Ka.row=[.int .i64 0,.str [],.ps .unk [],.ps .unk [],.str []]:=rfl
noncomputable def KI:PF:=Zd 88 p88 (Zd 57 p57 (Zd 104 VV (Zd 204 Vg (Zd 59 p59 (Zd 203 G5 (Zd 201 VT (fun _=>none)))))))
theorem Z7Q:PrimsOk NC KI:=ZX (ZX (ZX (ZX (Pa (Pa (Pa (ZA) L4) Z7p) IP) (by kernel_rfl) (by kernel_rfl) IK) (by kernel_rfl) (by kernel_rfl) Li) (by kernel_rfl) (by kernel_rfl) A9) (by kernel_rfl) (by kernel_rfl) Vc
theorem Z7R:En KI 201 VT:=Ze (by rfl) (by kernel_rfl)
theorem Z7S:En KI 203 G5:=Ze (by rfl) (by kernel_rfl)
theorem Z7T:En KI 59 p59:=Ze (by rfl) (by kernel_rfl)
theorem Z7U:En KI 204 Vg:=Ze (by rfl) (by kernel_rfl)
theorem Z7V:En KI 104 VV:=Ze (by rfl) (by kernel_rfl)
theorem Z7W:En KI 57 p57:=Ze (by rfl) (by kernel_rfl)
theorem Z7X:En KI 88 p88:=Ze (by rfl) (by kernel_rfl)
attribute [go_sem ↓] Z7R Z7S Z7T Z7U Z7V Z7W Z7X
theorem c91 (s:Nm) (n:Int) (hp:s.length≤1000000 ∧ ∀ c ∈ s,c < 256):∀ lo H,Zc NC lo 91 [.str s,i64 n] H (.tup [.agg (KH s n).1.row,i64 (KH s n).2]) H:=by
 refine Cn Z7Q Tryz.func91 rfl rfl ?_;obtain ⟨hl,hb⟩:=hp;have w1:Zk .i64 (Int.sub (s.length:Int) 7)=(s.length:Int) - 7:=Qx (by show _≤(s.length:Int) - 7;omega) (by show (s.length:Int) - 7≤_;omega);have w2:Zk .i64 (Int.sub ((s.length:Int) - 7) 1)=(s.length:Int) - 8:=by
  have:Int.sub ((s.length:Int) - 7) 1=(s.length:Int) - 8:=by show (s.length:Int) - 7 - 1=_;omega
  rw [this];exact Qx (by omega) (by omega)
 have hz:=Lr;unfold KH Pos.YQ;by_cases h8:s.length < 8
 · have q1:((s.length:Int) - 8 < 0)=True:=eq_true (by omega);rw [if_pos h8];simp only;simp (maxDischargeDepth:=12) only [go_sem,reduceEqDiff,reduceAdd,reduceCtorEq,w1,w2,q1];rfl
 rw [if_neg h8];have hm:(s.length:Int) - 8=((s.length - 8:Nat):Int):=by omega
 rw [hm] at w2;have hml:s.length - 8 < s.length:=by omega
 have hlen8:s.length=s.length - 8+8:=by omega
 generalize s.length - 8=m at *;obtain ⟨c,hc⟩:∃ c,s[m]? = some c:=⟨s[m],by simp⟩;have hd:s.drop m=c::s.drop (m+1):=by
  rw [List.drop_eq_getElem_cons hml];rw [List.getElem?_eq_some_iff.2 ⟨hml,rfl⟩] at hc;cases hc;rfl
 rw [hd];simp only;have q1:((m:Int) < 0)=False:=eq_false (by omega);have q2:=eq_true hml;have w3:Zk .i64 (Int.add (m:Int) 1)=((m+1:Nat):Int):=Ym (n:=m+1) (by omega);have sl1:=Vf (s:=s) (i:=m+1) (by omega);have sl2:=F4 (s:=s) (i:=m) (by omega);have tr:=IW (s.drop (m+1)) (by rw [List.length_drop];unfold Z1;omega);have tn:=Z7o (s.drop (m+1));have hck:=Am (s.take m) ⟨by rw [List.length_take];unfold Z1;omega,fun c hc=>hb c (List.mem_of_mem_take hc)⟩;have hsp:=pe59 (s.take m) 32 (by rw [List.length_take];unfold Z1;omega);have hwm:∀ w ∈ Zu 32 (s.take m),w.length≤Z1:=fun w hw=>by
  have:=Fc hw;rw [List.length_take] at this;unfold Z1;omega
 have hwl:=Fd 32 (s.take m);rw [List.length_take] at hwl;have hnz:=G8 32 (s.take m);by_cases h35:c=35
 case neg =>
  have q3:((c:Int)=35)=False:=eq_false (by omega);rw [if_neg (by rintro ⟨h,_⟩;exact h35 h)];simp (maxDischargeDepth:=12) only [go_sem,reduceEqDiff,reduceAdd,reduceCtorEq,w1,w2,q1,q2,q3,hc];rfl
 have q3:((c:Int)=35)=True:=eq_true (by omega);cases hdg:Yc (s.drop (m+1))
 case false =>
  rw [hdg] at tn;rw [if_neg (by rintro ⟨_,h⟩;cases h)];simp (maxDischargeDepth:=12) only [go_sem,reduceEqDiff,reduceAdd,reduceCtorEq,w1,w2,q1,q2,q3,hc,w3,sl1,tr,tn];rfl
 rw [hdg] at tn;rw [if_pos ⟨h35,rfl⟩];by_cases hsum:s.drop (m+1)=Pos.X7 (s.take m)
 case neg =>
  have q4:Z6 (Pos.X7 (s.take m)) (s.drop (m+1))=false:=by rw [YV];simp;exact fun h=>hsum h.symm
  rw [if_neg hsum];simp (maxDischargeDepth:=12) only [go_sem,reduceEqDiff,reduceAdd,reduceSub,reduceCtorEq,w1,w2,q1,q2,q3,hc,w3,sl1,sl2,tr,tn,hck,q4];rfl
 have q4:Z6 (Pos.X7 (s.take m)) (s.drop (m+1))=true:=by rw [YV,← hsum];simp
 rw [if_pos hsum];generalize Zu 32 (s.take m)=WS at *
 match WS,hnz with
 | w::r,_ =>
 have hint:=Ai w (hwm w (List.mem_cons_self ..));have hev:=Av (Y0 w).1 r ⟨by simp only [List.length_cons] at hwl;unfold Z1;omega,fun x hx=>hwm x (List.mem_cons_of_mem _ hx)⟩;obtain ⟨el1,el2⟩:=Lo (Y0 w).1 r;have hce:=UW (evQ (Y0 w).1 r).1 ⟨by unfold Z1;omega,by unfold Z1;omega⟩;obtain ⟨ep1,ep2⟩:=Ln (Y0 w).1 r;have en:=Lq (num:=(Y0 w).1) (ws:=r);have htl:=Ap (w:=w) (r:=r);have h0:(Z0 (w::r))[0]? = some [.str w]:=rfl;have hlen:(0 < (Z0 (w::r)).length)=True:=by simp [Z0]
 rw [Lp];have hok:=UK w;have hio:(Zo w).2=true→Y0 w=Zo w:=fun h=>Z56 h
 have hfn:(Zo w).2=true→(Zo w).1=(Y0 w).1:=fun h=>by rw [hio h]
 generalize Zo w=zF at *;generalize Y0 w=z at *;obtain ⟨num,ok1⟩:=z;obtain ⟨num',ok1'⟩:=zF;simp only at hok hfn hint hev hce ep1 ep2 en el1 el2;subst hok;generalize evQ num r=E at *;obtain ⟨⟨num2,kind,names,vals,text⟩,ok2⟩:=E;simp only at hev hce ep1 ep2 en el1 el2;simp only [Pos.Ev.row] at hev hce;clear hio;cases ok1
 case false =>
  rw [if_neg (by simp)];simp (maxDischargeDepth:=12) only [go_sem,reduceEqDiff,reduceAdd,reduceSub,reduceCtorEq,w1,w2,q1,q2,q3,hc,w3,sl1,sl2,tr,tn,hck,q4,hsp,hlen,h0,hint,htl,hev];rfl
 have hnum:num'=num:=hfn rfl;subst hnum;rw [if_pos rfl];cases ok2
 case false =>
  rw [ep2 rfl];simp (maxDischargeDepth:=12) only [go_sem,reduceEqDiff,reduceAdd,reduceSub,reduceCtorEq,w1,w2,q1,q2,q3,hc,w3,sl1,sl2,tr,tn,hck,q4,hsp,hlen,h0,hint,htl,hev];rfl
 rw [ep1 rfl];have hn2:num2=num':=en rfl;subst hn2;simp only;by_cases hchk:Pos.Zp Z7 ⟨num2,kind,names,vals,text⟩=0
 case neg =>
  rw [if_neg hchk];simp (maxDischargeDepth:=12) only [go_sem,reduceEqDiff,reduceAdd,reduceSub,reduceCtorEq,w1,w2,q1,q2,q3,hc,w3,sl1,sl2,tr,tn,hck,q4,hsp,hlen,h0,hint,htl,hev,hce,hchk];rfl
 rw [if_pos hchk];simp only;by_cases hnn:num2=n
 · have hn':=eq_true hnn;simp (maxDischargeDepth:=12) only [go_sem,reduceEqDiff,reduceAdd,reduceSub,reduceCtorEq,w1,w2,q1,q2,q3,hc,w3,sl1,sl2,tr,tn,hck,q4,hsp,hlen,h0,hint,htl,hev,hce,hchk,hn'];rfl
 · simp (maxDischargeDepth:=12) only [go_sem,reduceEqDiff,reduceAdd,reduceSub,reduceCtorEq,w1,w2,q1,q2,q3,hc,w3,sl1,sl2,tr,tn,hck,q4,hsp,hlen,h0,hint,htl,hev,hce,hchk,hnn];rfl
noncomputable def p91:List AV→Option AV:=Zy (α:=(Nm) × (Int)) (fun x=>[.str x.1,i64 x.2]) (fun x=>x.1.length≤1000000 ∧ ∀ c ∈ x.1,c < 256) (fun x=>.tup [.agg (KH x.1 x.2).1.row,i64 (KH x.1 x.2).2])
theorem pok91:Pok p91 91:=by
 intro args v h;obtain ⟨x,rfl,hp,rfl⟩:=ZD h;exact c91 x.1 x.2 hp
theorem pe91 (s:Nm) (n:Int) (hp:s.length≤1000000 ∧ ∀ c ∈ s,c < 256):p91 [.str s,.int .i64 n]=some (.tup [.agg (KH s n).1.row,.int .i64 (KH s n).2]):=ZE (by intro x y h;(simp only [List.cons.injEq,AV.str.injEq,AV.int.injEq,true_and,and_true] at h;first | simpa only [Prod.ext_iff] using h | simpa only [Prod.ext_iff,and_assoc] using h)) (s,n) hp
attribute [go_sem] pe91
theorem Vh (l:List Ev):(l.map Pos.Ev.row).all (fun r=>decide (r.length=5))=true:=JF (f:=Pos.Ev.row) (sz:=5) (fun _=>rfl) l
theorem Ls {s:Nm} {c:Int} (h:Pos.YQ s=(none,c)):c=25∨c=27:=by
 unfold Pos.YQ at h
 repeat' split at h
 all_goals first | (cases h;done) | (cases h;exact .inl rfl) | (cases h;exact .inr rfl)
def XJ (s:Nm) (out:List Ev) (pos:Nat):List Ev × Nat × Int:=Pos.QH out pos (JZ (Zu 10 (s.drop pos))) (Zu 10 (s.drop pos)).dropLast
theorem Lt {s:Nm} {out:List Ev} {pos:Nat} (h:pos=s.length):XJ s out pos=(out,pos,0):=by
 unfold XJ;rw [h,List.drop_length];rfl
theorem Lu {s:Nm} {out:List Ev} {pos:Nat} (h:pos < s.length) (hn:10 ∉ s.drop pos):XJ s out pos=(out,pos,28):=by
 unfold XJ;rw [GQ hn];have:s.drop pos ≠ []:=fun e=>by have:=congrArg List.length e;simp at this;omega
 show (if s.drop pos=[] then _ else _)=_
 rw [if_neg this]
theorem AC {s:Nm} {out:List Ev} {pos m:Nat} (h1:(s.drop pos)[m]? = some 10) (h2:10 ∉ (s.drop pos).take m):XJ s out pos=match Pos.YQ ((s.drop pos).take m) with
 | (some e,_)=>if e.num=(out.length:Int)+1 then XJ s (out++[e]) (pos+(m+1)) else (out,pos,11)
 | (none,c)=>(out,pos,c):=by
 have hm:m < (s.drop pos).length:=(List.getElem?_eq_some_iff.1 h1).1;have hl:((s.drop pos).take m).length=m:=by rw [List.length_take];omega
 have hd:(s.drop pos).drop (m+1)=s.drop (pos+(m+1)):=by rw [List.drop_drop]
 unfold XJ;rw [GR h1 h2,hd];have hnz:=G8 10 (s.drop (pos+(m+1)));generalize Zu 10 (s.drop (pos+(m+1)))=L at *
 match L,hnz with
 | a::r,_ =>
   have e1:JZ ((s.drop pos).take m::a::r)=JZ (a::r):=by unfold JZ;rfl
   have e2:((s.drop pos).take m::a::r).dropLast=(s.drop pos).take m::(a::r).dropLast:=rfl;rw [e1,e2,Pos.QH,hl];try rfl
noncomputable def AD:PF:=Zd 91 p91 (Zd 90 p90 (fun _=>none))
theorem Z7Y:PrimsOk NC AD:=Pa (Pa (ZA) pok90) pok91
theorem Z7Z:En AD 90 p90:=Ze (by rfl) (by kernel_rfl)
theorem Z80:En AD 91 p91:=Ze (by rfl) (by kernel_rfl)
attribute [go_sem ↓] Z7Z Z80
theorem c32 (s:Nm) (hp:s.length≤100000000 ∧ ∀ c ∈ s,c < 256):∀ lo H,Zc NC lo 32 [.str s] H (.tup [.ps .unk ((Pos.ZU s).1.map Pos.Ev.row),i64 (((Pos.ZU s).2.1:Nat):Int),i64 (Pos.ZU s).2.2]) H:=by
 refine Cn Z7Y Tryz.func32 rfl rfl ?_;obtain ⟨hl,hb⟩:=hp;by_cases hbig:1000000 < s.length
 · have q1:((1000000:Int) < (s.length:Int))=True:=eq_true (by omega);have hR:Pos.ZU s=([],0,26):=by unfold Pos.ZU;rw [if_pos hbig]
   rw [hR];simp (maxDischargeDepth:=12) only [go_sem,reduceEqDiff,reduceCtorEq,q1];try rfl
 have q1:((1000000:Int) < (s.length:Int))=False:=eq_false (by omega);have hR:Pos.ZU s=XJ s [] 0:=by unfold Pos.ZU XJ;rw [if_neg hbig];rfl
 rw [hR];simp (maxDischargeDepth:=12) only [go_sem,reduceEqDiff,reduceCtorEq,q1];refine Ae (fun k T H M=>M=[] ∧ ∃ (out:List Ev) (pos:Nat) (t:Tok),k=s.length - pos∧pos≤s.length∧out.length≤pos∧Z2 T 0=.str s∧Z2 T 6=.int .i64 (pos:Int)∧Z2 T 5=.ps t (out.map Pos.Ev.row)∧Zj 0 H t (out.map Pos.Ev.row) 5 53∧XJ s [] 0=XJ s out pos) ?_ s.length _ _ _ ?_
 · rintro k T H M ⟨rfl,out,pos,t,rfl,hpos,hol,g0,g6,g5,hA,hrec⟩;rw [hrec];by_cases hend:pos=s.length
   · have q2:((pos:Int) < (s.length:Int))=False:=eq_false (by omega);rw [Lt hend];simp (maxDischargeDepth:=12) only [go_sem,reduceEqDiff,reduceCtorEq,g0,g5,g6,q2];try rfl
   have q2:((pos:Int) < (s.length:Int))=True:=eq_true (by omega);have sl:=Vf (s:=s) (i:=pos) hpos;have hdl:(s.drop pos).length=s.length - pos:=List.length_drop;have hcut:=pe90 (s.drop pos) (by unfold Z1;omega);unfold Jj at hcut;rcases VM 10 (s.drop pos) with ⟨h1,h2⟩ | ⟨m,h1,h2,h3,h4⟩
   · rw [if_pos h1] at hcut;rw [Lu (by omega) h2];simp (maxDischargeDepth:=12) only [go_sem,reduceEqDiff,reduceCtorEq,g0,g5,g6,q2,sl,hcut];try rfl
   rw [if_neg (by omega),h1] at hcut;have hcut:p90 [.str (s.drop pos),.str [10]]=some (.tup [.str ((s.drop pos).take m),.str ((s.drop pos).drop (m+1)),.bool true]):=hcut;have hline:=hrec.trans (AC h3 h4);rw [AC h3 h4];have hll:((s.drop pos).take m).length=m:=by rw [List.length_take];omega
   have hw1:Zk .i64 (Int.add (out.length:Int) 1)=(out.length:Int)+1:=Ym (n:=out.length+1) (by omega);have hrd:=pe91 ((s.drop pos).take m) ((out.length:Int)+1) ⟨by omega,fun c hc=>hb c (List.mem_of_mem_drop (List.mem_of_mem_take hc))⟩;have hw2:Zk .i64 (Int.add (m:Int) 1)=((m+1:Nat):Int):=Ym (n:=m+1) (by omega);have hw3:Zk .i64 (Int.add (pos:Int) ((m+1:Nat):Int))=((pos+(m+1):Nat):Int):=Ym (n:=pos+(m+1)) (by omega);have hol2:(out.map Pos.Ev.row).length=out.length:=List.length_map _;unfold KH at hrd;generalize hLN:(s.drop pos).take m=LN at *;cases hre:Pos.YQ LN with
   | mk o c =>
   rw [hre] at hrd hline;cases o with
   | none =>
     have hc0:(c=0)=False:=by rcases Ls hre with rfl | rfl<;>decide
     simp only [Lr] at hrd;simp (maxDischargeDepth:=12) only [go_sem,reduceEqDiff,reduceAdd,reduceCtorEq,g0,g5,g6,q2,sl,hcut,hol2,hw1,hrd,hc0];try rfl
   | some e =>
     simp only at hrd ⊢;by_cases hnum:e.num=(out.length:Int)+1
     · simp only at hline;rw [if_pos hnum] at hrd hline ⊢;have hz:((0:Int)=0)=True:=eq_true rfl;have hA2:=fun x y=>hA.new x y
       obtain ⟨num,kind,names,vals,text⟩:=e;simp only [Pos.Ev.row] at hrd;obtain ⟨t',H',ha,hA',_⟩:=YR (lo:=0) (hA.new (.cells [.int .i64 0,.str [],.ps .nil [],.ps .nil [],.str []] 53) (.cells [.int .i64 num,.str kind,.ps .unk (Z0 names),.ps .unk (Z3 vals),.str text] 53)) (Nat.zero_le _) (Nat.le_refl _) (r:=[.int .i64 num,.str kind,.ps .unk (Z0 names),.ps .unk (Z3 vals),.str text]) (by rw [List.length_map];unfold Z1;omega) rfl (by decide) (Vh _);have e1:[AV.int .i64 num,.str kind,.ps .unk (Z0 names),.ps .unk (Z3 vals),.str text].map AV.strip0=Pos.Ev.row ⟨num,kind,names,vals,text⟩:=rfl;have e2:(out++[(⟨num,kind,names,vals,text⟩:Ev)]).map Pos.Ev.row=out.map Pos.Ev.row++[Pos.Ev.row ⟨num,kind,names,vals,text⟩]:=by rw [List.map_append];rfl
       rw [e1,← e2] at ha hA';simp (maxDischargeDepth:=12) only [go_sem,reduceEqDiff,reduceAdd,reduceMul,reduceLeDiff,reduceCtorEq,g0,g5,g6,q2,sl,hcut,hol2,hw1,hrd,hll,hw2,hw3,ZT,ha];refine ⟨s.length - (pos+(m+1)),by omega,out++[⟨num,kind,names,vals,text⟩],pos+(m+1),t',rfl,by omega,by simp;omega,rfl,rfl,hA',rfl⟩
     · rw [if_neg hnum] at hrd ⊢;have hz:((11:Int)=0)=False:=eq_false (by decide);obtain ⟨num,kind,names,vals,text⟩:=e;simp only [Pos.Ev.row] at hrd;simp (maxDischargeDepth:=12) only [go_sem,reduceEqDiff,reduceAdd,reduceCtorEq,g0,g5,g6,q2,sl,hcut,hol2,hw1,hrd,hz]
 · simp (maxDischargeDepth:=12) only [go_sem,reduceEqDiff,reduceCtorEq];exact ⟨[],0,.nil,by simp,Nat.zero_le _,Nat.le_refl _,rfl,rfl,.inl ⟨rfl,rfl⟩,rfl⟩
noncomputable def p32:List AV→Option AV:=Zy (α:=(Nm)) (fun x=>[.str x]) (fun x=>x.length≤100000000 ∧ ∀ c ∈ x,c < 256) (fun x=>.tup [.ps .unk ((Pos.ZU x).1.map Pos.Ev.row),i64 (((Pos.ZU x).2.1:Nat):Int),i64 (Pos.ZU x).2.2])
theorem AE:Pok p32 32:=by
 intro args v h;obtain ⟨x,rfl,hp,rfl⟩:=ZD h;exact c32 x hp
theorem pe32 (s:Nm) (hp:s.length≤100000000 ∧ ∀ c ∈ s,c < 256):p32 [.str s]=some (.tup [.ps .unk ((Pos.ZU s).1.map Pos.Ev.row),.int .i64 (((Pos.ZU s).2.1:Nat):Int),.int .i64 (Pos.ZU s).2.2]):=ZE (by intro x y h;(simp only [List.cons.injEq,AV.str.injEq,and_true] at h;first | simpa only [Prod.ext_iff] using h | simpa only [Prod.ext_iff,and_assoc] using h)) s hp
attribute [go_sem] pe32
theorem Lv:∀ {l:List Nm},(∀ w ∈ l,w.length≤24)→(ZV 32 l).length≤25 * l.length
 | [],_=>by simp [ZV]
 | [w],h=>by
   have:=h w (by simp);simp only [ZV,List.length_cons,List.length_nil];omega
 | w::v::r,h=>by
   have h1:=h w (by simp);have h2:=Lv (l:=v::r) fun x hx=>h x (List.mem_cons_of_mem _ hx)
   simp only [ZV,List.length_append,List.length_cons] at h2 ⊢;omega
theorem Lw {c:Nat}:∀ {l:List Nm},c ∈ ZV 32 l→c=32 ∨ ∃ w ∈ l,c ∈ w
 | [],h=>by cases h
 | [w],h=>.inr ⟨w,by simp,h⟩
 | w::v::r,h=>by
   rcases List.mem_append.1 (show c ∈ w++32::ZV 32 (v::r) from h) with h | h
   · exact .inr ⟨w,by simp,h⟩
   rcases List.mem_cons.1 h with h | h
   · exact .inl h
   rcases Lw h with h | ⟨x,hx,hc⟩
   · exact .inl h
   · exact .inr ⟨x,List.mem_cons_of_mem _ hx,hc⟩
def Fe (w:Nm):Prop:=w.length≤24 ∧ ∀ c ∈ w,c < 256
theorem Z81 {k:Nm} {x:Nat × Nat} (h:Pos.YO k=some x):Fe k∧x.1≤2∧x.2≤4:=by
 unfold Pos.YO at h;have go:∀ {p:Prop} [Decidable p] {a b:Option (Nat × Nat)},(if p then a else b)=some x→(p∧a=some x)∨b=some x:=fun {p} _ {a b} h=>by
  split at h
  · exact .inl ⟨‹_›,h⟩
  · exact .inr h
 iterate 18
  rcases go h with ⟨hk,hx⟩ | h
  · subst hk;cases hx;exact ⟨⟨by decide,by decide⟩,by decide,by decide⟩
 cases h
theorem AF {n:Int} (h0:0≤n) (h1:n < 1000000000):Fe (Zi n):=by
 have h:=Z57 h0 h1;unfold Zo at h;split at h
 · rename_i hc
   refine ⟨by omega,fun c hm => ?_⟩;have:=List.all_eq_true.1 hc.2.2.1 c hm;have:=(JY _).1 this;omega
 · cases h
theorem Z82 {w:Nm} (h:Z7 w=true):Fe w:=by
 cases w with
 | nil=>cases h
 | cons c r =>
   simp only [Z7,Bool.and_eq_true,decide_eq_true_eq,List.all_eq_true] at h;obtain ⟨⟨h1,h2⟩,h3⟩:=h;have sm:∀ x:Nat,YN (x:Int)=true→x < 256:=fun x hx=>by
    simp only [YN,X5,ZY,Bool.or_eq_true,Bool.and_eq_true,Bool.not_eq_true',decide_eq_false_iff_not,decide_eq_true_eq] at hx;omega
   refine ⟨h1,fun x hx => ?_⟩;rcases List.mem_cons.1 hx with rfl | hx
   · exact sm _ (by unfold YN;rw [h2];rfl)
   · exact sm _ (h3 x hx)
theorem G9 {e:Ev} (h:Pos.Zp Z7 e=0):(∀ w ∈ Pos.Kx e,Fe w)∧e.names.length≤2∧e.vals.length≤4:=by
 obtain ⟨a,b,hf,h1,h2,h3,h4,h5,h6,h7⟩:=Pos.Kw Z7 h;obtain ⟨f1,f2,f3⟩:=Z81 hf;refine ⟨fun w hw => ?_,by rw [h1];exact f2,by rw [h2];exact f3⟩;rcases List.mem_cons.1 hw with rfl | hw
 · exact AF (by omega) (by omega)
 rcases List.mem_cons.1 hw with rfl | hw
 · exact f1
 rcases List.mem_append.1 hw with hw | hw
 · exact Z82 (h3 w hw)
 · obtain ⟨v,hv,rfl⟩:=List.mem_map.1 hw;have:=h4 v hv;exact AF this.1 (by omega)
theorem VX {e:Ev} (h:Pos.Zp Z7 e=0):Prn e∧(Pos.YP e).length≤200:=by
 obtain ⟨hw,hn,hv⟩:=G9 h;obtain ⟨a,b,hf,h1,h2,h3,h4,h5,h6,h7⟩:=Pos.Kw Z7 h;have hl:(Pos.YP e).length≤200:=by
  have:=Lv fun w hm=>(hw w hm).1
  have hwl:(Pos.Kx e).length≤8:=by simp [Pos.Kx];omega
  unfold Pos.YP;omega
 refine ⟨⟨⟨by omega,by omega⟩,fun v hm=>⟨by have:=h4 v hm;omega,by have:=h4 v hm;omega⟩,by omega,by omega,by omega,fun c hc => ?_⟩,hl⟩;rcases Lw hc with rfl | ⟨w,hm,hc⟩
 · decide
 · exact (hw w hm).2 c hc
def Kb (s:Nm) (e:Ev):Nm × Int :=
 if (Pos.ZU s).2.2 ≠ 0 then ([],(Pos.ZU s).2.2)
 else if Pos.Zp Z7 e ≠ 0 then ([],Pos.Zp Z7 e)
 else if e.num ≠ ((Pos.ZU s).1.length:Int)+1 then ([],11)
 else if 1000000 < (s++(Pos.Xy e++[10])).length then ([],26) else (s++(Pos.Xy e++[10]),0)
theorem Lx:∀ (l:List Nm) (out:List Ev) (pos:Nat) (la:Nm),(Pos.QH out pos la l).1.length≤out.length+l.length
 | [],out,pos,la=>by unfold Pos.QH;split<;>simp
 | x::r,out,pos,la=>by
   unfold Pos.QH;split
   · split
     · have:=Lx r (out++[‹Ev›]) (pos+x.length+1) la;simp at this ⊢;omega
     · simp
   · simp
theorem Ly (s:Nm):(Pos.ZU s).1.length≤1000001:=by
 unfold Pos.ZU;split
 · simp
 · have h1:=Lx (Zu 10 s).dropLast [] 0 (JZ (Zu 10 s));have h2:=Fd 10 s;simp at h1;omega
noncomputable def VY:PF:=Zd 87 p87 (Zd 88 p88 (Zd 89 p89 (Zd 57 p57 (Zd 32 p32 (fun _=>none)))))
theorem Z83:PrimsOk NC VY:=ZX (ZX (Pa (Pa (Pa (ZA) AE) A9) Lb) (by kernel_rfl) (by kernel_rfl) Vc) (by kernel_rfl) (by kernel_rfl) CW
theorem Z84:En VY 32 p32:=Ze (by rfl) (by kernel_rfl)
theorem Z85:En VY 57 p57:=Ze (by rfl) (by kernel_rfl)
theorem Z86:En VY 89 p89:=Ze (by rfl) (by kernel_rfl)
theorem Z87:En VY 88 p88:=Ze (by rfl) (by kernel_rfl)
theorem Z88:En VY 87 p87:=Ze (by rfl) (by kernel_rfl)
attribute [go_sem ↓] Z84 Z85 Z86 Z87 Z88
theorem c31 (s:Nm) (e:Ev) (hp:s.length≤100000000∧(∀ c ∈ s,c < 256)∧e.names.length≤Z1∧e.vals.length≤Z1):∀ lo H,Zc NC lo 31 [.str s,.agg e.row] H (.tup [.str (Kb s e).1,i64 (Kb s e).2]) H:=by
 refine Cn Z83 Tryz.func31 rfl rfl ?_;obtain ⟨hl,hb,hnl,hvl⟩:=hp;have hrc:=pe32 s ⟨hl,hb⟩;have hrl:=Ly s;have hce:=UW e ⟨hnl,hvl⟩;have hrec:Pos.Zp Z7 e=0→p89 [.agg e.row]=some (.str (Pos.Xy e++[10])):=fun h=>pe89 e (VX h).1
 have hbl:Pos.Zp Z7 e=0→(Pos.Xy e).length≤210:=fun h=>by
  have:=(VX h).2;unfold Pos.Xy;simp only [List.length_append,List.length_cons,Pos.Ia];omega
 unfold Kb;generalize Pos.ZU s=R at *;obtain ⟨evs,pos,c⟩:=R;simp only at hrc hrl ⊢;have hw:Zk .i64 (Int.add (evs.length:Int) 1)=(evs.length:Int)+1:=Ym (n:=evs.length+1) (by omega);have hel:(evs.map Pos.Ev.row).length=evs.length:=List.length_map _;generalize Pos.Zp Z7 e=ck at *;generalize Pos.Xy e=RL at *;obtain ⟨num,kind,names,vals,text⟩:=e;simp only [Pos.Ev.row] at hce hrec hrc hel ⊢;have wt:Z5 true 11=11:=rfl;have wf:Z5 false 11=0:=rfl;by_cases hc:c=0
 case neg =>
  have f1:∀ a b,Z9 [c,a,b]=c:=fun a b=>if_neg hc
  have hc':=eq_false hc;rw [if_pos hc];by_cases hnum:num=(evs.length:Int)+1
  · have hn':=eq_true hnum;simp (maxDischargeDepth:=12) only [go_sem,reduceEqDiff,reduceAdd,reduceMul,reduceSub,reduceLeDiff,reduceCtorEq,hrc,hce,hel,hw,hn',f1,hc']
  · simp (maxDischargeDepth:=12) only [go_sem,reduceEqDiff,reduceAdd,reduceMul,reduceSub,reduceLeDiff,reduceCtorEq,hrc,hce,hel,hw,hnum,f1,hc']
 rw [if_neg (by simpa using hc)];subst hc;by_cases hk:ck=0
 case neg =>
  have f1:∀ b,Z9 [0,ck,b]=ck:=fun b=>by unfold Z9;rw [if_pos rfl];exact if_neg hk
  have hk':=eq_false hk;rw [if_pos hk];by_cases hnum:num=(evs.length:Int)+1
  · have hn':=eq_true hnum;simp (maxDischargeDepth:=12) only [go_sem,reduceEqDiff,reduceAdd,reduceMul,reduceSub,reduceLeDiff,reduceCtorEq,hrc,hce,hel,hw,hn',f1,hk']
  · simp (maxDischargeDepth:=12) only [go_sem,reduceEqDiff,reduceAdd,reduceMul,reduceSub,reduceLeDiff,reduceCtorEq,hrc,hce,hel,hw,hnum,f1,hk']
 rw [if_neg (by simpa using hk)];subst hk;have hrec:=hrec rfl;have hbl:=hbl rfl;by_cases hnum:num=(evs.length:Int)+1
 case neg =>
  have f1:Z9 [0,0,11]=11:=rfl;rw [if_pos hnum];have q0:((11:Int)=0)=False:=eq_false (by decide);simp (maxDischargeDepth:=12) only [go_sem,reduceEqDiff,reduceAdd,reduceMul,reduceSub,reduceLeDiff,reduceCtorEq,hrc,hce,hel,hw,hnum,wt,f1,q0]
 rw [if_neg (by simpa using hnum)];have hn':=eq_true hnum;have f1:Z9 [0,0,0]=0:=rfl;have q0:((0:Int)=0)=True:=eq_true rfl;have c1:(s.length+(RL++[10]).length≤9223372036854775807)=True:=by simp only [eq_iff_iff,iff_true,List.length_append,List.length_cons,List.length_nil];omega
 by_cases hbig:1000000 < (s++(RL++[10])).length
 · have q1:((1000000:Int) < ((s++(RL++[10])).length:Int))=True:=eq_true (by omega);rw [if_pos hbig];simp (maxDischargeDepth:=12) only [go_sem,reduceEqDiff,reduceAdd,reduceMul,reduceSub,reduceLeDiff,reduceCtorEq,hrc,hce,hel,hw,hn',wf,f1,hrec,c1,q1]
 · have q1:((1000000:Int) < ((s++(RL++[10])).length:Int))=False:=eq_false (by omega);rw [if_neg hbig];simp (maxDischargeDepth:=12) only [go_sem,reduceEqDiff,reduceAdd,reduceMul,reduceSub,reduceLeDiff,reduceCtorEq,hrc,hce,hel,hw,hn',wf,f1,hrec,c1,q1]
noncomputable def p31:List AV→Option AV:=Zy (α:=(Nm) × (Ev)) (fun x=>[.str x.1,.agg x.2.row]) (fun x=>x.1.length≤100000000∧(∀ c ∈ x.1,c < 256)∧x.2.names.length≤Z1∧x.2.vals.length≤Z1) (fun x=>.tup [.str (Kb x.1 x.2).1,i64 (Kb x.1 x.2).2])
theorem pok31:Pok p31 31:=by
 intro args v h;obtain ⟨x,rfl,hp,rfl⟩:=ZD h;exact c31 x.1 x.2 hp
theorem pe31 (s:Nm) (e:Ev) (hp:s.length≤100000000∧(∀ c ∈ s,c < 256)∧e.names.length≤Z1∧e.vals.length≤Z1):p31 [.str s,.agg e.row]=some (.tup [.str (Kb s e).1,.int .i64 (Kb s e).2]):=ZE (by intro x y h;(simp only [List.cons.injEq,AV.agg.injEq,AV.str.injEq,Pos.Ev.row_inj,and_true] at h;first | simpa only [Prod.ext_iff] using h | simpa only [Prod.ext_iff,and_assoc] using h)) (s,e) hp
attribute [go_sem] pe31
end Go.Sim

namespace Go.Sim
open Go Go.Proofs
open Go.Sim.Pos (Nm Ev)
set_option maxRecDepth 100000
set_option maxHeartbeats 8000000
theorem Z89 {l m:List Ev}:(l.map Pos.Ev.row=m.map Pos.Ev.row)=(l=m):=propext ⟨UT (fun a b h=>by rw [Pos.Ev.row_inj] at h;exact h),fun h=>by rw [h]⟩
theorem Z8a {α:Type} (a:α) (l m:List α):List.append (a::l) m=a::List.append l m:=rfl
theorem Z8b {α:Type} (m:List α):List.append [] m=m:=rfl
attribute [go_sem] Z8a Z8b
theorem AG {α:Type} {l m:List α} {k:Nat} {x:α} (h:l.take k=m.take k) (hx:l[k]? = some x) (hy:m[k]? = some x):l.take (k+1)=m.take (k+1):=by
 rw [List.take_add_one,List.take_add_one,h,hx,hy]
theorem AH {α:Type} {l m:List α} {k:Nat} {x y:α} (hx:l[k]? = some x) (hy:m[k]? = some y) (h:x ≠ y):l ≠ m:=by
 rintro rfl;rw [hx] at hy;exact h (Option.some.inj hy)
theorem AI {α:Type} {l m:List α} (h:l.take l.length=m.take l.length) (hl:l.length=m.length):l=m:=by
 rw [List.take_length,hl,List.take_length] at h;exact h
noncomputable def PPF30:PF:=fun _=>none
theorem Z8c:PrimsOk NC PPF30:=ZA
theorem c30 (l m:List Nm) (hp:l.length≤Z1):∀ lo H,Zc NC lo 30 [.ps .unk (Z0 l),.ps .unk (Z0 m)] H (.bool (decide (l=m))) H:=by
 refine Cn Z8c Tryz.func30 rfl rfl ?_;by_cases hl:l.length=m.length
 case neg =>
  have q1:((l.length:Int)=(m.length:Int))=False:=eq_false (by omega);rw [decide_eq_false (fun h=>hl (by rw [h]))];simp (maxDischargeDepth:=12) only [go_sem,reduceEqDiff,reduceAdd,reduceCtorEq,Zt,q1]
 have q1:((l.length:Int)=(m.length:Int))=True:=eq_true (by omega);simp (maxDischargeDepth:=12) only [go_sem,reduceEqDiff,reduceAdd,reduceCtorEq,Zt,q1];refine ZK (fun k T H M=>M=[]∧Z2 T 0=.ps .unk (Z0 l)∧Z2 T 1=.ps .unk (Z0 m)∧Z2 T 5=i64 k∧l.take k=m.take k) l.length ?_ ?_ ?_
 · simp (maxDischargeDepth:=12) only [go_sem,reduceEqDiff,reduceCtorEq]
 · rintro k T H M hk ⟨rfl,g0,g1,g5,ht⟩;obtain ⟨x,hx⟩:∃ x,l[k]? = some x:=⟨l[k],by simp⟩;obtain ⟨y,hy⟩:∃ y,m[k]? = some y:=⟨m[k],by simp⟩;have hrx:=K8 hx;have hry:=K8 hy;have hw:=ZP hk hp;have hkm:=eq_true (show k < m.length by omega);by_cases h:x=y
   · subst h;have hb:Z6 x x=true:=by rw [YV];simp
     simp (maxDischargeDepth:=12) only [go_sem,reduceEqDiff,reduceAdd,reduceSub,reduceCtorEq,g0,g1,g5,Zt,hk,hkm,hrx,hry,hb,hw];exact AG ht hx hy
   · have hb:Z6 x y=false:=by rw [YV];simpa using h
     rw [decide_eq_false (AH hx hy h)];simp (maxDischargeDepth:=12) only [go_sem,reduceEqDiff,reduceAdd,reduceSub,reduceCtorEq,g0,g1,g5,Zt,hk,hkm,hrx,hry,hb]
 · rintro T H M ⟨rfl,g0,g1,g5,ht⟩;rw [decide_eq_true (AI ht hl)];simp (maxDischargeDepth:=12) only [go_sem,reduceEqDiff,reduceCtorEq,g0,g5,Zt,Nat.lt_irrefl]
noncomputable def p30:List AV→Option AV:=Zy (α:=(List Nm) × (List Nm)) (fun x=>[.ps .unk (Z0 x.1),.ps .unk (Z0 x.2)]) (fun x=>x.1.length≤Z1) (fun x=>.bool (decide (x.1=x.2)))
theorem pok30:Pok p30 30:=by
 intro args v h;obtain ⟨x,rfl,hp,rfl⟩:=ZD h;exact c30 x.1 x.2 hp
theorem pe30 (l m:List Nm) (hp:l.length≤Z1):p30 [.ps .unk (Z0 l),.ps .unk (Z0 m)]=some (.bool (decide (l=m))):=ZE (by intro x y h;(simp only [List.cons.injEq,AV.ps.injEq,KC,KC,true_and,and_true] at h;first | simpa only [Prod.ext_iff] using h | simpa only [Prod.ext_iff,and_assoc] using h)) (l,m) hp
attribute [go_sem] pe30
noncomputable def PPF83:PF:=fun _=>none
theorem Z8d:PrimsOk NC PPF83:=ZA
theorem c83 (l m:List Int) (hp:l.length≤Z1):∀ lo H,Zc NC lo 83 [.ps .unk (Z3 l),.ps .unk (Z3 m)] H (.bool (decide (l=m))) H:=by
 refine Cn Z8d Tryz.func83 rfl rfl ?_;by_cases hl:l.length=m.length
 case neg =>
  have q1:((l.length:Int)=(m.length:Int))=False:=eq_false (by omega);rw [decide_eq_false (fun h=>hl (by rw [h]))];simp (maxDischargeDepth:=12) only [go_sem,reduceEqDiff,reduceAdd,reduceCtorEq,Y4,q1]
 have q1:((l.length:Int)=(m.length:Int))=True:=eq_true (by omega);simp (maxDischargeDepth:=12) only [go_sem,reduceEqDiff,reduceAdd,reduceCtorEq,Y4,q1];refine ZK (fun k T H M=>M=[]∧Z2 T 0=.ps .unk (Z3 l)∧Z2 T 1=.ps .unk (Z3 m)∧Z2 T 5=i64 k∧l.take k=m.take k) l.length ?_ ?_ ?_
 · simp (maxDischargeDepth:=12) only [go_sem,reduceEqDiff,reduceCtorEq]
 · rintro k T H M hk ⟨rfl,g0,g1,g5,ht⟩;obtain ⟨x,hx⟩:∃ x,l[k]? = some x:=⟨l[k],by simp⟩;obtain ⟨y,hy⟩:∃ y,m[k]? = some y:=⟨m[k],by simp⟩;have hrx:=KD hx;have hry:=KD hy;have hw:=ZP hk hp;have hkm:=eq_true (show k < m.length by omega);by_cases h:x=y
   · subst h;simp (maxDischargeDepth:=12) only [go_sem,reduceEqDiff,reduceAdd,reduceSub,reduceCtorEq,g0,g1,g5,Y4,hk,hkm,hrx,hry,hw];exact AG ht hx hy
   · rw [decide_eq_false (AH hx hy h)];simp (maxDischargeDepth:=12) only [go_sem,reduceEqDiff,reduceAdd,reduceSub,reduceCtorEq,g0,g1,g5,Y4,hk,hkm,hrx,hry,h]
 · rintro T H M ⟨rfl,g0,g1,g5,ht⟩;rw [decide_eq_true (AI ht hl)];simp (maxDischargeDepth:=12) only [go_sem,reduceEqDiff,reduceCtorEq,g0,g5,Y4,Nat.lt_irrefl]
noncomputable def p83:List AV→Option AV:=Zy (α:=(List Int) × (List Int)) (fun x=>[.ps .unk (Z3 x.1),.ps .unk (Z3 x.2)]) (fun x=>x.1.length≤Z1) (fun x=>.bool (decide (x.1=x.2)))
theorem pok83:Pok p83 83:=by
 intro args v h;obtain ⟨x,rfl,hp,rfl⟩:=ZD h;exact c83 x.1 x.2 hp
theorem pe83 (l m:List Int) (hp:l.length≤Z1):p83 [.ps .unk (Z3 l),.ps .unk (Z3 m)]=some (.bool (decide (l=m))):=ZE (by intro x y h;(simp only [List.cons.injEq,AV.ps.injEq,K7,true_and,and_true] at h;first | simpa only [Prod.ext_iff] using h | simpa only [Prod.ext_iff,and_assoc] using h)) (l,m) hp
attribute [go_sem] pe83
noncomputable def AJ:PF:=Zd 83 p83 (Zd 30 p30 (fun _=>none))
theorem Z8e:PrimsOk NC AJ:=Pa (Pa (ZA) pok30) pok83
theorem Z8f:En AJ 30 p30:=Ze (by rfl) (by kernel_rfl)
theorem Z8g:En AJ 83 p83:=Ze (by rfl) (by kernel_rfl)
attribute [go_sem ↓] Z8f Z8g
theorem c22 (l m:List Ev) (hp:l.length≤Z1 ∧ ∀ e ∈ l,e.names.length≤Z1∧e.vals.length≤Z1):∀ lo H,Zc NC lo 22 [.ps .unk (l.map Pos.Ev.row),.ps .unk (m.map Pos.Ev.row)] H (.bool (decide (l=m))) H:=by
 refine Cn Z8e Tryz.func22 rfl rfl ?_;obtain ⟨hp,hsm⟩:=hp;have hml:(l.map Pos.Ev.row).length=l.length:=List.length_map _;have hmm:(m.map Pos.Ev.row).length=m.length:=List.length_map _;by_cases hl:l.length=m.length
 case neg =>
  have q1:((l.length:Int)=(m.length:Int))=False:=eq_false (by omega);rw [decide_eq_false (fun h=>hl (by rw [h]))];simp (maxDischargeDepth:=12) only [go_sem,reduceEqDiff,reduceAdd,reduceCtorEq,hml,hmm,q1]
 have q1:((l.length:Int)=(m.length:Int))=True:=eq_true (by omega);have hal:=Vh l;have ham:=Vh m;simp (maxDischargeDepth:=12) only [go_sem,reduceEqDiff,reduceAdd,reduceCtorEq,hml,hmm,q1];refine ZK (fun k T H M=>M=[]∧Z2 T 0=.ps .unk (l.map Pos.Ev.row)∧Z2 T 1=.ps .unk (m.map Pos.Ev.row)∧Z2 T 5=i64 k∧l.take k=m.take k) l.length ?_ ?_ ?_
 · simp (maxDischargeDepth:=12) only [go_sem,reduceEqDiff,reduceCtorEq]
 · rintro k T H M hk ⟨rfl,g0,g1,g5,ht⟩;obtain ⟨x,hx⟩:∃ x,l[k]? = some x:=⟨l[k],by simp⟩;obtain ⟨y,hy⟩:∃ y,m[k]? = some y:=⟨m[k],by simp⟩;have hrx:(l.map Pos.Ev.row)[k]? = some (Pos.Ev.row x):=by rw [List.getElem?_map,hx];rfl
   have hry:(m.map Pos.Ev.row)[k]? = some (Pos.Ev.row y):=by rw [List.getElem?_map,hy];rfl
   have hw:=ZP hk hp;have hkm:=eq_true (show k < m.length by omega);obtain ⟨s1,s2⟩:=hsm x (List.mem_of_getElem? hx);have hsame:x=y→l.take (k+1)=m.take (k+1):=fun h=>by subst h;exact AG ht hx hy
   have hdiff:x ≠ y→decide (l=m)=false:=fun h=>decide_eq_false (AH hx hy h)
   obtain ⟨n1,k1,a1,v1,t1⟩:=x;obtain ⟨n2,k2,a2,v2,t2⟩:=y;simp only [Pos.Ev.row] at hrx hry;simp only at s1 s2;have hsw:=pe30 a1 a2 s1;have hsi:=pe83 v1 v2 s2;generalize l.map Pos.Ev.row=L at *;generalize m.map Pos.Ev.row=N at *;by_cases c1:n1=n2
   case neg =>
    rw [hdiff (fun h=>c1 (congrArg Ev.num h))];simp (maxDischargeDepth:=12) only [go_sem,reduceEqDiff,reduceAdd,reduceSub,reduceLeDiff,reduceCtorEq,g0,g1,g5,hml,hmm,hk,hkm,hrx,hry,c1]
   have c1':=eq_true c1;by_cases c2:k1=k2
   case neg =>
    have hb:Z6 k1 k2=false:=by rw [YV];simpa using c2
    rw [hdiff (fun h=>c2 (congrArg Ev.kind h))];simp (maxDischargeDepth:=12) only [go_sem,reduceEqDiff,reduceAdd,reduceSub,reduceLeDiff,reduceCtorEq,g0,g1,g5,hml,hmm,hk,hkm,hrx,hry,c1',hb]
   have hb2:Z6 k1 k2=true:=by rw [YV,c2];simp
   by_cases c3:a1=a2
   case neg =>
    rw [decide_eq_false c3] at hsw;rw [hdiff (fun h=>c3 (congrArg Ev.names h))];simp (maxDischargeDepth:=12) only [go_sem,reduceEqDiff,reduceAdd,reduceSub,reduceLeDiff,reduceCtorEq,g0,g1,g5,hml,hmm,hk,hkm,hrx,hry,c1',hb2,hsw]
   rw [decide_eq_true c3] at hsw;by_cases c4:v1=v2
   case neg =>
    rw [decide_eq_false c4] at hsi;rw [hdiff (fun h=>c4 (congrArg Ev.vals h))];simp (maxDischargeDepth:=12) only [go_sem,reduceEqDiff,reduceAdd,reduceSub,reduceLeDiff,reduceCtorEq,g0,g1,g5,hml,hmm,hk,hkm,hrx,hry,c1',hb2,hsw,hsi]
   rw [decide_eq_true c4] at hsi;by_cases c5:t1=t2
   case neg =>
    have hb5:Z6 t1 t2=false:=by rw [YV];simpa using c5
    rw [hdiff (fun h=>c5 (congrArg Ev.text h))];simp (maxDischargeDepth:=12) only [go_sem,reduceEqDiff,reduceAdd,reduceSub,reduceLeDiff,reduceCtorEq,g0,g1,g5,hml,hmm,hk,hkm,hrx,hry,c1',hb2,hsw,hsi,hb5]
   have hb5:Z6 t1 t2=true:=by rw [YV,c5];simp
   have hs':=hsame (by rw [c1,c2,c3,c4,c5]);simp (maxDischargeDepth:=12) only [go_sem,reduceEqDiff,reduceAdd,reduceSub,reduceLeDiff,reduceCtorEq,g0,g1,g5,hml,hmm,hk,hkm,hrx,hry,hw,c1',hb2,hsw,hsi,hb5];exact hs'
 · rintro T H M ⟨rfl,g0,g1,g5,ht⟩;rw [decide_eq_true (AI ht hl)];simp (maxDischargeDepth:=12) only [go_sem,reduceEqDiff,reduceCtorEq,g0,g5,hml,Nat.lt_irrefl]
noncomputable def p22:List AV→Option AV:=Zy (α:=(List Ev) × (List Ev)) (fun x=>[.ps .unk (x.1.map Pos.Ev.row),.ps .unk (x.2.map Pos.Ev.row)]) (fun x=>x.1.length≤Z1 ∧ ∀ e ∈ x.1,e.names.length≤Z1∧e.vals.length≤Z1) (fun x=>.bool (decide (x.1=x.2)))
theorem Lz:Pok p22 22:=by
 intro args v h;obtain ⟨x,rfl,hp,rfl⟩:=ZD h;exact c22 x.1 x.2 hp
theorem pe22 (l m:List Ev) (hp:l.length≤Z1 ∧ ∀ e ∈ l,e.names.length≤Z1∧e.vals.length≤Z1):p22 [.ps .unk (l.map Pos.Ev.row),.ps .unk (m.map Pos.Ev.row)]=some (.bool (decide (l=m))):=ZE (by intro x y h;(simp only [List.cons.injEq,AV.ps.injEq,Z89,true_and,and_true] at h;first | simpa only [Prod.ext_iff] using h | simpa only [Prod.ext_iff,and_assoc] using h)) (l,m) hp
attribute [go_sem] pe22
end Go.Sim

namespace Go.Sim
open Go Go.Proofs
open Go.Sim.Pos (Nm Ev)
set_option maxRecDepth 100000
theorem Z8h {C:Cfg} (Sa:Sane C) {l:List Known} (hl:∀ k ∈ l,∀ lo H,Zc C lo k.f k.args H k.v H) {fuel:Nat} {k:Known} (h:((run (C.withMemo (JU l)) fuel (.call 0 k.f k.args .empty)).bind fun o=>(Ku 0 o.s.H o.val).map fun x=>x.1.strip.beq k.v)=some true) (hp:X9 k.args=true) (hv:k.v.pure=true) :
 ∀ lo H,Zc C lo k.f k.args H k.v H:=by
 intro lo H;cases hr:run (C.withMemo (JU l)) fuel (.call 0 k.f k.args .empty) with
 | none=>rw [hr] at h;simp at h
 | some o =>
   rw [hr] at h;simp only [Option.bind_some] at h;cases hf:Ku 0 o.s.H o.val with
   | none=>rw [hf] at h;simp at h
   | some x =>
     obtain ⟨v2,H2⟩:=x;rw [hf] at h;simp only [Option.map_some,Option.some.injEq] at h;have he:=AV.beq_eq h;have:=HP (Sa.withMemo _ (Dd hl)) hr hp hf (by rw [he];exact hv) lo H;rw [he] at this;exact (Uz _).1 this
def aw_e1:Ev:=⟨1,[116,114,97,99,107],[[117,112]],[0,160],[]⟩
def Ff:Known:=⟨76,[.agg [.int .i64 1,.str [116,114,97,99,107],.ps .unk [[.str [117,112]]],.ps .unk [[.int .i64 0],[.int .i64 160]],.str []]],.agg [.int .i64 1,.str [116,114,97,99,107],.ps .unk [[.str [117,112]]],.ps .unk [[.int .i64 0],[.int .i64 160]],.str []]⟩
theorem Z8i:∀ lo H,Zc NC lo Ff.f Ff.args H Ff.v H:=c76 aw_e1 ⟨by decide,by decide⟩
def aw_e2:Ev:=⟨2,[102,97,117,108,116],[[102],[117,112]],[1,100,120,40],[]⟩
def Fg:Known:=⟨76,[.agg [.int .i64 2,.str [102,97,117,108,116],.ps .unk [[.str [102]],[.str [117,112]]],.ps .unk [[.int .i64 1],[.int .i64 100],[.int .i64 120],[.int .i64 40]],.str []]],.agg [.int .i64 2,.str [102,97,117,108,116],.ps .unk [[.str [102]],[.str [117,112]]],.ps .unk [[.int .i64 1],[.int .i64 100],[.int .i64 120],[.int .i64 40]],.str []]⟩
theorem Z8j:∀ lo H,Zc NC lo Fg.f Fg.args H Fg.v H:=c76 aw_e2 ⟨by decide,by decide⟩
def aw_e3:Ev:=⟨3,[97,110,115,119,101,114],[[102]],[2],[]⟩
def Fh:Known:=⟨76,[.agg [.int .i64 3,.str [97,110,115,119,101,114],.ps .unk [[.str [102]]],.ps .unk [[.int .i64 2]],.str []]],.agg [.int .i64 3,.str [97,110,115,119,101,114],.ps .unk [[.str [102]]],.ps .unk [[.int .i64 2]],.str []]⟩
theorem Z8k:∀ lo H,Zc NC lo Fh.f Fh.args H Fh.v H:=c76 aw_e3 ⟨by decide,by decide⟩
def aw_e4:Ev:=⟨4,[116,97,107,101],[[112],[117,112]],[3,90,200],[]⟩
def Fi:Known:=⟨76,[.agg [.int .i64 4,.str [116,97,107,101],.ps .unk [[.str [112]],[.str [117,112]]],.ps .unk [[.int .i64 3],[.int .i64 90],[.int .i64 200]],.str []]],.agg [.int .i64 4,.str [116,97,107,101],.ps .unk [[.str [112]],[.str [117,112]]],.ps .unk [[.int .i64 3],[.int .i64 90],[.int .i64 200]],.str []]⟩
theorem Z8l:∀ lo H,Zc NC lo Fi.f Fi.args H Fi.v H:=c76 aw_e4 ⟨by decide,by decide⟩
def aw_l:List Known:=[Ff,Fg,Fh,Fi]
theorem Z8m:∀ k ∈ aw_l,∀ lo H,Zc NC lo k.f k.args H k.v H:=by
 intro k hk;simp only [aw_l,List.mem_cons,List.not_mem_nil,or_false] at hk;rcases hk with rfl | rfl | rfl | rfl
 · exact Z8i
 · exact Z8j
 · exact Z8k
 · exact Z8l
def VZ:Known:=⟨43,[.ps .unk [[.int .i64 1,.str [116,114,97,99,107],.ps .unk [[.str [117,112]]],.ps .unk [[.int .i64 0],[.int .i64 160]],.str []],[.int .i64 2,.str [102,97,117,108,116],.ps .unk [[.str [102]],[.str [117,112]]],.ps .unk [[.int .i64 1],[.int .i64 100],[.int .i64 120],[.int .i64 40]],.str []],[.int .i64 3,.str [97,110,115,119,101,114],.ps .unk [[.str [102]]],.ps .unk [[.int .i64 2]],.str []],[.int .i64 4,.str [116,97,107,101],.ps .unk [[.str [112]],[.str [117,112]]],.ps .unk [[.int .i64 3],[.int .i64 90],[.int .i64 200]],.str []]],.str [117,112]],.tup [.ps .unk [[.int .i64 90,.int .i64 200]],.int .i64 0]⟩
theorem Z8n:∀ lo H,Zc NC lo VZ.f VZ.args H VZ.v H:=Z8h JX Z8m (fuel:=5000) (by kernel_rfl) (by kernel_rfl) (by kernel_rfl)
def pk (k:Known):List AV→Option AV:=fun args=>JU [k] k.f args
theorem AK {k:Known} (h:∀ lo H,Zc NC lo k.f k.args H k.v H):∀ args v,pk k args=some v → ∀ lo H,Zc NC lo k.f args H v H:=fun args v hv=>Dd (l:=[k]) (fun k' hk=>by
 rcases List.mem_cons.1 hk with rfl | hk
 · exact h
 · cases hk) k.f args v hv
theorem LA:∀ k ∈ ([]:List Known),∀ lo H,Zc NC lo k.f k.args H k.v H:=fun k h=>by cases h
def U0:Known:=⟨49,[.ps .unk [[.int .i64 90,.int .i64 200]],.ps .unk [[.int .i64 90,.int .i64 200]]],.bool true⟩
theorem Z8o:∀ lo H,Zc NC lo U0.f U0.args H U0.v H:=Et JX LA (fuel:=5000) (by kernel_rfl) (by kernel_rfl) (by kernel_rfl)
def U1:Known:=⟨72,[.str [49,49]],.str [48,49,51,55,52,54,49]⟩
theorem Z8p:∀ lo H,Zc NC lo U1.f U1.args H U1.v H:=Et JX LA (fuel:=5000) (by kernel_rfl) (by kernel_rfl) (by kernel_rfl)
def Ga:List AV→Option AV:=pk VZ
theorem Z8q:∀ args v,Ga args=some v → ∀ lo H,Zc NC lo 43 args H v H:=AK Z8n
theorem Z8r:Ga VZ.args=some VZ.v:=by kernel_rfl
def Gb:List AV→Option AV:=pk U0
theorem Z8s:∀ args v,Gb args=some v → ∀ lo H,Zc NC lo 49 args H v H:=AK Z8o
theorem Z8t:Gb U0.args=some U0.v:=by kernel_rfl
def Gc:List AV→Option AV:=pk U1
theorem Z8u:∀ args v,Gc args=some v → ∀ lo H,Zc NC lo 72 args H v H:=AK Z8p
theorem Z8v:Gc U1.args=some U1.v:=by kernel_rfl
end Go.Sim

namespace Go.Sim
open Go Go.Proofs
open Go.Sim.Pos (Nm Trk Flt Trn Pos Mch Reg Ev Len ZW Yd Y8 Ye)
set_option maxRecDepth 100000
set_option maxHeartbeats 4000000
noncomputable def PPT:PF:=Zd 22 p22 (Zd 72 Gc (Zd 49 Gb (Zd 43 Ga (Zd 32 p32 (Zd 89 p89 (Zd 104 VV (Zd 59 p59 (Zd 157 p157 (Zd 76 p76 (Zd 57 p57 (Zd 150 p150 (Zd 153 VQ (Zd 123 p123 (Zd 198 p198 (Zd 269 p269 (Zd 268 p268 (Zd 267 p267 (Zd 266 p266 (Zd 265 p265 (Zd 245 p245 (Zd 87 p87 (Zd 125 KE (Zd 88 p88 (fun _=>none))))))))))))))))))))))))
theorem LB:PrimsOk NC PPT:=ZX (ZX (ZX (ZX (ZX (ZX (ZX (ZX (ZX (ZX (ZX (ZX (ZX (ZX (ZX (ZX (ZX (ZX (ZX (ZX (ZX (Pa (Pa (Pa (ZA) Vc) CV) CW) (by kernel_rfl) (by kernel_rfl) Z5K) (by kernel_rfl) (by kernel_rfl) Z5N) (by kernel_rfl) (by kernel_rfl) Z5Q) (by kernel_rfl) (by kernel_rfl) Z5T) (by kernel_rfl) (by kernel_rfl) Z5W) (by kernel_rfl) (by kernel_rfl) Z5Z) (by kernel_rfl) (by kernel_rfl) Z62) (by kernel_rfl) (by kernel_rfl) Z65) (by kernel_rfl) (by kernel_rfl) Ir) (by kernel_rfl) (by kernel_rfl) Z6b) (by kernel_rfl) (by kernel_rfl) A9) (by kernel_rfl) (by kernel_rfl) pok76) (by kernel_rfl) (by kernel_rfl) Z6Y) (by kernel_rfl) (by kernel_rfl) IP) (by kernel_rfl) (by kernel_rfl) Li) (by kernel_rfl) (by kernel_rfl) Lb) (by kernel_rfl) (by kernel_rfl) AE) (by kernel_rfl) (by kernel_rfl) Z8q) (by kernel_rfl) (by kernel_rfl) Z8s) (by kernel_rfl) (by kernel_rfl) Z8u) (by kernel_rfl) (by kernel_rfl) Lz
theorem Z8w:En PPT 88 p88:=Ze (by rfl) (by kernel_rfl)
theorem Z8x:En PPT 125 KE:=Ze (by rfl) (by kernel_rfl)
theorem Z8y:En PPT 87 p87:=Ze (by rfl) (by kernel_rfl)
theorem Z8z:En PPT 245 p245:=Ze (by rfl) (by kernel_rfl)
theorem Z8A:En PPT 265 p265:=Ze (by rfl) (by kernel_rfl)
theorem Z8B:En PPT 266 p266:=Ze (by rfl) (by kernel_rfl)
theorem Z8C:En PPT 267 p267:=Ze (by rfl) (by kernel_rfl)
theorem Z8D:En PPT 268 p268:=Ze (by rfl) (by kernel_rfl)
theorem Z8E:En PPT 269 p269:=Ze (by rfl) (by kernel_rfl)
theorem Z8F:En PPT 198 p198:=Ze (by rfl) (by kernel_rfl)
theorem Z8G:En PPT 153 VQ:=Ze (by rfl) (by kernel_rfl)
theorem Z8H:En PPT 150 p150:=Ze (by rfl) (by kernel_rfl)
theorem Z8I:En PPT 57 p57:=Ze (by rfl) (by kernel_rfl)
theorem Z8J:En PPT 76 p76:=Ze (by rfl) (by kernel_rfl)
theorem Z8K:En PPT 157 p157:=Ze (by rfl) (by kernel_rfl)
theorem Z8L:En PPT 59 p59:=Ze (by rfl) (by kernel_rfl)
theorem Z8M:En PPT 104 VV:=Ze (by rfl) (by kernel_rfl)
theorem Z8N:En PPT 89 p89:=Ze (by rfl) (by kernel_rfl)
theorem Z8O:En PPT 32 p32:=Ze (by rfl) (by kernel_rfl)
theorem Z8P {rec:Rec} {lo:Nat} {args:List AV} {H:Heap} {K:AV→Heap→Prop}:VO (Z8 (NC.withPrims PPT) rec lo 43 args H) K=AO (Ga args) fun v=>K v H:=Ze (by rfl) (by kernel_rfl)
theorem Z8Q {rec:Rec} {lo:Nat} {args:List AV} {H:Heap} {K:AV→Heap→Prop}:VO (Z8 (NC.withPrims PPT) rec lo 49 args H) K=AO (Gb args) fun v=>K v H:=Ze (by rfl) (by kernel_rfl)
theorem Z8R {rec:Rec} {lo:Nat} {args:List AV} {H:Heap} {K:AV→Heap→Prop}:VO (Z8 (NC.withPrims PPT) rec lo 72 args H) K=AO (Gc args) fun v=>K v H:=Ze (by rfl) (by kernel_rfl)
theorem Z8S:En PPT 22 p22:=Ze (by rfl) (by kernel_rfl)
attribute [go_sem ↓] Z8w Z8x Z8y Z8z Z8A Z8B Z8C Z8D Z8E Z8F Z8G
attribute [go_sem ↓] Z8H Z8I Z8J Z8K Z8L Z8M Z8N Z8O Z8P Z8Q Z8R Z8S
noncomputable abbrev PT:Cfg:=NC.withPrims PPT
theorem Z8T:Sane PT:=JX.withPrims LB
theorem Z8U (H:Heap):Old H.n H H=True:=eq_true (Old.refl H)
theorem Z8V {b:Nat} {H H':Heap} (h:Old b H H') (x:ABlk):Old b H (H'.push x)=True:=eq_true (h.push x)
theorem Z8W {b:Nat} {H H':Heap} (h:Old b H H') {j:Nat} (hj:b≤j) (x:ABlk):Old b H (H'.set j x)=True:=eq_true (h.set hj x)
theorem le_1 (a:Nat):(a≤a+1)=True:=eq_true (by omega)
theorem le_2 (a:Nat):(a≤a+1+1)=True:=eq_true (by omega)
theorem le_3 (a:Nat):(a≤a+1+1+1)=True:=eq_true (by omega)
theorem le_4 (a:Nat):(a≤a+1+1+1+1)=True:=eq_true (by omega)
theorem le_5 (a:Nat):(a≤a+1+1+1+1+1)=True:=eq_true (by omega)
attribute [go_sem] Z8U Z8V Z8W le_1 le_2 le_3 le_4 le_5
theorem Old.to {H H1 H2:Heap} (h:Old H.n H H1) (h2:Old H1.n H1 H2):Old H.n H H2:=⟨Nat.le_trans h.1 h2.1,fun i hi=>(h2.2 i (Nat.lt_of_lt_of_le hi h.1)).trans (h.2 i hi)⟩
def ZO (v:AV):AV:=v.strip
noncomputable def Vi (H:Heap) (t:TypeId) (v:AV):Option AV:=XD NC.P H t v
noncomputable def U2 (t:TypeId) (v i:AV):Option AV:=Qp NC.P t v i
noncomputable def sld (H:Heap) (t:TypeId) (a:AV):Option AV:=Yk NC.P H t a
section
variable {rec:Rec} {fid lo:Nat} {T:TT AV} {H:Heap} {K:AV→Heap→Prop} {d:Option Tmp} {t:TypeId} {p:String} {af:Array Edge} {gd:Option (Nat × Bool)}
theorem Z8X (x:Operand) (t':TypeId):VO (aop PT rec fid lo ⟨d,.call ⟨.builtin .len,#[x],#[t']⟩,t,p,af,gd⟩ T H) K=AO (Z4 PT T x) fun a=>AO (Vi H t' a) fun v=>K v H:=EC x t'
theorem Z8Y (t':TypeId) (x i:Operand):VO (aop PT rec fid lo ⟨d,.indexAddr t' x i,t,p,af,gd⟩ T H) K=AO (Z4 PT T x) fun x=>AO (Z4 PT T i) fun i=>AO (U2 t' x i) fun v=>K v H:=EA t' x i
theorem Z8Z (t':TypeId) (x:Operand):VO (aop PT rec fid lo ⟨d,.load t' x,t,p,af,gd⟩ T H) K=AO (Z4 PT T x) fun a=>AO (sld H t' a) fun v=>K v H:=Ex t' x
theorem Z90 (f:FuncId) (hk:PT.nilArg f=false) (xs:Array Operand) (ts:Array TypeId):VO (aop PT rec fid lo ⟨d,.call ⟨.value (.func f),xs,ts⟩,t,p,af,gd⟩ T H) K=AO (ZZ PT T xs.toList) fun l=>VO (Z8 PT rec lo f (l.map ZO) H) K:=ED f hk xs ts
theorem Z91 (f:FuncId) (first caps l:List AV):fnO PT rec lo (.fn f first caps) l H K=VO (Z8 PT rec lo f ((first++l++caps).map ZO) H) K:=rfl
end
attribute [go_sem ↓ 2000] Z8X Z8Y Z8Z Z90 Z91
theorem Z92 (a:Tok) (b:List (List AV)):ZO (.ps a b)=.ps .unk b:=rfl
theorem Z93 (b:Bool):ZO (.bool b)=.bool b:=rfl
theorem Z94 (k:IntKind) (n:Int):ZO (.int k n)=.int k n:=rfl
theorem Z95 (s:List Nat):ZO (.str s)=.str s:=rfl
theorem Z96:ZO .nilp=.nilp:=rfl
theorem Z97 (a b:Nat):ZO (.ptr a b)=.ptr a b:=rfl
theorem Z98 (a:List AV):ZO (.pptr a)=.pptr a:=rfl
theorem Z99 (a b c d:Nat) (e:Option Nat):ZO (.rs a b c d e)=.rs a b c d e:=rfl
theorem Z9a:ZO .nilm=.nilm:=rfl
theorem Z9b (a:Nat):ZO (.map a)=.map a:=rfl
theorem Z9c (f:FuncId) (a b:List AV):ZO (.fn f a b)=.fn f a b:=rfl
theorem Z9d (a:Nat):ZO (.yld a)=.yld a:=rfl
theorem Z9e:ZO .nilf=.nilf:=rfl
theorem Z9f (a:List AV):ZO (.agg a)=.agg (a.map AV.strip0):=rfl
attribute [go_sem] Z92 Z93 Z94 Z95 Z96 Z97 Z98 Z99 Z9a Z9b Z9c Z9d Z9e Z9f
theorem Z9g (H:Heap) (t:TypeId) (a:Tok) (b:List (List AV)):Vi H t (.ps a b)=XD NC.P H t (.ps a b):=rfl
theorem Z9h (H:Heap) (t:TypeId) (a b c d:Nat) (e:Option Nat):Vi H t (.rs a b c d e)=XD NC.P H t (.rs a b c d e):=rfl
theorem Z9i (H:Heap) (t:TypeId) (s:List Nat):Vi H t (.str s)=XD NC.P H t (.str s):=rfl
theorem Z9j (H:Heap) (t:TypeId) (s:Nat):Vi H t (.map s)=XD NC.P H t (.map s):=rfl
theorem Z9k (H:Heap) (t:TypeId) (s:List AV):Vi H t (.agg s)=XD NC.P H t (.agg s):=rfl
theorem Z9l (t:TypeId) (a:Tok) (b:List (List AV)) (i:AV):U2 t (.ps a b) i=Qp NC.P t (.ps a b) i:=rfl
theorem Z9m (t:TypeId) (a b c d:Nat) (e:Option Nat) (i:AV):U2 t (.rs a b c d e) i=Qp NC.P t (.rs a b c d e) i:=rfl
theorem Z9n (t:TypeId) (a b:Nat) (i:AV):U2 t (.ptr a b) i=Qp NC.P t (.ptr a b) i:=rfl
theorem Z9o (t:TypeId) (a:List AV) (i:AV):U2 t (.pptr a) i=Qp NC.P t (.pptr a) i:=rfl
theorem Z9p (H:Heap) (t:TypeId) (a b:Nat):sld H t (.ptr a b)=Yk NC.P H t (.ptr a b):=rfl
theorem Z9q (H:Heap) (t:TypeId) (a:List AV):sld H t (.pptr a)=Yk NC.P H t (.pptr a):=rfl
attribute [go_sem 100] Z9g Z9h Z9i Z9j Z9k Z9l Z9m Z9n Z9o Z9p Z9q
theorem ZF {f lo:Nat} {args:List AV} {H:Heap} {v v':AV} {K:AV→Heap→Prop} (hen:VO (Z8 PT (R PT) lo f args H) K=AO (R PT (.call H.n f args H)) fun o=>o.val.strip.pure=true∧K o.val.strip H) (hR:∃ H2,R PT (.call H.n f args H)=some (.ofVal v H2)) (hs:v.strip=v') (hp:v'.pure=true):VO (Z8 PT (R PT) lo f args H) K=K v' H:=by
 obtain ⟨H2,h⟩:=hR;rw [hen,h];show (v.strip.pure=true∧K v.strip H)=_;rw [hs];simp only [hp,true_and]
theorem X8 {f lo:Nat} {args:List AV} {H H2:Heap} {v:AV} {K:AV→Heap→Prop} (hen:VO (Z8 PT (R PT) lo f args H) K=AO (R PT (.call lo f args H)) fun o=>K o.val o.s.H) (hR:R PT (.call lo f args H)=some (.ofVal v H2)):VO (Z8 PT (R PT) lo f args H) K=K v H2:=by
 rw [hen,hR];rfl
theorem Q6 {f lo:Nat} {args:List AV} {H H2:Heap} {v:AV} {K:AV→Heap→Prop} (hen:VO (Z8 PT (R PT) lo f args H) K=AO (R PT (.call H.n f args H)) fun o=>K o.val o.s.H) (hR:R PT (.call H.n f args H)=some (.ofVal v H2)):VO (Z8 PT (R PT) lo f args H) K=K v H2:=by
 rw [hen,hR];rfl
def Sl (H:Heap) (v:AV) (sz:Nat) (te:TypeId) (rows:List (List AV)):Prop:=(∃ t,v=.ps t rows∧(AV.ps t rows).under H.n=true) ∨ ∃ id cs,v=.rs id 0 rows.length sz none∧id < H.n∧H.get id=.row (rows.flatten++cs) sz te
theorem LC {t:Tok} {rows:List (List AV)} {n m:Nat} (h:(AV.ps t rows).under n=true) (hn:n≤m):(AV.ps t rows).under m=true:=by
 cases t with
 | tok k =>
   simp only [AV.under,Nat.blt_eq] at h ⊢;omega
 | _=>simp [AV.under]
theorem Sl.old {H H':Heap} {v:AV} {sz:Nat} {te:TypeId} {rows:List (List AV)} (h:Sl H v sz te rows) (ho:Old H.n H H'):Sl H' v sz te rows:=by
 rcases h with ⟨t,h1,h2⟩ | ⟨id,cs,h1,h2,h3⟩
 · exact .inl ⟨t,h1,LC h2 ho.1⟩
 · exact .inr ⟨id,cs,h1,Nat.lt_of_lt_of_le h2 ho.1,by rw [ho.2 id h2];exact h3⟩
theorem Sl.strip {H:Heap} {v:AV} {sz:Nat} {te:TypeId} {rows:List (List AV)} (h:Sl H v sz te rows):Sl H v.strip sz te rows:=by
 rcases h with ⟨t,rfl,_⟩ | ⟨id,cs,rfl,h⟩
 · exact .inl ⟨_,rfl,rfl⟩
 · exact .inr ⟨id,cs,rfl,h⟩
theorem Sl.under {H:Heap} {v:AV} {sz:Nat} {te:TypeId} {rows:List (List AV)} (h:Sl H v sz te rows) {n:Nat} (hn:H.n≤n):v.under n=true:=by
 rcases h with ⟨t,rfl,h1⟩ | ⟨id,cs,rfl,h1,_⟩
 · exact LC h1 hn
 · simp only [AV.under,Nat.blt_eq];omega
def elA (v:AV) (sz k:Nat):AV:=match v with
 | .ps _ rows=>.pptr (rows[k]?.getD [])
 | .rs id off _ _ _=>.ptr id (off+k * sz)
 | _=>.nilp
section
variable {H:Heap} {v:AV} {sz k:Nat} {te t:TypeId} {rows:List (List AV)}
theorem Sl.len (h:Sl H v sz te rows) (hu:NC.P.underlying t=some (.slice te)) (H':Heap):Vi H' t v=some (.int .i64 (rows.length:Nat)):=by
 show XD NC.P H' t v=_;unfold XD;rcases h with ⟨t,rfl,_⟩ | ⟨id,cs,rfl,h⟩<;>simp only [hu]
theorem Sl.idx (h:Sl H v sz te rows) (hu:NC.P.underlying t=some (.slice te)) (hs:Zh NC.P te=some sz) (hr:Len sz rows) (hk:k < rows.length) (kk:IntKind):U2 t v (.int kk (k:Nat))=some (elA v sz k):=by
 obtain ⟨r,hx⟩:∃ r,rows[k]? = some r:=⟨rows[k],by simp⟩;have hl:=hr r (List.mem_of_getElem? hx);show Qp NC.P t v (.int kk (k:Nat))=_;unfold Qp;have hn:X2 rows.length (.int kk (k:Nat))=some k:=by rw [Kp,if_pos hk]
 rcases h with ⟨t,rfl,_⟩ | ⟨id,cs,rfl,h⟩
 · simp only [hu,hn,hx,hs,hl,if_true,elA];simp
 · simp only [hu,hn,hs,if_true,elA]
theorem Sl.ld {H':Heap} {r:List AV} (h:Sl H v sz te rows) (hs:Zh NC.P te=some sz) (hg:aggOf NC.P te=some true) (hr:Len sz rows) (hk:rows[k]? = some r) (ho:Old H.n H H'):sld H' te (elA v sz k)=some (.agg r):=by
 have hl:=hr r (List.mem_of_getElem? hk);show Yk NC.P H' te (elA v sz k)=_;unfold Yk;rcases h with ⟨t,rfl,_⟩ | ⟨id,cs,rfl,h1,h2⟩
 · simp only [hs,hg,elA,hk,Option.getD_some,YT,Yp,if_true,QY,Nat.zero_add,hl,Nat.le_refl,List.drop_zero];rw [← hl,List.take_length]
 · have hf:=Ye hr hk;have hs2:Yp (rows.flatten++cs) (k * sz) sz=some r:=by
    unfold Yp at hf ⊢;split at hf
    · rename_i hle
      rw [if_pos (by rw [List.length_append];omega),List.drop_append_of_le_length (by omega),List.take_append_of_le_length (by rw [List.length_drop];omega)];exact hf
    · cases hf
   simp only [hs,hg,elA,YT,ho.2 id h1,h2,XM,Nat.zero_add,if_true,hs2,QY]
end
theorem Zw {α:Type} {f:α→List AV} {sz:Nat} (hf:∀ x,(f x).length=sz) (l:List α):Len sz (l.map f):=fun r hr=>by
 obtain ⟨x,_,rfl⟩:=List.mem_map.1 hr;exact hf x
theorem KJ {α:Type} {u:α→Nm} {l:List α} {k:Nat} {x:α} (h:l[k]? = some x):Z0 ((l.take (k+1)).map u)=Z0 ((l.take k).map u)++[[.str (u x)]]:=by
 rw [F2 h];unfold Z0;rw [List.map_append];rfl
abbrev ZG (f:FuncId):Prop:=∀ {P:PF} (_hP:P f=none) {lo:Nat} {args:List AV} {H:Heap} {K:AV→Heap→Prop},VO (Z8 (NC.withPrims P) (R (NC.withPrims P)) lo f args H) K=AO (R (NC.withPrims P) (.call H.n f args H)) fun o=>o.val.strip.pure=true∧K o.val.strip H
theorem ZI {f:FuncId} (h1:NC.prim f=none:=by kernel_rfl) (h2:NC.hprim f=none:=by kernel_rfl) (h3:NC.twice f=false:=by kernel_rfl) (h4:NC.mode f=.pure:=by kernel_rfl):ZG f:=by
 intro P hP lo args H K;refine Z0j rfl ?_ h2 h3 h4;show (match NC.prim f with | some p=>some p | none=>P f)=none
 rw [h1];exact hP
theorem en264:ZG 264:=ZI
theorem LD:ZG 121:=ZI
theorem en213:ZG 213:=ZI
theorem en221:ZG 221:=ZI
theorem LE:Q5 196:=Qj
theorem Z9r {H:Heap} {v:AV} {l:List Trk} (hs:Sl H v 2 63 (l.map Pos.Trk.row)) (hl:l.length≤Z1):∃ t H2,R PT (.call H.n 264 [v,.fn 265 [] []] H)=some (.ofVal (.ps t (Z0 (l.map (·.name)))) H2)∧Zj H.n H2 t (Z0 (l.map (·.name))) 1 9∧Old H.n H H2:=by
 obtain ⟨w,H2,h1,t,rfl,h2⟩:=Za (C:=PT) (f:=264) (lo:=H.n) (args:=[v,.fn 265 [] []]) (H:=H) (fn:=Tryz.f264) (Q:=fun w H2=>∃ t,w=.ps t (Z0 (l.map (·.name)))∧Zj H.n H2 t (Z0 (l.map (·.name))) 1 9∧Old H.n H H2) (by kernel_rfl) Tryz.func264 rfl rfl (by
  have hlen:=fun H'=>hs.len (t:=43) (by kernel_rfl) H'
  simp only [List.length_map] at hlen;simp (maxDischargeDepth:=12) only [go_sem,reduceEqDiff,reduceAdd,reduceCtorEq,hlen];refine ZK (fun k T Hc M=>M=[]∧Z2 T 1=.fn 265 [] []∧Z2 T 8=v∧Z2 T 9=i64 (l.length:Nat)∧Z2 T 10=i64 k∧Old H.n H Hc ∧ ∃ t,Z2 T 5=.ps t (Z0 ((l.take k).map (·.name)))∧Zj H.n Hc t (Z0 ((l.take k).map (·.name))) 1 9) l.length ?_ ?_ ?_
  · simp (maxDischargeDepth:=12) only [go_sem,reduceEqDiff,reduceCtorEq];exact ⟨.nil,rfl,.inl ⟨rfl,rfl⟩⟩
  · rintro k T Hc M hk ⟨rfl,g1,g8,g9,g10,hO,t,g5,hA⟩;obtain ⟨x,hx⟩:∃ x,l[k]? = some x:=⟨l[k],by simp⟩;have hw:=ZP hk hl;have hN:=eq_true hO.1;have hi:=hs.idx (t:=43) (by kernel_rfl) (by kernel_rfl) (Zw (by intro x;rfl) l) (by rw [List.length_map];exact hk) .i64;have hd:=hs.ld (by kernel_rfl) (by kernel_rfl) (Zw (by intro x;rfl) l) (Y1 hx) hO;have hA1:=hA.new (.cells (default:List AV) 0) (.cells (Pos.Trk.row x) 63);have hz:∃ z,ZJ NC.P 63=some z:=⟨_,CJ⟩;obtain ⟨z,hz⟩:=hz;have hA1:=hA.new (.cells z.cells 63) (.cells (Pos.Trk.row x) 63);obtain ⟨t',H',ha,hA',_,hO',_⟩:=YR (lo:=H.n) hA1 (by simp;have:=hO.1;omega) (Nat.le_refl _) (r:=[.str x.name]) (by rw [Zt,List.length_map,List.length_take];omega) rfl (by decide) (Xz _);have e1:[AV.str x.name].map AV.strip0=[.str x.name]:=rfl;rw [e1,← KJ hx] at ha hA';have hO2:Old H.n H H':=(hO.new _ _).trans hO';rw [CJ] at hz;cases hz;simp only [Pos.Trk.row] at hd ha;simp (maxDischargeDepth:=12) only [go_sem] at ha;have hp:=Il x;simp only [Pos.Trk.row] at hp;simp (maxDischargeDepth:=12) only [go_sem,reduceEqDiff,reduceAdd,reduceMul,reduceLeDiff,g1,g5,g8,g9,g10,hk,hw,hN,hi,hd,hp,ZT,ha];exact ⟨hO2,t',rfl,hA'⟩
  · rintro T Hc M ⟨rfl,g1,g8,g9,g10,hO,t,g5,hA⟩;rw [List.take_length] at g5 hA;simp (maxDischargeDepth:=12) only [go_sem,reduceEqDiff,reduceCtorEq,g5,g9,g10,Nat.lt_irrefl];exact ⟨t,rfl,hA,hO⟩)
 exact ⟨t,H2,h1,h2⟩
theorem Z9s {H:Heap} {v:AV} {l:List Trk} (hs:Sl H v 2 63 (l.map Pos.Trk.row)) (hl:l.length≤Z1) {Hc:Heap} (ho:Old H.n H Hc) {lo:Nat} {K:AV→Heap→Prop}:VO (Z8 PT (R PT) lo 264 [ZO v,.fn 265 [] []] Hc) K=K (.ps .unk (Z0 (l.map (·.name)))) Hc:=by
 obtain ⟨t,H2,h1,_⟩:=Z9r (hs.old ho).strip hl;exact ZF (en264 rfl) ⟨H2,h1⟩ rfl rfl
theorem Z9t {H:Heap} {v:AV} {l:List Flt} (hs:Sl H v 7 65 (l.map Pos.Flt.row)) (hl:l.length≤Z1):∃ t H2,R PT (.call H.n 121 [v,.fn 266 [] []] H)=some (.ofVal (.ps t (Z0 (l.map (·.name)))) H2)∧Zj H.n H2 t (Z0 (l.map (·.name))) 1 9∧Old H.n H H2:=by
 obtain ⟨w,H2,h1,t,rfl,h2⟩:=Za (C:=PT) (f:=121) (lo:=H.n) (args:=[v,.fn 266 [] []]) (H:=H) (fn:=Tryz.f121) (Q:=fun w H2=>∃ t,w=.ps t (Z0 (l.map (·.name)))∧Zj H.n H2 t (Z0 (l.map (·.name))) 1 9∧Old H.n H H2) (by kernel_rfl) Tryz.func121 rfl rfl (by
  have hlen:=fun H'=>hs.len (t:=44) (by kernel_rfl) H'
  simp only [List.length_map] at hlen;simp (maxDischargeDepth:=12) only [go_sem,reduceEqDiff,reduceAdd,reduceCtorEq,hlen];refine ZK (fun k T Hc M=>M=[]∧Z2 T 1=.fn 266 [] []∧Z2 T 8=v∧Z2 T 9=i64 (l.length:Nat)∧Z2 T 10=i64 k∧Old H.n H Hc ∧ ∃ t,Z2 T 5=.ps t (Z0 ((l.take k).map (·.name)))∧Zj H.n Hc t (Z0 ((l.take k).map (·.name))) 1 9) l.length ?_ ?_ ?_
  · simp (maxDischargeDepth:=12) only [go_sem,reduceEqDiff,reduceCtorEq];exact ⟨.nil,rfl,.inl ⟨rfl,rfl⟩⟩
  · rintro k T Hc M hk ⟨rfl,g1,g8,g9,g10,hO,t,g5,hA⟩;obtain ⟨x,hx⟩:∃ x,l[k]? = some x:=⟨l[k],by simp⟩;have hw:=ZP hk hl;have hN:=eq_true hO.1;have hi:=hs.idx (t:=44) (by kernel_rfl) (by kernel_rfl) (Zw (by intro x;rfl) l) (by rw [List.length_map];exact hk) .i64;have hd:=hs.ld (by kernel_rfl) (by kernel_rfl) (Zw (by intro x;rfl) l) (Y1 hx) hO;have hA1:=hA.new (.cells (default:List AV) 0) (.cells (Pos.Flt.row x) 65);have hz:∃ z,ZJ NC.P 65=some z:=⟨_,Kr⟩;obtain ⟨z,hz⟩:=hz;have hA1:=hA.new (.cells z.cells 65) (.cells (Pos.Flt.row x) 65);obtain ⟨t',H',ha,hA',_,hO',_⟩:=YR (lo:=H.n) hA1 (by simp;have:=hO.1;omega) (Nat.le_refl _) (r:=[.str x.name]) (by rw [Zt,List.length_map,List.length_take];omega) rfl (by decide) (Xz _);have e1:[AV.str x.name].map AV.strip0=[.str x.name]:=rfl;rw [e1,← KJ hx] at ha hA';have hO2:Old H.n H H':=(hO.new _ _).trans hO';rw [Kr] at hz;cases hz;simp only [Pos.Flt.row] at hd ha;simp (maxDischargeDepth:=12) only [go_sem] at ha;have hp:=Im x;simp only [Pos.Flt.row] at hp;simp (maxDischargeDepth:=12) only [go_sem,reduceEqDiff,reduceAdd,reduceMul,reduceLeDiff,g1,g5,g8,g9,g10,hk,hw,hN,hi,hd,hp,ZT,ha];exact ⟨hO2,t',rfl,hA'⟩
  · rintro T Hc M ⟨rfl,g1,g8,g9,g10,hO,t,g5,hA⟩;rw [List.take_length] at g5 hA;simp (maxDischargeDepth:=12) only [go_sem,reduceEqDiff,reduceCtorEq,g5,g9,g10,Nat.lt_irrefl];exact ⟨t,rfl,hA,hO⟩)
 exact ⟨t,H2,h1,h2⟩
theorem Z9u {H:Heap} {v:AV} {l:List Flt} (hs:Sl H v 7 65 (l.map Pos.Flt.row)) (hl:l.length≤Z1) {Hc:Heap} (ho:Old H.n H Hc) {lo:Nat} {K:AV→Heap→Prop}:VO (Z8 PT (R PT) lo 121 [ZO v,.fn 266 [] []] Hc) K=K (.ps .unk (Z0 (l.map (·.name)))) Hc:=by
 obtain ⟨t,H2,h1,_⟩:=Z9t (hs.old ho).strip hl;exact ZF (LD rfl) ⟨H2,h1⟩ rfl rfl
theorem Z9v {H:Heap} {v:AV} {l:List Trn} (hs:Sl H v 3 61 (l.map Pos.Trn.row)) (hl:l.length≤Z1):∃ t H2,R PT (.call H.n 213 [v,.fn 267 [] []] H)=some (.ofVal (.ps t (Z0 (l.map (·.name)))) H2)∧Zj H.n H2 t (Z0 (l.map (·.name))) 1 9∧Old H.n H H2:=by
 obtain ⟨w,H2,h1,t,rfl,h2⟩:=Za (C:=PT) (f:=213) (lo:=H.n) (args:=[v,.fn 267 [] []]) (H:=H) (fn:=Tryz.f213) (Q:=fun w H2=>∃ t,w=.ps t (Z0 (l.map (·.name)))∧Zj H.n H2 t (Z0 (l.map (·.name))) 1 9∧Old H.n H H2) (by kernel_rfl) Tryz.func213 rfl rfl (by
  have hlen:=fun H'=>hs.len (t:=45) (by kernel_rfl) H'
  simp only [List.length_map] at hlen;simp (maxDischargeDepth:=12) only [go_sem,reduceEqDiff,reduceAdd,reduceCtorEq,hlen];refine ZK (fun k T Hc M=>M=[]∧Z2 T 1=.fn 267 [] []∧Z2 T 8=v∧Z2 T 9=i64 (l.length:Nat)∧Z2 T 10=i64 k∧Old H.n H Hc ∧ ∃ t,Z2 T 5=.ps t (Z0 ((l.take k).map (·.name)))∧Zj H.n Hc t (Z0 ((l.take k).map (·.name))) 1 9) l.length ?_ ?_ ?_
  · simp (maxDischargeDepth:=12) only [go_sem,reduceEqDiff,reduceCtorEq];exact ⟨.nil,rfl,.inl ⟨rfl,rfl⟩⟩
  · rintro k T Hc M hk ⟨rfl,g1,g8,g9,g10,hO,t,g5,hA⟩;obtain ⟨x,hx⟩:∃ x,l[k]? = some x:=⟨l[k],by simp⟩;have hw:=ZP hk hl;have hN:=eq_true hO.1;have hi:=hs.idx (t:=45) (by kernel_rfl) (by kernel_rfl) (Zw (by intro x;rfl) l) (by rw [List.length_map];exact hk) .i64;have hd:=hs.ld (by kernel_rfl) (by kernel_rfl) (Zw (by intro x;rfl) l) (Y1 hx) hO;have hA1:=hA.new (.cells (default:List AV) 0) (.cells (Pos.Trn.row x) 61);have hz:∃ z,ZJ NC.P 61=some z:=⟨_,VJ⟩;obtain ⟨z,hz⟩:=hz;have hA1:=hA.new (.cells z.cells 61) (.cells (Pos.Trn.row x) 61);obtain ⟨t',H',ha,hA',_,hO',_⟩:=YR (lo:=H.n) hA1 (by simp;have:=hO.1;omega) (Nat.le_refl _) (r:=[.str x.name]) (by rw [Zt,List.length_map,List.length_take];omega) rfl (by decide) (Xz _);have e1:[AV.str x.name].map AV.strip0=[.str x.name]:=rfl;rw [e1,← KJ hx] at ha hA';have hO2:Old H.n H H':=(hO.new _ _).trans hO';rw [VJ] at hz;cases hz;simp only [Pos.Trn.row] at hd ha;simp (maxDischargeDepth:=12) only [go_sem] at ha;have hp:=In x;simp only [Pos.Trn.row] at hp;simp (maxDischargeDepth:=12) only [go_sem,reduceEqDiff,reduceAdd,reduceMul,reduceLeDiff,g1,g5,g8,g9,g10,hk,hw,hN,hi,hd,hp,ZT,ha];exact ⟨hO2,t',rfl,hA'⟩
  · rintro T Hc M ⟨rfl,g1,g8,g9,g10,hO,t,g5,hA⟩;rw [List.take_length] at g5 hA;simp (maxDischargeDepth:=12) only [go_sem,reduceEqDiff,reduceCtorEq,g5,g9,g10,Nat.lt_irrefl];exact ⟨t,rfl,hA,hO⟩)
 exact ⟨t,H2,h1,h2⟩
theorem Z9w {H:Heap} {v:AV} {l:List Trn} (hs:Sl H v 3 61 (l.map Pos.Trn.row)) (hl:l.length≤Z1) {Hc:Heap} (ho:Old H.n H Hc) {lo:Nat} {K:AV→Heap→Prop}:VO (Z8 PT (R PT) lo 213 [ZO v,.fn 267 [] []] Hc) K=K (.ps .unk (Z0 (l.map (·.name)))) Hc:=by
 obtain ⟨t,H2,h1,_⟩:=Z9v (hs.old ho).strip hl;exact ZF (en213 rfl) ⟨H2,h1⟩ rfl rfl
theorem Z9x {H:Heap} {v:AV} {l:List Pos} (hs:Sl H v 10 59 (l.map Pos.Pos.row)) (hl:l.length≤Z1):∃ t H2,R PT (.call H.n 221 [v,.fn 268 [] []] H)=some (.ofVal (.ps t (Z0 (l.map (·.name)))) H2)∧Zj H.n H2 t (Z0 (l.map (·.name))) 1 9∧Old H.n H H2:=by
 obtain ⟨w,H2,h1,t,rfl,h2⟩:=Za (C:=PT) (f:=221) (lo:=H.n) (args:=[v,.fn 268 [] []]) (H:=H) (fn:=Tryz.f221) (Q:=fun w H2=>∃ t,w=.ps t (Z0 (l.map (·.name)))∧Zj H.n H2 t (Z0 (l.map (·.name))) 1 9∧Old H.n H H2) (by kernel_rfl) Tryz.func221 rfl rfl (by
  have hlen:=fun H'=>hs.len (t:=46) (by kernel_rfl) H'
  simp only [List.length_map] at hlen;simp (maxDischargeDepth:=12) only [go_sem,reduceEqDiff,reduceAdd,reduceCtorEq,hlen];refine ZK (fun k T Hc M=>M=[]∧Z2 T 1=.fn 268 [] []∧Z2 T 8=v∧Z2 T 9=i64 (l.length:Nat)∧Z2 T 10=i64 k∧Old H.n H Hc ∧ ∃ t,Z2 T 5=.ps t (Z0 ((l.take k).map (·.name)))∧Zj H.n Hc t (Z0 ((l.take k).map (·.name))) 1 9) l.length ?_ ?_ ?_
  · simp (maxDischargeDepth:=12) only [go_sem,reduceEqDiff,reduceCtorEq];exact ⟨.nil,rfl,.inl ⟨rfl,rfl⟩⟩
  · rintro k T Hc M hk ⟨rfl,g1,g8,g9,g10,hO,t,g5,hA⟩;obtain ⟨x,hx⟩:∃ x,l[k]? = some x:=⟨l[k],by simp⟩;have hw:=ZP hk hl;have hN:=eq_true hO.1;have hi:=hs.idx (t:=46) (by kernel_rfl) (by kernel_rfl) (Zw (by intro x;rfl) l) (by rw [List.length_map];exact hk) .i64;have hd:=hs.ld (by kernel_rfl) (by kernel_rfl) (Zw (by intro x;rfl) l) (Y1 hx) hO;have hA1:=hA.new (.cells (default:List AV) 0) (.cells (Pos.Pos.row x) 59);have hz:∃ z,ZJ NC.P 59=some z:=⟨_,VI⟩;obtain ⟨z,hz⟩:=hz;have hA1:=hA.new (.cells z.cells 59) (.cells (Pos.Pos.row x) 59);obtain ⟨t',H',ha,hA',_,hO',_⟩:=YR (lo:=H.n) hA1 (by simp;have:=hO.1;omega) (Nat.le_refl _) (r:=[.str x.name]) (by rw [Zt,List.length_map,List.length_take];omega) rfl (by decide) (Xz _);have e1:[AV.str x.name].map AV.strip0=[.str x.name]:=rfl;rw [e1,← KJ hx] at ha hA';have hO2:Old H.n H H':=(hO.new _ _).trans hO';rw [VI] at hz;cases hz;simp only [Pos.Pos.row] at hd ha;simp (maxDischargeDepth:=12) only [go_sem] at ha;have hp:=Io x;simp only [Pos.Pos.row] at hp;simp (maxDischargeDepth:=12) only [go_sem,reduceEqDiff,reduceAdd,reduceMul,reduceLeDiff,g1,g5,g8,g9,g10,hk,hw,hN,hi,hd,hp,ZT,ha];exact ⟨hO2,t',rfl,hA'⟩
  · rintro T Hc M ⟨rfl,g1,g8,g9,g10,hO,t,g5,hA⟩;rw [List.take_length] at g5 hA;simp (maxDischargeDepth:=12) only [go_sem,reduceEqDiff,reduceCtorEq,g5,g9,g10,Nat.lt_irrefl];exact ⟨t,rfl,hA,hO⟩)
 exact ⟨t,H2,h1,h2⟩
theorem Z9y {H:Heap} {v:AV} {l:List Pos} (hs:Sl H v 10 59 (l.map Pos.Pos.row)) (hl:l.length≤Z1) {Hc:Heap} (ho:Old H.n H Hc) {lo:Nat} {K:AV→Heap→Prop}:VO (Z8 PT (R PT) lo 221 [ZO v,.fn 268 [] []] Hc) K=K (.ps .unk (Z0 (l.map (·.name)))) Hc:=by
 obtain ⟨t,H2,h1,_⟩:=Z9x (hs.old ho).strip hl;exact ZF (en221 rfl) ⟨H2,h1⟩ rfl rfl
theorem Z9z {H:Heap} {v:AV} {l:List Mch} (hs:Sl H v 2 67 (l.map Pos.Mch.row)) (hl:l.length≤Z1):∃ t H2,R PT (.call H.n 196 [v,.fn 269 [] []] H)=some (.ofVal (.ps t (Z0 (l.map (·.name)))) H2)∧Zj H.n H2 t (Z0 (l.map (·.name))) 1 9∧Old H.n H H2:=by
 obtain ⟨w,H2,h1,t,rfl,h2⟩:=Za (C:=PT) (f:=196) (lo:=H.n) (args:=[v,.fn 269 [] []]) (H:=H) (fn:=Tryz.f196) (Q:=fun w H2=>∃ t,w=.ps t (Z0 (l.map (·.name)))∧Zj H.n H2 t (Z0 (l.map (·.name))) 1 9∧Old H.n H H2) (by kernel_rfl) Tryz.func196 rfl rfl (by
  have hlen:=fun H'=>hs.len (t:=47) (by kernel_rfl) H'
  simp only [List.length_map] at hlen;simp (maxDischargeDepth:=12) only [go_sem,reduceEqDiff,reduceAdd,reduceCtorEq,hlen];refine ZK (fun k T Hc M=>M=[]∧Z2 T 1=.fn 269 [] []∧Z2 T 8=v∧Z2 T 9=i64 (l.length:Nat)∧Z2 T 10=i64 k∧Old H.n H Hc ∧ ∃ t,Z2 T 5=.ps t (Z0 ((l.take k).map (·.name)))∧Zj H.n Hc t (Z0 ((l.take k).map (·.name))) 1 9) l.length ?_ ?_ ?_
  · simp (maxDischargeDepth:=12) only [go_sem,reduceEqDiff,reduceCtorEq];exact ⟨.nil,rfl,.inl ⟨rfl,rfl⟩⟩
  · rintro k T Hc M hk ⟨rfl,g1,g8,g9,g10,hO,t,g5,hA⟩;obtain ⟨x,hx⟩:∃ x,l[k]? = some x:=⟨l[k],by simp⟩;have hw:=ZP hk hl;have hN:=eq_true hO.1;have hi:=hs.idx (t:=47) (by kernel_rfl) (by kernel_rfl) (Zw (by intro x;rfl) l) (by rw [List.length_map];exact hk) .i64;have hd:=hs.ld (by kernel_rfl) (by kernel_rfl) (Zw (by intro x;rfl) l) (Y1 hx) hO;have hA1:=hA.new (.cells (default:List AV) 0) (.cells (Pos.Mch.row x) 67);have hz:∃ z,ZJ NC.P 67=some z:=⟨_,Kt⟩;obtain ⟨z,hz⟩:=hz;have hA1:=hA.new (.cells z.cells 67) (.cells (Pos.Mch.row x) 67);obtain ⟨t',H',ha,hA',_,hO',_⟩:=YR (lo:=H.n) hA1 (by simp;have:=hO.1;omega) (Nat.le_refl _) (r:=[.str x.name]) (by rw [Zt,List.length_map,List.length_take];omega) rfl (by decide) (Xz _);have e1:[AV.str x.name].map AV.strip0=[.str x.name]:=rfl;rw [e1,← KJ hx] at ha hA';have hO2:Old H.n H H':=(hO.new _ _).trans hO';rw [Kt] at hz;cases hz;simp only [Pos.Mch.row] at hd ha;simp (maxDischargeDepth:=12) only [go_sem] at ha;have hp:=Ip x;simp only [Pos.Mch.row] at hp;simp (maxDischargeDepth:=12) only [go_sem,reduceEqDiff,reduceAdd,reduceMul,reduceLeDiff,g1,g5,g8,g9,g10,hk,hw,hN,hi,hd,hp,ZT,ha];exact ⟨hO2,t',rfl,hA'⟩
  · rintro T Hc M ⟨rfl,g1,g8,g9,g10,hO,t,g5,hA⟩;rw [List.take_length] at g5 hA;simp (maxDischargeDepth:=12) only [go_sem,reduceEqDiff,reduceCtorEq,g5,g9,g10,Nat.lt_irrefl];exact ⟨t,rfl,hA,hO⟩)
 exact ⟨t,H2,h1,h2⟩
theorem Z9A {H:Heap} {v:AV} {l:List Mch} (hs:Sl H v 2 67 (l.map Pos.Mch.row)) (hl:l.length≤Z1):∃ t H2,R PT (.call H.n 196 [v,.fn 198 [] []] H)=some (.ofVal (.ps t (Z0 (l.map (·.name)))) H2)∧Zj H.n H2 t (Z0 (l.map (·.name))) 1 9∧Old H.n H H2:=by
 obtain ⟨w,H2,h1,t,rfl,h2⟩:=Za (C:=PT) (f:=196) (lo:=H.n) (args:=[v,.fn 198 [] []]) (H:=H) (fn:=Tryz.f196) (Q:=fun w H2=>∃ t,w=.ps t (Z0 (l.map (·.name)))∧Zj H.n H2 t (Z0 (l.map (·.name))) 1 9∧Old H.n H H2) (by kernel_rfl) Tryz.func196 rfl rfl (by
  have hlen:=fun H'=>hs.len (t:=47) (by kernel_rfl) H'
  simp only [List.length_map] at hlen;simp (maxDischargeDepth:=12) only [go_sem,reduceEqDiff,reduceAdd,reduceCtorEq,hlen];refine ZK (fun k T Hc M=>M=[]∧Z2 T 1=.fn 198 [] []∧Z2 T 8=v∧Z2 T 9=i64 (l.length:Nat)∧Z2 T 10=i64 k∧Old H.n H Hc ∧ ∃ t,Z2 T 5=.ps t (Z0 ((l.take k).map (·.name)))∧Zj H.n Hc t (Z0 ((l.take k).map (·.name))) 1 9) l.length ?_ ?_ ?_
  · simp (maxDischargeDepth:=12) only [go_sem,reduceEqDiff,reduceCtorEq];exact ⟨.nil,rfl,.inl ⟨rfl,rfl⟩⟩
  · rintro k T Hc M hk ⟨rfl,g1,g8,g9,g10,hO,t,g5,hA⟩;obtain ⟨x,hx⟩:∃ x,l[k]? = some x:=⟨l[k],by simp⟩;have hw:=ZP hk hl;have hN:=eq_true hO.1;have hi:=hs.idx (t:=47) (by kernel_rfl) (by kernel_rfl) (Zw (by intro x;rfl) l) (by rw [List.length_map];exact hk) .i64;have hd:=hs.ld (by kernel_rfl) (by kernel_rfl) (Zw (by intro x;rfl) l) (Y1 hx) hO;have hA1:=hA.new (.cells (default:List AV) 0) (.cells (Pos.Mch.row x) 67);have hz:∃ z,ZJ NC.P 67=some z:=⟨_,Kt⟩;obtain ⟨z,hz⟩:=hz;have hA1:=hA.new (.cells z.cells 67) (.cells (Pos.Mch.row x) 67);obtain ⟨t',H',ha,hA',_,hO',_⟩:=YR (lo:=H.n) hA1 (by simp;have:=hO.1;omega) (Nat.le_refl _) (r:=[.str x.name]) (by rw [Zt,List.length_map,List.length_take];omega) rfl (by decide) (Xz _);have e1:[AV.str x.name].map AV.strip0=[.str x.name]:=rfl;rw [e1,← KJ hx] at ha hA';have hO2:Old H.n H H':=(hO.new _ _).trans hO';rw [Kt] at hz;cases hz;simp only [Pos.Mch.row] at hd ha;simp (maxDischargeDepth:=12) only [go_sem] at ha;have hp:=Iq x;simp only [Pos.Mch.row] at hp;simp (maxDischargeDepth:=12) only [go_sem,reduceEqDiff,reduceAdd,reduceMul,reduceLeDiff,g1,g5,g8,g9,g10,hk,hw,hN,hi,hd,hp,ZT,ha];exact ⟨hO2,t',rfl,hA'⟩
  · rintro T Hc M ⟨rfl,g1,g8,g9,g10,hO,t,g5,hA⟩;rw [List.take_length] at g5 hA;simp (maxDischargeDepth:=12) only [go_sem,reduceEqDiff,reduceCtorEq,g5,g9,g10,Nat.lt_irrefl];exact ⟨t,rfl,hA,hO⟩)
 exact ⟨t,H2,h1,h2⟩
def PA (H:Heap) (v:AV) (sz:Nat) (te:TypeId) (rows:List (List AV)):Prop:=∃ t,v=.ps t rows∧Zj 0 H t rows sz te
theorem PA.old {H H':Heap} {v:AV} {sz:Nat} {te:TypeId} {rows:List (List AV)} (h:PA H v sz te rows) (ho:Old H.n H H'):PA H' v sz te rows:=by
 obtain ⟨t,h1,h2 | ⟨j,h2,h3,h4,h5,h6⟩⟩:=h
 · exact ⟨t,h1,.inl h2⟩
 · exact ⟨t,h1,.inr ⟨j,h2,h3,h4,Nat.lt_of_lt_of_le h5 ho.1,by rw [ho.2 j h5];exact h6⟩⟩
theorem PA.sl {H:Heap} {v:AV} {sz:Nat} {te:TypeId} {rows:List (List AV)} (h:PA H v sz te rows):Sl H v sz te rows:=by
 obtain ⟨t,rfl,⟨rfl,rfl⟩ | ⟨j,rfl,_,_,h5,_⟩⟩:=h
 · exact .inl ⟨_,rfl,rfl⟩
 · exact .inl ⟨_,rfl,by simp only [AV.under,Nat.blt_eq];exact h5⟩
theorem Gd {H H':Heap} {v:AV} {sz:Nat} {te:TypeId} {rows:List (List AV)} (h:Pos.SV sz te H v rows) (ho:Old H.n H H'):Pos.SV sz te H' v rows:=by
 rcases h with h | ⟨id,cs,m,h1,h2,h3,h4⟩
 · exact .inl h
 · exact .inr ⟨id,cs,m,h1,Nat.lt_of_lt_of_le h2 ho.1,by rw [ho.2 id h2];exact h3,h4⟩
theorem Q7 {H:Heap} {v:AV} {sz:Nat} {te:TypeId} {rows:List (List AV)} (h:Pos.SV sz te H v rows):Sl H v sz te rows:=by
 rcases h with ⟨rfl,rfl⟩ | ⟨id,cs,m,h1,h2,h3,h4⟩
 · exact .inl ⟨_,rfl,rfl⟩
 · exact .inr ⟨id,cs,h1,h2,h3⟩
structure RegV where
 vT:AV
 vF:AV
 vR:AV
 vP:AV
 vM:AV
def Zr (r:Reg) (V:RegV):List AV:=[i64 r.tick,V.vT,V.vF,V.vR,V.vP,V.vM]
structure RegIs (H:Heap) (b o:Nat) (r:Reg) (V:RegV):Prop where
 bn:b < H.n
 cs:∃ pre post e,H.get b=.cells (pre++(Zr r V++post)) e∧pre.length=o
 aT:PA H V.vT 2 63 (r.tracks.map Pos.Trk.row)
 aF:Pos.SV 7 65 H V.vF (r.faults.map Pos.Flt.row)
 aR:PA H V.vR 3 61 (r.trains.map Pos.Trn.row)
 aP:Pos.SV 10 59 H V.vP (r.poss.map Pos.Pos.row)
 aM:PA H V.vM 2 67 (r.machs.map Pos.Mch.row)
 lT:r.tracks.length≤Z1
 lF:r.faults.length≤Z1
 lR:r.trains.length≤Z1
 lP:r.poss.length≤Z1
 lM:r.machs.length≤Z1
section
variable {H H':Heap} {b o:Nat} {r:Reg} {V:RegV}
theorem RegIs.sT (h:RegIs H b o r V):Sl H V.vT 2 63 (r.tracks.map Pos.Trk.row):=h.aT.sl
theorem RegIs.sF (h:RegIs H b o r V):Sl H V.vF 7 65 (r.faults.map Pos.Flt.row):=Q7 h.aF
theorem RegIs.sR (h:RegIs H b o r V):Sl H V.vR 3 61 (r.trains.map Pos.Trn.row):=h.aR.sl
theorem RegIs.sP (h:RegIs H b o r V):Sl H V.vP 10 59 (r.poss.map Pos.Pos.row):=Q7 h.aP
theorem RegIs.sM (h:RegIs H b o r V):Sl H V.vM 2 67 (r.machs.map Pos.Mch.row):=h.aM.sl
theorem RegIs.old (h:RegIs H b o r V) (ho:Old H.n H H'):RegIs H' b o r V:=by
 obtain ⟨pre,post,e,h1,h2⟩:=h.cs;exact ⟨Nat.lt_of_lt_of_le h.bn ho.1,⟨pre,post,e,by rw [ho.2 b h.bn];exact h1,h2⟩,h.aT.old ho,Gd h.aF ho,h.aR.old ho,Gd h.aP ho,h.aM.old ho,h.lT,h.lF,h.lR,h.lP,h.lM⟩
theorem RegIs.ld (h:RegIs H b o r V) {i:Nat} {v:AV} (hi:(Zr r V)[i]? = some v) {t:TypeId} (hs:(Zh NC.P t).isSome=true) (hg:aggOf NC.P t=some false) (ho:Old H.n H H'):sld H' t (.ptr b (o+i))=some v:=by
 obtain ⟨pre,post,e,h1,h2⟩:=h.cs;have hlt:i < (Zr r V).length:=(List.getElem?_eq_some_iff.1 hi).1;obtain ⟨n,hn⟩:=Option.isSome_iff_exists.1 hs;have hsub:Yp (pre++(Zr r V++post)) (o+i) 1=some [v]:=by
  unfold Yp;rw [if_pos (by simp only [List.length_append];omega)];have e1:(pre++(Zr r V++post)).drop (o+i)=(Zr r V++post).drop i:=by
   rw [← h2,List.drop_length_add_append]
  rw [e1,List.drop_append_of_le_length (by omega),List.drop_eq_getElem_cons hlt,(List.getElem?_eq_some_iff.1 hi).2];rfl
 show Yk NC.P H' t (.ptr b (o+i))=some v;unfold Yk;simp only [hn,hg,YT,ho.2 b h.bn,h1,XM,if_false,hsub,QY,Bool.false_eq_true]
theorem RegIs.l1 (h:RegIs H b o r V) (ho:Old H.n H H'):sld H' 43 (.ptr b (o+1))=some V.vT:=h.ld (i:=1) rfl (by kernel_rfl) (by kernel_rfl) ho
theorem RegIs.l2 (h:RegIs H b o r V) (ho:Old H.n H H'):sld H' 44 (.ptr b (o+2))=some V.vF:=h.ld (i:=2) rfl (by kernel_rfl) (by kernel_rfl) ho
theorem RegIs.l3 (h:RegIs H b o r V) (ho:Old H.n H H'):sld H' 45 (.ptr b (o+3))=some V.vR:=h.ld (i:=3) rfl (by kernel_rfl) (by kernel_rfl) ho
theorem RegIs.l4 (h:RegIs H b o r V) (ho:Old H.n H H'):sld H' 46 (.ptr b (o+4))=some V.vP:=h.ld (i:=4) rfl (by kernel_rfl) (by kernel_rfl) ho
theorem RegIs.l5 (h:RegIs H b o r V) (ho:Old H.n H H'):sld H' 47 (.ptr b (o+5))=some V.vM:=h.ld (i:=5) rfl (by kernel_rfl) (by kernel_rfl) ho
end
def Zz (r:Reg) (c:Int):List Nm:=if c=116 then r.tracks.map (·.name) else if c=102 then r.faults.map (·.name) else if c=114 then r.trains.map (·.name) else if c=112 then r.poss.map (·.name) else r.machs.map (·.name)
theorem en151:ZG 151:=ZI
theorem Z9B {H:Heap} {b o:Nat} {r:Reg} {V:RegV} (h:RegIs H b o r V) (c:Int):∃ w H2,R PT (.call H.n 151 [.ptr b o,.int .u8 c] H)=some (.ofVal w H2)∧w.strip=.ps .unk (Z0 (Zz r c)):=by
 refine Za (C:=PT) (f:=151) (lo:=H.n) (args:=[.ptr b o,.int .u8 c]) (H:=H) (fn:=Tryz.f151) (Q:=fun w _=>w.strip=.ps .unk (Z0 (Zz r c))) (by kernel_rfl) Tryz.func151 rfl rfl ?_;have l1:=fun H'=>h.l1 (H':=H')
 have l2:=fun H'=>h.l2 (H':=H')
 have l3:=fun H'=>h.l3 (H':=H')
 have l4:=fun H'=>h.l4 (H':=H')
 have l5:=fun H'=>h.l5 (H':=H')
 have m1:=fun Hc (ho:Old H.n H Hc) lo K=>Z9s h.sT h.lT ho (lo:=lo) (K:=K)
 have m2:=fun Hc (ho:Old H.n H Hc) lo K=>Z9u h.sF h.lF ho (lo:=lo) (K:=K)
 have m3:=fun Hc (ho:Old H.n H Hc) lo K=>Z9w h.sR h.lR ho (lo:=lo) (K:=K)
 have m4:=fun Hc (ho:Old H.n H Hc) lo K=>Z9y h.sP h.lP ho (lo:=lo) (K:=K)
 obtain ⟨t5,H5,hr5,_⟩:=Z9z h.sM.strip h.lM;have m5:=fun lo K=>Q6 (K:=K) (LE (lo:=lo) rfl) hr5
 unfold Zz;by_cases c1:c=116
 · rw [if_pos c1];simp (maxDischargeDepth:=12) only [go_sem,reduceEqDiff,reduceAdd,reduceCtorEq,eq_true c1,l1,m1]
 rw [if_neg c1];by_cases c2:c=102
 · rw [if_pos c2];simp (maxDischargeDepth:=12) only [go_sem,reduceEqDiff,reduceAdd,reduceCtorEq,c1,eq_true c2,l2,m2]
 rw [if_neg c2];by_cases c3:c=114
 · rw [if_pos c3];simp (maxDischargeDepth:=12) only [go_sem,reduceEqDiff,reduceAdd,reduceCtorEq,c1,c2,eq_true c3,l3,m3]
 rw [if_neg c3];by_cases c4:c=112
 · rw [if_pos c4];simp (maxDischargeDepth:=12) only [go_sem,reduceEqDiff,reduceAdd,reduceCtorEq,c1,c2,c3,eq_true c4,l4,m4]
 rw [if_neg c4];have m5':∀ lo K,VO (Z8 PT (R PT) lo 196 [ZO V.vM,.fn 269 [] []] H) K=K (.ps t5 (Z0 (r.machs.map (·.name)))) H5:=m5;simp (maxDischargeDepth:=12) only [go_sem,reduceEqDiff,reduceAdd,reduceCtorEq,c1,c2,c3,c4,l5,m5']
theorem KK {H:Heap} {b o:Nat} {r:Reg} {V:RegV} (h:RegIs H b o r V) (c:Int) {Hc:Heap} (ho:Old H.n H Hc) {lo:Nat} {K:AV→Heap→Prop}:VO (Z8 PT (R PT) lo 151 [.ptr b o,.int .u8 c] Hc) K=K (.ps .unk (Z0 (Zz r c))) Hc:=by
 obtain ⟨w,H2,h1,h2⟩:=Z9B (h.old ho) c;exact ZF (en151 rfl) ⟨H2,h1⟩ h2 rfl
theorem LF {α:Type} {nm:α→Nm} {x:Nm}:∀ {l:List α} {i:Nat},Pos.QR nm x l=some i→Xj x (l.map nm)=(i:Int)
 | [],i,h=>by cases h
 | a::l,i,h=>by
   unfold Pos.QR at h;rw [List.map_cons];unfold Xj;by_cases ha:nm a=x
   · rw [if_pos ha] at h ⊢;cases h;rfl
   · rw [if_neg ha] at h ⊢;cases hi:Pos.QR nm x l with
     | none=>rw [hi] at h;cases h
     | some j =>
       rw [hi] at h;have h:i=j+1:=(Option.some.inj h).symm;rw [LF hi,if_neg (by omega),h];omega
theorem en236:Q5 236:=Qj
theorem en152:Q5 152:=Qj
theorem en84:Q5 84:=Qj
theorem XB {α:Type} {nm:α→Nm} {x:Nm} {l:List α} {y:α} (h:(l.find? fun z=>decide (nm z=x))=some y):∃ i:Nat,Xj x (l.map nm)=(i:Int)∧l[i]? = some y∧i < l.length∧nm y=x:=by
 obtain ⟨i,h1,h2,h3⟩:=Pos.Z5h h;obtain ⟨z,h4,h5,_,_⟩:=Pos.CT h1;rw [h2] at h4;cases h4;exact ⟨i,LF h1,h2,h3,h5⟩
theorem Z9C {H:Heap} {b o:Nat} {r:Reg} {V:RegV} (h:RegIs H b o r V) {x:Nm} {i:Nat} (hi:Xj x (r.tracks.map (·.name))=(i:Int)) (hlt:i < r.tracks.length) (lo:Nat):R PT (.call lo 236 [.ptr b o,.str x] H)=some (.ofVal (elA V.vT 2 i) H):=by
 obtain ⟨v,H2,h1,rfl,rfl⟩:=Za (C:=PT) (f:=236) (lo:=lo) (args:=[.ptr b o,.str x]) (H:=H) (fn:=Tryz.f236) (Q:=fun w H2=>w=elA V.vT 2 i∧H2=H) (by kernel_rfl) Tryz.func236 rfl rfl (by
  have l1:=fun H'=>h.l1 (H':=H')
  have m1:=fun Hc (ho:Old H.n H Hc) lo K=>KK h 116 ho (lo:=lo) (K:=K)
  have e1:Zz r 116=r.tracks.map (·.name):=rfl;have hb:=eq_true h.bn;have hx:=h.sT.idx (t:=43) (by kernel_rfl) (by kernel_rfl) (Zw (by intro x;rfl) _) (by rw [List.length_map];exact hlt) .i64;have hl:=h.lT;simp (maxDischargeDepth:=12) only [go_sem,reduceEqDiff,reduceAdd,reduceSub,reduceCtorEq,l1,m1,e1,hb,hl,hi,hx])
 exact h1
theorem Z9D {H:Heap} {b o:Nat} {r:Reg} {V:RegV} (h:RegIs H b o r V) {x:Nm} {i:Nat} (hi:Xj x (r.tracks.map (·.name))=(i:Int)) (hlt:i < r.tracks.length) {Hc:Heap} (ho:Old H.n H Hc) {lo:Nat} {K:AV→Heap→Prop}:VO (Z8 PT (R PT) lo 236 [.ptr b o,.str x] Hc) K=K (elA V.vT 2 i) Hc :=
 Q6 (en236 rfl) (Z9C (h.old ho) hi hlt _)
theorem Z9E {H:Heap} {b o:Nat} {r:Reg} {V:RegV} (h:RegIs H b o r V) {x:Nm} {i:Nat} (hi:Xj x (r.faults.map (·.name))=(i:Int)) (hlt:i < r.faults.length) (lo:Nat):R PT (.call lo 152 [.ptr b o,.str x] H)=some (.ofVal (elA V.vF 7 i) H):=by
 obtain ⟨v,H2,h1,rfl,rfl⟩:=Za (C:=PT) (f:=152) (lo:=lo) (args:=[.ptr b o,.str x]) (H:=H) (fn:=Tryz.f152) (Q:=fun w H2=>w=elA V.vF 7 i∧H2=H) (by kernel_rfl) Tryz.func152 rfl rfl (by
  have l1:=fun H'=>h.l2 (H':=H')
  have m1:=fun Hc (ho:Old H.n H Hc) lo K=>KK h 102 ho (lo:=lo) (K:=K)
  have e1:Zz r 102=r.faults.map (·.name):=rfl;have hb:=eq_true h.bn;have hx:=h.sF.idx (t:=44) (by kernel_rfl) (by kernel_rfl) (Zw (by intro x;rfl) _) (by rw [List.length_map];exact hlt) .i64;have hl:=h.lF;simp (maxDischargeDepth:=12) only [go_sem,reduceEqDiff,reduceAdd,reduceSub,reduceCtorEq,l1,m1,e1,hb,hl,hi,hx])
 exact h1
theorem U3 {H:Heap} {b o:Nat} {r:Reg} {V:RegV} (h:RegIs H b o r V) {x:Nm} {i:Nat} (hi:Xj x (r.faults.map (·.name))=(i:Int)) (hlt:i < r.faults.length) {Hc:Heap} (ho:Old H.n H Hc) {lo:Nat} {K:AV→Heap→Prop}:VO (Z8 PT (R PT) lo 152 [.ptr b o,.str x] Hc) K=K (elA V.vF 7 i) Hc :=
 Q6 (en152 rfl) (Z9E (h.old ho) hi hlt _)
theorem Z9F {H:Heap} {b o:Nat} {r:Reg} {V:RegV} (h:RegIs H b o r V) {x:Nm} {i:Nat} (hi:Xj x (r.poss.map (·.name))=(i:Int)) (hlt:i < r.poss.length) (lo:Nat):R PT (.call lo 84 [.ptr b o,.str x] H)=some (.ofVal (elA V.vP 10 i) H):=by
 obtain ⟨v,H2,h1,rfl,rfl⟩:=Za (C:=PT) (f:=84) (lo:=lo) (args:=[.ptr b o,.str x]) (H:=H) (fn:=Tryz.f84) (Q:=fun w H2=>w=elA V.vP 10 i∧H2=H) (by kernel_rfl) Tryz.func84 rfl rfl (by
  have l1:=fun H'=>h.l4 (H':=H')
  have m1:=fun Hc (ho:Old H.n H Hc) lo K=>KK h 112 ho (lo:=lo) (K:=K)
  have e1:Zz r 112=r.poss.map (·.name):=rfl;have hb:=eq_true h.bn;have hx:=h.sP.idx (t:=46) (by kernel_rfl) (by kernel_rfl) (Zw (by intro x;rfl) _) (by rw [List.length_map];exact hlt) .i64;have hl:=h.lP;simp (maxDischargeDepth:=12) only [go_sem,reduceEqDiff,reduceAdd,reduceSub,reduceCtorEq,l1,m1,e1,hb,hl,hi,hx])
 exact h1
theorem XK {H:Heap} {b o:Nat} {r:Reg} {V:RegV} (h:RegIs H b o r V) {x:Nm} {i:Nat} (hi:Xj x (r.poss.map (·.name))=(i:Int)) (hlt:i < r.poss.length) {Hc:Heap} (ho:Old H.n H Hc) {lo:Nat} {K:AV→Heap→Prop}:VO (Z8 PT (R PT) lo 84 [.ptr b o,.str x] Hc) K=K (elA V.vP 10 i) Hc :=
 Q6 (en84 rfl) (Z9F (h.old ho) hi hlt _)
theorem Fj {α:Type} {q:α→Bool} {l:List α} {k:Nat} {x:α} (h:l[k]? = some x):(l.take (k+1)).filter q=if q x then (l.take k).filter q++[x] else (l.take k).filter q:=by
 rw [List.take_add_one,h];simp only [Option.toList,List.filter_append,List.filter_cons,List.filter_nil];cases q x<;>simp
theorem Z9G {H:Heap} {v:AV} {l:List Flt} (hs:Sl H v 7 65 (l.map Pos.Flt.row)) (hl:l.length≤Z1) {g:FuncId} {caps:List AV} {q:Flt→Bool} (hc:caps.map ZO=caps) (hg:∀ x ∈ l,∀ Hc,Old H.n H Hc → ∀ lo K,VO (Z8 PT (R PT) lo g (.agg [.str x.name,.str x.track,.int .i64 x.frm,.int .i64 x.to,.int .i64 x.speed,.bool x.ans,.bool x.rep]::caps) Hc) K=K (.bool (q x)) Hc) :
 ∃ t H2,R PT (.call H.n 244 [v,.fn g [] caps] H)=some (.ofVal (.ps t ((l.filter q).map Pos.Flt.row)) H2)∧Zj H.n H2 t ((l.filter q).map Pos.Flt.row) 7 65∧Old H.n H H2:=by
 obtain ⟨w,H2,h1,t,rfl,h2⟩:=Za (C:=PT) (f:=244) (lo:=H.n) (args:=[v,.fn g [] caps]) (H:=H) (fn:=Tryz.f244) (Q:=fun w H2=>∃ t,w=.ps t ((l.filter q).map Pos.Flt.row)∧Zj H.n H2 t ((l.filter q).map Pos.Flt.row) 7 65∧Old H.n H H2) (by kernel_rfl) Tryz.func244 rfl rfl (by
  have hlen:=fun H'=>hs.len (t:=44) (by kernel_rfl) H'
  simp only [List.length_map] at hlen;simp (maxDischargeDepth:=12) only [go_sem,reduceEqDiff,reduceAdd,reduceCtorEq,hlen];refine ZK (fun k T Hc M=>M=[]∧Z2 T 1=.fn g [] caps∧Z2 T 8=v∧Z2 T 9=i64 (l.length:Nat)∧Z2 T 10=i64 k∧Old H.n H Hc ∧ ∃ t,Z2 T 5=.ps t (((l.take k).filter q).map Pos.Flt.row)∧Zj H.n Hc t (((l.take k).filter q).map Pos.Flt.row) 7 65) l.length ?_ ?_ ?_
  · simp (maxDischargeDepth:=12) only [go_sem,reduceEqDiff,reduceCtorEq];exact ⟨.nil,rfl,.inl ⟨rfl,rfl⟩⟩
  · rintro k T Hc M hk ⟨rfl,g1,g8,g9,g10,hO,t,g5,hA⟩;obtain ⟨x,hx⟩:∃ x,l[k]? = some x:=⟨l[k],by simp⟩;have hw:=ZP hk hl;have hN:=eq_true hO.1;have hi:=hs.idx (t:=44) (by kernel_rfl) (by kernel_rfl) (Zw (by intro x;rfl) l) (by rw [List.length_map];exact hk) .i64;have hd:=hs.ld (by kernel_rfl) (by kernel_rfl) (Zw (by intro x;rfl) l) (Y1 hx) hO;have hg1:=hg x (List.mem_of_getElem? hx);obtain ⟨z,hz⟩:∃ z,ZJ NC.P 65=some z:=⟨_,Kr⟩;have hA1:=hA.new (.cells z.cells 65) (.cells (Pos.Flt.row x) 65);have hft:=Fj (q:=q) hx;have hlt:((l.take k).filter q).length≤k:=Nat.le_trans (List.length_filter_le _ _) (by rw [List.length_take];omega);cases hq:q x with
    | true =>
      obtain ⟨t',H',ha,hA',_,hO',_⟩:=YR (lo:=H.n) hA1 (by simp;have:=hO.1;omega) (Nat.le_refl _) (r:=Pos.Flt.row x) (by rw [List.length_map];omega) rfl (by decide) (JF (by intro x;rfl) _);have e1:(Pos.Flt.row x).map AV.strip0=Pos.Flt.row x:=rfl;rw [hq,if_pos rfl] at hft;have e2:((l.take k).filter q).map Pos.Flt.row++[Pos.Flt.row x]=((l.take (k+1)).filter q).map Pos.Flt.row:=by rw [hft,List.map_append];rfl
      rw [e1,e2] at ha hA';have hO2:Old H.n H H':=(hO.new _ _).trans hO';rw [Kr] at hz;cases hz;simp only [Pos.Flt.row] at hd ha;simp (maxDischargeDepth:=12) only [go_sem] at ha;have hra:=JF (f:=Pos.Flt.row) (sz:=7) (by intro x;rfl) ((l.take k).filter q);simp (maxDischargeDepth:=12) only [go_sem,reduceEqDiff,reduceAdd,reduceMul,reduceLeDiff,g1,g5,g8,g9,g10,hk,hw,hN,hi,hd,hc,hg1,hO,hq,ZT,ha];exact ⟨hO2,t',by first | rfl | simp only [Pos.Flt.row],by first | exact hA' | simpa only [Pos.Flt.row] using hA'⟩
    | false =>
      rw [hq,if_neg (by simp)] at hft;rw [Kr] at hz;cases hz;rw [← hft] at g5 hA1;simp only [Pos.Flt.row] at hd hA1;simp (maxDischargeDepth:=12) only [go_sem] at hA1;simp (maxDischargeDepth:=12) only [go_sem,reduceEqDiff,reduceAdd,g1,g5,g8,g9,g10,hk,hw,hN,hi,hd,hc,hg1,hO,hq];exact ⟨t,rfl,hA1⟩
  · rintro T Hc M ⟨rfl,g1,g8,g9,g10,hO,t,g5,hA⟩;rw [List.take_length] at g5 hA;simp (maxDischargeDepth:=12) only [go_sem,reduceEqDiff,reduceCtorEq,g5,g9,g10,Nat.lt_irrefl];exact ⟨t,rfl,hA,hO⟩)
 exact ⟨t,H2,h1,h2⟩
theorem Z9H {H:Heap} {v:AV} {l:List Trn} (hs:Sl H v 3 61 (l.map Pos.Trn.row)) (hl:l.length≤Z1) {g:FuncId} {caps:List AV} {q:Trn→Bool} (hc:caps.map ZO=caps) (hg:∀ x ∈ l,∀ Hc,Old H.n H Hc → ∀ lo K,VO (Z8 PT (R PT) lo g (.agg [.str x.name,.str x.track,.int .i64 x.speed]::caps) Hc) K=K (.bool (q x)) Hc) :
 ∃ t H2,R PT (.call H.n 167 [v,.fn g [] caps] H)=some (.ofVal (.ps t ((l.filter q).map Pos.Trn.row)) H2)∧Zj H.n H2 t ((l.filter q).map Pos.Trn.row) 3 61∧Old H.n H H2:=by
 obtain ⟨w,H2,h1,t,rfl,h2⟩:=Za (C:=PT) (f:=167) (lo:=H.n) (args:=[v,.fn g [] caps]) (H:=H) (fn:=Tryz.f167) (Q:=fun w H2=>∃ t,w=.ps t ((l.filter q).map Pos.Trn.row)∧Zj H.n H2 t ((l.filter q).map Pos.Trn.row) 3 61∧Old H.n H H2) (by kernel_rfl) Tryz.func167 rfl rfl (by
  have hlen:=fun H'=>hs.len (t:=45) (by kernel_rfl) H'
  simp only [List.length_map] at hlen;simp (maxDischargeDepth:=12) only [go_sem,reduceEqDiff,reduceAdd,reduceCtorEq,hlen];refine ZK (fun k T Hc M=>M=[]∧Z2 T 1=.fn g [] caps∧Z2 T 8=v∧Z2 T 9=i64 (l.length:Nat)∧Z2 T 10=i64 k∧Old H.n H Hc ∧ ∃ t,Z2 T 5=.ps t (((l.take k).filter q).map Pos.Trn.row)∧Zj H.n Hc t (((l.take k).filter q).map Pos.Trn.row) 3 61) l.length ?_ ?_ ?_
  · simp (maxDischargeDepth:=12) only [go_sem,reduceEqDiff,reduceCtorEq];exact ⟨.nil,rfl,.inl ⟨rfl,rfl⟩⟩
  · rintro k T Hc M hk ⟨rfl,g1,g8,g9,g10,hO,t,g5,hA⟩;obtain ⟨x,hx⟩:∃ x,l[k]? = some x:=⟨l[k],by simp⟩;have hw:=ZP hk hl;have hN:=eq_true hO.1;have hi:=hs.idx (t:=45) (by kernel_rfl) (by kernel_rfl) (Zw (by intro x;rfl) l) (by rw [List.length_map];exact hk) .i64;have hd:=hs.ld (by kernel_rfl) (by kernel_rfl) (Zw (by intro x;rfl) l) (Y1 hx) hO;have hg1:=hg x (List.mem_of_getElem? hx);obtain ⟨z,hz⟩:∃ z,ZJ NC.P 61=some z:=⟨_,VJ⟩;have hA1:=hA.new (.cells z.cells 61) (.cells (Pos.Trn.row x) 61);have hft:=Fj (q:=q) hx;have hlt:((l.take k).filter q).length≤k:=Nat.le_trans (List.length_filter_le _ _) (by rw [List.length_take];omega);cases hq:q x with
    | true =>
      obtain ⟨t',H',ha,hA',_,hO',_⟩:=YR (lo:=H.n) hA1 (by simp;have:=hO.1;omega) (Nat.le_refl _) (r:=Pos.Trn.row x) (by rw [List.length_map];omega) rfl (by decide) (JF (by intro x;rfl) _);have e1:(Pos.Trn.row x).map AV.strip0=Pos.Trn.row x:=rfl;rw [hq,if_pos rfl] at hft;have e2:((l.take k).filter q).map Pos.Trn.row++[Pos.Trn.row x]=((l.take (k+1)).filter q).map Pos.Trn.row:=by rw [hft,List.map_append];rfl
      rw [e1,e2] at ha hA';have hO2:Old H.n H H':=(hO.new _ _).trans hO';rw [VJ] at hz;cases hz;simp only [Pos.Trn.row] at hd ha;simp (maxDischargeDepth:=12) only [go_sem] at ha;have hra:=JF (f:=Pos.Trn.row) (sz:=3) (by intro x;rfl) ((l.take k).filter q);simp (maxDischargeDepth:=12) only [go_sem,reduceEqDiff,reduceAdd,reduceMul,reduceLeDiff,g1,g5,g8,g9,g10,hk,hw,hN,hi,hd,hc,hg1,hO,hq,ZT,ha];exact ⟨hO2,t',by first | rfl | simp only [Pos.Trn.row],by first | exact hA' | simpa only [Pos.Trn.row] using hA'⟩
    | false =>
      rw [hq,if_neg (by simp)] at hft;rw [VJ] at hz;cases hz;rw [← hft] at g5 hA1;simp only [Pos.Trn.row] at hd hA1;simp (maxDischargeDepth:=12) only [go_sem] at hA1;simp (maxDischargeDepth:=12) only [go_sem,reduceEqDiff,reduceAdd,g1,g5,g8,g9,g10,hk,hw,hN,hi,hd,hc,hg1,hO,hq];exact ⟨t,rfl,hA1⟩
  · rintro T Hc M ⟨rfl,g1,g8,g9,g10,hO,t,g5,hA⟩;rw [List.take_length] at g5 hA;simp (maxDischargeDepth:=12) only [go_sem,reduceEqDiff,reduceCtorEq,g5,g9,g10,Nat.lt_irrefl];exact ⟨t,rfl,hA,hO⟩)
 exact ⟨t,H2,h1,h2⟩
theorem Z9I {H:Heap} {v:AV} {l:List Mch} (hs:Sl H v 2 67 (l.map Pos.Mch.row)) (hl:l.length≤Z1) {g:FuncId} {caps:List AV} {q:Mch→Bool} (hc:caps.map ZO=caps) (hg:∀ x ∈ l,∀ Hc,Old H.n H Hc → ∀ lo K,VO (Z8 PT (R PT) lo g (.agg [.str x.name,.str x.poss]::caps) Hc) K=K (.bool (q x)) Hc) :
 ∃ t H2,R PT (.call H.n 180 [v,.fn g [] caps] H)=some (.ofVal (.ps t ((l.filter q).map Pos.Mch.row)) H2)∧Zj H.n H2 t ((l.filter q).map Pos.Mch.row) 2 67∧Old H.n H H2:=by
 obtain ⟨w,H2,h1,t,rfl,h2⟩:=Za (C:=PT) (f:=180) (lo:=H.n) (args:=[v,.fn g [] caps]) (H:=H) (fn:=Tryz.f180) (Q:=fun w H2=>∃ t,w=.ps t ((l.filter q).map Pos.Mch.row)∧Zj H.n H2 t ((l.filter q).map Pos.Mch.row) 2 67∧Old H.n H H2) (by kernel_rfl) Tryz.func180 rfl rfl (by
  have hlen:=fun H'=>hs.len (t:=47) (by kernel_rfl) H'
  simp only [List.length_map] at hlen;simp (maxDischargeDepth:=12) only [go_sem,reduceEqDiff,reduceAdd,reduceCtorEq,hlen];refine ZK (fun k T Hc M=>M=[]∧Z2 T 1=.fn g [] caps∧Z2 T 8=v∧Z2 T 9=i64 (l.length:Nat)∧Z2 T 10=i64 k∧Old H.n H Hc ∧ ∃ t,Z2 T 5=.ps t (((l.take k).filter q).map Pos.Mch.row)∧Zj H.n Hc t (((l.take k).filter q).map Pos.Mch.row) 2 67) l.length ?_ ?_ ?_
  · simp (maxDischargeDepth:=12) only [go_sem,reduceEqDiff,reduceCtorEq];exact ⟨.nil,rfl,.inl ⟨rfl,rfl⟩⟩
  · rintro k T Hc M hk ⟨rfl,g1,g8,g9,g10,hO,t,g5,hA⟩;obtain ⟨x,hx⟩:∃ x,l[k]? = some x:=⟨l[k],by simp⟩;have hw:=ZP hk hl;have hN:=eq_true hO.1;have hi:=hs.idx (t:=47) (by kernel_rfl) (by kernel_rfl) (Zw (by intro x;rfl) l) (by rw [List.length_map];exact hk) .i64;have hd:=hs.ld (by kernel_rfl) (by kernel_rfl) (Zw (by intro x;rfl) l) (Y1 hx) hO;have hg1:=hg x (List.mem_of_getElem? hx);obtain ⟨z,hz⟩:∃ z,ZJ NC.P 67=some z:=⟨_,Kt⟩;have hA1:=hA.new (.cells z.cells 67) (.cells (Pos.Mch.row x) 67);have hft:=Fj (q:=q) hx;have hlt:((l.take k).filter q).length≤k:=Nat.le_trans (List.length_filter_le _ _) (by rw [List.length_take];omega);cases hq:q x with
    | true =>
      obtain ⟨t',H',ha,hA',_,hO',_⟩:=YR (lo:=H.n) hA1 (by simp;have:=hO.1;omega) (Nat.le_refl _) (r:=Pos.Mch.row x) (by rw [List.length_map];omega) rfl (by decide) (JF (by intro x;rfl) _);have e1:(Pos.Mch.row x).map AV.strip0=Pos.Mch.row x:=rfl;rw [hq,if_pos rfl] at hft;have e2:((l.take k).filter q).map Pos.Mch.row++[Pos.Mch.row x]=((l.take (k+1)).filter q).map Pos.Mch.row:=by rw [hft,List.map_append];rfl
      rw [e1,e2] at ha hA';have hO2:Old H.n H H':=(hO.new _ _).trans hO';rw [Kt] at hz;cases hz;simp only [Pos.Mch.row] at hd ha;simp (maxDischargeDepth:=12) only [go_sem] at ha;have hra:=JF (f:=Pos.Mch.row) (sz:=2) (by intro x;rfl) ((l.take k).filter q);simp (maxDischargeDepth:=12) only [go_sem,reduceEqDiff,reduceAdd,reduceMul,reduceLeDiff,g1,g5,g8,g9,g10,hk,hw,hN,hi,hd,hc,hg1,hO,hq,ZT,ha];exact ⟨hO2,t',by first | rfl | simp only [Pos.Mch.row],by first | exact hA' | simpa only [Pos.Mch.row] using hA'⟩
    | false =>
      rw [hq,if_neg (by simp)] at hft;rw [Kt] at hz;cases hz;rw [← hft] at g5 hA1;simp only [Pos.Mch.row] at hd hA1;simp (maxDischargeDepth:=12) only [go_sem] at hA1;simp (maxDischargeDepth:=12) only [go_sem,reduceEqDiff,reduceAdd,g1,g5,g8,g9,g10,hk,hw,hN,hi,hd,hc,hg1,hO,hq];exact ⟨t,rfl,hA1⟩
  · rintro T Hc M ⟨rfl,g1,g8,g9,g10,hO,t,g5,hA⟩;rw [List.take_length] at g5 hA;simp (maxDischargeDepth:=12) only [go_sem,reduceEqDiff,reduceCtorEq,g5,g9,g10,Nat.lt_irrefl];exact ⟨t,rfl,hA,hO⟩)
 exact ⟨t,H2,h1,h2⟩
theorem en244:ZG 244:=ZI
theorem en167:Q5 167:=Qj
theorem en180:Q5 180:=Qj
theorem en237:ZG 237:=ZI
theorem en292:ZG 292:=ZI
def Vj (q:Flt→Bool) (l:List Flt):Int:=match l.findIdx? q with
 | some i=>i
 | none=>-1
theorem Z9J {H:Heap} {v:AV} {l:List Flt} (hs:Sl H v 7 65 (l.map Pos.Flt.row)) (hl:l.length≤Z1) {g:FuncId} {caps:List AV} {q:Flt→Bool} (hc:caps.map ZO=caps) (hg:∀ x ∈ l,∀ Hc,Old H.n H Hc → ∀ lo K,VO (Z8 PT (R PT) lo g (.agg [.str x.name,.str x.track,.int .i64 x.frm,.int .i64 x.to,.int .i64 x.speed,.bool x.ans,.bool x.rep]::caps) Hc) K=K (.bool (q x)) Hc) :
 ∃ w H2,R PT (.call H.n 292 [v,.fn g [] caps] H)=some (.ofVal w H2)∧w=.int .i64 (Vj q l):=by
 refine Za (C:=PT) (f:=292) (lo:=H.n) (args:=[v,.fn g [] caps]) (H:=H) (fn:=Tryz.f292) (Q:=fun w _=>w=.int .i64 (Vj q l)) (by kernel_rfl) Tryz.func292 rfl rfl ?_;have hlen:=fun H'=>hs.len (t:=44) (by kernel_rfl) H'
 simp only [List.length_map] at hlen;simp (maxDischargeDepth:=12) only [go_sem,reduceEqDiff,reduceAdd,reduceCtorEq,hlen];refine ZK (fun k T Hc M=>M=[]∧Z2 T 0=v∧Z2 T 1=.fn g [] caps∧Z2 T 7=i64 (l.length:Nat)∧Z2 T 8=i64 k∧Old H.n H Hc ∧ ∀ x ∈ l.take k,q x=false) l.length ?_ ?_ ?_
 · simp (maxDischargeDepth:=12) only [go_sem,reduceEqDiff,reduceCtorEq];exact fun x hx=>by simp at hx
 · rintro k T Hc M hk ⟨rfl,g0,g1,g7,g8,hO,hn⟩;obtain ⟨x,hx⟩:∃ x,l[k]? = some x:=⟨l[k],by simp⟩;have hw:=ZP hk hl;have hi:=hs.idx (t:=44) (by kernel_rfl) (by kernel_rfl) (Zw (by intro x;rfl) l) (by rw [List.length_map];exact hk) .i64;have hd:=hs.ld (by kernel_rfl) (by kernel_rfl) (Zw (by intro x;rfl) l) (Y1 hx) hO;have hg1:=hg x (List.mem_of_getElem? hx);simp only [Pos.Flt.row] at hd;cases hq:q x with
   | true =>
     simp (maxDischargeDepth:=12) only [go_sem,reduceEqDiff,reduceCtorEq,g0,g1,g7,g8,hk,hi,hd,hc,hg1,hO,hq];have:l.findIdx? q=some k:=by
      rw [List.findIdx?_eq_some_iff_getElem];obtain ⟨hlt,he⟩:=List.getElem?_eq_some_iff.1 hx;refine ⟨hlt,by rw [he];exact hq,fun j hj => ?_⟩;have:=hn l[j] (List.mem_take_iff_getElem.2 ⟨j,by omega,rfl⟩);simp [this]
     unfold Vj;rw [this]
   | false =>
     simp (maxDischargeDepth:=12) only [go_sem,reduceEqDiff,reduceCtorEq,g0,g1,g7,g8,hk,hw,hi,hd,hc,hg1,hO,hq];intro y hy;rw [List.take_add_one,hx] at hy;rcases List.mem_append.1 hy with hy | hy
     · exact hn y hy
     · simp only [Option.toList,List.mem_singleton] at hy;rw [hy];exact hq
 · rintro T Hc M ⟨rfl,g0,g1,g7,g8,hO,hn⟩;rw [List.take_length] at hn;simp (maxDischargeDepth:=12) only [go_sem,reduceEqDiff,reduceCtorEq,g7,g8,Nat.lt_irrefl];have:l.findIdx? q=none:=by
    rw [List.findIdx?_eq_none_iff];exact fun x hx=>by simp [hn x hx]
   unfold Vj;rw [this]
theorem Z9K (q:Flt→Bool) (l:List Flt):(Vj q l < 0)=(l.any q=false):=by
 unfold Vj;cases h:l.findIdx? q with
 | none =>
   rw [List.findIdx?_eq_none_iff] at h;simp only [eq_iff_iff];refine ⟨fun _ => ?_,fun _=>by decide⟩;rw [List.any_eq_false];exact fun x hx=>by simp [h x hx]
 | some i =>
   rw [List.findIdx?_eq_some_iff_getElem] at h;obtain ⟨hlt,hq,_⟩:=h;simp only [eq_iff_iff];refine ⟨fun h=>by omega,fun h => ?_⟩;rw [List.any_eq_false] at h;exact absurd hq (h _ (List.getElem_mem hlt))
theorem Z9L {H:Heap} {v:AV} {l:List Flt} (hs:Sl H v 7 65 (l.map Pos.Flt.row)) (hl:l.length≤Z1) {g:FuncId} {caps:List AV} {q:Flt→Bool} (hc:caps.map ZO=caps) (hg:∀ x ∈ l,∀ Hc,Old H.n H Hc → ∀ lo K,VO (Z8 PT (R PT) lo g (.agg [.str x.name,.str x.track,.int .i64 x.frm,.int .i64 x.to,.int .i64 x.speed,.bool x.ans,.bool x.rep]::caps) Hc) K=K (.bool (q x)) Hc) :
 ∃ w H2,R PT (.call H.n 237 [v,.fn g [] caps] H)=some (.ofVal w H2)∧w=.bool (l.any q):=by
 refine Za (C:=PT) (f:=237) (lo:=H.n) (args:=[v,.fn g [] caps]) (H:=H) (fn:=Tryz.f237) (Q:=fun w _=>w=.bool (l.any q)) (by kernel_rfl) Tryz.func237 rfl rfl ?_;have e1:∀ lo K,VO (Z8 PT (R PT) lo 292 [ZO v,.fn g [] caps] H) K=K (.int .i64 (Vj q l)) H:=fun lo K=>by
  obtain ⟨w,H2,h1,h2⟩:=Z9J hs.strip hl hc hg;exact ZF (en292 rfl) ⟨H2,h1⟩ (by rw [h2];rfl) rfl
 simp (maxDischargeDepth:=12) only [go_sem,reduceEqDiff,reduceAdd,reduceCtorEq,e1,Z9K];cases l.any q<;>simp
theorem Z9M {H:Heap} {v:AV} {l:List Flt} (hs:Sl H v 7 65 (l.map Pos.Flt.row)) (hl:l.length≤Z1) {g:FuncId} {caps:List AV} {q:Flt→Bool} (hc:caps.map ZO=caps) (hg:∀ x ∈ l,∀ Hc,Old H.n H Hc → ∀ lo K,VO (Z8 PT (R PT) lo g (.agg [.str x.name,.str x.track,.int .i64 x.frm,.int .i64 x.to,.int .i64 x.speed,.bool x.ans,.bool x.rep]::caps) Hc) K=K (.bool (q x)) Hc) {lo:Nat} {K:AV→Heap→Prop}:VO (Z8 PT (R PT) lo 237 [ZO v,.fn g [] caps] H) K=K (.bool (l.any q)) H:=by
 obtain ⟨w,H2,h1,h2⟩:=Z9L hs.strip hl hc hg;exact ZF (en237 rfl) ⟨H2,h1⟩ (by rw [h2];rfl) rfl
theorem en270:ZG 270:=ZI
theorem en310:ZG 310:=ZI
def Vk (q:Trn→Bool) (l:List Trn):Int:=match l.findIdx? q with
 | some i=>i
 | none=>-1
theorem Z9N {H:Heap} {v:AV} {l:List Trn} (hs:Sl H v 3 61 (l.map Pos.Trn.row)) (hl:l.length≤Z1) {g:FuncId} {caps:List AV} {q:Trn→Bool} (hc:caps.map ZO=caps) (hg:∀ x ∈ l,∀ Hc,Old H.n H Hc → ∀ lo K,VO (Z8 PT (R PT) lo g (.agg [.str x.name,.str x.track,.int .i64 x.speed]::caps) Hc) K=K (.bool (q x)) Hc) :
 ∃ w H2,R PT (.call H.n 310 [v,.fn g [] caps] H)=some (.ofVal w H2)∧w=.int .i64 (Vk q l):=by
 refine Za (C:=PT) (f:=310) (lo:=H.n) (args:=[v,.fn g [] caps]) (H:=H) (fn:=Tryz.f310) (Q:=fun w _=>w=.int .i64 (Vk q l)) (by kernel_rfl) Tryz.func310 rfl rfl ?_;have hlen:=fun H'=>hs.len (t:=45) (by kernel_rfl) H'
 simp only [List.length_map] at hlen;simp (maxDischargeDepth:=12) only [go_sem,reduceEqDiff,reduceAdd,reduceCtorEq,hlen];refine ZK (fun k T Hc M=>M=[]∧Z2 T 0=v∧Z2 T 1=.fn g [] caps∧Z2 T 7=i64 (l.length:Nat)∧Z2 T 8=i64 k∧Old H.n H Hc ∧ ∀ x ∈ l.take k,q x=false) l.length ?_ ?_ ?_
 · simp (maxDischargeDepth:=12) only [go_sem,reduceEqDiff,reduceCtorEq];exact fun x hx=>by simp at hx
 · rintro k T Hc M hk ⟨rfl,g0,g1,g7,g8,hO,hn⟩;obtain ⟨x,hx⟩:∃ x,l[k]? = some x:=⟨l[k],by simp⟩;have hw:=ZP hk hl;have hi:=hs.idx (t:=45) (by kernel_rfl) (by kernel_rfl) (Zw (by intro x;rfl) l) (by rw [List.length_map];exact hk) .i64;have hd:=hs.ld (by kernel_rfl) (by kernel_rfl) (Zw (by intro x;rfl) l) (Y1 hx) hO;have hg1:=hg x (List.mem_of_getElem? hx);simp only [Pos.Trn.row] at hd;cases hq:q x with
   | true =>
     simp (maxDischargeDepth:=12) only [go_sem,reduceEqDiff,reduceCtorEq,g0,g1,g7,g8,hk,hi,hd,hc,hg1,hO,hq];have:l.findIdx? q=some k:=by
      rw [List.findIdx?_eq_some_iff_getElem];obtain ⟨hlt,he⟩:=List.getElem?_eq_some_iff.1 hx;refine ⟨hlt,by rw [he];exact hq,fun j hj => ?_⟩;have:=hn l[j] (List.mem_take_iff_getElem.2 ⟨j,by omega,rfl⟩);simp [this]
     unfold Vk;rw [this]
   | false =>
     simp (maxDischargeDepth:=12) only [go_sem,reduceEqDiff,reduceCtorEq,g0,g1,g7,g8,hk,hw,hi,hd,hc,hg1,hO,hq];intro y hy;rw [List.take_add_one,hx] at hy;rcases List.mem_append.1 hy with hy | hy
     · exact hn y hy
     · simp only [Option.toList,List.mem_singleton] at hy;rw [hy];exact hq
 · rintro T Hc M ⟨rfl,g0,g1,g7,g8,hO,hn⟩;rw [List.take_length] at hn;simp (maxDischargeDepth:=12) only [go_sem,reduceEqDiff,reduceCtorEq,g7,g8,Nat.lt_irrefl];have:l.findIdx? q=none:=by
    rw [List.findIdx?_eq_none_iff];exact fun x hx=>by simp [hn x hx]
   unfold Vk;rw [this]
theorem Z9O (q:Trn→Bool) (l:List Trn):(Vk q l < 0)=(l.any q=false):=by
 unfold Vk;cases h:l.findIdx? q with
 | none =>
   rw [List.findIdx?_eq_none_iff] at h;simp only [eq_iff_iff];refine ⟨fun _ => ?_,fun _=>by decide⟩;rw [List.any_eq_false];exact fun x hx=>by simp [h x hx]
 | some i =>
   rw [List.findIdx?_eq_some_iff_getElem] at h;obtain ⟨hlt,hq,_⟩:=h;simp only [eq_iff_iff];refine ⟨fun h=>by omega,fun h => ?_⟩;rw [List.any_eq_false] at h;exact absurd hq (h _ (List.getElem_mem hlt))
theorem Z9P {H:Heap} {v:AV} {l:List Trn} (hs:Sl H v 3 61 (l.map Pos.Trn.row)) (hl:l.length≤Z1) {g:FuncId} {caps:List AV} {q:Trn→Bool} (hc:caps.map ZO=caps) (hg:∀ x ∈ l,∀ Hc,Old H.n H Hc → ∀ lo K,VO (Z8 PT (R PT) lo g (.agg [.str x.name,.str x.track,.int .i64 x.speed]::caps) Hc) K=K (.bool (q x)) Hc) :
 ∃ w H2,R PT (.call H.n 270 [v,.fn g [] caps] H)=some (.ofVal w H2)∧w=.bool (l.any q):=by
 refine Za (C:=PT) (f:=270) (lo:=H.n) (args:=[v,.fn g [] caps]) (H:=H) (fn:=Tryz.f270) (Q:=fun w _=>w=.bool (l.any q)) (by kernel_rfl) Tryz.func270 rfl rfl ?_;have e1:∀ lo K,VO (Z8 PT (R PT) lo 310 [ZO v,.fn g [] caps] H) K=K (.int .i64 (Vk q l)) H:=fun lo K=>by
  obtain ⟨w,H2,h1,h2⟩:=Z9N hs.strip hl hc hg;exact ZF (en310 rfl) ⟨H2,h1⟩ (by rw [h2];rfl) rfl
 simp (maxDischargeDepth:=12) only [go_sem,reduceEqDiff,reduceAdd,reduceCtorEq,e1,Z9O];cases l.any q<;>simp
theorem Z9Q {H:Heap} {v:AV} {l:List Trn} (hs:Sl H v 3 61 (l.map Pos.Trn.row)) (hl:l.length≤Z1) {g:FuncId} {caps:List AV} {q:Trn→Bool} (hc:caps.map ZO=caps) (hg:∀ x ∈ l,∀ Hc,Old H.n H Hc → ∀ lo K,VO (Z8 PT (R PT) lo g (.agg [.str x.name,.str x.track,.int .i64 x.speed]::caps) Hc) K=K (.bool (q x)) Hc) {lo:Nat} {K:AV→Heap→Prop}:VO (Z8 PT (R PT) lo 270 [ZO v,.fn g [] caps] H) K=K (.bool (l.any q)) H:=by
 obtain ⟨w,H2,h1,h2⟩:=Z9P hs.strip hl hc hg;exact ZF (en270 rfl) ⟨H2,h1⟩ (by rw [h2];rfl) rfl
theorem el_T {H:Heap} {b o:Nat} {r:Reg} {V:RegV} (h:RegIs H b o r V) {i:Nat} {x:Trk} (hx:r.tracks[i]? = some x):elA V.vT 2 i=.pptr [.str x.name,.int .i64 x.speed]:=by
 obtain ⟨t,e,_⟩:=h.aT;rw [e];show AV.pptr _=_;rw [Y1 hx];rfl
theorem AL {H:Heap} {v:AV} {sz:Nat} {te:TypeId} {rows:List (List AV)} (h:Pos.SV sz te H v rows) (hr:Len sz rows) {i:Nat} {row:List AV} (hx:rows[i]? = some row):∃ id,elA v sz i=.ptr id (i * sz)∧id < H.n ∧
 (∀ {H':Heap},Old H.n H H' → ∀ {k:Nat} {c:AV} {t:TypeId},row[k]? = some c→(Zh NC.P t).isSome=true→aggOf NC.P t=some false→sld H' t (.ptr id (i * sz+k))=some c) ∧
 (∀ {H':Heap},Old H.n H H' → ∀ {k n:Nat} {t:TypeId},k+n≤row.length→Zh NC.P t=some n→aggOf NC.P t=some true→sld H' t (.ptr id (i * sz+k))=some (.agg ((row.drop k).take n))):=by
 rcases h with ⟨rfl,rfl⟩ | ⟨id,cs,m,rfl,h2,h3,h4⟩
 · cases hx
 refine ⟨id,by show AV.ptr id (0+i * sz)=_;rw [Nat.zero_add],h2,fun {H'} ho {k c t} hk hs hg => ?_,fun {H'} ho {k n t} hk hs hg => ?_⟩
 · obtain ⟨n,hn⟩:=Option.isSome_iff_exists.1 hs;have hc:=Pos.Ig hr hx hk;have hc2:Yp (rows.flatten++cs) (i * sz+k) 1=some [c]:=by
    unfold Yp at hc ⊢;split at hc
    · rename_i hle
      rw [if_pos (by rw [List.length_append];omega),List.drop_append_of_le_length (by omega),List.take_append_of_le_length (by rw [List.length_drop];omega)];exact hc
    · cases hc
   show Yk NC.P H' t (.ptr id (i * sz+k))=some c;unfold Yk;simp only [hn,hg,YT,ho.2 id h2,h3,XM,if_false,hc2,QY,Bool.false_eq_true]
 · have hf:=Ye hr hx;have hl:=hr row (List.mem_of_getElem? hx);have hc2:Yp (rows.flatten++cs) (i * sz+k) n=some ((row.drop k).take n):=by
    unfold Yp at hf ⊢;split at hf
    · rename_i hle
      have hf:=Option.some.inj hf;rw [if_pos (by rw [List.length_append];omega),List.drop_append_of_le_length (by omega),List.take_append_of_le_length (by rw [List.length_drop];omega)];rw [← List.drop_drop,← hf,List.drop_take,List.take_take]
      congr 1
      congr 1
      omega
    · cases hf
   show Yk NC.P H' t (.ptr id (i * sz+k))=_;unfold Yk;simp only [hs,hg,YT,ho.2 id h2,h3,XM,if_true,hc2,QY]
structure PtF (H:Heap) (id off:Nat) (x:Flt):Prop where
 lt:id < H.n
 f0:∀ {H':Heap},Old H.n H H'→sld H' 9 (.ptr id off)=some (.str x.name)
 f1:∀ {H':Heap},Old H.n H H'→sld H' 9 (.ptr id (off+1))=some (.str x.track)
 f2:∀ {H':Heap},Old H.n H H'→sld H' 3 (.ptr id (off+2))=some (.int .i64 x.frm)
 f3:∀ {H':Heap},Old H.n H H'→sld H' 3 (.ptr id (off+3))=some (.int .i64 x.to)
 f4:∀ {H':Heap},Old H.n H H'→sld H' 3 (.ptr id (off+4))=some (.int .i64 x.speed)
 f5:∀ {H':Heap},Old H.n H H'→sld H' 4 (.ptr id (off+5))=some (.bool x.ans)
 f6:∀ {H':Heap},Old H.n H H'→sld H' 4 (.ptr id (off+6))=some (.bool x.rep)
structure PtP (H:Heap) (id off:Nat) (x:Pos):Prop where
 lt:id < H.n
 f0:∀ {H':Heap},Old H.n H H'→sld H' 9 (.ptr id off)=some (.str x.name)
 f1:∀ {H':Heap},Old H.n H H'→sld H' 9 (.ptr id (off+1))=some (.str x.track)
 f2:∀ {H':Heap},Old H.n H H'→sld H' 3 (.ptr id (off+2))=some (.int .i64 x.frm)
 f3:∀ {H':Heap},Old H.n H H'→sld H' 3 (.ptr id (off+3))=some (.int .i64 x.to)
 f4:∀ {H':Heap},Old H.n H H'→sld H' 4 (.ptr id (off+4))=some (.bool x.ret)
 f5:∀ {H':Heap},Old H.n H H'→sld H' 4 (.ptr id (off+5))=some (.bool x.prot)
 f6:∀ {H':Heap},Old H.n H H'→sld H' 4 (.ptr id (off+6))=some (.bool x.opn)
 f7:∀ {H':Heap},Old H.n H H'→sld H' 3 (.ptr id (off+7))=some (.int .i64 x.closed)
 f8:∀ {H':Heap},Old H.n H H'→sld H' 3 (.ptr id (off+8))=some (.int .i64 x.pers)
 f9:∀ {H':Heap},Old H.n H H'→sld H' 3 (.ptr id (off+9))=some (.int .i64 x.speed)
 sp:∀ {H':Heap},Old H.n H H'→sld H' 57 (.ptr id (off+2))=some (.agg [.int .i64 x.frm,.int .i64 x.to])
theorem el_F {H:Heap} {b o:Nat} {r:Reg} {V:RegV} (h:RegIs H b o r V) {i:Nat} {x:Flt} (hx:r.faults[i]? = some x):∃ id,elA V.vF 7 i=.ptr id (i * 7)∧PtF H id (i * 7) x:=by
 obtain ⟨id,h1,h2,h3,h4⟩:=AL h.aF (Zw (by intro x;rfl) _) (Y1 hx);exact ⟨id,h1,h2,fun ho=>h3 ho (k:=0) rfl (by kernel_rfl) (by kernel_rfl),fun ho=>h3 ho rfl (by kernel_rfl) (by kernel_rfl),fun ho=>h3 ho rfl (by kernel_rfl) (by kernel_rfl),fun ho=>h3 ho rfl (by kernel_rfl) (by kernel_rfl),fun ho=>h3 ho rfl (by kernel_rfl) (by kernel_rfl),fun ho=>h3 ho rfl (by kernel_rfl) (by kernel_rfl),fun ho=>h3 ho rfl (by kernel_rfl) (by kernel_rfl)⟩
theorem YZ {H:Heap} {b o:Nat} {r:Reg} {V:RegV} (h:RegIs H b o r V) {i:Nat} {x:Pos} (hx:r.poss[i]? = some x):∃ id,elA V.vP 10 i=.ptr id (i * 10)∧PtP H id (i * 10) x:=by
 obtain ⟨id,h1,h2,h3,h4⟩:=AL h.aP (Zw (by intro x;rfl) _) (Y1 hx);exact ⟨id,h1,h2,fun ho=>h3 ho (k:=0) rfl (by kernel_rfl) (by kernel_rfl),fun ho=>h3 ho rfl (by kernel_rfl) (by kernel_rfl),fun ho=>h3 ho rfl (by kernel_rfl) (by kernel_rfl),fun ho=>h3 ho rfl (by kernel_rfl) (by kernel_rfl),fun ho=>h3 ho rfl (by kernel_rfl) (by kernel_rfl),fun ho=>h3 ho rfl (by kernel_rfl) (by kernel_rfl),fun ho=>h3 ho rfl (by kernel_rfl) (by kernel_rfl),fun ho=>h3 ho rfl (by kernel_rfl) (by kernel_rfl),fun ho=>h3 ho rfl (by kernel_rfl) (by kernel_rfl),fun ho=>h3 ho rfl (by kernel_rfl) (by kernel_rfl),fun ho=>h4 ho (k:=2) (n:=2) (by show 2+2≤10;decide) (by kernel_rfl) (by kernel_rfl)⟩
theorem en122:ZG 122:=ZI
theorem en113:ZG 113:=ZI
theorem en238:ZG 238:=ZI
theorem en111:ZG 111:=ZI
theorem Z9R {H:Heap} {b o:Nat} {r:Reg} {V:RegV} (h:RegIs H b o r V):∃ w H2,R PT (.call H.n 122 [.ptr b o] H)=some (.ofVal w H2)∧w.strip=.ps .unk ((r.faults.filter Flt.silent).map Pos.Flt.row):=by
 refine Za (C:=PT) (f:=122) (lo:=H.n) (args:=[.ptr b o]) (H:=H) (fn:=Tryz.f122) (Q:=fun w _=>w.strip=.ps .unk ((r.faults.filter Flt.silent).map Pos.Flt.row)) (by kernel_rfl) Tryz.func122 rfl rfl ?_;have l2:=fun H'=>h.l2 (H':=H')
 have e1:∀ lo K,VO (Z8 PT (R PT) lo 244 [ZO V.vF,.fn 245 [] []] H) K=K (.ps .unk ((r.faults.filter Flt.silent).map Pos.Flt.row)) H:=fun lo K=>by
  obtain ⟨t,H2,h1,_,_⟩:=Z9G h.sF.strip h.lF (g:=245) (caps:=[]) (q:=Flt.silent) rfl (fun x _ Hc _ lo K=>by
   have hp:=Ik x;simp only [Pos.Flt.row] at hp;simp (maxDischargeDepth:=12) only [go_sem,hp])
  refine ZF (en244 rfl) ⟨H2,h1⟩ rfl ?_;rfl
 simp (maxDischargeDepth:=12) only [go_sem,reduceEqDiff,reduceCtorEq,l2,e1]
theorem LG {H:Heap} {b o:Nat} {r:Reg} {V:RegV} (h:RegIs H b o r V) {Hc:Heap} (ho:Old H.n H Hc) {lo:Nat} {K:AV→Heap→Prop}:VO (Z8 PT (R PT) lo 122 [.ptr b o] Hc) K=K (.ps .unk ((r.faults.filter Flt.silent).map Pos.Flt.row)) Hc:=by
 obtain ⟨w,H2,h1,h2⟩:=Z9R (h.old ho);exact ZF (en122 rfl) ⟨H2,h1⟩ h2 rfl
theorem Z9S {H:Heap} {f:Flt} {id:Nat} {s:Nm} (hid:id < H.n) (hg:H.get id=.cells [.str s] 9) {lo:Nat} {K:AV→Heap→Prop}:VO (Z8 PT (R PT) lo 238 [.agg [.str f.name,.str f.track,.int .i64 f.frm,.int .i64 f.to,.int .i64 f.speed,.bool f.ans,.bool f.rep],.ptr id 0] H) K=K (.bool (decide (f.track=s))) H:=by
 obtain ⟨w,H2,h1,h2⟩:=Za (C:=PT) (f:=238) (lo:=H.n) (args:=[.agg [.str f.name,.str f.track,.int .i64 f.frm,.int .i64 f.to,.int .i64 f.speed,.bool f.ans,.bool f.rep],.ptr id 0]) (H:=H) (fn:=Tryz.f238) (Q:=fun w _=>w=.bool (decide (f.track=s))) (by kernel_rfl) Tryz.func238 rfl rfl (by
  have hne:(id=H.n)=False:=eq_false (by omega);simp (maxDischargeDepth:=12) only [go_sem,reduceEqDiff,reduceAdd,reduceCtorEq,hne,hg,Yu])
 exact ZF (en238 rfl) ⟨H2,h1⟩ (by rw [h2];rfl) rfl
theorem Z9T {H:Heap} {b o:Nat} {r:Reg} {V:RegV} (h:RegIs H b o r V) (s:Nm):∃ w H2,R PT (.call H.n 113 [.ptr b o,.str s] H)=some (.ofVal w H2)∧w=.bool (r.silentOn s):=by
 refine Za (C:=PT) (f:=113) (lo:=H.n) (args:=[.ptr b o,.str s]) (H:=H) (fn:=Tryz.f113) (Q:=fun w _=>w=.bool (r.silentOn s)) (by kernel_rfl) Tryz.func113 rfl rfl ?_;have e1:=fun lo K=>LG h ((Old.refl H).push (.cells [.str s] 9)) (lo:=lo) (K:=K)
 have e2:∀ lo K,VO (Z8 PT (R PT) lo 237 [.ps .unk ((r.faults.filter Flt.silent).map Pos.Flt.row),.fn 238 [] [.ptr H.n 0]] (H.push (.cells [.str s] 9))) K=K (.bool ((r.faults.filter Flt.silent).any fun f=>decide (f.track=s))) (H.push (.cells [.str s] 9)):=fun lo K =>
  Z9M (v:=.ps .unk ((r.faults.filter Flt.silent).map Pos.Flt.row)) (.inl ⟨_,rfl,rfl⟩) (Nat.le_trans (List.length_filter_le _ _) h.lF) rfl (fun x _ Hc ho lo K=>Z9S (Nat.lt_of_lt_of_le (by simp) ho.1) (by rw [ho.2 _ (by simp),Heap.get_push,if_pos rfl]))
 have e3:r.silentOn s=(r.faults.filter Flt.silent).any fun f=>decide (f.track=s):=by
  unfold Pos.Reg.silentOn;rw [List.any_filter]
  congr 1
  funext f
  rw [Bool.and_comm]
 rw [e3];simp (maxDischargeDepth:=12) only [go_sem,reduceEqDiff,reduceAdd,reduceCtorEq,e1,e2]
theorem LH {H:Heap} {b o:Nat} {r:Reg} {V:RegV} (h:RegIs H b o r V) (s:Nm) {Hc:Heap} (ho:Old H.n H Hc) {lo:Nat} {K:AV→Heap→Prop}:VO (Z8 PT (R PT) lo 113 [.ptr b o,.str s] Hc) K=K (.bool (r.silentOn s)) Hc:=by
 obtain ⟨w,H2,h1,h2⟩:=Z9T (h.old ho) s;exact ZF (en113 rfl) ⟨H2,h1⟩ (by rw [h2];rfl) rfl
end Go.Sim

namespace Go.Sim
open Go Go.Proofs
open Go.Sim.Pos (Nm Trk Flt Trn Pos Mch Reg Ev Len ZW Yd Y8 Ye minI)
set_option maxRecDepth 100000
set_option maxHeartbeats 8000000
def Vl (s:Nm) (f:Flt):Bool:=decide (f.track=s) && (f.ans && !f.rep)
def Vm (s:Nm) (p:Pos):Bool:=decide (p.track=s) && p.ret
theorem Z9U (a b:Int):minI a b≤a:=by unfold minI;split<;>omega
theorem LI (l:List Int) (a:Int):l.foldl minI a≤a:=by
 induction l generalizing a with
 | nil=>exact Int.le_refl _
 | cons x r ih=>exact Int.le_trans (ih _) (Z9U a x)
theorem LJ {α:Type} {q:α→Bool} {u:α→Int} {l:List α} {k:Nat} {x:α} (h:l[k]? = some x) (a:Int):(((l.take (k+1)).filter q).map u).foldl minI a=if q x then minI ((((l.take k).filter q).map u).foldl minI a) (u x) else (((l.take k).filter q).map u).foldl minI a:=by
 rw [Fj h];cases hq:q x with
 | true=>rw [if_pos rfl,if_pos rfl,List.map_append,List.foldl_append];rfl
 | false=>rw [if_neg (by simp),if_neg (by simp)]
theorem Z9V {H:Heap} {b o:Nat} {r:Reg} {V:RegV} (h:RegIs H b o r V) {s:Nm} {y:Trk} (hy:r.track? s=some y):∃ w H2,R PT (.call H.n 111 [.ptr b o,.str s] H)=some (.ofVal w H2)∧w=.int .i64 (r.permitted s):=by
 refine Za (C:=PT) (f:=111) (lo:=H.n) (args:=[.ptr b o,.str s]) (H:=H) (fn:=Tryz.f111) (Q:=fun w _=>w=.int .i64 (r.permitted s)) (by kernel_rfl) Tryz.func111 rfl rfl ?_;have l2:=fun H'=>h.l2 (H':=H')
 have l4:=fun H'=>h.l4 (H':=H')
 obtain ⟨i,hi,hx,hlt,_⟩:=XB hy;have e1:=fun lo K=>Z9D h hi hlt (Old.refl H) (lo:=lo) (K:=K)
 have e2:=el_T h hx;have hlenF:=fun H'=>h.sF.len (t:=44) (by kernel_rfl) H'
 have hlenP:=fun H'=>h.sP.len (t:=46) (by kernel_rfl) H'
 simp only [List.length_map] at hlenF hlenP;have hspec:r.permitted s=((r.poss.filter (Vm s)).map (·.speed)).foldl minI (((r.faults.filter (Vl s)).map (·.speed)).foldl minI y.speed):=by
  unfold Pos.Reg.permitted;rw [hy];rfl
 rw [hspec];simp (maxDischargeDepth:=12) only [go_sem,reduceEqDiff,reduceAdd,reduceCtorEq,e1,e2,l2,hlenF];refine ZK (fun k T Hc M=>M=[]∧Z2 T 0=.ptr b o∧Z2 T 1=.str s∧Z2 T 5=i64 y.speed∧Z2 T 6=i64 ((((r.faults.take k).filter (Vl s)).map (·.speed)).foldl minI y.speed)∧Z2 T 21=V.vF∧Z2 T 22=i64 (r.faults.length:Nat)∧Z2 T 23=i64 k∧Old H.n H Hc) r.faults.length ?_ ?_ ?_
 · simp (maxDischargeDepth:=12) only [go_sem,reduceEqDiff,reduceCtorEq];rfl
 · rintro k T Hc M hk ⟨rfl,g0,g1,g5,g6,g21,g22,g23,hO⟩;obtain ⟨x,hx⟩:∃ x,r.faults[k]? = some x:=⟨r.faults[k],by simp⟩;have hw:=ZP hk h.lF;have hN:=eq_true hO.1;have hi:=h.sF.idx (t:=44) (by kernel_rfl) (by kernel_rfl) (Zw (by intro x;rfl) _) (by rw [List.length_map];exact hk) .i64;have hd:=h.sF.ld (by kernel_rfl) (by kernel_rfl) (Zw (by intro x;rfl) _) (Y1 hx) hO;have hf:=LJ (q:=Vl s) (u:=(·.speed)) hx y.speed;obtain ⟨nm,tr,fa,fb,sp,an,re⟩:=x;simp only [Pos.Flt.row] at hd;obtain ⟨q,hq⟩:∃ q,Vl s ⟨nm,tr,fa,fb,sp,an,re⟩=q:=⟨_,rfl⟩;rw [hq] at hf;rw [hf];unfold Vl at hq;by_cases c1:tr=s<;>cases an<;>cases re
   all_goals
    simp only [c1,decide_true,decide_false,Bool.not_true,Bool.not_false,Bool.and_true,Bool.and_false] at hq;subst hq;generalize (((r.faults.take k).filter (Vl s)).map (·.speed)).foldl minI y.speed=z at *;simp (maxDischargeDepth:=12) only [go_sem,reduceEqDiff,reduceAdd,reduceCtorEq,g0,g1,g5,g6,g21,g22,g23,hk,hw,hN,hi,hd,hO,Yu,c1];try rfl
 · rintro T Hc M ⟨rfl,g0,g1,g5,g6,g21,g22,g23,hO⟩;rw [List.take_length] at g6;generalize hz:((r.faults.filter (Vl s)).map (·.speed)).foldl minI y.speed=z at *;have hz:z≤y.speed:=by rw [← hz];exact LI _ _
   simp (maxDischargeDepth:=12) only [go_sem,reduceEqDiff,reduceCtorEq,g0,g22,g23,Nat.lt_irrefl,l4,hlenP,hO];refine ZK (fun k T Hc M=>M=[]∧Z2 T 1=.str s∧Z2 T 5=i64 y.speed∧Z2 T 6=i64 ((((r.poss.take k).filter (Vm s)).map (·.speed)).foldl minI z)∧Z2 T 48=V.vP∧Z2 T 49=i64 (r.poss.length:Nat)∧Z2 T 50=i64 k∧Old H.n H Hc) r.poss.length ?_ ?_ ?_
   · simp (maxDischargeDepth:=12) only [go_sem,reduceEqDiff,g1,g5,g6];exact ⟨rfl,hO⟩
   · rintro k T Hc M hk ⟨rfl,g1,g5,g6,g48,g49,g50,hO⟩;obtain ⟨x,hx⟩:∃ x,r.poss[k]? = some x:=⟨r.poss[k],by simp⟩;have hw:=ZP hk h.lP;have hN:=eq_true hO.1;have hi:=h.sP.idx (t:=46) (by kernel_rfl) (by kernel_rfl) (Zw (by intro x;rfl) _) (by rw [List.length_map];exact hk) .i64;have hd:=h.sP.ld (by kernel_rfl) (by kernel_rfl) (Zw (by intro x;rfl) _) (Y1 hx) hO;have hf:=LJ (q:=Vm s) (u:=(·.speed)) hx z;obtain ⟨nm,tr,fa,fb,re,pr,op,cl,pe,sp⟩:=x;simp only [Pos.Pos.row] at hd;obtain ⟨q,hq⟩:∃ q,Vm s ⟨nm,tr,fa,fb,re,pr,op,cl,pe,sp⟩=q:=⟨_,rfl⟩;rw [hq] at hf;rw [hf];unfold Vm at hq;have hle:=LI (((r.poss.take k).filter (Vm s)).map (·.speed)) z;by_cases c1:tr=s<;>cases re<;>by_cases c2:sp < y.speed
     all_goals
      simp only [c1,decide_true,decide_false,Bool.and_true,Bool.and_false] at hq;subst hq;generalize (((r.poss.take k).filter (Vm s)).map (·.speed)).foldl minI z=z2 at *;simp (maxDischargeDepth:=12) only [go_sem,reduceEqDiff,reduceAdd,reduceLeDiff,g1,g5,g6,g48,g49,g50,hk,hw,hN,hi,hd,hO,Yu,c1,c2];try first
      | rfl
      | (have:minI z2 sp=z2:=by unfold minI;rw [if_neg (by omega)]
         simp only [this])
   · rintro T Hc M ⟨rfl,g1,g5,g6,g48,g49,g50,hO⟩;rw [List.take_length] at g6;simp (maxDischargeDepth:=12) only [go_sem,reduceEqDiff,reduceCtorEq,g6,g49,g50,Nat.lt_irrefl]
theorem AM {H:Heap} {b o:Nat} {r:Reg} {V:RegV} (h:RegIs H b o r V) {s:Nm} {y:Trk} (hy:r.track? s=some y) {Hc:Heap} (ho:Old H.n H Hc) {lo:Nat} {K:AV→Heap→Prop}:VO (Z8 PT (R PT) lo 111 [.ptr b o,.str s] Hc) K=K (.int .i64 (r.permitted s)) Hc:=by
 obtain ⟨w,H2,h1,h2⟩:=Z9V (h.old ho) hy;exact ZF (en111 rfl) ⟨H2,h1⟩ (by rw [h2];rfl) rfl
theorem U4 {H:Heap} {a:ABlk}:(H.push a).get H.n=a:=by rw [Heap.get_push,if_pos rfl]
theorem AN {H:Heap} {a b:ABlk}:((H.push a).push b).get H.n=a:=by rw [Heap.get_push,if_neg (by simp only [Heap.n_push];omega),U4]
theorem LK {H:Heap} {a b:ABlk}:((H.push a).push b).get (H.n+1)=b:=by rw [Heap.get_push];exact if_pos rfl
theorem n_pp {H:Heap} {a b:ABlk}:((H.push a).push b).n=H.n+1+1:=rfl
theorem en86:ZG 86:=ZI
theorem en199:ZG 199:=ZI
theorem en85:ZG 85:=ZI
theorem en197:ZG 197:=ZI
theorem AP {H:Heap} {v:AV} {l:List Mch} (hs:Sl H v 2 67 (l.map Pos.Mch.row)) (hl:l.length≤Z1) {g:FuncId} {caps:List AV} {q:Mch→Bool} (hc:caps.map ZO=caps) (hg:∀ x ∈ l,∀ Hc,Old H.n H Hc → ∀ lo K,VO (Z8 PT (R PT) lo g (.agg [.str x.name,.str x.poss]::caps) Hc) K=K (.bool (q x)) Hc) :
 ∃ t H2,(∀ lo K,VO (Z8 PT (R PT) lo 180 [ZO v,.fn g [] caps] H) K=K (.ps t ((l.filter q).map Pos.Mch.row)) H2)∧Zj H.n H2 t ((l.filter q).map Pos.Mch.row) 2 67∧Old H.n H H2:=by
 obtain ⟨t,H2,h1,h2⟩:=Z9I hs.strip hl hc hg;exact ⟨t,H2,fun lo K=>Q6 (en180 rfl) h1,h2⟩
theorem Z9W {H:Heap} {v:AV} {l:List Trn} (hs:Sl H v 3 61 (l.map Pos.Trn.row)) (hl:l.length≤Z1) {g:FuncId} {caps:List AV} {q:Trn→Bool} (hc:caps.map ZO=caps) (hg:∀ x ∈ l,∀ Hc,Old H.n H Hc → ∀ lo K,VO (Z8 PT (R PT) lo g (.agg [.str x.name,.str x.track,.int .i64 x.speed]::caps) Hc) K=K (.bool (q x)) Hc) :
 ∃ t H2,(∀ lo K,VO (Z8 PT (R PT) lo 167 [ZO v,.fn g [] caps] H) K=K (.ps t ((l.filter q).map Pos.Trn.row)) H2)∧Zj H.n H2 t ((l.filter q).map Pos.Trn.row) 3 61∧Old H.n H H2:=by
 obtain ⟨t,H2,h1,h2⟩:=Z9H hs.strip hl hc hg;exact ⟨t,H2,fun lo K=>Q6 (en167 rfl) h1,h2⟩
theorem Z9X {H:Heap} (l:List Mch) (hl:l.length≤Z1) :
 ∃ t H2,(∀ lo K,VO (Z8 PT (R PT) lo 196 [.ps .unk (l.map Pos.Mch.row),.fn 198 [] []] H) K=K (.ps t (Z0 (l.map (·.name)))) H2)∧Zj H.n H2 t (Z0 (l.map (·.name))) 1 9∧Old H.n H H2:=by
 obtain ⟨t,H2,h1,h2⟩:=Z9A (H:=H) (v:=.ps .unk (l.map Pos.Mch.row)) (l:=l) (.inl ⟨_,rfl,rfl⟩) hl;exact ⟨t,H2,fun lo K=>Q6 (LE rfl) h1,h2⟩
theorem Z9Y {H:Heap} {m:Mch} {id:Nat} {s:Nm} (hid:id < H.n) (hg:H.get id=.cells [.str s] 9) {lo:Nat} {K:AV→Heap→Prop}:VO (Z8 PT (R PT) lo 199 [.agg [.str m.name,.str m.poss],.ptr id 0] H) K=K (.bool (decide (m.poss=s))) H:=by
 obtain ⟨w,H2,h1,h2⟩:=Za (C:=PT) (f:=199) (lo:=H.n) (args:=[.agg [.str m.name,.str m.poss],.ptr id 0]) (H:=H) (fn:=Tryz.f199) (Q:=fun w _=>w=.bool (decide (m.poss=s))) (by kernel_rfl) Tryz.func199 rfl rfl (by
  have hne:(id=H.n)=False:=eq_false (by omega);simp (maxDischargeDepth:=12) only [go_sem,reduceEqDiff,reduceAdd,reduceCtorEq,hne,hg,Yu])
 exact ZF (en199 rfl) ⟨H2,h1⟩ (by rw [h2];rfl) rfl
theorem Z9Z {H:Heap} {m:Mch} {id:Nat} {s:Nm} (hid:id < H.n) (hg:H.get id=.cells [.str s] 9) {lo:Nat} {K:AV→Heap→Prop}:VO (Z8 PT (R PT) lo 197 [.agg [.str m.name,.str m.poss],.ptr id 0] H) K=K (.bool (decide (m.poss=s))) H:=by
 obtain ⟨w,H2,h1,h2⟩:=Za (C:=PT) (f:=197) (lo:=H.n) (args:=[.agg [.str m.name,.str m.poss],.ptr id 0]) (H:=H) (fn:=Tryz.f197) (Q:=fun w _=>w=.bool (decide (m.poss=s))) (by kernel_rfl) Tryz.func197 rfl rfl (by
  have hne:(id=H.n)=False:=eq_false (by omega);simp (maxDischargeDepth:=12) only [go_sem,reduceEqDiff,reduceAdd,reduceCtorEq,hne,hg,Yu])
 exact ZF (en197 rfl) ⟨H2,h1⟩ (by rw [h2];rfl) rfl
theorem ab2 (a b:Int):YU NC.P 73 [(0,.int .i64 a),(1,.int .i64 b)]=some (.agg [.int .i64 a,.int .i64 b]):=by kernel_rfl
theorem Za0 {H:Heap} {b o:Nat} {r:Reg} {V:RegV} (h:RegIs H b o r V) {s:Nm} {p:Pos} (hp:r.poss? s=some p):∃ w H2,R PT (.call H.n 86 [.ptr b o,.str s] H)=some (.ofVal w H2)∧w=.agg [i64 ((r.within s).length:Nat),i64 p.pers]:=by
 refine Za (C:=PT) (f:=86) (lo:=H.n) (args:=[.ptr b o,.str s]) (H:=H) (fn:=Tryz.f86) (Q:=fun w _=>w=.agg [i64 ((r.within s).length:Nat),i64 p.pers]) (by kernel_rfl) Tryz.func86 rfl rfl ?_;have l5:=fun H'=>h.l5 (H':=H')
 obtain ⟨i,hi,hx,hlt,_⟩:=XB hp;obtain ⟨id,he,hP⟩:=YZ h hx;obtain ⟨z,hz⟩:∃ z,ZJ NC.P 73=some z:=⟨_,CK⟩;have hO1:Old H.n H ((H.push (.cells [.str s] 9)).push (.cells z.cells 73)):=((Old.refl H).push _).push _;obtain ⟨t,H2,m5,hA,hO2⟩:=AP (h.sM.old hO1) h.lM (g:=199) (caps:=[.ptr H.n 0]) (q:=fun m=>decide (m.poss=s)) rfl (fun x _ Hc ho lo K=>Z9Y (Nat.lt_of_lt_of_le (by rw [n_pp];omega) ho.1) (by rw [ho.2 _ (by rw [n_pp];omega),AN]));have hO:=hO1.to hO2;have e1:=fun lo K=>XK h hi hlt hO (lo:=lo) (K:=K)
 rw [CK] at hz;cases hz;have b1:H2.get H.n=.cells [.str s] 9:=by rw [hO2.2 _ (by rw [n_pp];omega),AN]
 have b2:H2.get (H.n+1)=.cells [.int .i64 0,.int .i64 0] 73:=by rw [hO2.2 _ (by rw [n_pp];omega),LK];rfl
 simp only [AV.cells] at m5;simp (maxDischargeDepth:=12) only [go_sem,reduceEqDiff,reduceAdd,reduceCtorEq,l5,m5,e1,he,hP.f8,hO,b1,b2,ab2];rfl
theorem AQ {H:Heap} {b o:Nat} {r:Reg} {V:RegV} (h:RegIs H b o r V) {s:Nm} {p:Pos} (hp:r.poss? s=some p) {Hc:Heap} (ho:Old H.n H Hc) {lo:Nat} {K:AV→Heap→Prop}:VO (Z8 PT (R PT) lo 86 [.ptr b o,.str s] Hc) K=K (.agg [i64 ((r.within s).length:Nat),i64 p.pers]) Hc:=by
 obtain ⟨w,H2,h1,h2⟩:=Za0 (h.old ho) hp;exact ZF (en86 rfl) ⟨H2,h1⟩ (by rw [h2];rfl) rfl
def YI (r:Reg) (s:Nm) (p:Pos):List Nm:=(r.within s).map (·.name)++(if 0 < p.pers then [[115,116,97,102,102]] else [])++(if p.opn then [[109,101,97,115,117,114,101,109,101,110,116]] else [])++(if p.prot then [[112,114,111,116,101,99,116,105,111,110]] else [])
theorem AR {b lo:Nat} {H:Heap} {t:Tok} {l:List Nm} (c:Prop) [Decidable c] (x:Nm) (h:Zj b H t (Z0 l) 1 9) (hb:b≤H.n) (hlo:lo≤b) (hl:l.length+1≤Z1) :
 ∃ u K,(c→Xn lo H 1 9 (.ps t (Z0 l)) [[.str x]]=some (.ps u (Z0 (l++if c then [x] else [])),K))∧(¬ c→u=t∧K=H)∧Zj b K u (Z0 (l++if c then [x] else [])) 1 9∧Old b H K:=by
 by_cases hc:c
 · obtain ⟨t',H',ha,hA',_,hO,_⟩:=YR h hb hlo (r:=[.str x]) (by rw [Zt];exact hl) rfl (by decide) (Xz _);have e1:Z0 l++[[AV.str x].map AV.strip0]=Z0 (l++if c then [x] else []):=by
    rw [if_pos hc];unfold Z0;rw [List.map_append];rfl
   rw [e1] at ha hA';exact ⟨t',H',fun _=>ha,fun h=>absurd hc h,hA',hO⟩
 · rw [if_neg hc,List.append_nil];exact ⟨t,H,fun h=>absurd h hc,fun _=>⟨rfl,rfl⟩,h,⟨hb,fun _ _=>rfl⟩⟩
theorem Za1 {H:Heap} {b o:Nat} {r:Reg} {V:RegV} (h:RegIs H b o r V) {s:Nm} {p:Pos} (hp:r.poss? s=some p) (hM:r.machs.length+3≤Z1):∃ w H2,R PT (.call H.n 85 [.ptr b o,.str s] H)=some (.ofVal w H2)∧w.strip=.ps .unk (Z0 (YI r s p)):=by
 refine Za (C:=PT) (f:=85) (lo:=H.n) (args:=[.ptr b o,.str s]) (H:=H) (fn:=Tryz.f85) (Q:=fun w _=>w.strip=.ps .unk (Z0 (YI r s p))) (by kernel_rfl) Tryz.func85 rfl rfl ?_;have l5:=fun H'=>h.l5 (H':=H')
 obtain ⟨i,hi,hx,hlt,_⟩:=XB hp;obtain ⟨id,he,hP⟩:=YZ h hx;have hO1:Old H.n H (H.push (.cells [.str s] 9)):=(Old.refl H).push _;obtain ⟨t,H2,m5,hA,hO2⟩:=AP (h.sM.old hO1) h.lM (g:=197) (caps:=[.ptr H.n 0]) (q:=fun m=>decide (m.poss=s)) rfl (fun x _ Hc ho lo K=>Z9Z (Nat.lt_of_lt_of_le (by simp only [Heap.n_push];omega) ho.1) (by rw [ho.2 _ (by simp only [Heap.n_push];omega),U4]));have hle:(r.machs.filter fun m=>decide (m.poss=s)).length≤r.machs.length:=List.length_filter_le _ _;obtain ⟨t3,H3,m6,hA3,hO3⟩:=Z9X (H:=H2) (r.machs.filter fun m=>decide (m.poss=s)) (by omega);have hO12:=hO1.to hO2;have hO:=hO12.to hO3;have b1:H3.get H.n=.cells [.str s] 9:=by
  rw [hO3.2 _ (Nat.lt_of_lt_of_le (by simp only [Heap.n_push];omega) hO2.1),hO2.2 _ (by simp only [Heap.n_push];omega),U4]
 obtain ⟨u1,K1,a1,c1,A1,O1⟩:=AR (lo:=H.n) (b:=H2.n) (0 < p.pers) [115,116,97,102,102] hA3 hO3.1 hO12.1 (by rw [List.length_map];omega);have n1:∀ (c:Prop) [Decidable c] (x:Nm) (l:List Nm),(l++if c then [x] else []).length≤l.length+1:=fun c _ x l=>by
  rw [List.length_append];split<;>simp
 have q1:=n1 (0 < p.pers) [115,116,97,102,102] ((r.machs.filter fun m=>decide (m.poss=s)).map (·.name));rw [List.length_map] at q1;obtain ⟨u2,K2,a2,c2,A2,O2⟩:=AR (lo:=H.n) (b:=H2.n) (p.opn=true) [109,101,97,115,117,114,101,109,101,110,116] A1 O1.1 hO12.1 (by omega);have q2:=n1 (p.opn=true) [109,101,97,115,117,114,101,109,101,110,116] ((r.machs.filter fun m=>decide (m.poss=s)).map (·.name)++if 0 < p.pers then [[115,116,97,102,102]] else [])
 obtain ⟨u3,K3,a3,c3,A3,O3⟩:=AR (lo:=H.n) (b:=H2.n) (p.prot=true) [112,114,111,116,101,99,116,105,111,110] A2 O2.1 hO12.1 (by omega);have hO4:Old H.n H K1:=⟨Nat.le_trans hO12.1 O1.1,fun j hj=>by rw [O1.2 j (Nat.lt_of_lt_of_le hj hO12.1),hO.2 j hj]⟩;have hO5:Old H.n H K2:=⟨Nat.le_trans hO12.1 O2.1,fun j hj=>by rw [O2.2 j (Nat.lt_of_lt_of_le hj hO12.1),hO4.2 j hj]⟩;have e1:=fun lo K=>XK h hi hlt hO (lo:=lo) (K:=K)
 have hL:YI r s p=(((r.machs.filter fun m=>decide (m.poss=s)).map (·.name)++if 0 < p.pers then [[115,116,97,102,102]] else [])++if p.opn=true then [[109,101,97,115,117,114,101,109,101,110,116]] else [])++if p.prot=true then [[112,114,111,116,101,99,116,105,111,110]] else []:=rfl
 rw [hL];generalize hL0:(r.machs.filter fun m=>decide (m.poss=s)).map (·.name)=L0 at *;generalize hL1:(L0++if 0 < p.pers then [[115,116,97,102,102]] else [])=L1 at *
 generalize hL2:(L1++if p.opn=true then [[109,101,97,115,117,114,101,109,101,110,116]] else [])=L2 at *
 generalize hL3:(L2++if p.prot=true then [[112,114,111,116,101,99,116,105,111,110]] else [])=L3 at *
 have hopn:=hP.f6 (H':=K1) hO4;have hprot:=hP.f5 (H':=K2) hO5;have hpers:=hP.f8 (H':=H3) hO;have s1:=Xz L0;have s2:=Xz L1;have s3:=Xz L2;by_cases g1:0 < p.pers<;>cases g2:p.opn<;>cases g3:p.prot
 all_goals
  rw [g2] at hopn;rw [g3] at hprot
  first | (have d1:=a1 g1) | (obtain ⟨rfl,rfl⟩:=c1 g1;have e0:L1=L0:=(by rw [← hL1,if_neg g1];simp);subst e0)
  first | (have d2:=a2 g2) | (obtain ⟨rfl,rfl⟩:=c2 (by rw [g2];simp);have e2:L2=L1:=(by rw [← hL2,g2];simp);subst e2)
  first | (have d3:=a3 g3) | (obtain ⟨rfl,rfl⟩:=c3 (by rw [g3];simp))
  simp (maxDischargeDepth:=12) only [go_sem,reduceEqDiff,reduceAdd,reduceMul,reduceLeDiff,reduceCtorEq,ZT, *];try (rw [← hL3,← hL2,g2,g3];simp)
theorem AS {H:Heap} {b o:Nat} {r:Reg} {V:RegV} (h:RegIs H b o r V) {s:Nm} {p:Pos} (hp:r.poss? s=some p) (hM:r.machs.length+3≤Z1) {Hc:Heap} (ho:Old H.n H Hc) {lo:Nat} {K:AV→Heap→Prop}:VO (Z8 PT (R PT) lo 85 [.ptr b o,.str s] Hc) K=K (.ps .unk (Z0 (YI r s p))) Hc:=by
 obtain ⟨w,H2,h1,h2⟩:=Za1 (h.old ho) hp hM;exact ZF (en85 rfl) ⟨H2,h1⟩ h2 rfl
end Go.Sim

namespace Go.Sim
open Go Go.Proofs
open Go.Sim.Pos (Nm Trk Flt Trn Pos Mch Reg Ev)
set_option maxRecDepth 100000
set_option maxHeartbeats 8000000
theorem ins_Q (lo:Nat) (H:Heap) (m:Nat) (s:Nm) (v:AV) (K:Heap→Prop):AO (Qb NC.P lo H 214 (.map m) (.str s) v) K=VR (lo≤m) H m s v.strip (AO (Iz NC.P lo H 214 (.map m) (.str s) v) K) K:=by
 unfold VR;split
 · rename_i hlo
   unfold UV;split
   · rename_i es hg
     unfold insF;split
     · rename_i hf
       have e:Qb NC.P lo H 214 (.map m) (.str s) v=some (H.set m (.map (es++[(.str s,v.strip)]))):=by
        unfold Qb;rw [CM];simp only [keyS,hlo,decide_true,Bool.and_true,if_true,hg,A7 s es 0 hf]
       rw [e];rfl
     · rfl
   · rfl
 · rfl
attribute [go_sem ↓] ins_Q
theorem Za2 {H:Heap} {m:Nat} {es:List (AV × AV)} (hg:H.get m=.map es) (hk:∀ x ∈ es,∃ k,x.1=.str k) (s:Nm):QC NC.P H 214 (.map m) (.str s) true=some (match lkS s es with
 | some v=>.tup [v,.bool true]
 | none=>.tup [.agg [.int .u8 0,.nilf],.bool false])∧QC NC.P H 214 (.map m) (.str s) false=some (match lkS s es with
 | some v=>v
 | none=>.agg [.int .u8 0,.nilf]):=by
 have hl:=A8 s es 0 hk;have hz:ZJ NC.P 212=some (.agg [.int .u8 0,.nilf]):=by kernel_rfl
 have hm:Vu H (.map m)=some es:=by unfold Vu;simp only [hg]
 unfold QC;rw [CM];simp only [keyS,if_true,hz,hm];cases hv:lkS s es with
 | none =>
   rw [hl.1 hv];exact ⟨rfl,rfl⟩
 | some v =>
   obtain ⟨j,k,e⟩:=hl.2 v hv;rw [e];exact ⟨rfl,rfl⟩
def Jm:List (AV × AV):=[
 (.str Pos.Ky,.agg [.int .u8 116,.fn 211 [] []]),
 (.str Pos.UP,.agg [.int .u8 116,.fn 212 [] []]),
 (.str Pos.Kz,.agg [.int .u8 112,.fn 216 [] []]),
 (.str Pos.UQ,.agg [.int .u8 112,.fn 217 [] []]),
 (.str Pos.Vb,.agg [.int .u8 0,.fn 218 [] []]),
 (.str Pos.UR,.agg [.int .u8 0,.fn 220 [] []]),
 (.str Pos.US,.agg [.int .u8 0,.fn 225 [] []])]
theorem Za3:∀ x ∈ Jm,∃ k,x.1=.str k:=by
 intro x hx;simp only [Jm,List.mem_cons,List.not_mem_nil,or_false] at hx;rcases hx with rfl | rfl | rfl | rfl | rfl | rfl | rfl<;>exact ⟨_,rfl⟩
theorem JH:Q5 102:=Qj
theorem Za4 {P:PF} (lo:Nat) (H:Heap) (hlo:lo≤H.n):∃ H',R (NC.withPrims P) (.call lo 102 [] H)=some (.ofVal (.map H.n) H')∧H'.n=H.n+1∧(∀ i,i < H.n→H'.get i=H.get i)∧H'.get H.n=.map Jm:=by
 obtain ⟨v,H',h1,rfl,h2⟩:=Za (C:=NC.withPrims P) (f:=102) (lo:=lo) (args:=[]) (H:=H) (fn:=Tryz.f102) (Q:=fun v H'=>v=.map H.n∧H'.n=H.n+1∧(∀ i,i < H.n→H'.get i=H.get i)∧H'.get H.n=.map Jm) (by kernel_rfl) Tryz.func102 rfl rfl (by
  have hl:=eq_true hlo;simp (maxDischargeDepth:=12) only [go_sem,reduceEqDiff,reduceAdd,reduceCtorEq,hl,Vd,Yu,List.cons.injEq,false_and,and_false,decide_false,cond_false,reduceAdd];refine ⟨fun i hi => ?_, ?_⟩
  · have e0:(i=H.n)=False:=by simp only [eq_iff_iff,iff_false];omega
    simp only [e0,if_false]
  · rfl)
 exact ⟨H',h1,h2⟩
theorem en211:ZG 211:=ZI
theorem en216:ZG 216:=ZI
theorem en218:ZG 218:=ZI
theorem en219:ZG 219:=ZI
theorem e_q51 {f:Flt} {H:Heap} {lo:Nat} {K:AV→Heap→Prop}:VO (Z8 PT (R PT) lo 219 [.agg [.str f.name,.str f.track,.int .i64 f.frm,.int .i64 f.to,.int .i64 f.speed,.bool f.ans,.bool f.rep]] H) K=K (.str f.name) H:=by
 obtain ⟨w,H2,h1,h2⟩:=Za (C:=PT) (f:=219) (lo:=H.n) (args:=[.agg [.str f.name,.str f.track,.int .i64 f.frm,.int .i64 f.to,.int .i64 f.speed,.bool f.ans,.bool f.rep]]) (H:=H) (fn:=Tryz.f219) (Q:=fun w _=>w=.str f.name) (by kernel_rfl) Tryz.func219 rfl rfl (by
  simp (maxDischargeDepth:=12) only [go_sem,reduceAdd,reduceLeDiff,reduceCtorEq])
 exact ZF (en219 rfl) ⟨H2,h1⟩ (by rw [h2];rfl) rfl
theorem Za5 {H:Heap} {v:AV} {l:List Flt} (hs:Sl H v 7 65 (l.map Pos.Flt.row)) (hl:l.length≤Z1):∃ t H2,R PT (.call H.n 121 [v,.fn 219 [] []] H)=some (.ofVal (.ps t (Z0 (l.map (·.name)))) H2)∧Zj H.n H2 t (Z0 (l.map (·.name))) 1 9∧Old H.n H H2:=by
 obtain ⟨w,H2,h1,t,rfl,h2⟩:=Za (C:=PT) (f:=121) (lo:=H.n) (args:=[v,.fn 219 [] []]) (H:=H) (fn:=Tryz.f121) (Q:=fun w H2=>∃ t,w=.ps t (Z0 (l.map (·.name)))∧Zj H.n H2 t (Z0 (l.map (·.name))) 1 9∧Old H.n H H2) (by kernel_rfl) Tryz.func121 rfl rfl (by
  have hlen:=fun H'=>hs.len (t:=44) (by kernel_rfl) H'
  simp only [List.length_map] at hlen;simp (maxDischargeDepth:=12) only [go_sem,reduceEqDiff,reduceAdd,reduceCtorEq,hlen];refine ZK (fun k T Hc M=>M=[]∧Z2 T 1=.fn 219 [] []∧Z2 T 8=v∧Z2 T 9=i64 (l.length:Nat)∧Z2 T 10=i64 k∧Old H.n H Hc ∧ ∃ t,Z2 T 5=.ps t (Z0 ((l.take k).map (·.name)))∧Zj H.n Hc t (Z0 ((l.take k).map (·.name))) 1 9) l.length ?_ ?_ ?_
  · simp (maxDischargeDepth:=12) only [go_sem,reduceEqDiff,reduceCtorEq];exact ⟨.nil,rfl,.inl ⟨rfl,rfl⟩⟩
  · rintro k T Hc M hk ⟨rfl,g1,g8,g9,g10,hO,t,g5,hA⟩;obtain ⟨x,hx⟩:∃ x,l[k]? = some x:=⟨l[k],by simp⟩;have hw:=ZP hk hl;have hN:=eq_true hO.1;have hi:=hs.idx (t:=44) (by kernel_rfl) (by kernel_rfl) (Zw (by intro x;rfl) l) (by rw [List.length_map];exact hk) .i64;have hd:=hs.ld (by kernel_rfl) (by kernel_rfl) (Zw (by intro x;rfl) l) (Y1 hx) hO;have hA1:=hA.new (.cells (default:List AV) 0) (.cells (Pos.Flt.row x) 65);have hz:∃ z,ZJ NC.P 65=some z:=⟨_,Kr⟩;obtain ⟨z,hz⟩:=hz;have hA1:=hA.new (.cells z.cells 65) (.cells (Pos.Flt.row x) 65);obtain ⟨t',H',ha,hA',_,hO',_⟩:=YR (lo:=H.n) hA1 (by simp;have:=hO.1;omega) (Nat.le_refl _) (r:=[.str x.name]) (by rw [Zt,List.length_map,List.length_take];omega) rfl (by decide) (Xz _);have e1:[AV.str x.name].map AV.strip0=[.str x.name]:=rfl;rw [e1,← KJ hx] at ha hA';have hO2:Old H.n H H':=(hO.new _ _).trans hO';rw [Kr] at hz;cases hz;simp only [Pos.Flt.row] at hd ha;simp (maxDischargeDepth:=12) only [go_sem] at ha;have hp:=fun H lo K=>e_q51 (f:=x) (H:=H) (lo:=lo) (K:=K)
    simp (maxDischargeDepth:=12) only [go_sem,reduceEqDiff,reduceAdd,reduceMul,reduceLeDiff,g1,g5,g8,g9,g10,hk,hw,hN,hi,hd,hp,ZT,ha];exact ⟨hO2,t',rfl,hA'⟩
  · rintro T Hc M ⟨rfl,g1,g8,g9,g10,hO,t,g5,hA⟩;rw [List.take_length] at g5 hA;simp (maxDischargeDepth:=12) only [go_sem,reduceEqDiff,reduceCtorEq,g5,g9,g10,Nat.lt_irrefl];exact ⟨t,rfl,hA,hO⟩)
 exact ⟨t,H2,h1,h2⟩
theorem Za6 {H:Heap} {v:AV} {l:List Flt} (hs:Sl H v 7 65 (l.map Pos.Flt.row)) (hl:l.length≤Z1) {Hc:Heap} (ho:Old H.n H Hc) {lo:Nat} {K:AV→Heap→Prop}:VO (Z8 PT (R PT) lo 121 [ZO v,.fn 219 [] []] Hc) K=K (.ps .unk (Z0 (l.map (·.name)))) Hc:=by
 obtain ⟨t,H2,h1,_⟩:=Za5 (hs.old ho).strip hl;exact ZF (LD rfl) ⟨H2,h1⟩ rfl rfl
theorem e_q1 {H:Heap} {b o:Nat} {r:Reg} {V:RegV} (h:RegIs H b o r V) {s:Nm} {y:Trk} (hy:r.track? s=some y) (hI:itR (r.permitted s)) {Hc:Heap} (ho:Old H.n H Hc) {lo:Nat} {K:AV→Heap→Prop}:VO (Z8 PT (R PT) lo 211 [.ptr b o,.str s] Hc) K=K (.ps .unk (Z0 [Zi (r.permitted s)])) Hc:=by
 have h':=h.old ho;obtain ⟨w,H2,h1,h2⟩:=Za (C:=PT) (f:=211) (lo:=Hc.n) (args:=[.ptr b o,.str s]) (H:=Hc) (fn:=Tryz.f211) (Q:=fun w _=>w.strip=.ps .unk (Z0 [Zi (r.permitted s)])) (by kernel_rfl) Tryz.func211 rfl rfl (by
  have e1:=fun lo K=>AM h' hy (Old.refl Hc) (lo:=lo) (K:=K)
  have e2:=F6 hI;simp (maxDischargeDepth:=12) only [go_sem,reduceEqDiff,reduceAdd,reduceMul,reduceLeDiff,reduceCtorEq,e1,e2];rfl)
 exact ZF (en211 rfl) ⟨H2,h1⟩ h2 rfl
theorem e_q3 {H:Heap} {b o:Nat} {r:Reg} {V:RegV} (h:RegIs H b o r V) {s:Nm} {p:Pos} (hp:r.poss? s=some p) (hM:r.machs.length+3≤Z1) {Hc:Heap} (ho:Old H.n H Hc) {lo:Nat} {K:AV→Heap→Prop}:VO (Z8 PT (R PT) lo 216 [.ptr b o,.str s] Hc) K=K (.ps .unk (Z0 (YI r s p))) Hc:=by
 have h':=h.old ho;obtain ⟨w,H2,h1,h2⟩:=Za (C:=PT) (f:=216) (lo:=Hc.n) (args:=[.ptr b o,.str s]) (H:=Hc) (fn:=Tryz.f216) (Q:=fun w _=>w.strip=.ps .unk (Z0 (YI r s p))) (by kernel_rfl) Tryz.func216 rfl rfl (by
  have e1:=fun lo K=>AS h' hp hM (Old.refl Hc) (lo:=lo) (K:=K)
  simp (maxDischargeDepth:=12) only [go_sem,reduceEqDiff,reduceAdd,reduceCtorEq,e1])
 exact ZF (en216 rfl) ⟨H2,h1⟩ h2 rfl
theorem e_q5 {H:Heap} {b o:Nat} {r:Reg} {V:RegV} (h:RegIs H b o r V) {s:Nm} {Hc:Heap} (ho:Old H.n H Hc) {lo:Nat} {K:AV→Heap→Prop}:VO (Z8 PT (R PT) lo 218 [.ptr b o,.str s] Hc) K=K (.ps .unk (Z0 ((r.faults.filter Flt.silent).map (·.name)))) Hc:=by
 have h':=h.old ho;obtain ⟨w,H2,h1,h2⟩:=Za (C:=PT) (f:=218) (lo:=Hc.n) (args:=[.ptr b o,.str s]) (H:=Hc) (fn:=Tryz.f218) (Q:=fun w _=>w.strip=.ps .unk (Z0 ((r.faults.filter Flt.silent).map (·.name)))) (by kernel_rfl) Tryz.func218 rfl rfl (by
  have e1:=fun lo K=>LG h' (Old.refl Hc) (lo:=lo) (K:=K)
  have e2:∀ lo K,VO (Z8 PT (R PT) lo 121 [.ps .unk ((r.faults.filter Flt.silent).map Pos.Flt.row),.fn 219 [] []] Hc) K=K (.ps .unk (Z0 ((r.faults.filter Flt.silent).map (·.name)))) Hc:=fun lo K=>Za6 (v:=.ps .unk ((r.faults.filter Flt.silent).map Pos.Flt.row)) (.inl ⟨_,rfl,rfl⟩) (Nat.le_trans (List.length_filter_le _ _) h.lF) (Old.refl Hc) (lo:=lo) (K:=K)
  simp (maxDischargeDepth:=12) only [go_sem,reduceEqDiff,reduceAdd,reduceCtorEq,e1,e2];try rfl)
 exact ZF (en218 rfl) ⟨H2,h1⟩ h2 rfl
end Go.Sim

namespace Go.Sim
open Go Go.Proofs
open Go.Sim.Pos (Nm Trk Flt Trn Pos Mch Reg Ev Len ZW Yd Y8 Ye minI)
set_option maxRecDepth 100000
set_option maxHeartbeats 8000000
def Q8 (s:Nm) (p:Pos):Bool:=decide (p.track=s) && !p.ret
theorem en116:Q5 116:=Qj
theorem Za7 {H:Heap} {lo b o:Nat} {s:Nm}:R PT (.call lo 116 [.ptr b o,.str s] H)=some (.ofVal (.fn 240 [] [.ptr H.n 0,.ptr (H.n+1) 0]) ((H.push (.cells [.ptr b o] 163)).push (.cells [.str s] 9))):=by
 obtain ⟨v,H2,h1,rfl,rfl⟩:=Za (C:=PT) (f:=116) (lo:=lo) (args:=[.ptr b o,.str s]) (H:=H) (fn:=Tryz.f116) (Q:=fun w H2=>w=.fn 240 [] [.ptr H.n 0,.ptr (H.n+1) 0]∧H2=(H.push (.cells [.ptr b o] 163)).push (.cells [.str s] 9)) (by kernel_rfl) Tryz.func116 rfl rfl (by
  simp (maxDischargeDepth:=12) only [go_sem,reduceEqDiff,reduceAdd,reduceCtorEq])
 exact h1
theorem LL {H:Heap} {lo b o:Nat} {s:Nm} {K:AV→Heap→Prop}:VO (Z8 PT (R PT) lo 116 [.ptr b o,.str s] H) K=K (.fn 240 [] [.ptr H.n 0,.ptr (H.n+1) 0]) ((H.push (.cells [.ptr b o] 163)).push (.cells [.str s] 9)):=Q6 (en116 rfl) Za7
theorem Za8 {lo y c1 c2 base b o:Nat} {H0 H:Heap} {r:Reg} {V:RegV} {s:Nm} (h:RegIs H0 b o r V) (hlo:lo≤base) (hbase:H0.n≤base) (J:Nat→Heap→Prop) (E:Heap→Prop)
 (hJ0:J 0 H) (hb0:base≤H.n) (hJo:∀ k H,J k H→Old H0.n H0 H) (hJ1:∀ k H,J k H→H.get c1=.cells [.ptr b o] 163) (hJ2:∀ k H,J k H→H.get c2=.cells [.str s] 9) (hc1:c1 < base) (hc2:c2 < base)
 (hJp:∀ k H b,J k H→base≤H.n→J k (H.push b)) (hJs:∀ k H b j,J k H→base≤j→J k (H.set j b))
 (hJn:∀ k p H,r.poss[k]? = some p→Q8 s p=false→J k H→J (k+1) H)
 (hy:∀ k p H,r.poss[k]? = some p→Q8 s p=true→J k H→base≤H.n → ∃ v H',R PT (.yield lo y [.agg p.row] H)=some (.ofVal (.bool v) H')∧(if v then J (k+1) H' else E H')∧H.n≤H'.n ∧ ∀ j,base≤j→j < H.n→H'.get j=H.get j) :
 ∃ v H',R PT (.call lo 240 [.yld y,.ptr c1 0,.ptr c2 0] H)=some (.ofVal v H')∧(J r.poss.length H'∨E H'):=by
 refine Za (C:=PT) (fn:=Tryz.f240) (Q:=fun _ H'=>J r.poss.length H'∨E H') (by kernel_rfl) Tryz.func240 rfl rfl ?_;have hc:=hJ1 0 H hJ0;have l4:=fun H'=>h.l4 (H':=H')
 have hO:=hJo 0 H hJ0;have hlenP:=fun H'=>h.sP.len (t:=46) (by kernel_rfl) H'
 simp only [List.length_map] at hlenP;simp (maxDischargeDepth:=12) only [go_sem,reduceEqDiff,reduceAdd,reduceCtorEq,hc,l4,hO,hlenP];refine ZK (fun k T' H' M'=>M'=[]∧Z2 T' 0=.yld y∧Z2 T' 2=.ptr c2 0∧Z2 T' 9=V.vP∧Z2 T' 10=i64 (r.poss.length:Nat)∧Z2 T' 11=i64 k∧J k H'∧base≤H'.n) r.poss.length ?_ ?_ ?_
 · simp (maxDischargeDepth:=12) only [go_sem,reduceEqDiff,reduceCtorEq];exact ⟨hJ0,hb0⟩
 · rintro k T' H' M' hk ⟨rfl,g0,g2,g9,g10,g11,hJ,hb⟩;obtain ⟨p,hp⟩:∃ p,r.poss[k]? = some p:=⟨r.poss[k],by simp⟩;have hw:=ZP hk h.lP;have hO:=hJo k H' hJ;have hlo':lo≤H'.n:=Nat.le_trans hlo hb;have hi:=h.sP.idx (t:=46) (by kernel_rfl) (by kernel_rfl) (Zw (by intro x;rfl) _) (by rw [List.length_map];exact hk) .i64;have hd:=h.sP.ld (by kernel_rfl) (by kernel_rfl) (Zw (by intro x;rfl) _) (Y1 hp) hO;have hs2:=hJ2 k H' hJ;have hne:(c2=H'.n)=False:=eq_false (by omega);obtain ⟨z,hz⟩:∃ z,ZJ NC.P 59=some z:=⟨_,VI⟩;have hJ':=hJs _ _ (.cells p.row 59) H'.n (hJp _ _ (.cells z.cells 59) hJ hb) hb;by_cases ho:Q8 s p=true
   · obtain ⟨v,H2,hr,h1,h2,h3⟩:=hy k p ((H'.push (.cells z.cells 59)).set H'.n (.cells p.row 59)) hp ho hJ' (by simp only [Heap.n_set,Heap.n_push];omega);have h4:=h3 H'.n hb (by simp);rw [Heap.get_set,if_pos rfl] at h4;rw [VI] at hz;cases hz;obtain ⟨nm,tr,fa,fb,re,pr,op,cl,pe,sp⟩:=p;have ho2:tr=s∧re=false:=by simpa [Q8] using ho
     obtain ⟨ht,hre⟩:=ho2;subst hre;subst ht;simp only [Pos.Pos.row] at hd h4 hr;simp only [AV.cells] at hr;simp only [Heap.n_set,Heap.n_push] at h2;cases v with
     | true =>
       simp (maxDischargeDepth:=12) only [go_sem,reduceEqDiff,reduceAdd,reduceLeDiff,reduceCtorEq,g0,g2,g9,g10,g11,hk,hw,hi,hd,hs2,hne,hlo',Yu,hr,Di,Dj];exact ⟨h1,by omega⟩
     | false =>
       simp (maxDischargeDepth:=12) only [go_sem,reduceEqDiff,reduceAdd,reduceLeDiff,reduceCtorEq,g0,g2,g9,g10,g11,hk,hi,hd,hs2,hne,hlo',Yu,hr,Di,Dj];exact .inr h1
   · have ho:Q8 s p=false:=by simpa using ho
     have hJn':=hJn k p _ hp ho hJ';rw [VI] at hz;cases hz;obtain ⟨nm,tr,fa,fb,re,pr,op,cl,pe,sp⟩:=p;simp only [Pos.Pos.row] at hd hJn';simp only [AV.cells] at hJn';by_cases c1:tr=s
     · have hre:re=true:=by
        unfold Q8 at ho;simpa [c1] using ho
       subst hre;simp (maxDischargeDepth:=12) only [go_sem,reduceEqDiff,reduceAdd,reduceLeDiff,reduceCtorEq,g0,g2,g9,g10,g11,hk,hw,hi,hd,hs2,hne,hlo',Yu,c1];exact ⟨by simpa only [c1] using hJn',by omega⟩
     · simp (maxDischargeDepth:=12) only [go_sem,reduceEqDiff,reduceAdd,reduceLeDiff,reduceCtorEq,g0,g2,g9,g10,g11,hk,hw,hi,hd,hs2,hne,hlo',Yu,c1];exact ⟨hJn',by omega⟩
 · rintro T' H' M' ⟨rfl,g0,g2,g9,g10,g11,hJ,hb⟩;simp (maxDischargeDepth:=12) only [go_sem,reduceCtorEq,g10,g11,Nat.lt_irrefl];exact .inl hJ
theorem LM {lo:Nat} {fid:FuncId} {g:Operand} {params:Array Tmp} {pa:Tmp} (hpar:params.toList=[pa]) {assign body:Code} {T:TT AV} {H0 H:Heap} {M:List Nat} {Q:AExit→TT AV→Heap→List Nat→Prop} {b o c1 c2:Nat} {r:Reg} {V:RegV} {s:Nm} (h:RegIs H0 b o r V) (hO:Old H0.n H0 H)
 (hlo:lo≤H.n) (hg:Z4 PT T g=some (.fn 240 [] [.ptr c1 0,.ptr c2 0])) (h1:H.get c1=.cells [.ptr b o] 163) (h2:H.get c2=.cells [.str s] 9) (hc1:c1 < H.n) (hc2:c2 < H.n) (st:Pos→Bool) (E:AExit→Heap→Prop)
 (round:∀ p Hk m,p ∈ r.poss→Q8 s p=true→Hk.n=m+(H.n+2)→(∀ i,i < H.n→Hk.get i=H.get i) →
   W PT lo fid true assign (JN T pa (.agg p.row)) Hk [] fun e T1 H1 M1=>e=.nrm∧(∀ j,H.n≤j→j < Hk.n→H1.get j=Hk.get j) ∧
     ∀ rr,W PT lo fid true body T1 (H1.set (H.n+1) rr) M1 fun e T3 H3 _=>H3.get (H.n+1)=rr∧Hk.n≤H3.n∧(∀ j,H.n≤j→j < Hk.n→j ≠ H.n+1→H3.get j=Hk.get j) ∧
       next e (st p=false ∧ ∀ i,i < H.n→H3.get i=H.get i) (st p=true∧E e H3))
 (fin:∀ H4,(∀ i,i < H.n→H4.get i=H.get i)→(∀ p ∈ r.poss,Q8 s p=true→st p=false)→H4.get H.n=.defr→H.n+2≤H4.n→Q .nrm T H4 (H.n::M))
 (stop:∀ e H3 H4,e ≠ .nrm→E e H3→(∃ p ∈ r.poss,Q8 s p=true∧st p=true)→(∀ i,i ≠ H.n+1→H4.get i=H3.get i)→H3.get H.n=.defr→Q e T H4 (H.n::M)) :
 W PT lo fid false (.rangeFunc g params assign body) T H M Q:=by
 refine Z0h hg ?_
 let r0:ALoop:=⟨fid,T,params.toList,assign,body,.ready,none,H.n⟩
 let J:Nat→Heap→Prop:=fun k H'=>((∀ i,i < H.n→H'.get i=H.get i) ∧ ∀ j p,j < k→r.poss[j]? = some p→Q8 s p=true→st p=false)∧H'.get H.n=.defr∧H'.get (H.n+1)=.loop r0∧H.n+2≤H'.n
 let EE:Heap→Prop:=fun H'=>(∃ p ∈ r.poss,Q8 s p=true∧st p=true) ∧ ∃ e H3,e ≠ .nrm∧E e H3∧H3.get H.n=.defr∧H'=H3.set (H.n+1) (.loop { r0 with state:=.done,pending:=some e })
 have hrun:∃ v H',R PT (.call lo 240 [.yld (H.n+1),.ptr c1 0,.ptr c2 0] ((H.push .defr).push (.loop r0)))=some (.ofVal v H')∧(J r.poss.length H'∨EE H'):=by
  refine Za8 (s:=s) (lo:=lo) (y:=H.n+1) (c1:=c1) (c2:=c2) (base:=H.n+2) (H:=(H.push .defr).push (.loop r0)) h (by omega) (by have:=hO.1;omega) J EE ?_ ?_ ?_ ?_ ?_ (by omega) (by omega) ?_ ?_ ?_ ?_
  · refine ⟨⟨fun i hi => ?_,fun j p hj=>by omega⟩, ?_, ?_,by simp⟩
    · rw [Heap.get_push,if_neg (by simp;omega),Heap.get_push,if_neg (by omega)]
    · rw [Heap.get_push,if_neg (by simp),Heap.get_push,if_pos rfl]
    · rw [Heap.get_push,if_pos (by simp)]
  · simp
  · rintro k H' ⟨⟨j1,_⟩,_,_,j4⟩;exact ⟨by have:=hO.1;omega,fun i hi=>by rw [j1 i (Nat.lt_of_lt_of_le hi hO.1),hO.2 i hi]⟩
  · rintro k H' ⟨⟨j1,_⟩,_⟩;rw [j1 c1 hc1];exact h1
  · rintro k H' ⟨⟨j1,_⟩,_⟩;rw [j1 c2 hc2];exact h2
  · rintro k H' x ⟨⟨j1,hg1⟩,j2,j3,j4⟩ _;exact ⟨⟨fun i hi=>by rw [Heap.get_push,if_neg (by omega)];exact j1 i hi,hg1⟩,by rw [Heap.get_push,if_neg (by omega)];exact j2,by rw [Heap.get_push,if_neg (by omega)];exact j3,by simp;omega⟩
  · rintro k H' x j ⟨⟨j1,hg1⟩,j2,j3,j4⟩ hj;exact ⟨⟨fun i hi=>by rw [Heap.get_set,if_neg (by omega)];exact j1 i hi,hg1⟩,by rw [Heap.get_set,if_neg (by omega)];exact j2,by rw [Heap.get_set,if_neg (by omega)];exact j3,by simp;omega⟩
  · rintro k p H' hp ho ⟨⟨j1,hg1⟩,j2⟩;refine ⟨⟨j1,fun j q hj hq hoq => ?_⟩,j2⟩;by_cases hjk:j=k
    · subst hjk;rw [hp] at hq;cases hq;rw [ho] at hoq;cases hoq
    · exact hg1 j q (by omega) hq hoq
  · rintro k p Hk hp ho ⟨⟨j1,hg1⟩,j2,j3,j4⟩ _;have hmem:=List.mem_of_getElem? hp;have hrd:=round p Hk (Hk.n - (H.n+2)) hmem ho (by omega) j1;have hW:W PT lo fid true assign (J5 params.toList [.agg p.row] T) Hk [] fun e T1 H1 M1=>e=.nrm∧H1.get (H.n+1)=.loop r0 ∧
     W PT lo fid true body T1 (H1.set (H.n+1) (.loop { r0 with state:=.busy })) M1 fun e T2 H2 M2=>H2.get (H.n+1)=.loop { r0 with state:=.busy } ∧
       next e (((if true then J (k+1) (H2.set (H.n+1) (.loop { r0 with state:=.ready,pending:=none })) else EE (H2.set (H.n+1) (.loop { r0 with state:=.ready,pending:=none })))∧Hk.n≤(H2.set (H.n+1) (.loop { r0 with state:=.ready,pending:=none })).n ∧ ∀ j,H.n+2≤j→j < Hk.n→(H2.set (H.n+1) (.loop { r0 with state:=.ready,pending:=none })).get j=Hk.get j))
        (((if false=true then J (k+1) (H2.set (H.n+1) (.loop { r0 with state:=.done,pending:=some e })) else EE (H2.set (H.n+1) (.loop { r0 with state:=.done,pending:=some e })))∧Hk.n≤(H2.set (H.n+1) (.loop { r0 with state:=.done,pending:=some e })).n ∧ ∀ j,H.n+2≤j→j < Hk.n→(H2.set (H.n+1) (.loop { r0 with state:=.done,pending:=some e })).get j=Hk.get j)):=by
     rw [hpar];refine UB hrd fun e T1 H1 M1 ⟨he,hk1,hb⟩=>⟨he, ?_,UB (hb _) fun e T3 H3 M3 ⟨q1,q2,q3,q4⟩=>⟨q1, ?_⟩⟩
     · rw [hk1 _ (by omega) (by omega)];exact j3
     · have hd:H3.get H.n=.defr:=by rw [q3 _ (Nat.le_refl _) (by omega) (by omega)];exact j2
       have keep:∀ x j,H.n+2≤j→j < Hk.n→(H3.set (H.n+1) x).get j=Hk.get j:=fun x j hj hj2=>by
        rw [Heap.get_set,if_neg (by omega)];exact q3 j (by omega) hj2 (by omega)
       cases e with
       | nrm =>
         refine ⟨⟨⟨fun i hi => ?_,fun j q hj hq hoq => ?_⟩, ?_, ?_,by simp;omega⟩,by simpa using q2,keep _⟩
         · rw [Heap.get_set,if_neg (by omega)];exact q4.2 i hi
         · by_cases hjk:j=k
           · subst hjk;rw [hp] at hq;cases hq;exact q4.1
           · exact hg1 j q (by omega) hq hoq
         · rw [Heap.get_set,if_neg (by omega)];exact hd
         · rw [Heap.get_set,if_pos rfl]
       | ext i=>exact ⟨⟨⟨p,hmem,ho,q4.1⟩,_,_,by simp,q4.2,hd,rfl⟩,by simpa using q2,keep _⟩
       | gto i=>exact ⟨⟨⟨p,hmem,ho,q4.1⟩,_,_,by simp,q4.2,hd,rfl⟩,by simpa using q2,keep _⟩
       | ret=>exact ⟨⟨⟨p,hmem,ho,q4.1⟩,_,_,by simp,q4.2,hd,rfl⟩,by simpa using q2,keep _⟩
    obtain ⟨v,H',e1,e2,e3,e4⟩:=Z0g (C:=PT) (r0:=r0) j3 rfl (by show params.toList.length=1;rw [hpar];rfl) (by omega:lo≤H.n+1) (Y:=fun v H'=>(if v then J (k+1) H' else EE H')∧Hk.n≤H'.n ∧ ∀ j,H.n+2≤j→j < Hk.n→H'.get j=Hk.get j) hW
    exact ⟨v,H',e1,e2,e3,e4⟩
 obtain ⟨v,H',hr,hJ⟩:=hrun;refine ⟨v,H',hr, ?_⟩;rcases hJ with ⟨⟨j1,hg1⟩,j2,j3,j4⟩ | ⟨hst,e,H3,he,j1,j2,rfl⟩
 · refine ⟨r0,j3,by simp [r0], ?_⟩;refine fin _ (fun i hi=>by rw [Heap.get_set,if_neg (by omega)];exact j1 i hi) (fun p hp ho => ?_) (by rw [Heap.get_set,if_neg (by omega)];exact j2) (by simp;omega);obtain ⟨j,hj⟩:=List.mem_iff_getElem?.1 hp;exact hg1 j p (List.getElem?_eq_some_iff.1 hj).1 hj ho
 · refine ⟨_,by rw [Heap.get_set,if_pos rfl],by simp, ?_⟩;exact stop e H3 _ he j1 hst (fun i hi=>by rw [Heap.get_set,if_neg hi,Heap.get_set,if_neg hi]) j2
end Go.Sim

namespace Go.Sim
open Go Go.Proofs
open Go.Sim.Pos (Nm Trk Flt Trn Pos Mch Reg Ev Len ZW Yd Y8 Ye)
set_option maxRecDepth 100000
set_option maxHeartbeats 8000000
theorem en112:ZG 112:=ZI
theorem en272:ZG 272:=ZI
theorem Za9 {H:Heap} {b o:Nat} {r:Reg} {V:RegV} (h:RegIs H b o r V) (s:Nm):∃ w H2,R PT (.call H.n 112 [.ptr b o,.str s] H)=some (.ofVal w H2)∧w=.bool (r.taken s):=by
 refine Za (C:=PT) (f:=112) (lo:=H.n) (args:=[.ptr b o,.str s]) (H:=H) (fn:=Tryz.f112) (Q:=fun w _=>w=.bool (r.taken s)) (by kernel_rfl) Tryz.func112 rfl rfl ?_;simp (maxDischargeDepth:=12) only [go_sem,reduceEqDiff,reduceAdd,reduceCtorEq,LL];have hO:Old H.n H (((H.push (.cells [.bool false] 4)).push (.cells [.ptr b o] 163)).push (.cells [.str s] 9)):=(((Old.refl H).push _).push _).push _;have hs:r.taken s=r.poss.any (Q8 s):=rfl;generalize hK:((H.push (.cells [.bool false] 4)).push (.cells [.ptr b o] 163)).push (.cells [.str s] 9)=Hk at *;have g0:Hk.get H.n=.cells [.bool false] 4:=by rw [← hK,Heap.get_push,if_neg (by simp only [Heap.n_push];omega),AN]
 have g1:Hk.get (H.n+1)=.cells [.ptr b o] 163:=by rw [← hK,Heap.get_push,if_neg (by simp only [Heap.n_push];omega),LK]
 have g2:Hk.get (H.n+1+1)=.cells [.str s] 9:=by rw [← hK];exact U4
 have hn:Hk.n=H.n+3:=by rw [← hK];rfl
 refine LM (pa:=8) rfl h hO hO.1 (by simp (maxDischargeDepth:=12) only [go_sem,reduceEqDiff,reduceCtorEq]) g1 g2 (by omega) (by omega) (fun _=>true) (fun e H3=>e=.ret∧H3.get H.n=.cells [.bool true] 4) ?_ ?_ ?_
 · intro p Hq m hp ho hm hg;have q0:=hg H.n (by omega);rw [g0] at q0;have hlt:(H.n=Hk.n+1)=False:=eq_false (by omega);have hlt2:(Hk.n+1=H.n)=False:=eq_false (by omega);simp (maxDischargeDepth:=12) only [go_sem,reduceAdd,reduceCtorEq,q0,hlt,hlt2];refine ⟨fun _ _ _=>trivial,fun rr j h1 h2 h3 => ?_⟩;rw [if_neg (by omega),if_neg h3]
 · intro H4 hg hst hd hn4;have q0:=hg H.n (by omega);rw [g0] at q0;have hne:(Hk.n=H.n)=False:=eq_false (by omega);have hne2:(H.n=Hk.n)=False:=eq_false (by omega);have hf:r.poss.any (Q8 s)=false:=by
    rw [List.any_eq_false];intro p hp hop;have:=hst p hp hop;cases this
   simp (maxDischargeDepth:=12) only [go_sem,reduceAdd,reduceCtorEq,q0,GO,hd,hne,hne2,hs,hf]
 · rintro e H3 H4 he ⟨rfl,h3⟩ ⟨p,hp,hop,_⟩ hg hd;have q0:=hg H.n (by omega);rw [h3] at q0;have qd:=hg Hk.n (by omega);rw [hd] at qd;have hne2:(H.n=Hk.n)=False:=eq_false (by omega);have hf:r.poss.any (Q8 s)=true:=by
    rw [List.any_eq_true];exact ⟨p,hp,hop⟩
   simp (maxDischargeDepth:=12) only [go_sem,reduceCtorEq,q0,GO,qd,hne2,hs,hf]
theorem LO {H:Heap} {b o:Nat} {r:Reg} {V:RegV} (h:RegIs H b o r V) (s:Nm) {Hc:Heap} (ho:Old H.n H Hc) {lo:Nat} {K:AV→Heap→Prop}:VO (Z8 PT (R PT) lo 112 [.ptr b o,.str s] Hc) K=K (.bool (r.taken s)) Hc:=by
 obtain ⟨w,H2,h1,h2⟩:=Za9 (h.old ho) s;exact ZF (en112 rfl) ⟨H2,h1⟩ (by rw [h2];rfl) rfl
def scp (Q:AExit→TT AV→Heap→List Nat→Prop) (e:AExit) (T:TT AV) (H:Heap) (M:List Nat) (_t:Tag Q:=⟨⟩):Prop:=match e with
 | .gto _=>False
 | e=>Q e T H M
section
variable {C:Cfg} {lo:Nat} {fid:FuncId} {rnd:Bool} {T:TT AV} {H:Heap} {M:List Nat} {Q:AExit→TT AV→Heap→List Nat→Prop}
theorem Zaa:scp Q .nrm T H M=Q .nrm T H M:=rfl
theorem Zab:scp Q .ret T H M=Q .ret T H M:=rfl
theorem Zac (i:Nat):scp Q (.ext i) T H M=Q (.ext i) T H M:=rfl
theorem Zad (b:Code):W C lo fid rnd (.scope b) T H M Q=W C lo fid rnd b T H M fun e T H M=>scp Q e T H M:=by
 unfold W;rw [OG];cases h:R C (.code lo fid rnd b ⟨T,H,M⟩) with
 | none=>rfl
 | some o =>
   obtain ⟨e,s⟩:=o;cases e<;>rfl
end
attribute [go_sem ↓] Zaa Zab Zac Zad OP
theorem LP:QA NC.P 100 57=true:=by kernel_rfl
theorem LQ (a b c d:Int):Y2 NC.P 100 57 (.agg [.int .i64 a,.int .i64 b]) (.agg [.int .i64 c,.int .i64 d])=some (decide (a=c) && decide (b=d)):=by
 have h2:Y2 NC.P 100 57 (.agg [.int .i64 a,.int .i64 b]) (.agg [.int .i64 c,.int .i64 d])=match eqI a c with
  | true=>(match eqI b d with
    | true=>some true
    | false=>some false)
  | false=>some false:=by kernel_rfl
 rw [h2,UC,UC];by_cases c1:a=c<;>by_cases c2:b=d<;>simp [c1,c2]
def ovP (p:Pos) (a b:Int):Bool:=decide (p.frm=a) && decide (p.to=b) || decide (JV p.frm a < minI p.to b)
def ovR (r:Reg) (t:Nm) (a b:Int):Bool:=r.poss.any fun p=>Q8 t p && ovP p a b
theorem Zae {H:Heap} {b o:Nat} {r:Reg} {V:RegV} (h:RegIs H b o r V) (s:Nm) (x y:Int):∃ w H2,R PT (.call H.n 272 [.ptr b o,.str s,.agg [.int .i64 x,.int .i64 y]] H)=some (.ofVal w H2)∧w=.bool (ovR r s x y):=by
 refine Za (C:=PT) (f:=272) (lo:=H.n) (args:=[.ptr b o,.str s,.agg [.int .i64 x,.int .i64 y]]) (H:=H) (fn:=Tryz.f272) (Q:=fun w _=>w=.bool (ovR r s x y)) (by kernel_rfl) Tryz.func272 rfl rfl ?_;simp (maxDischargeDepth:=12) only [go_sem,reduceEqDiff,reduceAdd,reduceCtorEq,LL];have hO:Old H.n H (((((H.push (.cells [.int .i64 x,.int .i64 y] 57)).push (.cells [.bool false] 4)).set (H.n+1) (.cells [.bool false] 4)).push (.cells [.ptr b o] 163)).push (.cells [.str s] 9)):=(((((Old.refl H).push _).push _).set (by omega) _).push _).push _;generalize hK:((((H.push (.cells [.int .i64 x,.int .i64 y] 57)).push (.cells [.bool false] 4)).set (H.n+1) (.cells [.bool false] 4)).push (.cells [.ptr b o] 163)).push (.cells [.str s] 9)=Hk at *;have g0:Hk.get H.n=.cells [.int .i64 x,.int .i64 y] 57:=by rw [← hK];simp (maxDischargeDepth:=12) only [go_sem]
 have g1:Hk.get (H.n+1)=.cells [.bool false] 4:=by rw [← hK];simp (maxDischargeDepth:=12) only [go_sem]
 have g2:Hk.get (H.n+1+1)=.cells [.ptr b o] 163:=by rw [← hK];simp (maxDischargeDepth:=12) only [go_sem]
 have g3:Hk.get (H.n+1+1+1)=.cells [.str s] 9:=by rw [← hK];simp (maxDischargeDepth:=12) only [go_sem]
 have hn:Hk.n=H.n+4:=by rw [← hK];rfl
 refine LM (pa:=12) (c1:=H.n+1+1) (c2:=H.n+1+1+1) rfl h hO hO.1 (by simp (maxDischargeDepth:=12) only [go_sem,reduceEqDiff,reduceCtorEq]) g2 g3 (by omega) (by omega) (fun p=>ovP p x y) (fun e H3=>e=.ext 0∧H3.get (H.n+1)=.cells [.bool true] 4) ?_ ?_ ?_
 · intro p Hq m hp ho hm hg;have q0:=hg H.n (by omega);rw [g0] at q0;have q1:=hg (H.n+1) (by omega);rw [g1] at q1;have e0:(H.n=Hk.n+1)=False:=eq_false (by omega);have e1:(H.n+1=Hk.n+1)=False:=eq_false (by omega);have e2:(H.n=Hq.n)=False:=eq_false (by omega);have e3:(H.n+1=Hq.n)=False:=eq_false (by omega);have e4:(Hk.n+1=Hq.n)=False:=eq_false (by omega);have e5:(Hq.n=Hk.n+1)=False:=eq_false (by omega);have e6:(Hk.n+1=H.n+1)=False:=eq_false (by omega);have e7:(Hq.n=H.n+1)=False:=eq_false (by omega);have hle:(H.n≤Hq.n)=True:=eq_true (by omega);have hov:ovP p x y=(decide (p.frm=x) && decide (p.to=y) || decide (JV p.frm x < minI p.to y)):=rfl;obtain ⟨nm,tr,fa,fb,re,pr,op,cl,pe,sp⟩:=p;simp only at hov;rcases Classical.propComplete (fa=x) with c1 | c1<;>rcases Classical.propComplete (fb=y) with c2 | c2<;>rcases Classical.propComplete (JV fa x < minI fb y) with c3 | c3
   all_goals
    simp only [c1,c2,c3,decide_true,decide_false,Bool.and_true,Bool.and_false,Bool.or_true,Bool.or_false] at hov;simp (maxDischargeDepth:=12) only [go_sem,reduceEqDiff,reduceAdd,reduceLeDiff,reduceCtorEq,Pos.Pos.row,q0,q1,e0,e1,e2,e3,e4,e5,e6,hle,LP,LQ,c1,c2,c3,hov];refine ⟨fun j h1 h2=>by rw [if_neg (by omega),if_neg (by omega)],fun rr => ?_⟩
    first
    | exact fun j h1 h2 h3=>by rw [if_neg (by omega),if_neg h3,if_neg (by omega),if_neg (by omega)]
    | exact ⟨fun j h1 h2 h3=>by rw [if_neg h3,if_neg (by omega),if_neg (by omega)],fun i hi=>by rw [if_neg (by omega),if_neg (by omega),if_neg (by omega)];exact hg i hi⟩
 · intro H4 hg hst hd hn4;have q1:=hg (H.n+1) (by omega);rw [g1] at q1;have hne:(Hk.n=H.n+1)=False:=eq_false (by omega);have hne2:(H.n+1=Hk.n)=False:=eq_false (by omega);have hf:ovR r s x y=false:=by
    unfold ovR;rw [List.any_eq_false];intro p hp hop;rw [Bool.and_eq_true] at hop;have:=hst p hp hop.1;rw [hop.2] at this;cases this
   simp (maxDischargeDepth:=12) only [go_sem,reduceEqDiff,reduceCtorEq,q1,GO,hd,hf]
 · rintro e H3 H4 he ⟨rfl,h3⟩ ⟨p,hp,hop,hov⟩ hg hd;have q1:=hg (H.n+1) (by omega);rw [h3] at q1;have qd:=hg Hk.n (by omega);rw [hd] at qd;have hne2:(H.n+1=Hk.n)=False:=eq_false (by omega);have hf:ovR r s x y=true:=by
    unfold ovR;rw [List.any_eq_true];exact ⟨p,hp,by rw [hop,hov];rfl⟩
   simp (maxDischargeDepth:=12) only [go_sem,reduceEqDiff,reduceCtorEq,q1,GO,qd,hf]
theorem Zaf {H:Heap} {b o:Nat} {r:Reg} {V:RegV} (h:RegIs H b o r V) (s:Nm) (x y:Int) {Hc:Heap} (ho:Old H.n H Hc) {lo:Nat} {K:AV→Heap→Prop}:VO (Z8 PT (R PT) lo 272 [.ptr b o,.str s,.agg [.int .i64 x,.int .i64 y]] Hc) K=K (.bool (ovR r s x y)) Hc:=by
 obtain ⟨w,H2,h1,h2⟩:=Zae (h.old ho) s x y;exact ZF (en272 rfl) ⟨H2,h1⟩ (by rw [h2];rfl) rfl
def Zq (r:Reg):List Nat→List Nm→Bool→Int
 | [],_,tw=>Z5 tw 9
 | c::cs,x::xs,tw=>if (!decide (c < 97) && !decide (x ∈ Zz r ((if c < 97 then c+32 else c:Nat):Int)))=true then 10 else Zq r cs xs (tw || (decide (c < 97) && decide (x ∈ Zz r ((if c < 97 then c+32 else c:Nat):Int))))
 | _::_,[],_=>0
theorem U5 (r:Reg) (c:Nat) (cs:List Nat) (x:Nm) (xs:List Nm) (tw:Bool):Zq r (c::cs) (x::xs) tw=if (!decide (c < 97) && !decide (x ∈ Zz r ((if c < 97 then c+32 else c:Nat):Int)))=true then 10 else Zq r cs xs (tw || (decide (c < 97) && decide (x ∈ Zz r ((if c < 97 then c+32 else c:Nat):Int)))):=rfl
theorem LR {r:Reg} (c:Int) (h1:r.tracks.length≤Z1) (h2:r.faults.length≤Z1) (h3:r.trains.length≤Z1) (h4:r.poss.length≤Z1) (h5:r.machs.length≤Z1):(Zz r c).length≤Z1:=by
 unfold Zz;split
 · rw [List.length_map];exact h1
 split
 · rw [List.length_map];exact h2
 split
 · rw [List.length_map];exact h3
 split
 · rw [List.length_map];exact h4
 · rw [List.length_map];exact h5
theorem en231:ZG 231:=ZI
theorem Zag {H:Heap} {b o:Nat} {r:Reg} {V:RegV} (h:RegIs H b o r V) {nm:List Nat} {fv:Int} {f1 f2:FuncId} {l1 l2:List AV} {e:Ev} (hb:∀ c ∈ nm,c < 128) (hl:e.names.length=nm.length) (hs:nm.length≤2) (hcl:[AV.fn f1 [] l1,AV.fn f2 [] l2].map AV.strip0=[AV.fn f1 [] l1,AV.fn f2 [] l2]):∃ w H2,R PT (.call H.n 231 [.ptr b o,.agg [.str nm,i64 fv,.fn f1 [] l1,.fn f2 [] l2],.agg e.row] H)=some (.ofVal w H2)∧w=.int .i64 (Zq r nm e.names false):=by
 obtain ⟨num,kind,names,vals,text⟩:=e;simp only at hl;refine Za (C:=PT) (f:=231) (lo:=H.n) (args:=[.ptr b o,.agg [.str nm,i64 fv,.fn f1 [] l1,.fn f2 [] l2],.agg (Pos.Ev.row ⟨num,kind,names,vals,text⟩)]) (H:=H) (fn:=Tryz.f231) (Q:=fun w _=>w=.int .i64 (Zq r nm names false)) (by kernel_rfl) Tryz.func231 rfl rfl ?_;simp (maxDischargeDepth:=12) only [go_sem,reduceEqDiff,reduceAdd,reduceCtorEq,Pos.Ev.row];have hmr:nm.length≤Z1:=Nat.le_trans hs (by unfold Z1;decide);refine ZK (fun k T Hc M=>M=[]∧Z2 T 0=.ptr b o∧Z2 T 4=.ptr H.n 0∧Z2 T 5=.ptr (H.n+1) 0∧Z2 T 14=i64 (nm.length:Nat)∧Z2 T 15=i64 k∧Old H.n H Hc∧H.n+2≤Hc.n∧Hc.get H.n=.cells [.str nm,.int .i64 fv,.fn f1 [] l1,.fn f2 [] l2] 175∧Hc.get (H.n+1)=.cells [.int .i64 num,.str kind,.ps .unk (Z0 names),.ps .unk (Z3 vals),.str text] 53 ∧ ∃ tw,Z2 T 7=.bool tw∧Zq r nm names false=Zq r (nm.drop k) (names.drop k) tw) nm.length ?_ ?_ ?_
 · simp (maxDischargeDepth:=12) only [go_sem,reduceEqDiff,reduceCtorEq];exact ⟨false,rfl,rfl⟩
 · rintro k T Hc M hk ⟨rfl,g0,g4,g5,g14,g15,hO,hn,b4,b5,tw,g7,hsp⟩;obtain ⟨c,hc⟩:∃ x,nm[k]? = some x:=⟨nm[k],by simp⟩;obtain ⟨x,hx⟩:∃ x,names[k]? = some x:=⟨names[k]'(by omega),by simp⟩;have hw:=ZP hk hmr;have hr:=K8 hx;have hkn:k < names.length:=by omega
   have hcb:=hb c (List.mem_of_getElem? hc);have m1:=fun (cc:Int) Hc (ho:Old H.n H Hc) lo K=>KK h cc ho (lo:=lo) (K:=K)
   have hlen:=fun cc=>LR (r:=r) cc h.lT h.lF h.lR h.lP h.lM
   have hbn:(b < Hc.n)=True:=eq_true (Nat.lt_of_lt_of_le h.bn hO.1);rw [K9 hc,K9 hx] at hsp;rw [U5] at hsp;have hwu:Zk .u8 (Int.add (c:Int) 32)=if c < 97 then ((c+32:Nat):Int) else Zk .u8 (Int.add (c:Int) 32):=by
    split
    · have e:Int.add (c:Int) 32=((c+32:Nat):Int):=by show (c:Int)+32=_;omega
      rw [e];unfold Zk inK;have:Nat.ble (c+32) (QJ .u8)=true:=by simp [QJ];omega
      simp only [this,cond_true]
    · rfl
   have hlt97:((c:Int) < 97)=(c < 97):=by simp only [eq_iff_iff];omega
   by_cases c1:c < 97
   · rw [if_pos c1] at hwu;simp only [c1,if_true,decide_true,Bool.not_true,Bool.false_and,Bool.false_eq_true,if_false,Bool.true_and] at hsp;by_cases c2:x ∈ Zz r ((c+32:Nat):Int)
     · simp only [c2,decide_true,Bool.or_true] at hsp;cases tw
       all_goals
        simp (maxDischargeDepth:=12) only [go_sem,reduceEqDiff,reduceAdd,reduceSub,reduceCtorEq,g0,g4,g5,g7,g14,g15,hk,hc,hkn,Zt,hr,hw,b4,b5,hO,hbn,m1,hlen,hwu,hlt97,c1,c2];exact ⟨hn,_,rfl,hsp⟩
     · simp only [c2,decide_false,Bool.or_false] at hsp;cases tw
       all_goals
        simp (maxDischargeDepth:=12) only [go_sem,reduceEqDiff,reduceAdd,reduceSub,reduceCtorEq,g0,g4,g5,g7,g14,g15,hk,hc,hkn,Zt,hr,hw,b4,b5,hO,hbn,m1,hlen,hwu,hlt97,c1,c2];exact ⟨hn,_,rfl,hsp⟩
   · rw [if_neg c1] at hwu;simp only [c1,if_false,decide_false,Bool.not_false,Bool.true_and,Bool.false_and,Bool.or_false] at hsp;by_cases c2:x ∈ Zz r (c:Int)
     · simp only [c2,decide_true,Bool.not_true,Bool.false_eq_true,if_false] at hsp;cases tw
       all_goals
        simp (maxDischargeDepth:=12) only [go_sem,reduceEqDiff,reduceAdd,reduceSub,reduceCtorEq,g0,g4,g5,g7,g14,g15,hk,hc,hkn,Zt,hr,hw,b4,b5,hO,hbn,m1,hlen,hlt97,c1,c2];exact ⟨hn,_,rfl,hsp⟩
     · simp only [c2,decide_false,Bool.not_false,if_true] at hsp;rw [hsp];simp (maxDischargeDepth:=12) only [go_sem,reduceEqDiff,reduceAdd,reduceSub,reduceCtorEq,g0,g4,g5,g14,g15,hk,hc,hkn,Zt,hr,b4,b5,hO,hbn,m1,hlen,hlt97,c1,c2]
 · rintro T Hc M ⟨rfl,g0,g4,g5,g14,g15,hO,hn,b4,b5,tw,g7,hsp⟩;rw [hsp,List.drop_length];simp (maxDischargeDepth:=12) only [go_sem,reduceEqDiff,reduceCtorEq,g7,g14,g15,Nat.lt_irrefl];rfl
theorem Zah (lim:Nat) (k:IntKind):X2 lim (.int k 2)=if 2 < lim then some 2 else none:=rfl
theorem Zai (lim:Nat) (k:IntKind):X2 lim (.int k 3)=if 3 < lim then some 3 else none:=rfl
attribute [go_sem] Zah Zai
abbrev evC (num:Int) (kind:Nm) (ns:List Nm) (vs:List Int) (text:Nm):List AV:=[.int .i64 num,.str kind,.ps .unk (Z0 ns),.ps .unk (Z3 vs),.str text]
theorem Zaj:QA NC.P 100 73=true:=by kernel_rfl
theorem Zak (a b c d:Int):Y2 NC.P 100 73 (.agg [.int .i64 a,.int .i64 b]) (.agg [.int .i64 c,.int .i64 d])=some (decide (a=c) && decide (b=d)):=by
 have h2:Y2 NC.P 100 73 (.agg [.int .i64 a,.int .i64 b]) (.agg [.int .i64 c,.int .i64 d])=match eqI a c with
  | true=>(match eqI b d with
    | true=>some true
    | false=>some false)
  | false=>some false:=by kernel_rfl
 rw [h2,UC,UC];by_cases c1:a=c<;>by_cases c2:b=d<;>simp [c1,c2]
theorem ab0:YU NC.P 73 []=some (.agg [.int .i64 0,.int .i64 0]):=by kernel_rfl
attribute [go_sem] Zaj Zak ab0 LP LQ
structure At {α:Type} (nm:α→Nm) (l:List α) (s:Nm) (i:Nat) (y:α):Prop where
 idx:Xj s (l.map nm)=(i:Int)
 at':l[i]? = some y
 lt:i < l.length
 nm':nm y=s
theorem At.of {α:Type} {nm:α→Nm} {l:List α} {s:Nm} {y:α} (h:(l.find? fun z=>decide (nm z=s))=some y):∃ i,At nm l s i y:=by
 obtain ⟨i,h1,h2,h3,h4⟩:=XB h;exact ⟨i,h1,h2,h3,h4⟩
theorem en154:ZG 154:=ZI
theorem en156:ZG 156:=ZI
theorem en159:ZG 159:=ZI
theorem en161:ZG 161:=ZI
theorem en163:ZG 163:=ZI
theorem en165:ZG 165:=ZI
theorem en169:ZG 169:=ZI
theorem en271:ZG 271:=ZI
theorem LS:ZG 273:=ZI
theorem en172:ZG 172:=ZI
theorem en175:ZG 175:=ZI
theorem en177:ZG 177:=ZI
theorem en182:ZG 182:=ZI
theorem en184:ZG 184:=ZI
theorem en186:ZG 186:=ZI
theorem en188:ZG 188:=ZI
theorem en190:ZG 190:=ZI
theorem en192:ZG 192:=ZI
theorem Zal {H:Heap} {b o:Nat} {r:Reg} {V:RegV} (h:RegIs H b o r V) {num:Int} {kind text:Nm} {t:Nm} {tk v:Int}:∃ w H2,R PT (.call H.n 154 [.ptr b o,.agg (evC num kind [t] [tk,v] text)] H)=some (.ofVal w H2)∧w=.int .i64 (Z9 [ZS v 1 400,Z5 (decide ((r.tracks.length:Int)=8)) 5]):=by
 refine Za (C:=PT) (f:=154) (lo:=H.n) (args:=[.ptr b o,.agg (evC num kind [t] [tk,v] text)]) (H:=H) (fn:=Tryz.f154) (Q:=fun w _=>w=.int .i64 (Z9 [ZS v 1 400,Z5 (decide ((r.tracks.length:Int)=8)) 5])) (by kernel_rfl) Tryz.func154 rfl rfl ?_;have l1:=fun H'=>h.l1 (H':=H')
 have l2:=fun H'=>h.l2 (H':=H')
 have l3:=fun H'=>h.l3 (H':=H')
 have l4:=fun H'=>h.l4 (H':=H')
 have l5:=fun H'=>h.l5 (H':=H')
 have nT:=fun H'=>h.sT.len (t:=43) (by kernel_rfl) H'
 have nF:=fun H'=>h.sF.len (t:=44) (by kernel_rfl) H'
 have nR:=fun H'=>h.sR.len (t:=45) (by kernel_rfl) H'
 have nP:=fun H'=>h.sP.len (t:=46) (by kernel_rfl) H'
 have nM:=fun H'=>h.sM.len (t:=47) (by kernel_rfl) H'
 simp only [List.length_map] at nT nF nR nP nM;have uT:=fun n (hn:H.n≤n)=>h.sT.under hn
 have uF:=fun n (hn:H.n≤n)=>h.sF.under hn
 have uR:=fun n (hn:H.n≤n)=>h.sR.under hn
 have uP:=fun n (hn:H.n≤n)=>h.sP.under hn
 have uM:=fun n (hn:H.n≤n)=>h.sM.under hn
 have hb:=eq_true h.bn;have en:(Z0 [t]).length=1:=rfl;have ei:(Z3 [tk,v]).length=2:=rfl;have en0:(Z0 [t])[0]? = some [.str t]:=rfl;have ei0:(Z3 [tk,v])[0]? = some [.int .i64 tk]:=rfl;have ei1:(Z3 [tk,v])[1]? = some [.int .i64 v]:=rfl;simp (maxDischargeDepth:=12) only [go_sem,reduceEqDiff,reduceAdd,reduceMul,reduceSub,reduceLeDiff,reduceCtorEq,ei,ei1,l1,nT]
theorem Zam {H:Heap} {b o:Nat} {r:Reg} {V:RegV} (h:RegIs H b o r V) {num:Int} {kind text:Nm} {t:Nm} {tk v:Int} {lo:Nat} {K:AV→Heap→Prop}:VO (Z8 PT (R PT) lo 154 [.ptr b o,.agg (evC num kind [t] [tk,v] text)] H) K=K (.int .i64 (Z9 [ZS v 1 400,Z5 (decide ((r.tracks.length:Int)=8)) 5])) H:=by
 obtain ⟨w,H2,h1,h2⟩:=Zal h ;exact ZF (en154 rfl) ⟨H2,h1⟩ (by rw [h2];rfl) rfl
theorem Zan {H:Heap} {b o:Nat} {r:Reg} {V:RegV} (h:RegIs H b o r V) {num:Int} {kind text:Nm} {f t:Nm} {tk x y v:Int}:∃ w H2,R PT (.call H.n 156 [.ptr b o,.agg (evC num kind [f,t] [tk,x,y,v] text)] H)=some (.ofVal w H2)∧w=.int .i64 (Z9 [Pos.spanI x y,ZS v 0 400,Z5 (decide ((r.faults.length:Int)=64)) 5]):=by
 refine Za (C:=PT) (f:=156) (lo:=H.n) (args:=[.ptr b o,.agg (evC num kind [f,t] [tk,x,y,v] text)]) (H:=H) (fn:=Tryz.f156) (Q:=fun w _=>w=.int .i64 (Z9 [Pos.spanI x y,ZS v 0 400,Z5 (decide ((r.faults.length:Int)=64)) 5])) (by kernel_rfl) Tryz.func156 rfl rfl ?_;have l1:=fun H'=>h.l1 (H':=H')
 have l2:=fun H'=>h.l2 (H':=H')
 have l3:=fun H'=>h.l3 (H':=H')
 have l4:=fun H'=>h.l4 (H':=H')
 have l5:=fun H'=>h.l5 (H':=H')
 have nT:=fun H'=>h.sT.len (t:=43) (by kernel_rfl) H'
 have nF:=fun H'=>h.sF.len (t:=44) (by kernel_rfl) H'
 have nR:=fun H'=>h.sR.len (t:=45) (by kernel_rfl) H'
 have nP:=fun H'=>h.sP.len (t:=46) (by kernel_rfl) H'
 have nM:=fun H'=>h.sM.len (t:=47) (by kernel_rfl) H'
 simp only [List.length_map] at nT nF nR nP nM;have uT:=fun n (hn:H.n≤n)=>h.sT.under hn
 have uF:=fun n (hn:H.n≤n)=>h.sF.under hn
 have uR:=fun n (hn:H.n≤n)=>h.sR.under hn
 have uP:=fun n (hn:H.n≤n)=>h.sP.under hn
 have uM:=fun n (hn:H.n≤n)=>h.sM.under hn
 have hb:=eq_true h.bn;have en:(Z0 [f,t]).length=2:=rfl;have ei:(Z3 [tk,x,y,v]).length=4:=rfl;have en0:(Z0 [f,t])[0]? = some [.str f]:=rfl;have en1:(Z0 [f,t])[1]? = some [.str t]:=rfl;have ei0:(Z3 [tk,x,y,v])[0]? = some [.int .i64 tk]:=rfl;have ei1:(Z3 [tk,x,y,v])[1]? = some [.int .i64 x]:=rfl;have ei2:(Z3 [tk,x,y,v])[2]? = some [.int .i64 y]:=rfl;have ei3:(Z3 [tk,x,y,v])[3]? = some [.int .i64 v]:=rfl;have hsp:=UY ⟨num,kind,[f,t],[tk,x,y,v],text⟩ (by show 3≤4;decide);simp only [Pos.Ev.row,List.getD_cons_succ,List.getD_cons_zero] at hsp;simp (maxDischargeDepth:=12) only [go_sem,reduceEqDiff,reduceAdd,reduceMul,reduceSub,reduceLeDiff,reduceCtorEq,ei,ei3,l2,nF,hsp]
theorem Zao {H:Heap} {b o:Nat} {r:Reg} {V:RegV} (h:RegIs H b o r V) {num:Int} {kind text:Nm} {f t:Nm} {tk x y v:Int} {lo:Nat} {K:AV→Heap→Prop}:VO (Z8 PT (R PT) lo 156 [.ptr b o,.agg (evC num kind [f,t] [tk,x,y,v] text)] H) K=K (.int .i64 (Z9 [Pos.spanI x y,ZS v 0 400,Z5 (decide ((r.faults.length:Int)=64)) 5])) H:=by
 obtain ⟨w,H2,h1,h2⟩:=Zan h ;exact ZF (en156 rfl) ⟨H2,h1⟩ (by rw [h2];rfl) rfl
theorem Zap {H:Heap} {b o:Nat} {r:Reg} {V:RegV} (h:RegIs H b o r V) {num:Int} {kind text:Nm} {f:Nm} {tk:Int} {i:Nat} {y:Flt} (hf:At (·.name) r.faults f i y):∃ w H2,R PT (.call H.n 159 [.ptr b o,.agg (evC num kind [f] [tk] text)] H)=some (.ofVal w H2)∧w=.int .i64 (Z9 [Z5 y.rep 23,Z5 y.ans 9]):=by
 refine Za (C:=PT) (f:=159) (lo:=H.n) (args:=[.ptr b o,.agg (evC num kind [f] [tk] text)]) (H:=H) (fn:=Tryz.f159) (Q:=fun w _=>w=.int .i64 (Z9 [Z5 y.rep 23,Z5 y.ans 9])) (by kernel_rfl) Tryz.func159 rfl rfl ?_;have l1:=fun H'=>h.l1 (H':=H')
 have l2:=fun H'=>h.l2 (H':=H')
 have l3:=fun H'=>h.l3 (H':=H')
 have l4:=fun H'=>h.l4 (H':=H')
 have l5:=fun H'=>h.l5 (H':=H')
 have nT:=fun H'=>h.sT.len (t:=43) (by kernel_rfl) H'
 have nF:=fun H'=>h.sF.len (t:=44) (by kernel_rfl) H'
 have nR:=fun H'=>h.sR.len (t:=45) (by kernel_rfl) H'
 have nP:=fun H'=>h.sP.len (t:=46) (by kernel_rfl) H'
 have nM:=fun H'=>h.sM.len (t:=47) (by kernel_rfl) H'
 simp only [List.length_map] at nT nF nR nP nM;have uT:=fun n (hn:H.n≤n)=>h.sT.under hn
 have uF:=fun n (hn:H.n≤n)=>h.sF.under hn
 have uR:=fun n (hn:H.n≤n)=>h.sR.under hn
 have uP:=fun n (hn:H.n≤n)=>h.sP.under hn
 have uM:=fun n (hn:H.n≤n)=>h.sM.under hn
 have hb:=eq_true h.bn;have en:(Z0 [f]).length=1:=rfl;have ei:(Z3 [tk]).length=1:=rfl;have en0:(Z0 [f])[0]? = some [.str f]:=rfl;have ei0:(Z3 [tk])[0]? = some [.int .i64 tk]:=rfl;obtain ⟨id,he,hP⟩:=el_F h hf.at';have e1:=fun Hc (ho:Old H.n H Hc) lo K=>U3 h hf.idx hf.lt ho (lo:=lo) (K:=K)
 simp (maxDischargeDepth:=12) only [go_sem,reduceEqDiff,reduceAdd,reduceMul,reduceSub,reduceLeDiff,reduceCtorEq,en,en0,he,hP.f5,hP.f6,e1]
theorem Zaq {H:Heap} {b o:Nat} {r:Reg} {V:RegV} (h:RegIs H b o r V) {num:Int} {kind text:Nm} {f:Nm} {tk:Int} {i:Nat} {y:Flt} (hf:At (·.name) r.faults f i y) {lo:Nat} {K:AV→Heap→Prop}:VO (Z8 PT (R PT) lo 159 [.ptr b o,.agg (evC num kind [f] [tk] text)] H) K=K (.int .i64 (Z9 [Z5 y.rep 23,Z5 y.ans 9])) H:=by
 obtain ⟨w,H2,h1,h2⟩:=Zap h hf;exact ZF (en159 rfl) ⟨H2,h1⟩ (by rw [h2];rfl) rfl
theorem Zar {H:Heap} {b o:Nat} {r:Reg} {V:RegV} (h:RegIs H b o r V) {num:Int} {kind text:Nm} {p:Nm} {tk v:Int} {i:Nat} {y:Pos} (hf:At (·.name) r.poss p i y):∃ w H2,R PT (.call H.n 192 [.ptr b o,.agg (evC num kind [p] [tk,v] text)] H)=some (.ofVal w H2)∧w=.int .i64 (Z9 [Z5 (!y.ret) 22,ZS v 0 400,Z5 (decide (v≤y.speed)) 21]):=by
 refine Za (C:=PT) (f:=192) (lo:=H.n) (args:=[.ptr b o,.agg (evC num kind [p] [tk,v] text)]) (H:=H) (fn:=Tryz.f192) (Q:=fun w _=>w=.int .i64 (Z9 [Z5 (!y.ret) 22,ZS v 0 400,Z5 (decide (v≤y.speed)) 21])) (by kernel_rfl) Tryz.func192 rfl rfl ?_;have l1:=fun H'=>h.l1 (H':=H')
 have l2:=fun H'=>h.l2 (H':=H')
 have l3:=fun H'=>h.l3 (H':=H')
 have l4:=fun H'=>h.l4 (H':=H')
 have l5:=fun H'=>h.l5 (H':=H')
 have nT:=fun H'=>h.sT.len (t:=43) (by kernel_rfl) H'
 have nF:=fun H'=>h.sF.len (t:=44) (by kernel_rfl) H'
 have nR:=fun H'=>h.sR.len (t:=45) (by kernel_rfl) H'
 have nP:=fun H'=>h.sP.len (t:=46) (by kernel_rfl) H'
 have nM:=fun H'=>h.sM.len (t:=47) (by kernel_rfl) H'
 simp only [List.length_map] at nT nF nR nP nM;have uT:=fun n (hn:H.n≤n)=>h.sT.under hn
 have uF:=fun n (hn:H.n≤n)=>h.sF.under hn
 have uR:=fun n (hn:H.n≤n)=>h.sR.under hn
 have uP:=fun n (hn:H.n≤n)=>h.sP.under hn
 have uM:=fun n (hn:H.n≤n)=>h.sM.under hn
 have hb:=eq_true h.bn;have en:(Z0 [p]).length=1:=rfl;have ei:(Z3 [tk,v]).length=2:=rfl;have en0:(Z0 [p])[0]? = some [.str p]:=rfl;have ei0:(Z3 [tk,v])[0]? = some [.int .i64 tk]:=rfl;have ei1:(Z3 [tk,v])[1]? = some [.int .i64 v]:=rfl;obtain ⟨id,he,hP⟩:=YZ h hf.at';have e1:=fun Hc (ho:Old H.n H Hc) lo K=>XK h hf.idx hf.lt ho (lo:=lo) (K:=K)
 have hle:(!decide (y.speed < v))=decide (v≤y.speed):=by
  by_cases hc:v≤y.speed
  · have:¬ y.speed < v:=by omega
    simp [hc,this]
  · have:y.speed < v:=by omega
    simp [hc,this]
 simp (maxDischargeDepth:=12) only [go_sem,reduceEqDiff,reduceAdd,reduceMul,reduceSub,reduceLeDiff,reduceCtorEq,en,ei,en0,ei1,he,hP.f4,hP.f9,e1,hle]
theorem Zas {H:Heap} {b o:Nat} {r:Reg} {V:RegV} (h:RegIs H b o r V) {num:Int} {kind text:Nm} {p:Nm} {tk v:Int} {i:Nat} {y:Pos} (hf:At (·.name) r.poss p i y) {lo:Nat} {K:AV→Heap→Prop}:VO (Z8 PT (R PT) lo 192 [.ptr b o,.agg (evC num kind [p] [tk,v] text)] H) K=K (.int .i64 (Z9 [Z5 (!y.ret) 22,ZS v 0 400,Z5 (decide (v≤y.speed)) 21])) H:=by
 obtain ⟨w,H2,h1,h2⟩:=Zar h hf;exact ZF (en192 rfl) ⟨H2,h1⟩ (by rw [h2];rfl) rfl
theorem Zat {H:Heap} {b o:Nat} {r:Reg} {V:RegV} (h:RegIs H b o r V) {num:Int} {kind text:Nm} {x t:Nm} {tk v:Int} {y:Trk} (hy:r.track? t=some y):∃ w H2,R PT (.call H.n 163 [.ptr b o,.agg (evC num kind [x,t] [tk,v] text)] H)=some (.ofVal w H2)∧w=.int .i64 (Z9 [Z5 (r.taken t) 31,Z5 (r.silentOn t) 32,Z5 (decide (v < 1) || decide (r.permitted t < v)) 20,Z5 (decide ((r.trains.length:Int)=16)) 5]):=by
 refine Za (C:=PT) (f:=163) (lo:=H.n) (args:=[.ptr b o,.agg (evC num kind [x,t] [tk,v] text)]) (H:=H) (fn:=Tryz.f163) (Q:=fun w _=>w=.int .i64 (Z9 [Z5 (r.taken t) 31,Z5 (r.silentOn t) 32,Z5 (decide (v < 1) || decide (r.permitted t < v)) 20,Z5 (decide ((r.trains.length:Int)=16)) 5])) (by kernel_rfl) Tryz.func163 rfl rfl ?_;have l1:=fun H'=>h.l1 (H':=H')
 have l2:=fun H'=>h.l2 (H':=H')
 have l3:=fun H'=>h.l3 (H':=H')
 have l4:=fun H'=>h.l4 (H':=H')
 have l5:=fun H'=>h.l5 (H':=H')
 have nT:=fun H'=>h.sT.len (t:=43) (by kernel_rfl) H'
 have nF:=fun H'=>h.sF.len (t:=44) (by kernel_rfl) H'
 have nR:=fun H'=>h.sR.len (t:=45) (by kernel_rfl) H'
 have nP:=fun H'=>h.sP.len (t:=46) (by kernel_rfl) H'
 have nM:=fun H'=>h.sM.len (t:=47) (by kernel_rfl) H'
 simp only [List.length_map] at nT nF nR nP nM;have uT:=fun n (hn:H.n≤n)=>h.sT.under hn
 have uF:=fun n (hn:H.n≤n)=>h.sF.under hn
 have uR:=fun n (hn:H.n≤n)=>h.sR.under hn
 have uP:=fun n (hn:H.n≤n)=>h.sP.under hn
 have uM:=fun n (hn:H.n≤n)=>h.sM.under hn
 have hb:=eq_true h.bn;have en:(Z0 [x,t]).length=2:=rfl;have ei:(Z3 [tk,v]).length=2:=rfl;have en0:(Z0 [x,t])[0]? = some [.str x]:=rfl;have en1:(Z0 [x,t])[1]? = some [.str t]:=rfl;have ei0:(Z3 [tk,v])[0]? = some [.int .i64 tk]:=rfl;have ei1:(Z3 [tk,v])[1]? = some [.int .i64 v]:=rfl;have e1:=fun Hc (ho:Old H.n H Hc) lo K=>LO h t ho (lo:=lo) (K:=K)
 have e2:=fun Hc (ho:Old H.n H Hc) lo K=>LH h t ho (lo:=lo) (K:=K)
 have e3:=fun Hc (ho:Old H.n H Hc) lo K=>AM h hy ho (lo:=lo) (K:=K)
 rcases Classical.propComplete (v < 1) with c1 | c1
 all_goals
  simp (maxDischargeDepth:=12) only [go_sem,reduceEqDiff,reduceAdd,reduceMul,reduceSub,reduceLeDiff,reduceCtorEq,en,ei,en1,ei1,l3,nR,hb,e1,e2,e3,c1,decide_true,decide_false,Bool.true_or,Bool.false_or]
theorem Zau {H:Heap} {b o:Nat} {r:Reg} {V:RegV} (h:RegIs H b o r V) {num:Int} {kind text:Nm} {x t:Nm} {tk v:Int} {y:Trk} (hy:r.track? t=some y) {lo:Nat} {K:AV→Heap→Prop}:VO (Z8 PT (R PT) lo 163 [.ptr b o,.agg (evC num kind [x,t] [tk,v] text)] H) K=K (.int .i64 (Z9 [Z5 (r.taken t) 31,Z5 (r.silentOn t) 32,Z5 (decide (v < 1) || decide (r.permitted t < v)) 20,Z5 (decide ((r.trains.length:Int)=16)) 5])) H:=by
 obtain ⟨w,H2,h1,h2⟩:=Zat h hy;exact ZF (en163 rfl) ⟨H2,h1⟩ (by rw [h2];rfl) rfl
theorem Zav {H:Heap} {b o:Nat} {r:Reg} {V:RegV} (h:RegIs H b o r V) {num:Int} {kind text:Nm} {f p:Nm} {tk:Int} {i j:Nat} {y:Flt} {q:Pos} (hf:At (·.name) r.faults f i y) (hq:At (·.name) r.poss p j q) (hp:r.poss? q.name=some q):∃ w H2,R PT (.call H.n 161 [.ptr b o,.agg (evC num kind [f,p] [tk] text)] H)=some (.ofVal w H2)∧w=.int .i64 (Z9 [Z5 y.rep 23,Z5 (q.ret || !decide (q.track=y.track) || (decide (y.frm < q.frm) || decide (q.to < y.to))) 21,Z5 (decide (((r.within q.name).length:Int)=0) && decide (q.pers=0)) 12]):=by
 refine Za (C:=PT) (f:=161) (lo:=H.n) (args:=[.ptr b o,.agg (evC num kind [f,p] [tk] text)]) (H:=H) (fn:=Tryz.f161) (Q:=fun w _=>w=.int .i64 (Z9 [Z5 y.rep 23,Z5 (q.ret || !decide (q.track=y.track) || (decide (y.frm < q.frm) || decide (q.to < y.to))) 21,Z5 (decide (((r.within q.name).length:Int)=0) && decide (q.pers=0)) 12])) (by kernel_rfl) Tryz.func161 rfl rfl ?_;have l1:=fun H'=>h.l1 (H':=H')
 have l2:=fun H'=>h.l2 (H':=H')
 have l3:=fun H'=>h.l3 (H':=H')
 have l4:=fun H'=>h.l4 (H':=H')
 have l5:=fun H'=>h.l5 (H':=H')
 have nT:=fun H'=>h.sT.len (t:=43) (by kernel_rfl) H'
 have nF:=fun H'=>h.sF.len (t:=44) (by kernel_rfl) H'
 have nR:=fun H'=>h.sR.len (t:=45) (by kernel_rfl) H'
 have nP:=fun H'=>h.sP.len (t:=46) (by kernel_rfl) H'
 have nM:=fun H'=>h.sM.len (t:=47) (by kernel_rfl) H'
 simp only [List.length_map] at nT nF nR nP nM;have uT:=fun n (hn:H.n≤n)=>h.sT.under hn
 have uF:=fun n (hn:H.n≤n)=>h.sF.under hn
 have uR:=fun n (hn:H.n≤n)=>h.sR.under hn
 have uP:=fun n (hn:H.n≤n)=>h.sP.under hn
 have uM:=fun n (hn:H.n≤n)=>h.sM.under hn
 have hb:=eq_true h.bn;have en:(Z0 [f,p]).length=2:=rfl;have ei:(Z3 [tk]).length=1:=rfl;have en0:(Z0 [f,p])[0]? = some [.str f]:=rfl;have en1:(Z0 [f,p])[1]? = some [.str p]:=rfl;have ei0:(Z3 [tk])[0]? = some [.int .i64 tk]:=rfl;obtain ⟨id,he,hP⟩:=el_F h hf.at';obtain ⟨ip,hep,hPp⟩:=YZ h hq.at';have e1:=fun Hc (ho:Old H.n H Hc) lo K=>U3 h hf.idx hf.lt ho (lo:=lo) (K:=K)
 have e2:=fun Hc (ho:Old H.n H Hc) lo K=>XK h hq.idx hq.lt ho (lo:=lo) (K:=K)
 have e3:=fun Hc (ho:Old H.n H Hc) lo K=>AQ h hp ho (lo:=lo) (K:=K)
 rcases Classical.propComplete (y.frm < q.frm) with c1 | c1<;>cases c2:q.ret<;>rcases Classical.propComplete (q.track=y.track) with c3 | c3
 all_goals
  simp (maxDischargeDepth:=12) only [go_sem,reduceEqDiff,reduceAdd,reduceMul,reduceSub,reduceLeDiff,reduceCtorEq,en,en0,en1,hb,he,hep,hP.f1,hP.f2,hP.f3,hP.f6,hPp.f0,hPp.f1,hPp.f2,hPp.f3,hPp.f4,e1,e2,e3,c1,c2,c3,Yu,decide_true,decide_false,Bool.true_or,Bool.false_or,Bool.or_true,Bool.or_false]
theorem Zaw {H:Heap} {b o:Nat} {r:Reg} {V:RegV} (h:RegIs H b o r V) {num:Int} {kind text:Nm} {f p:Nm} {tk:Int} {i j:Nat} {y:Flt} {q:Pos} (hf:At (·.name) r.faults f i y) (hq:At (·.name) r.poss p j q) (hp:r.poss? q.name=some q) {lo:Nat} {K:AV→Heap→Prop}:VO (Z8 PT (R PT) lo 161 [.ptr b o,.agg (evC num kind [f,p] [tk] text)] H) K=K (.int .i64 (Z9 [Z5 y.rep 23,Z5 (q.ret || !decide (q.track=y.track) || (decide (y.frm < q.frm) || decide (q.to < y.to))) 21,Z5 (decide (((r.within q.name).length:Int)=0) && decide (q.pers=0)) 12])) H:=by
 obtain ⟨w,H2,h1,h2⟩:=Zav h hf hq hp;exact ZF (en161 rfl) ⟨H2,h1⟩ (by rw [h2];rfl) rfl
end Go.Sim
