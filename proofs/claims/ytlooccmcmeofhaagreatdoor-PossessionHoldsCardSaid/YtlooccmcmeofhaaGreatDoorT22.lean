/-
Lemmas of one proof, the texts Quest3 to Rc16 joined.
-/
import Derived.Test.YtlooccmcmeofhaaGreatDoorT21
set_option linter.unusedSimpArgs false
set_option linter.unusedVariables false
open Nat (reduceEqDiff reduceAdd reduceMul reduceSub reduceLeDiff reduceLT)
set_option maxRecDepth 100000
set_option maxHeartbeats 32000000
noncomputable section
open Go Go.Proofs
open Bool (and_eq_true false_eq_true not_eq_true)
open Int (toNat_natCast)
open List (all_append all_cons all_eq_false all_eq_true all_nil any_append any_eq_true append_assoc append_eq_nil_iff append_nil cons_append drop_length drop_zero ext_getElem? filter_append find?_some flatten_append flatten_cons flatten_nil foldl_append getElem?_set getElem?_zip_eq_some length_append length_cons length_drop length_eq_zero_iff length_filterMap_le length_filter_le length_map length_nil length_pos_iff length_set length_take length_zip map_append map_cons map_drop map_eq_nil_iff map_nil map_set map_take mem_cons mem_flatten mem_iff_getElem? mem_map mem_of_getElem? mem_of_mem_drop mem_of_mem_take nil_append set_eq_take_append_cons_drop take_add_one take_length take_of_length_le)
open Nat (add_mul add_zero blt_eq le_succ lt_of_lt_of_le min_eq_left mul_le_mul_right succ_mul zero_add zero_le zero_mul)
open Option (isNone_none isSome_iff_exists map_some)
open Go.Sim.Pos (Ca Cb Ev Flt Gi J1 J5 KG Len Mch Nm Pos Qy Qz Reg Trk Trn Uf X2 XD XK Xc Xd Xf Xg Xp Xq Y1 Y7 YE YF YO YT YY YZ Yb Yc Yr Yt Yy Yz ZE ZJ ZM ZT ZZ Zl Zw Zx doA okA)
variable {C:Go.Sim.Cfg} {H H' H2 HW:Go.Sim.Heap} {T:Go.Sim.TT Go.Sim.AV} {a m p:Go.Sim.Pos.Nm} {args c c' ev reg u z:List Go.Sim.AV} {b i id k lo n sz te:Nat} {e t t':Go.TypeId} {f:Go.FuncId} {l:List Go.Sim.Pos.Ev} {num tk v0:Int} {r:Go.Sim.Pos.Reg} {rows rx:List (List Go.Sim.AV)} {s:List Nat} {v v':Go.Sim.AV} {y:Go.Sim.Pos.Pos} {α:Type}

namespace Go.Sim.Pos
open Go.Sim
theorem Zal (r:Reg) (tk:Int) (a:Act):(doA r tk a).machs.length<=r.machs.length+1:=by
 cases a<;>simp only [doA,Reg.chP]<;>first | (simp;done) | (simp;omega) | (exact Nat.le_trans (length_filter_le _ _) (le_succ _)) | skip
theorem IC:∀ (l:List TA) {r r':Reg},YD r l=some r'->r'.machs.length<=r.machs.length+l.length
 | [],r,r',h=>by cases h;exact Nat.le_refl _
 | x::l,r,r',h=>by
   obtain ⟨h1,h2⟩:=Ge h;have h3:=Zal r x.1 x.2;have h4:=IC l h2;simp only [length_cons];omega
theorem Zam (j:Jn) (e:Ev):(YP j e).cs.length<=j.cs.length+1:=by
 unfold YP;split
 . simp;omega
 . simp
theorem rep_len (nm:Nm->Bool):∀ (l:List Ev) (j:Jn) (n:Nat),(ZE nm j n l).1.cs.length<=j.cs.length+l.length
 | [],j,n=>Nat.le_refl _
 | e::l,j,n=>by
   have h1:=Zam j e;have h2:=rep_len nm l (YP j e) (n+1);show (if YU nm j n e ≠ 0 then (j,n+1,YU nm j n e) else ZE nm (YP j e) (n+1) l).1.cs.length<=_
   split
   . simp
   . simp only [length_cons];omega
theorem CK (J:JOk Z7 (ZE Z7 zJn 0 l).1):(ZE Z7 zJn 0 l).1.reg.machs.length<=l.length:=by
 have h1:=IC _ J.run;have h2:=rep_len Z7 l zJn 0;have h3:(Xr (ZE Z7 zJn 0 l).1.cs).length<=(ZE Z7 zJn 0 l).1.cs.length:=length_filterMap_le _ _;have h4:ZS.machs.length=0:=rfl;have h5:zJn.cs.length=0:=rfl;omega
end Go.Sim.Pos
namespace Go.Sim
def XM (l:List Ev) (s:Nm):(Int × Int) × Int:=if (ZE Z7 Pos.zJn 0 l).2.2 ≠ 0 then ((0,0),(ZE Z7 Pos.zJn 0 l).2.2) else match (ZE Z7 Pos.zJn 0 l).1.reg.poss? s with
 | none=>((0,0),10)
 | some p=>(((((ZE Z7 Pos.zJn 0 l).1.reg.within s).length:Nat),p.pers),0)
theorem r27 (l:List Ev) (s:Nm) (hp:l.length<=1000/\(∀ z ∈ l,EvS z)):∃ w H2,R PT (.call H.n 27 [.ps .unk (l.map Pos.Ev.row),.str s] H)=some (.ofVal w H2)/\w.strip=.tup [.agg [i64 (XM l s).1.1,i64 (XM l s).1.2],i64 (XM l s).2]:=by
 refine Zd (C:=PT) (f:=27) (lo:=H.n) (args:=[.ps .unk (l.map Pos.Ev.row),.str s]) (H:=H) (fn:=Tryz.f27) (Q:=fun w _=>w.strip=.tup [.agg [i64 (XM l s).1.1,i64 (XM l s).1.2],i64 (XM l s).2]) (by kernel_rfl) Tryz.func27 rfl rfl ?_;obtain ⟨hl,hsm⟩:=hp;obtain ⟨w,H2,hr,hO,ha,hb,J⟩:=CJ (H:=H.push (.cells [.int .i64 0,.int .i64 0] 73)) hl hsm 112 s;have hask:=fun lo K=>QA (K:=K) (en73 (lo:=lo) rfl) hr
 unfold XM;generalize hq:ZE Z7 Pos.zJn 0 l=q at *;have h0:H2.get H.n=.cells [.int .i64 0,.int .i64 0] 73:=by rw [hO.2 H.n (by simp),Vr]
 have hn1:H.n+1<=H2.n:=hO.1;have hn1':(H.n < H2.n)=True:=eq_true (by omega);have hle:(H.n<=H.n)=True:=eq_true (Nat.le_refl _);by_cases c1:q.2.2=0
 . rw [if_neg (by simpa using c1)];obtain ⟨rfl,V,hR⟩:=hb c1;have e1n:(H.push (.cells [.int .i64 0,.int .i64 0] 73)).n=H.n+1:=rfl;rw [e1n] at hR;cases ht:q.1.reg.poss? s with
   | none =>
     have hin:decide (s ∈ Y3 q.1.reg 112)=false:=decide_eq_false (by rw [XK,ht];simp);have h10:Z5 true 10=10:=rfl;have h100:((10:Int)=0)=False:=eq_false (by decide);simp (maxDischargeDepth:=12) only [go_sem,reduceEqDiff,reduceAdd,reduceCtorEq,hask,hin,h10,h100,h0];try rfl
   | some y =>
     have hin:decide (s ∈ Y3 q.1.reg 112)=true:=decide_eq_true (by rw [XK,ht];rfl);have h10:Z5 false 10=0:=rfl;have hpm:=fun lo K=>Cp hR ht (Old.refl H2) (lo:=lo) (K:=K)
     simp (maxDischargeDepth:=12) only [go_sem,reduceEqDiff,reduceAdd,reduceCtorEq,hask,hin,h10,hpm,h0];try rfl
 . rw [if_pos c1];obtain rfl:=ha c1;simp (maxDischargeDepth:=12) only [go_sem,reduceEqDiff,reduceAdd,reduceCtorEq,hask,c1,h0];try rfl
def QO (l:List Ev) (s:Nm):Bool × Int:=if (ZE Z7 Pos.zJn 0 l).2.2 ≠ 0 then (false,(ZE Z7 Pos.zJn 0 l).2.2) else match (ZE Z7 Pos.zJn 0 l).1.reg.poss? s with
 | none=>(false,10)
 | some p=>if p.ret=true then (false,23) else ((Xn (ZE Z7 Pos.zJn 0 l).1.reg s p).isEmpty && decide (0 < p.closed),0)
theorem r26 (l:List Ev) (s:Nm) (hp:l.length≤1000∧(∀ z ∈ l,EvS z)):∃ w H2,R PT (.call H.n 26 [.ps .unk (l.map Pos.Ev.row),.str s] H)=some (.ofVal w H2)∧w.strip=.tup [.bool (QO l s).1,i64 (QO l s).2]:=by
 refine Zd (C:=PT) (f:=26) (lo:=H.n) (args:=[.ps .unk (l.map Pos.Ev.row),.str s]) (H:=H) (fn:=Tryz.f26) (Q:=fun w _=>w.strip=.tup [.bool (QO l s).1,i64 (QO l s).2]) (by kernel_rfl) Tryz.func26 rfl rfl ?_
 obtain ⟨hl,hsm⟩:=hp
 obtain ⟨w,H2,hr,hO,ha,hb,J⟩:=CJ (H:=H) hl hsm 112 s
 have hask:=fun lo K=>QA (K:=K) (en73 (lo:=lo) rfl) hr
 have hmm:=Pos.CK J
 unfold QO
 generalize hq:ZE Z7 Pos.zJn 0 l=q at *
 by_cases c1:q.2.2=0
 · rw [if_neg (by simpa using c1)]
   obtain ⟨rfl,V,hR⟩:=hb c1
   cases ht:q.1.reg.poss? s with
   | none =>
     have hin:decide (s ∈ Y3 q.1.reg 112)=false:=decide_eq_false (by rw [XK,ht];simp)
     have h10:Z5 true 10=10:=rfl
     have h100:((10:Int)=0)=False:=eq_false (by decide)
     simp (maxDischargeDepth:=12) only [go_sem,reduceEqDiff,reduceAdd,reduceCtorEq,hask,hin,h10,h100]
   | some p =>
     have hin:decide (s ∈ Y3 q.1.reg 112)=true:=decide_eq_true (by rw [XK,ht];rfl)
     have h10:Z5 false 10=0:=rfl
     obtain ⟨i,hi,hx,hlt,_⟩:=Vq ht
     obtain ⟨id,he,hP⟩:=Qn hR hx
     have e1:=fun lo K=>JL hR hi hlt (Old.refl H2) (lo:=lo) (K:=K)
     have e2:=fun lo K=>Cr hR ht (by unfold Z2;omega) (Old.refl H2) (lo:=lo) (K:=K)
     have f4:=hP.f4 (Old.refl H2)
     have f7:=hP.f7 (Old.refl H2)
     cases hret:p.ret
     · rw [hret] at f4
       have hlen:(((Z0 (Xn q.1.reg s p)).length:Int)=0)=((Xn q.1.reg s p).isEmpty=true):=by
        rw [Zv]
        cases Xn q.1.reg s p<;>simp
        omega
       cases hemp:(Xn q.1.reg s p).isEmpty
       · have hlen:=hlen.trans (by rw [hemp];simp:((Xn q.1.reg s p).isEmpty=true)=False)
         simp (maxDischargeDepth:=12) only [go_sem,reduceEqDiff,reduceAdd,reduceCtorEq,hask,hin,h10,e1,e2,he,f4,hlen]
         try simp [hret,hemp]
       · have hlen:=hlen.trans (by rw [hemp];simp:((Xn q.1.reg s p).isEmpty=true)=True)
         simp (maxDischargeDepth:=12) only [go_sem,reduceEqDiff,reduceAdd,reduceCtorEq,hask,hin,h10,e1,e2,he,f4,f7,hlen]
         try simp [hret,hemp]
     · rw [hret] at f4
       simp (maxDischargeDepth:=12) only [go_sem,reduceEqDiff,reduceAdd,reduceCtorEq,hask,hin,h10,e1,he,f4]
       try simp [hret]
       try rfl
 · rw [if_pos c1]
   obtain rfl:=ha c1
   simp (maxDischargeDepth:=12) only [go_sem,reduceEqDiff,reduceAdd,reduceCtorEq,hask,c1]
def QP (l:List Ev) (s:Nm):List Nm × Int:=if (ZE Z7 Pos.zJn 0 l).2.2 ≠ 0 then ([],(ZE Z7 Pos.zJn 0 l).2.2) else match (ZE Z7 Pos.zJn 0 l).1.reg.poss? s with
 | none=>([],10)
 | some p=>if p.ret=true then ([],23) else (Xn (ZE Z7 Pos.zJn 0 l).1.reg s p,0)
theorem r25 (l:List Ev) (s:Nm) (hp:l.length≤1000∧(∀ z ∈ l,EvS z)):∃ w H2,R PT (.call H.n 25 [.ps .unk (l.map Pos.Ev.row),.str s] H)=some (.ofVal w H2)∧w.strip=.tup [.ps .unk (Z0 (QP l s).1),i64 (QP l s).2]:=by
 refine Zd (C:=PT) (f:=25) (lo:=H.n) (args:=[.ps .unk (l.map Pos.Ev.row),.str s]) (H:=H) (fn:=Tryz.f25) (Q:=fun w _=>w.strip=.tup [.ps .unk (Z0 (QP l s).1),i64 (QP l s).2]) (by kernel_rfl) Tryz.func25 rfl rfl ?_
 obtain ⟨hl,hsm⟩:=hp
 obtain ⟨w,H2,hr,hO,ha,hb,J⟩:=CJ (H:=H) hl hsm 112 s
 have hask:=fun lo K=>QA (K:=K) (en73 (lo:=lo) rfl) hr
 have hmm:=Pos.CK J
 unfold QP
 generalize hq:ZE Z7 Pos.zJn 0 l=q at *
 by_cases c1:q.2.2=0
 · rw [if_neg (by simpa using c1)]
   obtain ⟨rfl,V,hR⟩:=hb c1
   cases ht:q.1.reg.poss? s with
   | none =>
     have hin:decide (s ∈ Y3 q.1.reg 112)=false:=decide_eq_false (by rw [XK,ht];simp)
     have h10:Z5 true 10=10:=rfl
     have h100:((10:Int)=0)=False:=eq_false (by decide)
     simp (maxDischargeDepth:=12) only [go_sem,reduceEqDiff,reduceAdd,reduceCtorEq,hask,hin,h10,h100]
     try rfl
   | some p =>
     have hin:decide (s ∈ Y3 q.1.reg 112)=true:=decide_eq_true (by rw [XK,ht];rfl)
     have h10:Z5 false 10=0:=rfl
     obtain ⟨i,hi,hx,hlt,_⟩:=Vq ht
     obtain ⟨id,he,hP⟩:=Qn hR hx
     have e1:=fun lo K=>JL hR hi hlt (Old.refl H2) (lo:=lo) (K:=K)
     have e2:=fun lo K=>Cr hR ht (by unfold Z2;omega) (Old.refl H2) (lo:=lo) (K:=K)
     have f4:=hP.f4 (Old.refl H2)
     cases hret:p.ret
     · rw [hret] at f4
       simp (maxDischargeDepth:=12) only [go_sem,reduceEqDiff,reduceAdd,reduceCtorEq,hask,hin,h10,e1,e2,he,f4]
       try simp [hret]
       try rfl
     · rw [hret] at f4
       simp (maxDischargeDepth:=12) only [go_sem,reduceEqDiff,reduceAdd,reduceCtorEq,hask,hin,h10,e1,he,f4]
       try simp [hret]
       try rfl
 · rw [if_pos c1]
   obtain rfl:=ha c1
   simp (maxDischargeDepth:=12) only [go_sem,reduceEqDiff,reduceAdd,reduceCtorEq,hask,c1]
   try rfl
end Go.Sim

namespace Go.Sim
def Zan:PF:=fun _=>none
theorem Zao:PrimsOk NC Zan:=ZK
theorem c207 (c:Int):∀ lo H,Za NC lo 207 [.int .u8 c] H (.bool (Xa c)) H:=by
 refine Cn Zao Tryz.func207 rfl rfl ?_;by_cases h1:c < 65<;>by_cases h2:90 < c<;>by_cases h3:c < 97<;>by_cases h4:122 < c<;>simp (maxDischargeDepth:=12) only [go_sem,reduceEqDiff,reduceCtorEq,h1,h2,h3,h4]<;>simp [Xa,h1,h2,h3,h4]
def p207:List AV->Option AV:=ZG (α:=(Int)) (fun x=>[.int .u8 x]) (fun x=>True) (fun x=>.bool (Xa x))
theorem Zap:Pok p207 207:=by
 intro args v h;obtain ⟨x,rfl,hp,rfl⟩:=ZL h;exact c207 x
theorem ID (c:Int):p207 [.int .u8 c]=some (.bool (Xa c)):=ZN (by intro x y h;(simp only [List.cons.injEq,AV.int.injEq,true_and,and_true] at h;first | simpa only [Prod.ext_iff] using h | simpa only [Prod.ext_iff,and_assoc] using h)) c trivial
attribute [go_sem] ID
def Zaq:PF:=fun _=>none
theorem Zar:PrimsOk NC Zaq:=ZK
theorem c208 (c:Int):∀ lo H,Za NC lo 208 [.int .u8 c] H (.bool (Qk c)) H:=by
 refine Cn Zar Tryz.func208 rfl rfl ?_;by_cases h1:c < 48<;>by_cases h2:57 < c<;>simp (maxDischargeDepth:=12) only [go_sem,reduceEqDiff,reduceCtorEq,h1,h2]<;>simp [Qk,h1,h2]
def p208:List AV->Option AV:=ZG (α:=(Int)) (fun x=>[.int .u8 x]) (fun x=>True) (fun x=>.bool (Qk x))
theorem Zas:Pok p208 208:=by
 intro args v h;obtain ⟨x,rfl,hp,rfl⟩:=ZL h;exact c208 x
theorem IE (c:Int):p208 [.int .u8 c]=some (.bool (Qk c)):=ZN (by intro x y h;(simp only [List.cons.injEq,AV.int.injEq,true_and,and_true] at h;first | simpa only [Prod.ext_iff] using h | simpa only [Prod.ext_iff,and_assoc] using h)) c trivial
attribute [go_sem] IE
def PPF93:PF:=fun _=>none
theorem Zat:PrimsOk NC PPF93:=ZK
theorem c93 (n a b:Int):∀ lo H,Za NC lo 93 [i64 n,i64 a,i64 b] H (.bool (decide (n < a) || decide (b < n))) H:=by
 refine Cn Zat Tryz.func93 rfl rfl ?_;by_cases h1:n < a<;>by_cases h2:b < n<;>simp (maxDischargeDepth:=12) only [go_sem,reduceEqDiff,reduceAdd,reduceCtorEq,h1,h2]
def p93:List AV->Option AV:=ZG (α:=(Int) × (Int) × (Int)) (fun x=>[i64 x.1,i64 x.2.1,i64 x.2.2]) (fun x=>True) (fun x=>.bool (decide (x.1 < x.2.1) || decide (x.2.2 < x.1)))
theorem IF:Pok p93 93:=by
 intro args v h;obtain ⟨x,rfl,hp,rfl⟩:=ZL h;exact c93 x.1 x.2.1 x.2.2
theorem Jx (n a b:Int):p93 [.int .i64 n,.int .i64 a,.int .i64 b]=some (.bool (decide (n < a) || decide (b < n))):=ZN (by intro x y h;(simp only [List.cons.injEq,AV.int.injEq,true_and,and_true] at h;first | simpa only [Prod.ext_iff] using h | simpa only [Prod.ext_iff,and_assoc] using h)) (n,a,b) trivial
attribute [go_sem] Jx
def PPF80:PF:=fun _=>none
theorem Zau:PrimsOk NC PPF80:=ZK
theorem c80 (b:Bool) (e:Int):∀ lo H,Za NC lo 80 [.bool b,i64 e] H (i64 (Z5 b e)) H:=by
 refine Cn Zau Tryz.func80 rfl rfl ?_;cases b<;>simp (maxDischargeDepth:=12) only [go_sem,reduceEqDiff,reduceAdd,reduceCtorEq]<;>rfl
def p80:List AV->Option AV:=ZG (α:=(Bool) × (Int)) (fun x=>[.bool x.1,i64 x.2]) (fun x=>True) (fun x=>i64 (Z5 x.1 x.2))
theorem pok80:Pok p80 80:=by
 intro args v h;obtain ⟨x,rfl,hp,rfl⟩:=ZL h;exact c80 x.1 x.2
theorem pe80 (b:Bool) (e:Int):p80 [.bool b,.int .i64 e]=some (.int .i64 (Z5 b e)):=ZN (by intro x y h;(simp only [List.cons.injEq,AV.int.injEq,AV.bool.injEq,true_and,and_true] at h;first | simpa only [Prod.ext_iff] using h | simpa only [Prod.ext_iff,and_assoc] using h)) (b,e) trivial
attribute [go_sem] pe80
def IG:PF:=Zo 80 p80 (fun _=>none)
theorem Zav:PrimsOk NC IG:=Pa (ZK) pok80
theorem Zaw:En IG 80 p80:=ZA (by rfl) (by kernel_rfl)
attribute [go_sem ↓] Zaw
theorem c19 (b:Bool) (e:Int):∀ lo H,Za NC lo 19 [.bool b,i64 e] H (i64 (Z5 b e)) H:=by
 refine Cn Zav Tryz.func19 rfl rfl ?_;simp (maxDischargeDepth:=12) only [go_sem,reduceEqDiff,reduceAdd,reduceCtorEq]
def p19:List AV->Option AV:=ZG (α:=(Bool) × (Int)) (fun x=>[.bool x.1,i64 x.2]) (fun x=>True) (fun x=>i64 (Z5 x.1 x.2))
theorem pok19:Pok p19 19:=by
 intro args v h;obtain ⟨x,rfl,hp,rfl⟩:=ZL h;exact c19 x.1 x.2
theorem pe19 (b:Bool) (e:Int):p19 [.bool b,.int .i64 e]=some (.int .i64 (Z5 b e)):=ZN (by intro x y h;(simp only [List.cons.injEq,AV.int.injEq,AV.bool.injEq,true_and,and_true] at h;first | simpa only [Prod.ext_iff] using h | simpa only [Prod.ext_iff,and_assoc] using h)) (b,e) trivial
attribute [go_sem] pe19
theorem Zax {es:List Int} {e:Int} (h:es[k]? = some e):Zc (es.drop k)=if e=0 then Zc (es.drop (k+1)) else e:=by
 rw [Vl h];rfl
def PPF79:PF:=fun _=>none
theorem Zay:PrimsOk NC PPF79:=ZK
theorem c79 (es:List Int) (hp:es.length<=Z2):∀ lo H,Za NC lo 79 [.ps .unk (Z3 es)] H (i64 (Zc es)) H:=by
 refine Cn Zay Tryz.func79 rfl rfl ?_;simp (maxDischargeDepth:=12) only [go_sem];refine ZP (fun k T H M=>M=[]/\Z1 T 0=.ps .unk (Z3 es)/\Z1 T 3=i64 k/\Zc es=Zc (es.drop k)) es.length ?_ ?_ ?_
 . simp (maxDischargeDepth:=12) only [go_sem,drop_zero]
 . rintro k T H M hk ⟨rfl,h0,h3,hf⟩;obtain ⟨e,he⟩:∃ e,es[k]? = some e:=⟨es[k],by simp⟩;have hr:=Gj he;have hw:=ZQ hk hp;have hfd:=Zax he;rcases Classical.propComplete (e=0) with hz | hz
   . simp (maxDischargeDepth:=12) only [go_sem,reduceEqDiff,reduceCtorEq,h0,h3,hr,Yo,hk,hw,hz];rw [hf,hfd,if_pos (of_eq_true hz)]
   . simp (maxDischargeDepth:=12) only [go_sem,reduceEqDiff,reduceCtorEq,h0,h3,hr,Yo,hk,hz];rw [hf,hfd,if_neg (of_eq_false hz)]
 . rintro T H M ⟨rfl,h0,h3,hf⟩;simp (maxDischargeDepth:=12) only [go_sem,reduceEqDiff,reduceCtorEq,h0,h3,Yo,Nat.lt_irrefl];rw [hf];simp [Zc]
def p79:List AV->Option AV:=ZG (α:=(List Int)) (fun x=>[.ps .unk (Z3 x)]) (fun x=>x.length<=Z2) (fun x=>i64 (Zc x))
theorem pok79:Pok p79 79:=by
 intro args v h;obtain ⟨x,rfl,hp,rfl⟩:=ZL h;exact c79 x hp
theorem pe79 (es:List Int) (hp:es.length<=Z2):p79 [.ps .unk (Z3 es)]=some (.int .i64 (Zc es)):=ZN (by intro x y h;(simp only [List.cons.injEq,AV.ps.injEq,KI,KI,true_and,and_true] at h;first | simpa only [Prod.ext_iff] using h | simpa only [Prod.ext_iff,and_assoc] using h)) es hp
attribute [go_sem] pe79
def IH:PF:=Zo 79 p79 (fun _=>none)
theorem Zaz:PrimsOk NC IH:=Pa (ZK) pok79
theorem ZaA:En IH 79 p79:=ZA (by rfl) (by kernel_rfl)
attribute [go_sem ↓] ZaA
theorem c18 (es:List Int) (hp:es.length<=Z2):∀ lo H,Za NC lo 18 [.ps .unk (Z3 es)] H (i64 (Zc es)) H:=by
 refine Cn Zaz Tryz.func18 rfl rfl ?_;have h:=pe79 es hp;simp (maxDischargeDepth:=12) only [go_sem,reduceEqDiff,reduceCtorEq,h]
def p18:List AV->Option AV:=ZG (α:=(List Int)) (fun x=>[.ps .unk (Z3 x)]) (fun x=>x.length<=Z2) (fun x=>i64 (Zc x))
theorem pok18:Pok p18 18:=by
 intro args v h;obtain ⟨x,rfl,hp,rfl⟩:=ZL h;exact c18 x hp
theorem pe18 (es:List Int) (hp:es.length<=Z2):p18 [.ps .unk (Z3 es)]=some (.int .i64 (Zc es)):=ZN (by intro x y h;(simp only [List.cons.injEq,AV.ps.injEq,KI,KI,true_and,and_true] at h;first | simpa only [Prod.ext_iff] using h | simpa only [Prod.ext_iff,and_assoc] using h)) es hp
attribute [go_sem] pe18
theorem ZaB (h0:s ≠ []) (h1:s.length<=24) (h2:∀ c:Nat,s[0]? = some c->Xa c=true) (h3:∀ (i c:Nat),1<=i->s[i]? = some c->Xb c=true):Z7 s=true:=by
 cases s with
 | nil=>exact absurd rfl h0
 | cons c r =>
   unfold Z7;simp only [and_eq_true,decide_eq_true_eq,all_eq_true];refine ⟨⟨h1,h2 c rfl⟩,fun y hx => ?_⟩;obtain ⟨i,hi⟩:=mem_iff_getElem?.1 hx;exact h3 (i+1) y (by omega) (by simpa using hi)
theorem ZaC {c:Nat} (h:s[0]? = some c) (hl:Xa c=false):Z7 s=false:=by
 cases s with
 | nil=>simp at h
 | cons d r=>simp at h;subst h;simp [Z7,hl]
theorem ZaD {c:Nat} (hi:1<=i) (h:s[i]? = some c) (hl:Xb c=false):Z7 s=false:=by
 cases s with
 | nil=>simp at h
 | cons d r =>
   unfold Z7;have:(r.all fun y=>Xb y)=false:=by
    rw [all_eq_false];refine ⟨c, ?_,by simp [hl]⟩;obtain ⟨j,rfl⟩:∃ j,i=j+1:=⟨i - 1,by omega⟩;exact mem_of_getElem? (by simpa using h)
   simp [this]
def CL:PF:=Zo 208 p208 (Zo 207 p207 (fun _=>none))
theorem ZaE:PrimsOk NC CL:=Pa (Pa (ZK) Zap) Zas
theorem ZaF:En CL 207 p207:=ZA (by rfl) (by kernel_rfl)
theorem ZaG:En CL 208 p208:=ZA (by rfl) (by kernel_rfl)
attribute [go_sem ↓] ZaF ZaG
theorem c95 (s:List Nat):∀ lo H,Za NC lo 95 [.str s] H (.bool (Z7 s)) H:=by
 refine Cn ZaE Tryz.func95 rfl rfl ?_;have e189:=fun c=>ID c
 have e190:=fun c=>IE c
 by_cases h0:s.length=0
 . have:s=[]:=length_eq_zero_iff.1 h0;subst this;simp (maxDischargeDepth:=12) only [go_sem,reduceEqDiff,reduceCtorEq];rfl
 . have h0':((s.length:Int)=0)=False:=eq_false (by omega);by_cases h1:(24:Int) < s.length
   . simp (maxDischargeDepth:=12) only [go_sem,reduceEqDiff,reduceCtorEq,h0',h1];cases s with
     | nil=>simp at h0
     | cons c r=>simp only [Z7];rw [decide_eq_false (by omega)];rfl
   . obtain ⟨c,hc⟩:∃ c,s[0]? = some c:=⟨s[0]'(by omega),by simp⟩;have hlt:0 < s.length:=by omega
     cases hb:Xa c with
     | false =>
       simp (maxDischargeDepth:=12) only [go_sem,reduceEqDiff,reduceCtorEq,h0',h1,hlt,hc,hb,e189];rw [ZaC hc hb]
     | true =>
       simp (maxDischargeDepth:=12) only [go_sem,reduceEqDiff,reduceCtorEq,h0',h1,hlt,hc,hb,e189];refine ZP (fun k T H M=>M=[]/\Z1 T 0=.str s/\Z1 T 3=i64 ((k+1:Nat):Int) /\ ∀ (i c:Nat),1<=i->i < k+1->s[i]? = some c->Xb c=true) (s.length - 1) ?_ ?_ ?_
       . simp (maxDischargeDepth:=12) only [go_sem,reduceEqDiff,reduceCtorEq];exact ⟨rfl,fun i c h1 h2=>by omega⟩
       . rintro k T H M hk ⟨rfl,g0,g3,hf⟩;have hk':k+1 < s.length:=by omega
         obtain ⟨c',hc'⟩:∃ c,s[k+1]? = some c:=⟨s[k+1],by simp⟩;have hw:=ZQ (k:=k+1) (n:=24) (by omega) (by unfold Z2;omega);by_cases q1:Xa c'=true
         . simp (maxDischargeDepth:=12) only [go_sem,reduceEqDiff,reduceCtorEq,g0,g3,hk',hc',hw,e189,q1];intro i d hi hj hd;by_cases e:i=k+1
           . subst e;rw [hc'] at hd;cases hd;simp [Xb,q1]
           . exact hf i d hi (by omega) hd
         . rw [not_eq_true] at q1;by_cases q2:Qk c'=true
           . simp (maxDischargeDepth:=12) only [go_sem,reduceEqDiff,reduceCtorEq,g0,g3,hk',hc',hw,e189,e190,q1,q2];intro i d hi hj hd;by_cases e:i=k+1
             . subst e;rw [hc'] at hd;cases hd;simp [Xb,q2]
             . exact hf i d hi (by omega) hd
           . rw [not_eq_true] at q2;rcases Classical.propComplete (((c':Nat):Int)=95) with q3 | q3
             . simp (maxDischargeDepth:=12) only [go_sem,reduceEqDiff,reduceCtorEq,g0,g3,hk',hc',hw,e189,e190,q1,q2,q3];intro i d hi hj hd;by_cases e:i=k+1
               . subst e;rw [hc'] at hd;cases hd;simp [Xb,q3]
               . exact hf i d hi (by omega) hd
             . simp (maxDischargeDepth:=12) only [go_sem,reduceEqDiff,reduceCtorEq,g0,g3,hk',hc',e189,e190,q1,q2,q3];rw [ZaD (by omega) hc' (show Xb c'=false by simp [Xb,q1,q2,q3])]
       . rintro T H M ⟨rfl,g0,g3,hf⟩;have hn:(s.length - 1+1 < s.length)=False:=eq_false (by omega);simp (maxDischargeDepth:=12) only [go_sem,reduceEqDiff,reduceCtorEq,g0,g3,hn];rw [ZaB (s:=s) (by intro e;rw [e] at h0;simp at h0) (by omega) (fun d hd=>by rw [hc] at hd;cases hd;exact hb) (fun i d hi hd=>hf i d hi (by have:=(List.getElem?_eq_some_iff.1 hd).1;omega) hd)]
def p95:List AV->Option AV:=ZG (α:=(List Nat)) (fun x=>[.str x]) (fun x=>True) (fun x=>.bool (Z7 x))
theorem pok95:Pok p95 95:=by
 intro args v h;obtain ⟨x,rfl,hp,rfl⟩:=ZL h;exact c95 x
theorem pe95 (s:List Nat):p95 [.str s]=some (.bool (Z7 s)):=ZN (by intro x y h;(simp only [List.cons.injEq,AV.str.injEq,and_true] at h;first | simpa only [Prod.ext_iff] using h | simpa only [Prod.ext_iff,and_assoc] using h)) s trivial
attribute [go_sem] pe95
def Y8 (k:Nm):Nm × Int × Bool:=if k=Xp then ([84],2,true) else if k=Xc then ([70,116],4,true) else if k=YE then ([102],1,true) else if k=Yz then ([102,112],1,true) else if k=ZZ then ([82,116],2,true) else if k=Yb then ([114],1,true) else if k=Yc then ([80,116],3,true) else if k=Xq then ([112],1,true) else if k=YZ then ([112],1,true) else if k=YO then ([112],1,true) else if k=Y7 then ([112],1,true) else if k=X2 then ([112],2,true) else if k=YT then ([112],2,true) else if k=YF then ([112],2,true) else if k=XD then ([112],2,true) else if k=Pos.kIn then ([77,112],1,true) else if k=Xd then ([109],1,true) else if k=ZJ then ([],0,true) else ([],0,false)
def YG (k:Nm):AV:=.agg [.str (Y8 k).1,.int .i64 (Y8 k).2.1,.bool (Y8 k).2.2]
theorem ZaH (k:Nm):Qy k=if (Y8 k).2.2=true then some ((Y8 k).1.length,(Y8 k).2.1.toNat) else none:=by
 by_cases hTrack:k=Xp
 . subst hTrack;rfl
 by_cases hFault:k=Xc
 . subst hFault;rfl
 by_cases hAnswer:k=YE
 . subst hAnswer;rfl
 by_cases hRepair:k=Yz
 . subst hRepair;rfl
 by_cases hEnter:k=ZZ
 . subst hEnter;rfl
 by_cases hLeave:k=Yb
 . subst hLeave;rfl
 by_cases hTake:k=Yc
 . subst hTake;rfl
 by_cases hProtect:k=Xq
 . subst hProtect;rfl
 by_cases hClear:k=YZ
 . subst hClear;rfl
 by_cases hOpen:k=YO
 . subst hOpen;rfl
 by_cases hReturn:k=Y7
 . subst hReturn;rfl
 by_cases hStaff:k=X2
 . subst hStaff;rfl
 by_cases hOff:k=YT
 . subst hOff;rfl
 by_cases hClose:k=YF
 . subst hClose;rfl
 by_cases hRaise:k=XD
 . subst hRaise;rfl
 by_cases hIn:k=Pos.kIn
 . subst hIn;rfl
 by_cases hOut:k=Xd
 . subst hOut;rfl
 by_cases hUndo:k=ZJ
 . subst hUndo;rfl
 unfold Qy Y8;simp only [hTrack,hFault,hAnswer,hRepair,hEnter,hLeave,hTake,hProtect,hClear,hOpen,hReturn,hStaff,hOff,hClose,hRaise,hIn,hOut,hUndo,if_false];rfl
theorem ZaI:aggOf NC.P 199=some true:=by kernel_rfl
attribute [go_sem] ZaI
theorem Yh {b:Nm} (h:a=b):Z6 a b=true:=by rw [Ys,decide_eq_true h]
theorem Yd {b:Nm} (h:¬ a=b):Z6 a b=false:=by rw [Ys,decide_eq_false h]
def PPF94:PF:=fun _=>none
theorem ZaJ:PrimsOk NC PPF94:=ZK
theorem c94 (k:Nm):∀ lo H,Za NC lo 94 [.str k] H (YG k) H:=by
 refine Cn ZaJ Tryz.func94 rfl rfl ?_;by_cases hTrack:k=Xp
 . have qTrack:=Yh hTrack;have e:YG k=.agg [.str [84],.int .i64 2,.bool true]:=by rw [hTrack];rfl
   rw [e];unfold Xp at qTrack;clear hTrack e;simp (maxDischargeDepth:=12) only [go_sem,reduceEqDiff,reduceAdd,reduceLeDiff,reduceCtorEq,qTrack]
 have qTrack:=Yd hTrack;unfold Xp at qTrack;by_cases hFault:k=Xc
 . have qFault:=Yh hFault;have e:YG k=.agg [.str [70,116],.int .i64 4,.bool true]:=by rw [hFault];rfl
   rw [e];unfold Xc at qFault;clear hFault e;simp (maxDischargeDepth:=12) only [go_sem,reduceEqDiff,reduceAdd,reduceLeDiff,reduceCtorEq,qTrack,qFault]
 have qFault:=Yd hFault;unfold Xc at qFault;by_cases hAnswer:k=YE
 . have qAnswer:=Yh hAnswer;have e:YG k=.agg [.str [102],.int .i64 1,.bool true]:=by rw [hAnswer];rfl
   rw [e];unfold YE at qAnswer;clear hAnswer e;simp (maxDischargeDepth:=12) only [go_sem,reduceEqDiff,reduceAdd,reduceLeDiff,reduceCtorEq,qTrack,qFault,qAnswer]
 have qAnswer:=Yd hAnswer;unfold YE at qAnswer;by_cases hRepair:k=Yz
 . have qRepair:=Yh hRepair;have e:YG k=.agg [.str [102,112],.int .i64 1,.bool true]:=by rw [hRepair];rfl
   rw [e];unfold Yz at qRepair;clear hRepair e;simp (maxDischargeDepth:=12) only [go_sem,reduceEqDiff,reduceAdd,reduceLeDiff,reduceCtorEq,qTrack,qFault,qAnswer,qRepair]
 have qRepair:=Yd hRepair;unfold Yz at qRepair;by_cases hEnter:k=ZZ
 . have qEnter:=Yh hEnter;have e:YG k=.agg [.str [82,116],.int .i64 2,.bool true]:=by rw [hEnter];rfl
   rw [e];unfold ZZ at qEnter;clear hEnter e;simp (maxDischargeDepth:=12) only [go_sem,reduceEqDiff,reduceAdd,reduceLeDiff,reduceCtorEq,qTrack,qFault,qAnswer,qRepair,qEnter]
 have qEnter:=Yd hEnter;unfold ZZ at qEnter;by_cases hLeave:k=Yb
 . have qLeave:=Yh hLeave;have e:YG k=.agg [.str [114],.int .i64 1,.bool true]:=by rw [hLeave];rfl
   rw [e];unfold Yb at qLeave;clear hLeave e;simp (maxDischargeDepth:=12) only [go_sem,reduceEqDiff,reduceAdd,reduceLeDiff,reduceCtorEq,qTrack,qFault,qAnswer,qRepair,qEnter,qLeave]
 have qLeave:=Yd hLeave;unfold Yb at qLeave;by_cases hTake:k=Yc
 . have qTake:=Yh hTake;have e:YG k=.agg [.str [80,116],.int .i64 3,.bool true]:=by rw [hTake];rfl
   rw [e];unfold Yc at qTake;clear hTake e;simp (maxDischargeDepth:=12) only [go_sem,reduceEqDiff,reduceAdd,reduceLeDiff,reduceCtorEq,qTrack,qFault,qAnswer,qRepair,qEnter,qLeave,qTake]
 have qTake:=Yd hTake;unfold Yc at qTake;by_cases hProtect:k=Xq
 . have qProtect:=Yh hProtect;have e:YG k=.agg [.str [112],.int .i64 1,.bool true]:=by rw [hProtect];rfl
   rw [e];unfold Xq at qProtect;clear hProtect e;simp (maxDischargeDepth:=12) only [go_sem,reduceEqDiff,reduceAdd,reduceLeDiff,reduceCtorEq,qTrack,qFault,qAnswer,qRepair,qEnter,qLeave,qTake,qProtect]
 have qProtect:=Yd hProtect;unfold Xq at qProtect;by_cases hClear:k=YZ
 . have qClear:=Yh hClear;have e:YG k=.agg [.str [112],.int .i64 1,.bool true]:=by rw [hClear];rfl
   rw [e];unfold YZ at qClear;clear hClear e;simp (maxDischargeDepth:=12) only [go_sem,reduceEqDiff,reduceAdd,reduceLeDiff,reduceCtorEq,qTrack,qFault,qAnswer,qRepair,qEnter,qLeave,qTake,qProtect,qClear]
 have qClear:=Yd hClear;unfold YZ at qClear;by_cases hOpen:k=YO
 . have qOpen:=Yh hOpen;have e:YG k=.agg [.str [112],.int .i64 1,.bool true]:=by rw [hOpen];rfl
   rw [e];unfold YO at qOpen;clear hOpen e;simp (maxDischargeDepth:=12) only [go_sem,reduceEqDiff,reduceAdd,reduceLeDiff,reduceCtorEq,qTrack,qFault,qAnswer,qRepair,qEnter,qLeave,qTake,qProtect,qClear,qOpen]
 have qOpen:=Yd hOpen;unfold YO at qOpen;by_cases hReturn:k=Y7
 . have qReturn:=Yh hReturn;have e:YG k=.agg [.str [112],.int .i64 1,.bool true]:=by rw [hReturn];rfl
   rw [e];unfold Y7 at qReturn;clear hReturn e;simp (maxDischargeDepth:=12) only [go_sem,reduceEqDiff,reduceAdd,reduceLeDiff,reduceCtorEq,qTrack,qFault,qAnswer,qRepair,qEnter,qLeave,qTake,qProtect,qClear,qOpen,qReturn]
 have qReturn:=Yd hReturn;unfold Y7 at qReturn;by_cases hStaff:k=X2
 . have qStaff:=Yh hStaff;have e:YG k=.agg [.str [112],.int .i64 2,.bool true]:=by rw [hStaff];rfl
   rw [e];unfold X2 at qStaff;clear hStaff e;simp (maxDischargeDepth:=12) only [go_sem,reduceEqDiff,reduceAdd,reduceLeDiff,reduceCtorEq,qTrack,qFault,qAnswer,qRepair,qEnter,qLeave,qTake,qProtect,qClear,qOpen,qReturn,qStaff]
 have qStaff:=Yd hStaff;unfold X2 at qStaff;by_cases hOff:k=YT
 . have qOff:=Yh hOff;have e:YG k=.agg [.str [112],.int .i64 2,.bool true]:=by rw [hOff];rfl
   rw [e];unfold YT at qOff;clear hOff e;simp (maxDischargeDepth:=12) only [go_sem,reduceEqDiff,reduceAdd,reduceLeDiff,reduceCtorEq,qTrack,qFault,qAnswer,qRepair,qEnter,qLeave,qTake,qProtect,qClear,qOpen,qReturn,qStaff,qOff]
 have qOff:=Yd hOff;unfold YT at qOff;by_cases hClose:k=YF
 . have qClose:=Yh hClose;have e:YG k=.agg [.str [112],.int .i64 2,.bool true]:=by rw [hClose];rfl
   rw [e];unfold YF at qClose;clear hClose e;simp (maxDischargeDepth:=12) only [go_sem,reduceEqDiff,reduceAdd,reduceLeDiff,reduceCtorEq,qTrack,qFault,qAnswer,qRepair,qEnter,qLeave,qTake,qProtect,qClear,qOpen,qReturn,qStaff,qOff,qClose]
 have qClose:=Yd hClose;unfold YF at qClose;by_cases hRaise:k=XD
 . have qRaise:=Yh hRaise;have e:YG k=.agg [.str [112],.int .i64 2,.bool true]:=by rw [hRaise];rfl
   rw [e];unfold XD at qRaise;clear hRaise e;simp (maxDischargeDepth:=12) only [go_sem,reduceEqDiff,reduceAdd,reduceLeDiff,reduceCtorEq,qTrack,qFault,qAnswer,qRepair,qEnter,qLeave,qTake,qProtect,qClear,qOpen,qReturn,qStaff,qOff,qClose,qRaise]
 have qRaise:=Yd hRaise;unfold XD at qRaise;by_cases hIn:k=Pos.kIn
 . have qIn:=Yh hIn;have e:YG k=.agg [.str [77,112],.int .i64 1,.bool true]:=by rw [hIn];rfl
   rw [e];unfold Pos.kIn at qIn;clear hIn e;simp (maxDischargeDepth:=12) only [go_sem,reduceEqDiff,reduceAdd,reduceLeDiff,reduceCtorEq,qTrack,qFault,qAnswer,qRepair,qEnter,qLeave,qTake,qProtect,qClear,qOpen,qReturn,qStaff,qOff,qClose,qRaise,qIn]
 have qIn:=Yd hIn;unfold Pos.kIn at qIn;by_cases hOut:k=Xd
 . have qOut:=Yh hOut;have e:YG k=.agg [.str [109],.int .i64 1,.bool true]:=by rw [hOut];rfl
   rw [e];unfold Xd at qOut;clear hOut e;simp (maxDischargeDepth:=12) only [go_sem,reduceEqDiff,reduceAdd,reduceLeDiff,reduceCtorEq,qTrack,qFault,qAnswer,qRepair,qEnter,qLeave,qTake,qProtect,qClear,qOpen,qReturn,qStaff,qOff,qClose,qRaise,qIn,qOut]
 have qOut:=Yd hOut;unfold Xd at qOut;by_cases hUndo:k=ZJ
 . have qUndo:=Yh hUndo;have e:YG k=.agg [.str [],.int .i64 0,.bool true]:=by rw [hUndo];rfl
   rw [e];unfold ZJ at qUndo;clear hUndo e;simp (maxDischargeDepth:=12) only [go_sem,reduceEqDiff,reduceAdd,reduceLeDiff,reduceCtorEq,qTrack,qFault,qAnswer,qRepair,qEnter,qLeave,qTake,qProtect,qClear,qOpen,qReturn,qStaff,qOff,qClose,qRaise,qIn,qOut,qUndo]
 have qUndo:=Yd hUndo;unfold ZJ at qUndo;have e:YG k=.agg [.str [],.int .i64 0,.bool false]:=by
  unfold YG Y8;simp only [hTrack,hFault,hAnswer,hRepair,hEnter,hLeave,hTake,hProtect,hClear,hOpen,hReturn,hStaff,hOff,hClose,hRaise,hIn,hOut,hUndo,if_false]
 rw [e];simp (maxDischargeDepth:=12) only [go_sem,reduceEqDiff,reduceAdd,reduceCtorEq,qTrack,qFault,qAnswer,qRepair,qEnter,qLeave,qTake,qProtect,qClear,qOpen,qReturn,qStaff,qOff,qClose,qRaise,qIn,qOut,qUndo]
def p94:List AV->Option AV:=ZG (α:=(Nm)) (fun x=>[.str x]) (fun x=>True) (fun x=>YG x)
theorem II:Pok p94 94:=by
 intro args v h;obtain ⟨x,rfl,hp,rfl⟩:=ZL h;exact c94 x
theorem pe94 (k:Nm):p94 [.str k]=some (YG k):=ZN (by intro x y h;(simp only [List.cons.injEq,AV.str.injEq,and_true] at h;first | simpa only [Prod.ext_iff] using h | simpa only [Prod.ext_iff,and_assoc] using h)) k trivial
attribute [go_sem] pe94
theorem CM {m:List Ev}:(l.map Pos.Ev.row=m.map Pos.Ev.row)=(l=m):=propext ⟨Jq (fun a b h=>by rw [Pos.Ev.row_inj] at h;exact h),fun h=>by rw [h]⟩
def Vv (f:Nm × Int × Bool):Prop:=f.1.length<=2/\0<=f.2.1/\f.2.1<=4
theorem ZaK {p:Prop} [Decidable p] {a b:Nm × Int × Bool} (ha:Vv a) (hb:Vv b):Vv (if p then a else b):=by
 split
 . exact ha
 . exact hb
theorem IJ (k:Nm):(Y8 k).1.length<=2/\0<=(Y8 k).2.1/\(Y8 k).2.1<=4:=by
 show Vv (Y8 k);unfold Y8
 iterate 18 refine ZaK (by unfold Vv;decide) ?_
 unfold Vv
 decide
theorem IK (e:Ev):Y1 Z7 e=if e.num < 1\/1000 < e.num then 3 else if (Y8 e.kind).2.2=true then (if e.names.length ≠ (Y8 e.kind).1.length\/e.vals.length ≠ (Y8 e.kind).2.1.toNat then 2 else if e.names.all Z7=false then 8 else if e.vals.any (fun v=>decide (v < 0) || decide (999999999 < v))=true then 3 else if e.text ≠ [] then 1 else 0) else 13:=by
 unfold Y1;rw [ZaH];split
 . rfl
 . split<;>simp_all
theorem CN {p:α->Bool} {l:List α} {y:α} (h:l[k]? = some y):(l.take (k+1)).all p=((l.take k).all p && p y):=by
 rw [take_add_one,h,all_append];simp
theorem Vw {p:α->Bool} {l:List α} {y:α} (h:l[k]? = some y):(l.take (k+1)).any p=((l.take k).any p || p y):=by
 rw [take_add_one,h,any_append];simp
theorem CO {p:α->Bool} {l:List α} {y:α} (h:l[k]? = some y) (hp:p y=false):l.all p=false:=by
 rw [all_eq_false];exact ⟨y,mem_of_getElem? h,by simp [hp]⟩
theorem Vx {p:α->Bool} {l:List α} {y:α} (h:l[k]? = some y) (hp:p y=true):l.any p=true:=by
 rw [any_eq_true];exact ⟨y,mem_of_getElem? h,hp⟩
def Gw:PF:=Zo 95 p95 (Zo 94 p94 (Zo 93 p93 (fun _=>none)))
theorem ZaL:PrimsOk NC Gw:=Pa (Pa (Pa (ZK) IF) II) pok95
theorem ZaM:En Gw 93 p93:=ZA (by rfl) (by kernel_rfl)
theorem ZaN:En Gw 94 p94:=ZA (by rfl) (by kernel_rfl)
theorem ZaO:En Gw 95 p95:=ZA (by rfl) (by kernel_rfl)
attribute [go_sem ↓] ZaM ZaN ZaO
theorem c34 (e:Ev):∀ lo H,Za NC lo 34 [.agg e.row] H (i64 (Y1 Z7 e)) H:=by
 refine Cn ZaL Tryz.func34 rfl rfl ?_;rw [IK];have hs:=IJ e.kind;have hF:=pe94 e.kind;unfold YG at hF;obtain ⟨num,kind,names,vals,text⟩:=e;simp only at hs hF ⊢;generalize Y8 kind=f at hs hF ⊢;obtain ⟨ro,n,kn⟩:=f;obtain ⟨h1,h2,h3⟩:=hs;simp only at h1 h2 h3 hF ⊢;have o1:=Jx num 1 1000;by_cases c1:num < 1∨1000 < num
 · have q:(decide (num < 1) || decide (1000 < num))=true:=by simpa using c1
   rw [q] at o1;rw [if_pos c1];simp (maxDischargeDepth:=12) only [go_sem,reduceEqDiff,reduceAdd,reduceLeDiff,reduceCtorEq,Pos.Ev.row,o1]
 have q:(decide (num < 1) || decide (1000 < num))=false:=by rw [decide_eq_false (fun h=>c1 (.inl h)),decide_eq_false (fun h=>c1 (.inr h))];rfl
 rw [q] at o1;rw [if_neg c1];clear q c1;cases kn with
 | false =>
   rw [if_neg (by decide)];simp (maxDischargeDepth:=12) only [go_sem,reduceEqDiff,reduceAdd,reduceLeDiff,reduceCtorEq,Pos.Ev.row,o1,hF]
 | true =>
   rw [if_pos rfl];obtain ⟨n,rfl⟩:∃ m:Nat,n=(m:Int):=⟨n.toNat,by omega⟩;rw [toNat_natCast];by_cases c2:names.length=ro.length
   case neg =>
    rw [if_pos (.inl c2)];have q2:((names.length:Int)=(ro.length:Int))=False:=eq_false (by omega);simp (maxDischargeDepth:=12) only [go_sem,reduceEqDiff,reduceAdd,reduceLeDiff,reduceCtorEq,Pos.Ev.row,o1,hF,Zv,q2]
   by_cases c3:vals.length=n
   case neg =>
    rw [if_pos (.inr c3)];have q2:((names.length:Int)=(ro.length:Int))=True:=eq_true (by omega);have q3:((vals.length:Int)=(n:Int))=False:=eq_false (by omega);simp (maxDischargeDepth:=12) only [go_sem,reduceEqDiff,reduceAdd,reduceLeDiff,reduceCtorEq,Pos.Ev.row,o1,hF,Zv,Yo,q2,q3]
   rw [if_neg (by omega)];have q2:((names.length:Int)=(ro.length:Int))=True:=eq_true (by omega);have q3:((vals.length:Int)=(n:Int))=True:=eq_true (by omega);simp (maxDischargeDepth:=12) only [go_sem,reduceEqDiff,reduceAdd,reduceLeDiff,reduceCtorEq,Pos.Ev.row,o1,hF,Zv,Yo,q2,q3];clear o1 hF q2 q3;refine ZP (fun k T H M=>M=[]∧Z1 T 1=.ptr 0 0∧Z1 T 3=.ptr 1 0∧H.get 0=.cells [.int .i64 num,.str kind,.ps .unk (Z0 names),.ps .unk (Z3 vals),.str text] 53∧H.get 1=.cells [.str ro,.int .i64 (n:Int),.bool true] 199∧Z1 T 4=i64 k∧(names.take k).all Z7=true) ro.length ?_ ?_ ?_
   · simp (maxDischargeDepth:=12) only [go_sem,reduceEqDiff,reduceCtorEq]<;>rfl
   · rintro k T H M hk ⟨rfl,g1,g3,hg0,hg1,g4,ha⟩;obtain ⟨s,hs⟩:∃ s,names[k]? = some s:=⟨names[k]'(by omega),by simp⟩;have hr:=JK hs;have hw:=ZQ hk (by unfold Z2;omega);have hN:=pe95 s;have hkn:k < names.length:=by omega
     cases hb:Z7 s with
     | false =>
       rw [hb] at hN;rw [if_pos (CO hs hb)];simp (maxDischargeDepth:=12) only [go_sem,reduceEqDiff,reduceAdd,reduceLeDiff,reduceCtorEq,g1,g3,hg0,hg1,g4,hk,hkn,Zv,hr,hN]
     | true =>
       rw [hb] at hN;have e1:=CN (p:=Z7) hs;rw [ha,hb] at e1;simp (maxDischargeDepth:=12) only [go_sem,reduceEqDiff,reduceAdd,reduceLeDiff,g1,g3,hg0,hg1,g4,hk,hkn,Zv,hr,hN,hw,e1]
   · rintro T H M ⟨rfl,g1,g3,hg0,hg1,g4,ha⟩;rw [← c2,take_length] at ha;rw [if_neg (by rw [ha];decide)];simp (maxDischargeDepth:=12) only [go_sem,reduceEqDiff,reduceAdd,reduceLeDiff,reduceCtorEq,g3,hg1,g4,Nat.lt_irrefl];refine ZP (fun k T H M=>M=[]∧Z1 T 1=.ptr 0 0∧Z1 T 3=.ptr 1 0∧H.get 0=.cells [.int .i64 num,.str kind,.ps .unk (Z0 names),.ps .unk (Z3 vals),.str text] 53∧H.get 1=.cells [.str ro,.int .i64 (n:Int),.bool true] 199∧Z1 T 5=i64 k∧(vals.take k).any (fun v=>decide (v < 0) || decide (999999999 < v))=false) n ?_ ?_ ?_
     · simp (maxDischargeDepth:=12) only [go_sem,reduceEqDiff,g1,g3,hg0,hg1]<;>rfl
     · rintro k T H M hk ⟨rfl,g1,g3,hg0,hg1,g5,hv⟩;obtain ⟨s,hs⟩:∃ s,vals[k]? = some s:=⟨vals[k]'(by omega),by simp⟩;have hr:=Gj hs;have hw:=ZQ hk (by unfold Z2;omega);have hN:=Jx s 0 999999999;have hkn:k < vals.length:=by omega
       cases hb:(decide (s < 0) || decide (999999999 < s)) with
       | true =>
         rw [hb] at hN;rw [if_pos (Vx hs hb)];simp (maxDischargeDepth:=12) only [go_sem,reduceEqDiff,reduceAdd,reduceLeDiff,reduceCtorEq,g1,g3,hg0,hg1,g5,hk,hkn,Yo,hr,hN]
       | false =>
         rw [hb] at hN;have e1:=Vw (p:=fun v=>decide (v < 0) || decide (999999999 < v)) hs;rw [hv] at e1;simp only [hb,Bool.or_false] at e1;simp (maxDischargeDepth:=12) only [go_sem,reduceEqDiff,reduceAdd,reduceLeDiff,g1,g3,hg0,hg1,g5,hk,hkn,Yo,hr,hN,hw,e1]
     · rintro T H M ⟨rfl,g1,g3,hg0,hg1,g5,hv⟩;rw [← c3,take_length] at hv;rw [if_neg (by rw [hv];decide)];by_cases c6:text=[]
       · subst c6;have b1:Z6 ([]:Nm) []=true:=rfl;simp (maxDischargeDepth:=12) only [go_sem,reduceEqDiff,reduceAdd,reduceLeDiff,reduceCtorEq,g1,g3,hg0,hg1,g5,Nat.lt_irrefl,b1];rfl
       · rw [if_pos c6];have b1:=Yd c6;simp (maxDischargeDepth:=12) only [go_sem,reduceEqDiff,reduceAdd,reduceLeDiff,reduceCtorEq,g1,g3,hg0,hg1,g5,Nat.lt_irrefl,b1]
def p34:List AV->Option AV:=ZG (α:=(Ev)) (fun x=>[.agg x.row]) (fun x=>True) (fun x=>i64 (Y1 Z7 x))
theorem pok34:Pok p34 34:=by
 intro args v h;obtain ⟨x,rfl,hp,rfl⟩:=ZL h;exact c34 x
theorem pe34 (e:Ev):p34 [.agg e.row]=some (.int .i64 (Y1 Z7 e)):=ZN (by intro x y h;(simp only [List.cons.injEq,AV.agg.injEq,Pos.Ev.row_inj,and_true] at h;first | simpa only [Prod.ext_iff] using h | simpa only [Prod.ext_iff,and_assoc] using h)) e trivial
attribute [go_sem] pe34
def Qp (e:Ev):Bool:=decide (e.kind.length<=40) && (decide (e.names.length<=6) && (decide (e.vals.length<=8) && (decide (e.text.length<=200) && e.names.all fun w=>decide (w.length<=40))))
def Jy (l:List Ev) (n:Int):Bool:=decide ((l.length:Int)<=n) && l.all Qp
def PPF14:PF:=fun _=>none
theorem ZaP:PrimsOk NC PPF14:=ZK
theorem c14 (l:List Ev) (n:Int) (hp:n≤1000):∀ lo H,Za NC lo 14 [.ps .unk (l.map Pos.Ev.row),i64 n] H (.bool (Jy l n)) H:=by
 refine Cn ZaP Tryz.func14 rfl rfl ?_;by_cases c1:n < (l.length:Int)
 · have e:Jy l n=false:=by unfold Jy;rw [decide_eq_false (by omega)];rfl
   rw [e];simp (maxDischargeDepth:=12) only [go_sem,reduceEqDiff,reduceAdd,reduceCtorEq,c1]
 have e:Jy l n=l.all Qp:=by unfold Jy;rw [decide_eq_true (by omega)];rfl
 rw [e];clear e;simp (maxDischargeDepth:=12) only [go_sem,reduceEqDiff,reduceAdd,reduceCtorEq,c1];refine ZP (fun k T H M=>M=[]∧Z1 T 0=.ps .unk (l.map Pos.Ev.row)∧Z1 T 5=i64 k∧(l.take k).all Qp=true) l.length ?_ ?_ ?_
 · simp (maxDischargeDepth:=12) only [go_sem,reduceEqDiff,reduceCtorEq]<;>rfl
 · rintro k T H M hk ⟨rfl,g0,g5,ha⟩;obtain ⟨e,he⟩:∃ e,l[k]? = some e:=⟨l[k],by simp⟩;have hw:=ZQ hk (n:=l.length) (by unfold Z2;omega);have bad:Qp e=false→l.all Qp=false:=CO he;have e1:=CN (p:=Qp) he;rw [ha,Bool.true_and] at e1;rw [e1];clear e1;obtain ⟨num,kind,names,vals,text⟩:=e;have hr:(l.map Pos.Ev.row)[k]? = some [.int .i64 num,.str kind,.ps .unk (Z0 names),.ps .unk (Z3 vals),.str text]:=Zy (f:=Pos.Ev.row) he;by_cases d1:(40:Int) < kind.length
   · rw [bad (by unfold Qp;rw [decide_eq_false (by simp only;omega)];rfl)];simp (maxDischargeDepth:=12) only [go_sem,reduceEqDiff,reduceAdd,reduceLeDiff,reduceCtorEq,g0,g5,hk,hr,d1]
   by_cases d2:(6:Int) < names.length
   · rw [bad (by unfold Qp;simp only;rw [decide_eq_false (p:=names.length≤6) (by omega)];simp)];simp (maxDischargeDepth:=12) only [go_sem,reduceEqDiff,reduceAdd,reduceLeDiff,reduceCtorEq,g0,g5,hk,hr,d1,d2,Zv]
   by_cases d3:(8:Int) < vals.length
   · rw [bad (by unfold Qp;simp only;rw [decide_eq_false (p:=vals.length≤8) (by omega)];simp)];simp (maxDischargeDepth:=12) only [go_sem,reduceEqDiff,reduceAdd,reduceLeDiff,reduceCtorEq,g0,g5,hk,hr,d1,d2,d3,Zv,Yo]
   by_cases d4:(200:Int) < text.length
   · rw [bad (by unfold Qp;simp only;rw [decide_eq_false (p:=text.length≤200) (by omega)];simp)];simp (maxDischargeDepth:=12) only [go_sem,reduceEqDiff,reduceAdd,reduceLeDiff,reduceCtorEq,g0,g5,hk,hr,d1,d2,d3,d4,Zv,Yo]
   have e2:Qp ⟨num,kind,names,vals,text⟩=names.all fun w=>decide (w.length≤40):=by
    unfold Qp;simp only;rw [decide_eq_true (by omega),decide_eq_true (by omega),decide_eq_true (by omega),decide_eq_true (by omega)];rfl
   rw [e2] at bad ⊢;clear e2;simp (maxDischargeDepth:=12) only [go_sem,reduceEqDiff,reduceAdd,reduceLeDiff,reduceCtorEq,g0,g5,hk,hr,d1,d2,d3,d4,Zv,Yo];refine ZP (fun j T H M=>M=[]∧Z1 T 0=.ps .unk (l.map Pos.Ev.row)∧Z1 T 5=i64 k∧Z1 T 6=i64 j∧(names.take j).all (fun w=>decide (w.length≤40))=true) names.length ?_ ?_ ?_
   · simp (maxDischargeDepth:=12) only [go_sem,reduceEqDiff,reduceCtorEq,g0,g5]<;>rfl
   · rintro j T H M hj ⟨rfl,g0,g5,g6,hb⟩;obtain ⟨s,hs⟩:∃ s,names[j]? = some s:=⟨names[j],by simp⟩;have hrs:=JK hs;have hwj:=ZQ hj (n:=names.length) (by unfold Z2;omega);by_cases d5:(40:Int) < s.length
     · rw [bad (CO hs (decide_eq_false (by omega)))];simp (maxDischargeDepth:=12) only [go_sem,reduceEqDiff,reduceAdd,reduceLeDiff,reduceCtorEq,g0,g5,g6,hk,hr,hj,hrs,Zv,d5]
     · have e3:=CN (p:=fun w:Nm=>decide (w.length≤40)) hs;rw [hb,decide_eq_true (by omega)] at e3;simp (maxDischargeDepth:=12) only [go_sem,reduceEqDiff,reduceAdd,reduceLeDiff,reduceCtorEq,g0,g5,g6,hk,hr,hj,hrs,Zv,d5,hwj];exact e3
   · rintro T H M ⟨rfl,g0,g5,g6,hb⟩;rw [take_length] at hb;simp (maxDischargeDepth:=12) only [go_sem,reduceEqDiff,reduceAdd,reduceLeDiff,reduceCtorEq,g0,g5,g6,hk,hr,Zv,Nat.lt_irrefl,hw];exact hb
 · rintro T H M ⟨rfl,g0,g5,ha⟩;rw [take_length] at ha;rw [ha];simp (maxDischargeDepth:=12) only [go_sem,reduceEqDiff,reduceCtorEq,g0,g5,Nat.lt_irrefl]
def p14:List AV->Option AV:=ZG (α:=(List Ev) × (Int)) (fun x=>[.ps .unk (x.1.map Pos.Ev.row),i64 x.2]) (fun x=>x.2<=1000) (fun x=>.bool (Jy x.1 x.2))
theorem pok14:Pok p14 14:=by
 intro args v h;obtain ⟨x,rfl,hp,rfl⟩:=ZL h;exact c14 x.1 x.2 hp
theorem pe14 (l:List Ev) (n:Int) (hp:n<=1000):p14 [.ps .unk (l.map Pos.Ev.row),.int .i64 n]=some (.bool (Jy l n)):=ZN (by intro x y h;(simp only [List.cons.injEq,AV.int.injEq,AV.ps.injEq,CM,true_and,and_true] at h;first | simpa only [Prod.ext_iff] using h | simpa only [Prod.ext_iff,and_assoc] using h)) (l,n) hp
attribute [go_sem] pe14
def Z8 (r:Reg):List AV:=[.int .i64 r.tick,.ps .unk (r.tracks.map Pos.Trk.row),.ps .unk (r.faults.map Pos.Flt.row),.ps .unk (r.trains.map Pos.Trn.row),.ps .unk (r.poss.map Pos.Pos.row),.ps .unk (r.machs.map Pos.Mch.row)]
theorem KR {s:Reg}:(Z8 r=Z8 s)=(r=s):=propext ⟨fun h=>by
 obtain ⟨a,b,c,d,e,f⟩:=r;obtain ⟨a',b',c',d',e',f'⟩:=s;simp only [Z8,List.cons.injEq,AV.int.injEq,AV.ps.injEq,true_and,and_true] at h;obtain ⟨h1,h2,h3,h4,h5,h6⟩:=h;have m1:=Jq (fun x y h=>by rw [Pos.Trk.row_inj] at h;exact h) h2;have m2:=Jq (fun x y h=>by rw [Pos.Flt.row_inj] at h;exact h) h3;have m3:=Jq (fun x y h=>by rw [Pos.Trn.row_inj] at h;exact h) h4;have m4:=Jq (fun x y h=>by rw [Pos.Pos.row_inj] at h;exact h) h5;have m5:=Jq (fun x y h=>by rw [Pos.Mch.row_inj] at h;exact h) h6;rw [h1,m1,m2,m3,m4,m5],fun h=>by rw [h]⟩
def ZH (r:Reg):Prop:=r.tracks.length<=1000000/\r.faults.length<=1000000/\r.trains.length<=1000000/\r.poss.length<=1000000/\r.machs.length<=1000000
def QD (c:Int):Prop:=c=116\/c=102\/c=114\/c=112\/c=109
def ZO (r:Reg) (c:Int):List Nm:=if c=116 then r.tracks.map (·.name) else if c=102 then r.faults.map (·.name) else if c=114 then r.trains.map (·.name) else if c=112 then r.poss.map (·.name) else r.machs.map (·.name)
theorem Uq {f:α->Nm} {l:List α} {y:α} (h:l[k]? = some y):Z0 ((l.take k).map f)++[[AV.str (f y)]]=Z0 ((l.take (k+1)).map f):=by
 rw [take_add_one,h];simp [Z0]
theorem Kf (l:List Nm):(Z0 l).all (fun r=>decide (r.length=1))=true:=Ql (f:=fun w:Nm=>[AV.str w]) (sz:=1) (fun _=>rfl) l
def PPF81:PF:=fun _=>none
theorem ZaQ:PrimsOk NC PPF81:=ZK
theorem c81 (r:Reg) (c:Int) (hp:ZH r∧QD c):∀ lo H,Za NC lo 81 [.agg (Z8 r),.int .u8 c] H (.ps .unk (Z0 (ZO r c))) H:=by
 refine Cn ZaQ Tryz.func81 rfl rfl ?_;obtain ⟨⟨n1,n2,n3,n4,n5⟩,hc⟩:=hp;rcases hc with rfl | rfl | rfl | rfl | rfl
 · show _;have e:ZO r 116=r.tracks.map (·.name):=rfl;rw [e];simp (maxDischargeDepth:=12) only [go_sem,reduceEqDiff,reduceAdd,reduceCtorEq,Z8];refine ZP (fun k T H M=>M=[]∧1≤H.n∧Z1 T 2=.ptr 0 0∧Z1 T 6=i64 k∧H.get 0=.cells (Z8 r) 34 ∧ ∃ tk,Z1 T 5=.ps tk (Z0 ((r.tracks.take k).map (·.name)))∧ZB 1 H tk (Z0 ((r.tracks.take k).map (·.name))) 1 9) r.tracks.length ?_ ?_ ?_
   · simp (maxDischargeDepth:=12) only [go_sem,reduceEqDiff,reduceCtorEq];exact ⟨rfl,.nil,rfl,.inl ⟨rfl,rfl⟩⟩
   · rintro k T H M hk ⟨rfl,hn,g2,g6,hg,tk,g5,hA⟩;obtain ⟨y,hy⟩:∃ y,r.tracks[k]? = some y:=⟨r.tracks[k],by simp⟩;have hr:(r.tracks.map Pos.Trk.row)[k]? = some [.str y.name,.int .i64 y.speed]:=Zy (f:=Pos.Trk.row) hy;have hw:=ZQ hk (by unfold Z2;omega);obtain ⟨t',H1,ha,hB,hn1,hO1,hC1⟩:=Xm (lo:=0) hA hn (zero_le _) (r:=[.str y.name]) (by rw [Zv,length_map,length_take];unfold Z2;omega) rfl (by decide) (Kf _);have hst:=Uq (f:=fun z:Trk=>z.name) hy;have hmap:Z0 ((r.tracks.take k).map (·.name))++[[AV.str y.name].map AV.strip0]=Z0 ((r.tracks.take (k+1)).map (·.name)):=hst;rw [hmap] at ha hB;have hg1:=hC1 0 _ _ (by omega) hg;generalize Z0 ((r.tracks.take (k+1)).map (·.name))=L' at ha hB ⊢;generalize Z0 ((r.tracks.take k).map (·.name))=L at ha g5;unfold Z8 at hg hg1 ⊢;simp (maxDischargeDepth:=12) only [go_sem,reduceEqDiff,reduceAdd,reduceMul,reduceLeDiff,g2,g6,g5,hg,hr,hk,length_map,Zu,ha,hw,hg1];exact ⟨by omega,t',rfl,hB⟩
   · rintro T H M ⟨rfl,hn,g2,g6,hg,tk,g5,hA⟩;rw [take_length] at g5;unfold Z8 at hg;simp (maxDischargeDepth:=12) only [go_sem,reduceEqDiff,reduceAdd,reduceLeDiff,reduceCtorEq,g2,g6,g5,hg,length_map,Nat.lt_irrefl]
 · show _;have z0:((102:Int)=116)=False:=eq_false (by decide);have e:ZO r 102=r.faults.map (·.name):=rfl;rw [e];simp (maxDischargeDepth:=12) only [go_sem,reduceEqDiff,reduceAdd,reduceCtorEq,Z8,z0];refine ZP (fun k T H M=>M=[]∧1≤H.n∧Z1 T 2=.ptr 0 0∧Z1 T 7=i64 k∧H.get 0=.cells (Z8 r) 34 ∧ ∃ tk,Z1 T 5=.ps tk (Z0 ((r.faults.take k).map (·.name)))∧ZB 1 H tk (Z0 ((r.faults.take k).map (·.name))) 1 9) r.faults.length ?_ ?_ ?_
   · simp (maxDischargeDepth:=12) only [go_sem,reduceEqDiff,reduceCtorEq];exact ⟨rfl,.nil,rfl,.inl ⟨rfl,rfl⟩⟩
   · rintro k T H M hk ⟨rfl,hn,g2,g6,hg,tk,g5,hA⟩;obtain ⟨y,hy⟩:∃ y,r.faults[k]? = some y:=⟨r.faults[k],by simp⟩;have hr:(r.faults.map Pos.Flt.row)[k]? = some [.str y.name,.str y.track,.int .i64 y.frm,.int .i64 y.to,.int .i64 y.speed,.bool y.ans,.bool y.rep]:=Zy (f:=Pos.Flt.row) hy;have hw:=ZQ hk (by unfold Z2;omega);obtain ⟨t',H1,ha,hB,hn1,hO1,hC1⟩:=Xm (lo:=0) hA hn (zero_le _) (r:=[.str y.name]) (by rw [Zv,length_map,length_take];unfold Z2;omega) rfl (by decide) (Kf _);have hst:=Uq (f:=fun z:Flt=>z.name) hy;have hmap:Z0 ((r.faults.take k).map (·.name))++[[AV.str y.name].map AV.strip0]=Z0 ((r.faults.take (k+1)).map (·.name)):=hst;rw [hmap] at ha hB;have hg1:=hC1 0 _ _ (by omega) hg;generalize Z0 ((r.faults.take (k+1)).map (·.name))=L' at ha hB ⊢;generalize Z0 ((r.faults.take k).map (·.name))=L at ha g5;unfold Z8 at hg hg1 ⊢;simp (maxDischargeDepth:=12) only [go_sem,reduceEqDiff,reduceAdd,reduceMul,reduceLeDiff,g2,g6,g5,hg,hr,hk,length_map,Zu,ha,hw,hg1];exact ⟨by omega,t',rfl,hB⟩
   · rintro T H M ⟨rfl,hn,g2,g6,hg,tk,g5,hA⟩;rw [take_length] at g5;unfold Z8 at hg;simp (maxDischargeDepth:=12) only [go_sem,reduceEqDiff,reduceAdd,reduceLeDiff,reduceCtorEq,g2,g6,g5,hg,length_map,Nat.lt_irrefl]
 · show _;have z0:((114:Int)=116)=False:=eq_false (by decide);have z1:((114:Int)=102)=False:=eq_false (by decide);have e:ZO r 114=r.trains.map (·.name):=rfl;rw [e];simp (maxDischargeDepth:=12) only [go_sem,reduceEqDiff,reduceAdd,reduceCtorEq,Z8,z0,z1];refine ZP (fun k T H M=>M=[]∧1≤H.n∧Z1 T 2=.ptr 0 0∧Z1 T 8=i64 k∧H.get 0=.cells (Z8 r) 34 ∧ ∃ tk,Z1 T 5=.ps tk (Z0 ((r.trains.take k).map (·.name)))∧ZB 1 H tk (Z0 ((r.trains.take k).map (·.name))) 1 9) r.trains.length ?_ ?_ ?_
   · simp (maxDischargeDepth:=12) only [go_sem,reduceEqDiff,reduceCtorEq];exact ⟨rfl,.nil,rfl,.inl ⟨rfl,rfl⟩⟩
   · rintro k T H M hk ⟨rfl,hn,g2,g6,hg,tk,g5,hA⟩;obtain ⟨y,hy⟩:∃ y,r.trains[k]? = some y:=⟨r.trains[k],by simp⟩;have hr:(r.trains.map Pos.Trn.row)[k]? = some [.str y.name,.str y.track,.int .i64 y.speed]:=Zy (f:=Pos.Trn.row) hy;have hw:=ZQ hk (by unfold Z2;omega);obtain ⟨t',H1,ha,hB,hn1,hO1,hC1⟩:=Xm (lo:=0) hA hn (zero_le _) (r:=[.str y.name]) (by rw [Zv,length_map,length_take];unfold Z2;omega) rfl (by decide) (Kf _);have hst:=Uq (f:=fun z:Trn=>z.name) hy;have hmap:Z0 ((r.trains.take k).map (·.name))++[[AV.str y.name].map AV.strip0]=Z0 ((r.trains.take (k+1)).map (·.name)):=hst;rw [hmap] at ha hB;have hg1:=hC1 0 _ _ (by omega) hg;generalize Z0 ((r.trains.take (k+1)).map (·.name))=L' at ha hB ⊢;generalize Z0 ((r.trains.take k).map (·.name))=L at ha g5;unfold Z8 at hg hg1 ⊢;simp (maxDischargeDepth:=12) only [go_sem,reduceEqDiff,reduceAdd,reduceMul,reduceLeDiff,g2,g6,g5,hg,hr,hk,length_map,Zu,ha,hw,hg1];exact ⟨by omega,t',rfl,hB⟩
   · rintro T H M ⟨rfl,hn,g2,g6,hg,tk,g5,hA⟩;rw [take_length] at g5;unfold Z8 at hg;simp (maxDischargeDepth:=12) only [go_sem,reduceEqDiff,reduceAdd,reduceLeDiff,reduceCtorEq,g2,g6,g5,hg,length_map,Nat.lt_irrefl]
 · show _;have z0:((112:Int)=116)=False:=eq_false (by decide);have z1:((112:Int)=102)=False:=eq_false (by decide);have z2:((112:Int)=114)=False:=eq_false (by decide);have e:ZO r 112=r.poss.map (·.name):=rfl;rw [e];simp (maxDischargeDepth:=12) only [go_sem,reduceEqDiff,reduceAdd,reduceCtorEq,Z8,z0,z1,z2];refine ZP (fun k T H M=>M=[]∧1≤H.n∧Z1 T 2=.ptr 0 0∧Z1 T 9=i64 k∧H.get 0=.cells (Z8 r) 34 ∧ ∃ tk,Z1 T 5=.ps tk (Z0 ((r.poss.take k).map (·.name)))∧ZB 1 H tk (Z0 ((r.poss.take k).map (·.name))) 1 9) r.poss.length ?_ ?_ ?_
   · simp (maxDischargeDepth:=12) only [go_sem,reduceEqDiff,reduceCtorEq];exact ⟨rfl,.nil,rfl,.inl ⟨rfl,rfl⟩⟩
   · rintro k T H M hk ⟨rfl,hn,g2,g6,hg,tk,g5,hA⟩;obtain ⟨y,hy⟩:∃ y,r.poss[k]? = some y:=⟨r.poss[k],by simp⟩;have hr:(r.poss.map Pos.Pos.row)[k]? = some [.str y.name,.str y.track,.int .i64 y.frm,.int .i64 y.to,.bool y.ret,.bool y.prot,.bool y.opn,.int .i64 y.closed,.int .i64 y.pers,.int .i64 y.speed]:=Zy (f:=Pos.Pos.row) hy;have hw:=ZQ hk (by unfold Z2;omega);obtain ⟨t',H1,ha,hB,hn1,hO1,hC1⟩:=Xm (lo:=0) hA hn (zero_le _) (r:=[.str y.name]) (by rw [Zv,length_map,length_take];unfold Z2;omega) rfl (by decide) (Kf _);have hst:=Uq (f:=fun z:Pos=>z.name) hy;have hmap:Z0 ((r.poss.take k).map (·.name))++[[AV.str y.name].map AV.strip0]=Z0 ((r.poss.take (k+1)).map (·.name)):=hst;rw [hmap] at ha hB;have hg1:=hC1 0 _ _ (by omega) hg;generalize Z0 ((r.poss.take (k+1)).map (·.name))=L' at ha hB ⊢;generalize Z0 ((r.poss.take k).map (·.name))=L at ha g5;unfold Z8 at hg hg1 ⊢;simp (maxDischargeDepth:=12) only [go_sem,reduceEqDiff,reduceAdd,reduceMul,reduceLeDiff,g2,g6,g5,hg,hr,hk,length_map,Zu,ha,hw,hg1];exact ⟨by omega,t',rfl,hB⟩
   · rintro T H M ⟨rfl,hn,g2,g6,hg,tk,g5,hA⟩;rw [take_length] at g5;unfold Z8 at hg;simp (maxDischargeDepth:=12) only [go_sem,reduceEqDiff,reduceAdd,reduceLeDiff,reduceCtorEq,g2,g6,g5,hg,length_map,Nat.lt_irrefl]
 · show _;have z0:((109:Int)=116)=False:=eq_false (by decide);have z1:((109:Int)=102)=False:=eq_false (by decide);have z2:((109:Int)=114)=False:=eq_false (by decide);have z3:((109:Int)=112)=False:=eq_false (by decide);have e:ZO r 109=r.machs.map (·.name):=rfl;rw [e];simp (maxDischargeDepth:=12) only [go_sem,reduceEqDiff,reduceAdd,reduceCtorEq,Z8,z0,z1,z2,z3];refine ZP (fun k T H M=>M=[]∧1≤H.n∧Z1 T 2=.ptr 0 0∧Z1 T 10=i64 k∧H.get 0=.cells (Z8 r) 34 ∧ ∃ tk,Z1 T 5=.ps tk (Z0 ((r.machs.take k).map (·.name)))∧ZB 1 H tk (Z0 ((r.machs.take k).map (·.name))) 1 9) r.machs.length ?_ ?_ ?_
   · simp (maxDischargeDepth:=12) only [go_sem,reduceEqDiff,reduceCtorEq];exact ⟨rfl,.nil,rfl,.inl ⟨rfl,rfl⟩⟩
   · rintro k T H M hk ⟨rfl,hn,g2,g6,hg,tk,g5,hA⟩;obtain ⟨y,hy⟩:∃ y,r.machs[k]? = some y:=⟨r.machs[k],by simp⟩;have hr:(r.machs.map Pos.Mch.row)[k]? = some [.str y.name,.str y.poss]:=Zy (f:=Pos.Mch.row) hy;have hw:=ZQ hk (by unfold Z2;omega);obtain ⟨t',H1,ha,hB,hn1,hO1,hC1⟩:=Xm (lo:=0) hA hn (zero_le _) (r:=[.str y.name]) (by rw [Zv,length_map,length_take];unfold Z2;omega) rfl (by decide) (Kf _);have hst:=Uq (f:=fun z:Mch=>z.name) hy;have hmap:Z0 ((r.machs.take k).map (·.name))++[[AV.str y.name].map AV.strip0]=Z0 ((r.machs.take (k+1)).map (·.name)):=hst;rw [hmap] at ha hB;have hg1:=hC1 0 _ _ (by omega) hg;generalize Z0 ((r.machs.take (k+1)).map (·.name))=L' at ha hB ⊢;generalize Z0 ((r.machs.take k).map (·.name))=L at ha g5;unfold Z8 at hg hg1 ⊢;simp (maxDischargeDepth:=12) only [go_sem,reduceEqDiff,reduceAdd,reduceMul,reduceLeDiff,g2,g6,g5,hg,hr,hk,length_map,Zu,ha,hw,hg1];exact ⟨by omega,t',rfl,hB⟩
   · rintro T H M ⟨rfl,hn,g2,g6,hg,tk,g5,hA⟩;rw [take_length] at g5;unfold Z8 at hg;simp (maxDischargeDepth:=12) only [go_sem,reduceEqDiff,reduceAdd,reduceCtorEq,g2,g6,g5,hg,length_map,Nat.lt_irrefl]
def p81:List AV->Option AV:=ZG (α:=(Reg) × (Int)) (fun x=>[.agg (Z8 x.1),.int .u8 x.2]) (fun x=>ZH x.1/\QD x.2) (fun x=>.ps .unk (Z0 (ZO x.1 x.2)))
theorem pok81:Pok p81 81:=by
 intro args v h;obtain ⟨x,rfl,hp,rfl⟩:=ZL h;exact c81 x.1 x.2 hp
theorem pe81 (r:Reg) (c:Int) (hp:ZH r/\QD c):p81 [.agg (Z8 r),.int .u8 c]=some (.ps .unk (Z0 (ZO r c))):=ZN (by intro x y h;(simp only [List.cons.injEq,AV.agg.injEq,AV.int.injEq,KR,true_and,and_true] at h;first | simpa only [Prod.ext_iff] using h | simpa only [Prod.ext_iff,and_assoc] using h)) (r,c) hp
attribute [go_sem] pe81
def atL (l:List Nm) (w:Nm):Int:=match Yr (fun y=>y) w l with
 | some i=>(i:Int)
 | none=>-1
theorem IL {w:Nm}:∀ {l:List Nm} {k:Nat},(∀ i,i < k -> ∀ y,l[i]? = some y->y ≠ w)->l[k]? = some w->Yr (fun y=>y) w l=some k
 | [],k,_,h=>by simp at h
 | a::r,0,_,h=>by
   have:a=w:=by simpa using h
   unfold Yr;rw [if_pos this]
 | a::r,k+1,hb,h=>by
   have h0:=hb 0 (by omega) a rfl;unfold Yr;rw [if_neg h0,IL (l:=r) (k:=k) (fun i hi y hy=>hb (i+1) (by omega) y (by simpa using hy)) (by simpa using h)];rfl
theorem IM {w:Nm}:∀ {l:List Nm},(∀ i,i < l.length -> ∀ y,l[i]? = some y->y ≠ w)->Yr (fun y=>y) w l=none
 | [],_=>rfl
 | a::r,hb=>by
   have h0:=hb 0 (by simp) a rfl;unfold Yr;rw [if_neg h0,IM (l:=r) (fun i hi y hy=>hb (i+1) (by simp;omega) y (by simpa using hy))];rfl
theorem ZaR (h:ZH r) (c:Int):(ZO r c).length<=1000000:=by
 obtain ⟨n1,n2,n3,n4,n5⟩:=h;unfold ZO
 repeat' split
 all_goals (rw [length_map];assumption)
def IN:PF:=Zo 81 p81 (fun _=>none)
theorem ZaS:PrimsOk NC IN:=Pa (ZK) pok81
theorem ZaT:En IN 81 p81:=ZA (by rfl) (by kernel_rfl)
attribute [go_sem ↓] ZaT
theorem c20 (r:Reg) (c:Int) (w:Nm) (hp:ZH r∧QD c):∀ lo H,Za NC lo 20 [.agg (Z8 r),.int .u8 c,.str w] H (i64 (atL (ZO r c) w)) H:=by
 refine Cn ZaS Tryz.func20 rfl rfl ?_;have hN:=pe81 r c hp;have hlen:=ZaR hp.1 c;generalize ZO r c=l at hN hlen ⊢;have hsr:(Z8 r).map AV.strip0=Z8 r:=rfl;have hone:(Z8 r).all AV.one=true:=rfl;have h6:(Z8 r).length=6:=rfl;have e6:(Z8 r).take 6=Z8 r:=rfl;simp (maxDischargeDepth:=12) only [go_sem,reduceEqDiff,reduceAdd,reduceCtorEq,h6,e6,hsr,hone,hN];refine ZP (fun k T H M=>M=[]∧Z1 T 7=.ps .unk (Z0 l)∧Z1 T 2=.str w∧Z1 T 8=i64 k ∧ ∀ i,i < k → ∀ y,l[i]? = some y→y ≠ w) l.length ?_ ?_ ?_
 · simp (maxDischargeDepth:=12) only [go_sem,reduceEqDiff,reduceCtorEq];exact fun i hi=>by omega
 · rintro k T H M hk ⟨rfl,g7,g2,g8,hb⟩;obtain ⟨y,hy⟩:∃ y,l[k]? = some y:=⟨l[k],by simp⟩;have hr:=JK hy;have hw:=ZQ hk (by unfold Z2;omega);by_cases hyw:y=w
   · have b1:=Yh hyw;have e:atL l w=(k:Int):=by unfold atL;rw [IL hb (by rw [hy,hyw])]
     rw [e];simp (maxDischargeDepth:=12) only [go_sem,reduceEqDiff,reduceCtorEq,g7,g2,g8,Zv,hk,hr,b1]
   · have b1:=Yd hyw;simp (maxDischargeDepth:=12) only [go_sem,reduceEqDiff,g7,g2,g8,Zv,hk,hr,b1,hw];intro i hi z hz;by_cases e:i=k
     · subst e;rw [hy] at hz;cases hz;exact hyw
     · exact hb i (by omega) z hz
 · rintro T H M ⟨rfl,g7,g2,g8,hb⟩;have e:atL l w = -1:=by unfold atL;rw [IM hb]
   rw [e];simp (maxDischargeDepth:=12) only [go_sem,reduceEqDiff,reduceCtorEq,g7,g8,Zv,Nat.lt_irrefl]
def p20:List AV->Option AV:=ZG (α:=(Reg) × (Int) × (Nm)) (fun x=>[.agg (Z8 x.1),.int .u8 x.2.1,.str x.2.2]) (fun x=>ZH x.1/\QD x.2.1) (fun x=>i64 (atL (ZO x.1 x.2.1) x.2.2))
theorem Gx:Pok p20 20:=by
 intro args v h;obtain ⟨x,rfl,hp,rfl⟩:=ZL h;exact c20 x.1 x.2.1 x.2.2 hp
theorem Vy (r:Reg) (c:Int) (w:Nm) (hp:ZH r/\QD c):p20 [.agg (Z8 r),.int .u8 c,.str w]=some (.int .i64 (atL (ZO r c) w)):=ZN (by intro x y h;(simp only [List.cons.injEq,AV.agg.injEq,AV.str.injEq,AV.int.injEq,KR,true_and,and_true] at h;first | simpa only [Prod.ext_iff] using h | simpa only [Prod.ext_iff,and_assoc] using h)) (r,c,w) hp
attribute [go_sem] Vy
def ZaU:PF:=fun _=>none
theorem ZaV:PrimsOk NC ZaU:=ZK
theorem c124 (f:Flt):∀ lo H,Za NC lo 124 [.agg f.row] H (.bool f.silent) H:=by
 refine Cn ZaV Tryz.func124 rfl rfl ?_;obtain ⟨nm,tr,a,b,s,an,rp⟩:=f;cases rp<;>cases an<;>simp (maxDischargeDepth:=12) only [go_sem,reduceEqDiff,reduceAdd,reduceLeDiff,reduceCtorEq,Pos.Flt.row]<;>rfl
def p124:List AV->Option AV:=ZG (α:=(Flt)) (fun x=>[.agg x.row]) (fun x=>True) (fun x=>.bool x.silent)
theorem ZaW:Pok p124 124:=by
 intro args v h;obtain ⟨x,rfl,hp,rfl⟩:=ZL h;exact c124 x
theorem IP (f:Flt):p124 [.agg f.row]=some (.bool f.silent):=ZN (by intro x y h;(simp only [List.cons.injEq,AV.agg.injEq,Pos.Flt.row_inj,and_true] at h;first | simpa only [Prod.ext_iff] using h | simpa only [Prod.ext_iff,and_assoc] using h)) f trivial
attribute [go_sem] IP
def Qq (r:Reg) (t:Nm):Int:=if r.taken t=true then 31 else if r.silentOn t=true then 32 else 0
theorem ZaX (y:Flt):Pos.Flt.row y=[.str y.name,.str y.track,.int .i64 y.frm,.int .i64 y.to,.int .i64 y.speed,.bool y.ans,.bool y.rep]:=rfl
def IQ:PF:=Zo 124 p124 (fun _=>none)
theorem ZaY:PrimsOk NC IQ:=Pa (ZK) ZaW
theorem ZaZ:En IQ 124 p124:=ZA (by rfl) (by kernel_rfl)
attribute [go_sem ↓] ZaZ
theorem c47 (r:Reg) (w:Nm) (hp:ZH r):∀ lo H,Za NC lo 47 [.agg (Z8 r),.str w] H (i64 (Qq r w)) H:=by
 refine Cn ZaY Tryz.func47 rfl rfl ?_;obtain ⟨n1,n2,n3,n4,n5⟩:=hp;simp (maxDischargeDepth:=12) only [go_sem,reduceAdd,Z8];refine ZP (fun k T H M=>M=[]∧Z1 T 1=.str w∧Z1 T 2=.ptr 0 0∧Z1 T 5=i64 k∧H.get 0=.cells (Z8 r) 34∧(r.poss.take k).any (fun p=>decide (p.track=w) && !p.ret)=false) r.poss.length ?_ ?_ ?_
 · simp (maxDischargeDepth:=12) only [go_sem,reduceEqDiff,reduceCtorEq];rfl
 · rintro k T H M hk ⟨rfl,g1,g2,g5,hg,ha⟩;obtain ⟨y,hy⟩:∃ y,r.poss[k]? = some y:=⟨r.poss[k],by simp⟩;have hr:(r.poss.map Pos.Pos.row)[k]? = some [.str y.name,.str y.track,.int .i64 y.frm,.int .i64 y.to,.bool y.ret,.bool y.prot,.bool y.opn,.int .i64 y.closed,.int .i64 y.pers,.int .i64 y.speed]:=Zy (f:=Pos.Pos.row) hy;have hw:=ZQ hk (by unfold Z2;omega);have e1:=Vw (p:=fun p:Pos=>decide (p.track=w) && !p.ret) hy;rw [ha,Bool.false_or] at e1;have e2:=fun h=>Vx (p:=fun p:Pos=>decide (p.track=w) && !p.ret) hy h
   unfold Z8 at hg ⊢;obtain ⟨nm,tr,a,b,rt,pr,op,cl,pe,sp⟩:=y;simp only at hr e1 e2;by_cases c1:tr=w
   · have b1:=Yh c1;rw [decide_eq_true c1,Bool.true_and] at e1 e2;cases rt with
     | false =>
       have e:Qq r w=31:=by unfold Qq Reg.taken;rw [e2 rfl];rfl
       rw [e];simp (maxDischargeDepth:=12) only [go_sem,reduceEqDiff,reduceAdd,reduceLeDiff,reduceCtorEq,g1,g2,g5,hg,hr,hk,length_map,b1]
     | true =>
       simp (maxDischargeDepth:=12) only [go_sem,reduceEqDiff,reduceAdd,reduceLeDiff,g1,g2,g5,hg,hr,hk,length_map,b1,hw];exact e1
   · have b1:=Yd c1;rw [decide_eq_false c1,Bool.false_and] at e1;simp (maxDischargeDepth:=12) only [go_sem,reduceEqDiff,reduceAdd,reduceLeDiff,g1,g2,g5,hg,hr,hk,length_map,b1,hw];exact e1
 · rintro T H M ⟨rfl,g1,g2,g5,hg,ha⟩;rw [take_length] at ha;have e:Qq r w=if r.silentOn w=true then 32 else 0:=by unfold Qq Reg.taken;rw [ha];rfl
   rw [e];unfold Reg.silentOn;have hg':=hg;unfold Z8 at hg;simp (maxDischargeDepth:=12) only [go_sem,reduceEqDiff,reduceAdd,reduceLeDiff,reduceCtorEq,g2,g5,hg,length_map,Nat.lt_irrefl];refine ZP (fun k T H M=>M=[]∧Z1 T 1=.str w∧Z1 T 2=.ptr 0 0∧Z1 T 6=i64 k∧H.get 0=.cells (Z8 r) 34∧(r.faults.take k).any (fun f=>decide (f.track=w) && f.silent)=false) r.faults.length ?_ ?_ ?_
   · simp (maxDischargeDepth:=12) only [go_sem,reduceEqDiff,g1,g2,hg'];try rfl
   · clear hg' hg ha e g1 g2 g5;rintro k T H M hk ⟨rfl,g1,g2,g6,hg,ha⟩;obtain ⟨y,hy⟩:∃ y,r.faults[k]? = some y:=⟨r.faults[k],by simp⟩;have hr:(r.faults.map Pos.Flt.row)[k]? = some [.str y.name,.str y.track,.int .i64 y.frm,.int .i64 y.to,.int .i64 y.speed,.bool y.ans,.bool y.rep]:=Zy (f:=Pos.Flt.row) hy;have hw:=ZQ hk (by unfold Z2;omega);have e1:=Vw (p:=fun f:Flt=>decide (f.track=w) && f.silent) hy;rw [ha,Bool.false_or] at e1;have e2:=fun h=>Vx (p:=fun f:Flt=>decide (f.track=w) && f.silent) hy h
     have hI:=IP y;rw [ZaX] at hI;unfold Z8 at hg ⊢;by_cases c1:y.track=w
     · have b1:=Yh c1;rw [decide_eq_true c1,Bool.true_and] at e1 e2;cases hs:y.silent with
       | true =>
         rw [hs] at hI;rw [e2 hs];generalize y.name=nm at *;generalize y.track=tr at *;simp (maxDischargeDepth:=12) only [go_sem,reduceEqDiff,reduceAdd,reduceLeDiff,reduceCtorEq,g1,g2,g6,hg,hr,hk,length_map,b1,hI]
       | false =>
         rw [hs] at hI e1;generalize y.track=tr at *;simp (maxDischargeDepth:=12) only [go_sem,reduceEqDiff,reduceAdd,reduceLeDiff,g1,g2,g6,hg,hr,hk,length_map,b1,hI,hw];exact e1
     · have b1:=Yd c1;rw [decide_eq_false c1,Bool.false_and] at e1;generalize y.track=tr at *;simp (maxDischargeDepth:=12) only [go_sem,reduceEqDiff,reduceAdd,reduceLeDiff,g1,g2,g6,hg,hr,hk,length_map,b1,hw];exact e1
   · clear hg' hg ha e g1 g2 g5;rintro T H M ⟨rfl,g1,g2,g6,hg,ha⟩;rw [take_length] at ha;rw [ha];unfold Z8 at hg;simp (maxDischargeDepth:=12) only [go_sem,reduceEqDiff,reduceAdd,reduceLeDiff,reduceCtorEq,g2,g6,hg,length_map,Nat.lt_irrefl]
def p47:List AV->Option AV:=ZG (α:=(Reg) × (Nm)) (fun x=>[.agg (Z8 x.1),.str x.2]) (fun x=>ZH x.1) (fun x=>i64 (Qq x.1 x.2))
theorem pok47:Pok p47 47:=by
 intro args v h;obtain ⟨x,rfl,hp,rfl⟩:=ZL h;exact c47 x.1 x.2 hp
theorem pe47 (r:Reg) (w:Nm) (hp:ZH r):p47 [.agg (Z8 r),.str w]=some (.int .i64 (Qq r w)):=ZN (by intro x y h;(simp only [List.cons.injEq,AV.agg.injEq,AV.str.injEq,KR,and_true] at h;first | simpa only [Prod.ext_iff] using h | simpa only [Prod.ext_iff,and_assoc] using h)) (r,w) hp
attribute [go_sem] pe47
theorem IR {p:α->Bool} {f:α->Int} {l:List α} {y:α} (h:l[k]? = some y) (n:Int):(((l.take (k+1)).filter p).map f).foldl Pos.minI n=if p y=true then Pos.minI ((((l.take k).filter p).map f).foldl Pos.minI n) (f y) else (((l.take k).filter p).map f).foldl Pos.minI n:=by
 rw [take_add_one,h,filter_append,map_append,foldl_append];cases hp:p y<;>simp [hp]
theorem Zb0 (r:Reg) (w:Nm):atL (ZO r 116) w=match Yr (·.name) w r.tracks with
 | some i=>(i:Int)
 | none=>-1:=by
 have:∀ l:List Trk,Yr (fun y=>y) w (l.map (·.name))=Yr (·.name) w l:=by
  intro l
  induction l with
  | nil=>rfl
  | cons a r ih =>
    show Yr (fun y=>y) w (a.name::r.map (·.name))=_;unfold Yr;rw [ih]
 show (match Yr (fun y=>y) w (r.tracks.map (·.name)) with
  | some i=>(i:Int)
  | none=>-1)=_
 rw [this]
def IS:PF:=Zo 20 p20 (fun _=>none)
theorem Zb1:PrimsOk NC IS:=Pa (ZK) Gx
theorem Zb2:En IS 20 p20:=ZA (by rfl) (by kernel_rfl)
attribute [go_sem ↓] Zb2
theorem c45 (r:Reg) (w:Nm) (hp:ZH r∧(r.track? w).isSome=true):∀ lo H,Za NC lo 45 [.agg (Z8 r),.str w] H (i64 (r.permitted w)) H:=by
 refine Cn Zb1 Tryz.func45 rfl rfl ?_;obtain ⟨hlen,hsome⟩:=hp;have hA:=Vy r 116 w ⟨hlen,.inl rfl⟩;obtain ⟨n1,n2,n3,n4,n5⟩:=hlen;obtain ⟨tr,htr⟩:=isSome_iff_exists.1 hsome;obtain ⟨i,hi1,hi2,hi3⟩:=Ca (nm:=fun z:Trk=>z.name) (l:=r.tracks) htr;rw [Zb0,hi1] at hA;have hA:p20 [.agg [.int .i64 r.tick,.ps .unk (r.tracks.map Pos.Trk.row),.ps .unk (r.faults.map Pos.Flt.row),.ps .unk (r.trains.map Pos.Trn.row),.ps .unk (r.poss.map Pos.Pos.row),.ps .unk (r.machs.map Pos.Mch.row)],.int .u8 116,.str w]=some (.int .i64 (i:Int)):=hA;have hrt:(r.tracks.map Pos.Trk.row)[i]? = some [.str tr.name,.int .i64 tr.speed]:=Zy (f:=Pos.Trk.row) hi2;have hP:r.permitted w=((r.poss.filter fun p=>decide (p.track=w) && p.ret).map (·.speed)).foldl Pos.minI (((r.faults.filter fun f=>decide (f.track=w) && (f.ans && !f.rep)).map (·.speed)).foldl Pos.minI tr.speed):=by
  unfold Reg.permitted;rw [htr]
 rw [hP];clear hP hsome;simp (maxDischargeDepth:=12) only [go_sem,reduceEqDiff,reduceAdd,reduceSub,reduceLeDiff,reduceCtorEq,Z8,hA,hrt,hi3,length_map];clear hA;refine ZP (fun k T H M=>M=[]∧Z1 T 1=.str w∧Z1 T 2=.ptr 0 0∧Z1 T 6=i64 k∧H.get 0=.cells (Z8 r) 34∧1≤H.n∧Z1 T 5=.int .i64 ((((r.faults.take k).filter fun f=>decide (f.track=w) && (f.ans && !f.rep)).map (·.speed)).foldl Pos.minI tr.speed)) r.faults.length ?_ ?_ ?_
 · simp (maxDischargeDepth:=12) only [go_sem,reduceEqDiff,reduceCtorEq];exact ⟨rfl,rfl⟩
 · rintro k T H M hk ⟨rfl,g1,g2,g6,hg,hn,g5⟩;obtain ⟨y,hy⟩:∃ y,r.faults[k]? = some y:=⟨r.faults[k],by simp⟩;have hr:(r.faults.map Pos.Flt.row)[k]? = some [.str y.name,.str y.track,.int .i64 y.frm,.int .i64 y.to,.int .i64 y.speed,.bool y.ans,.bool y.rep]:=Zy (f:=Pos.Flt.row) hy;have hw:=ZQ hk (by unfold Z2;omega);have e1:=IR (p:=fun f:Flt=>decide (f.track=w) && (f.ans && !f.rep)) (f:=fun f=>f.speed) hy tr.speed;rw [e1];clear e1;generalize (((r.faults.take k).filter fun f=>decide (f.track=w) && (f.ans && !f.rep)).map (·.speed)).foldl Pos.minI tr.speed=N at g5 ⊢;have hH:(0=H.n)=False:=eq_false (by omega);have hg':=hg;unfold Z8 at hg;obtain ⟨nm,tk,a,b,s,an,rp⟩:=y;simp only at hr ⊢;by_cases c1:tk=w
   · have b1:=Yh c1;rw [decide_eq_true c1,Bool.true_and];cases an with
     | false =>
       simp (maxDischargeDepth:=12) only [go_sem,reduceEqDiff,reduceAdd,reduceLeDiff,g1,g2,g6,g5,hg,hr,hk,length_map,b1,hw,hH]
       first | done | exact ⟨rfl,by omega⟩ | exact rfl
     | true =>
       cases rp with
       | true =>
         simp (maxDischargeDepth:=12) only [go_sem,reduceEqDiff,reduceAdd,reduceLeDiff,g1,g2,g6,g5,hg,hr,hk,length_map,b1,hw,hH]
         first | done | exact ⟨rfl,by omega⟩ | exact rfl
       | false =>
         unfold Pos.minI;rcases Classical.propComplete (s < N) with q | q
         · simp (maxDischargeDepth:=12) only [go_sem,reduceEqDiff,reduceAdd,reduceLeDiff,g1,g2,g6,g5,hg,hr,hk,length_map,b1,hw,q,hH]
           first | done | exact ⟨rfl,by omega⟩ | exact rfl
         · simp (maxDischargeDepth:=12) only [go_sem,reduceEqDiff,reduceAdd,reduceLeDiff,g1,g2,g6,g5,hg,hr,hk,length_map,b1,hw,q,hH]
           first | done | exact ⟨rfl,by omega⟩ | exact rfl
   · have b1:=Yd c1;rw [decide_eq_false c1,Bool.false_and];simp (maxDischargeDepth:=12) only [go_sem,reduceEqDiff,reduceAdd,reduceLeDiff,g1,g2,g6,g5,hg,hr,hk,length_map,b1,hw,hH]
     first | done | exact ⟨rfl,by omega⟩ | exact rfl
 · rintro T H M ⟨rfl,g1,g2,g6,hg,hn,g5⟩;rw [take_length] at g5;generalize ((r.faults.filter fun f=>decide (f.track=w) && (f.ans && !f.rep)).map (·.speed)).foldl Pos.minI tr.speed=N0 at g5 ⊢;have hg':=hg;unfold Z8 at hg;simp (maxDischargeDepth:=12) only [go_sem,reduceEqDiff,reduceAdd,reduceLeDiff,reduceCtorEq,g2,g6,hg,length_map,Nat.lt_irrefl];refine ZP (fun k T H M=>M=[]∧Z1 T 1=.str w∧Z1 T 2=.ptr 0 0∧Z1 T 8=i64 k∧H.get 0=.cells (Z8 r) 34∧1≤H.n∧Z1 T 5=.int .i64 ((((r.poss.take k).filter fun p=>decide (p.track=w) && p.ret).map (·.speed)).foldl Pos.minI N0)) r.poss.length ?_ ?_ ?_
   · simp (maxDischargeDepth:=12) only [go_sem,reduceEqDiff,g1,g2,hg',g5];exact ⟨hn,rfl⟩
   · clear g5 hn hg hg' g6 g2 g1;rintro k T H M hk ⟨rfl,g1,g2,g8,hg,hn,g5⟩;obtain ⟨y,hy⟩:∃ y,r.poss[k]? = some y:=⟨r.poss[k],by simp⟩;have hr:(r.poss.map Pos.Pos.row)[k]? = some [.str y.name,.str y.track,.int .i64 y.frm,.int .i64 y.to,.bool y.ret,.bool y.prot,.bool y.opn,.int .i64 y.closed,.int .i64 y.pers,.int .i64 y.speed]:=Zy (f:=Pos.Pos.row) hy;have hw:=ZQ hk (by unfold Z2;omega);have e1:=IR (p:=fun p:Pos=>decide (p.track=w) && p.ret) (f:=fun p=>p.speed) hy N0;rw [e1];clear e1;generalize (((r.poss.take k).filter fun p=>decide (p.track=w) && p.ret).map (·.speed)).foldl Pos.minI N0=N at g5 ⊢;have hH:(0=H.n)=False:=eq_false (by omega);unfold Z8 at hg;obtain ⟨nm,tk,a,b,rt,pr,op,cl,pe,sp⟩:=y;simp only at hr ⊢;by_cases c1:tk=w
     · have b1:=Yh c1;rw [decide_eq_true c1,Bool.true_and];cases rt with
       | false =>
         simp (maxDischargeDepth:=12) only [go_sem,reduceEqDiff,reduceAdd,reduceLeDiff,g1,g2,g8,g5,hg,hr,hk,length_map,b1,hw,hH]
         first | done | exact ⟨rfl,by omega⟩ | exact rfl
       | true =>
         unfold Pos.minI;rcases Classical.propComplete (sp < N) with q | q
         · simp (maxDischargeDepth:=12) only [go_sem,reduceEqDiff,reduceAdd,reduceLeDiff,g1,g2,g8,g5,hg,hr,hk,length_map,b1,hw,q,hH]
           first | done | exact ⟨rfl,by omega⟩ | exact rfl
         · simp (maxDischargeDepth:=12) only [go_sem,reduceEqDiff,reduceAdd,reduceLeDiff,g1,g2,g8,g5,hg,hr,hk,length_map,b1,hw,q,hH]
           first | done | exact ⟨rfl,by omega⟩ | exact rfl
     · have b1:=Yd c1;rw [decide_eq_false c1,Bool.false_and];simp (maxDischargeDepth:=12) only [go_sem,reduceEqDiff,reduceAdd,reduceLeDiff,g1,g2,g8,g5,hg,hr,hk,length_map,b1,hw,hH]
       first | done | exact ⟨rfl,by omega⟩ | exact rfl
   · clear g5 hn hg hg' g6 g2 g1;rintro T H M ⟨rfl,g1,g2,g8,hg,hn,g5⟩;rw [take_length] at g5;unfold Z8 at hg;simp (maxDischargeDepth:=12) only [go_sem,reduceEqDiff,reduceAdd,reduceLeDiff,reduceCtorEq,g2,g8,g5,hg,length_map,Nat.lt_irrefl]
def p45:List AV->Option AV:=ZG (α:=(Reg) × (Nm)) (fun x=>[.agg (Z8 x.1),.str x.2]) (fun x=>ZH x.1/\(x.1.track? x.2).isSome=true) (fun x=>i64 (x.1.permitted x.2))
theorem pok45:Pok p45 45:=by
 intro args v h;obtain ⟨x,rfl,hp,rfl⟩:=ZL h;exact c45 x.1 x.2 hp
theorem pe45 (r:Reg) (w:Nm) (hp:ZH r/\(r.track? w).isSome=true):p45 [.agg (Z8 r),.str w]=some (.int .i64 (r.permitted w)):=ZN (by intro x y h;(simp only [List.cons.injEq,AV.agg.injEq,AV.str.injEq,KR,and_true] at h;first | simpa only [Prod.ext_iff] using h | simpa only [Prod.ext_iff,and_assoc] using h)) (r,w) hp
attribute [go_sem] pe45
def CP (c:Nat):Prop:=(97<=c/\QD (c:Int))\/(65<=c/\c < 97/\QD ((c+32:Nat):Int))
def Vz (f:Nm × Int × Bool):Prop:=∀ c ∈ f.1,CP c
theorem Zb3 {p:Prop} [Decidable p] {a b:Nm × Int × Bool} (ha:Vz a) (hb:Vz b):Vz (if p then a else b):=by
 split
 . exact ha
 . exact hb
theorem Zb4 (k:Nm):∀ c ∈ (Y8 k).1,CP c:=by
 show Vz (Y8 k);unfold Y8
 iterate 18 refine Zb3 (by unfold Vz CP QD;decide) ?_
 unfold Vz;intro c hc;cases hc
def QQ (r:Reg) (ro:Nm) (ns:List Nm):Int:=if (ro.zip ns).any (fun p=>decide (97<=p.1) && decide (atL (ZO r (p.1:Int)) p.2 < 0))=true then 10 else match ro,ns with
 | c::_,w::_=>if c < 97/\0<=atL (ZO r ((c+32:Nat):Int)) w then 9 else 0
 | _,_=>0
theorem Zb5 {e:Ev} (h:Y1 Z7 e=0):e.names.length=(Y8 e.kind).1.length/\e.vals.length=(Y8 e.kind).2.1.toNat:=by
 rw [IK] at h;split at h
 . cases h
 split at h
 . split at h
   . cases h
   . rename_i hn
     omega
 . cases h
theorem Zb6:∃ fd,Ja NC.P 199 0=some fd/\fd.type=9/\fd.offset=0:=by
 have h:(Ja NC.P 199 0).map (fun fd=>(fd.type,fd.offset))=some (9,0):=by kernel_rfl
 cases hf:Ja NC.P 199 0 with
 | none=>rw [hf] at h;cases h
 | some fd =>
   rw [hf] at h;simp only [map_some,Option.some.injEq,Prod.mk.injEq] at h;exact ⟨fd,rfl,h.1,h.2⟩
def CQ:PF:=Zo 20 p20 (Zo 94 p94 (fun _=>none))
theorem Zb7:PrimsOk NC CQ:=Pa (Pa (ZK) II) Gx
theorem Zb8:En CQ 94 p94:=ZA (by rfl) (by kernel_rfl)
theorem Zb9:En CQ 20 p20:=ZA (by rfl) (by kernel_rfl)
attribute [go_sem ↓] Zb8 Zb9
theorem c275 (r:Reg) (e:Ev) (hp:ZH r∧Y1 Z7 e=0):∀ lo H,Za NC lo 275 [.agg (Z8 r),.agg e.row] H (i64 (QQ r (Y8 e.kind).1 e.names)) H:=by
 refine Cn Zb7 Tryz.func275 rfl rfl ?_;obtain ⟨hlen,hck⟩:=hp;have hF:=pe94 e.kind;obtain ⟨hnl,hvl⟩:=Zb5 hck;have hro:=Zb4 e.kind;have hsm:=(IJ e.kind).1;clear hck;unfold YG at hF;obtain ⟨num,kind,names,vals,text⟩:=e;simp only at hF hnl hvl hro hsm ⊢;generalize Y8 kind=f at *;obtain ⟨ro,nv,kn⟩:=f;simp only at hF hnl hvl hro hsm ⊢;have hAt:=fun (c:Int) (w:Nm) (h:QD c)=>Vy r c w ⟨hlen,h⟩
 have e6:(Z8 r).take 6=Z8 r:=rfl;have h6:(Z8 r).length=6:=rfl;have hone:(Z8 r).all AV.one=true:=rfl;have hsr:(Z8 r).map AV.strip0=Z8 r:=rfl;have hu:∀ n,YW n (Z8 r)=true:=fun n=>rfl
 obtain ⟨fd,f1,f2,f3⟩:=Zb6;simp (maxDischargeDepth:=12) only [go_sem,reduceEqDiff,reduceAdd,reduceLeDiff,reduceCtorEq,Pos.Ev.row,hone,hF,f1,f2,f3];clear f1 f2 f3 fd;refine ZP (fun k T H M=>M=[]∧Z1 T 2=.ptr 0 0∧Z1 T 3=.ptr 1 0∧Z1 T 5=.str ro∧Z1 T 6=i64 k∧H.get 0=.cells (Z8 r) 34∧H.get 1=.cells [.int .i64 num,.str kind,.ps .unk (Z0 names),.ps .unk (Z3 vals),.str text] 53∧((ro.zip names).take k).any (fun p=>decide (97≤p.1) && decide (atL (ZO r (p.1:Int)) p.2 < 0))=false) ro.length ?_ ?_ ?_
 · simp (maxDischargeDepth:=12) only [go_sem,reduceEqDiff,reduceCtorEq];try rfl
 · rintro k T H M hk ⟨rfl,g2,g3,g5,g6,hg0,hg1,ha⟩;obtain ⟨c,hc⟩:∃ c,ro[k]? = some c:=⟨ro[k],by simp⟩;have hkn:k < names.length:=by omega
   obtain ⟨w,hn⟩:∃ w,names[k]? = some w:=⟨names[k],by simp⟩;have hz:(ro.zip names)[k]? = some (c,w):=by rw [getElem?_zip_eq_some];exact ⟨hc,hn⟩
   have e1:=Vw (p:=fun p:Nat × Nm=>decide (97≤p.1) && decide (atL (ZO r (p.1:Int)) p.2 < 0)) hz;rw [ha,Bool.false_or] at e1;have e2:=fun h=>Vx (p:=fun p:Nat × Nm=>decide (97≤p.1) && decide (atL (ZO r (p.1:Int)) p.2 < 0)) hz h
   simp only at e1 e2;have hr:=JK hn;have hw:=ZQ hk (by unfold Z2;omega);rcases hro c (mem_of_getElem? hc) with ⟨hlo,h5⟩ | ⟨h65,hup,h5⟩
   · have q1:((c:Int) < 97)=False:=eq_false (by omega);have hA:=hAt (c:Int) w h5;rw [decide_eq_true hlo,Bool.true_and] at e1 e2;generalize atL (ZO r (c:Int)) w=a at hA e1 e2;rcases Classical.propComplete (a < 0) with q | q
     · have e:QQ r ro names=10:=by unfold QQ;rw [if_pos (e2 (decide_eq_true (of_eq_true q)))]
       rw [e];simp (maxDischargeDepth:=12) only [go_sem,reduceEqDiff,reduceAdd,reduceSub,reduceLeDiff,reduceCtorEq,g2,g3,g5,g6,hg0,hg1,hk,hc,hkn,Zv,hr,q1,h6,e6,hsr,hu,hA,q]
     · rw [decide_eq_false (of_eq_false q)] at e1;simp (maxDischargeDepth:=12) only [go_sem,reduceEqDiff,reduceAdd,reduceSub,reduceLeDiff,reduceCtorEq,g2,g3,g5,g6,hg0,hg1,hk,hc,hkn,Zv,hr,q1,h6,e6,hsr,hu,hA,q,hw];exact e1
   · have q1:((c:Int) < 97)=True:=eq_true (by omega);rw [decide_eq_false (by omega),Bool.false_and] at e1;simp (maxDischargeDepth:=12) only [go_sem,reduceEqDiff,reduceAdd,reduceSub,g2,g3,g5,g6,hg0,hg1,hk,hc,q1,hw];exact e1
 · rintro T H M ⟨rfl,g2,g3,g5,g6,hg0,hg1,ha⟩;have hzl:(ro.zip names).length=ro.length:=by rw [length_zip];omega
   rw [← hzl,take_length] at ha;cases ro with
   | nil =>
     have e:QQ r [] names=0:=rfl;rw [e];simp (maxDischargeDepth:=12) only [go_sem,reduceEqDiff,reduceAdd,reduceSub,reduceCtorEq,g5,g6,Int.lt_irrefl]
   | cons c ro' =>
     cases names with
     | nil=>simp at hnl
     | cons w ns =>
       have hr:(Z0 (w::ns))[0]? = some [.str w]:=rfl;have hpos:0 < ro'.length+1:=by omega
       have hposn:0 < ns.length+1:=by omega
       have qp:((0:Int) < ((ro'.length+1:Nat):Int))=True:=eq_true (by omega);have hc0:(c::ro')[0]? = some c:=rfl;rcases hro c (by simp) with ⟨hlo,h5⟩ | ⟨h65,hup,h5⟩
       · have q1:((c:Int) < 97)=False:=eq_false (by omega);have e:QQ r (c::ro') (w::ns)=0:=by
          unfold QQ;rw [if_neg (by rw [ha];decide)];simp only [];rw [if_neg (by omega)]
         rw [e];simp (maxDischargeDepth:=12) only [go_sem,reduceEqDiff,reduceAdd,reduceSub,reduceCtorEq,g5,g6,Nat.lt_irrefl,qp,hpos,q1]
       · have q1:((c:Int) < 97)=True:=eq_true (by omega);have hA:=hAt ((c+32:Nat):Int) w h5;have w1:ZC .u8 (Int.add (c:Int) 97)=((c+97:Nat):Int):=by
          have e:Int.add (c:Int) 97=((c+97:Nat):Int):=by show (c:Int)+97=_;omega
          rw [e];exact I3 (by omega) (by omega)
         have w2:ZC .u8 (Int.sub ((c+97:Nat):Int) 65)=((c+32:Nat):Int):=by
          have e:Int.sub ((c+97:Nat):Int) 65=((c+32:Nat):Int):=by show ((c+97:Nat):Int) - 65=_;omega
          rw [e];exact I3 (by omega) (by omega)
         have e:QQ r (c::ro') (w::ns)=if 0≤atL (ZO r ((c+32:Nat):Int)) w then 9 else 0:=by
          unfold QQ;rw [if_neg (by rw [ha];decide)];simp only [];by_cases h:0≤atL (ZO r ((c+32:Nat):Int)) w
          · rw [if_pos ⟨hup,h⟩,if_pos h]
          · rw [if_neg (fun x=>h x.2),if_neg h]
         rw [e];generalize atL (ZO r ((c+32:Nat):Int)) w=a at hA;rcases Classical.propComplete (a < 0) with q | q
         · rw [if_neg (by have:=of_eq_true q;omega)];simp (maxDischargeDepth:=12) only [go_sem,reduceEqDiff,reduceAdd,reduceSub,reduceLeDiff,reduceCtorEq,g2,g3,g5,g6,hg0,hg1,Nat.lt_irrefl,qp,hpos,hposn,Zv,hr,q1,w1,w2,h6,e6,hsr,hu,hA,q]
         · rw [if_pos (by have:=of_eq_false q;omega)];simp (maxDischargeDepth:=12) only [go_sem,reduceEqDiff,reduceAdd,reduceSub,reduceLeDiff,reduceCtorEq,g2,g3,g5,g6,hg0,hg1,Nat.lt_irrefl,qp,hpos,hposn,Zv,hr,q1,w1,w2,h6,e6,hsr,hu,hA,q]
def p275:List AV->Option AV:=ZG (α:=(Reg) × (Ev)) (fun x=>[.agg (Z8 x.1),.agg x.2.row]) (fun x=>ZH x.1/\Y1 Z7 x.2=0) (fun x=>i64 (QQ x.1 (Y8 x.2.kind).1 x.2.names))
theorem Zba:Pok p275 275:=by
 intro args v h;obtain ⟨x,rfl,hp,rfl⟩:=ZL h;exact c275 x.1 x.2 hp
theorem IT (r:Reg) (e:Ev) (hp:ZH r/\Y1 Z7 e=0):p275 [.agg (Z8 r),.agg e.row]=some (.int .i64 (QQ r (Y8 e.kind).1 e.names)):=ZN (by intro x y h;(simp only [List.cons.injEq,AV.agg.injEq,Pos.Ev.row_inj,KR,and_true] at h;first | simpa only [Prod.ext_iff] using h | simpa only [Prod.ext_iff,and_assoc] using h)) (r,e) hp
attribute [go_sem] IT
def Gy (b:Nat) (H:Heap) (t:Tok) (rows:List (List AV)) (sz:Nat) (e:TypeId):Prop:=t=.exact \/ ∃ j,t=.tok j/\rows ≠ []/\b<=j/\j < H.n/\H.get j=.row [] sz e
theorem Gz {t:Tok} (h:Gy b H t rows sz e) (hb:b<=H.n) (hlo:lo<=b) (h1:rows.length+rx.length<=Z2) (h2:rx.all Q0=true) (h3:0 < sz) (h4:rows.all (fun r=>r.length=sz)=true) (h5:rx.map (List.map AV.strip0)=rx) :
 ∃ t' H',Xx lo H sz e (.ps t rows) rx=some (.ps t' (rows++rx),H')/\Gy b H' t' (rows++rx) sz e/\H.n<=H'.n/\Old b H H'/\(∀ i c u,i < H.n->H.get i=.cells c u->H'.get i=.cells c u):=by
 cases rx with
 | nil=>rw [append_nil];exact ⟨t,H,rfl,h,Nat.le_refl _,⟨hb,fun _ _=>rfl⟩,fun _ _ _ _ h=>h⟩
 | cons a r =>
   rcases h with rfl | ⟨j,rfl,h6,hj,h7,h8⟩
   . refine ⟨.tok H.n,H.push (.row [] sz e), ?_,.inr ⟨H.n,rfl,by simp,hb,by simp,by rw [Heap.get_push,if_pos rfl]⟩,by simp,⟨by simp;omega,fun i hi=>by rw [Heap.get_push,if_neg (by omega)]⟩,fun i c u hi hc => ?_⟩
     . unfold Xx;simp only [h1,h2,h3,h4,h5,decide_true,Bool.and_self,if_true]
     . rw [Heap.get_push,if_neg (by omega)];exact hc
   . have h6':rows.isEmpty=false:=by cases rows with | nil=>exact absurd rfl h6 | cons b q=>rfl
     have h9:lo<=j:=by omega
     refine ⟨.tok H.n,(H.set j .dead).push (.row [] sz e), ?_,.inr ⟨H.n,rfl,by simp,hb,by simp,by rw [Heap.get_push,if_pos (by simp)]⟩,by simp,⟨by simp;omega,fun i hi=>by rw [Heap.get_push,if_neg (by simp;omega),Heap.get_set,if_neg (by omega)]⟩,fun i c u hi hc => ?_⟩
     . unfold Xx;simp only [h1,h2,h3,h4,h5,h8,h9,h6',decide_true,Bool.and_self,if_true,Bool.not_false]
     . rw [Heap.get_push,if_neg (by simp;omega),Heap.get_set,if_neg (fun he=>by rw [he,h8] at hc;cases hc)];exact hc
theorem Gy.under {t:Tok} {rows':List (List AV)} (h:Gy b H t rows sz e):AV.under H.n (.ps t rows')=true:=by
 rcases h with rfl | ⟨j,rfl,_,_,hj,_⟩
 . rfl
 . show Nat.blt j H.n=true;rw [blt_eq];exact hj
variable {C:Cfg} {g:Gh} {n:Nat} {H:Heap} {w:World} {V:FuncId->Bool}
def Cfg.withView (C:Cfg) (V:FuncId->Bool):Cfg:={ C with view:=V }
theorem Zbb:XT (C.withView V)=XT C:=by
 funext fid all ops pl i K seen
 induction ops generalizing pl i K seen with
 | nil=>cases pl<;>rfl
 | cons o r ih=>cases pl with
   | nil=>rfl
   | cons s ss =>
     have hh:Kr (C.withView V) fid all o s i K seen=Kr C fid all o s i K seen:=rfl;simp only [XT,ih,hh]
theorem IU (fid:FuncId) (n:Nat) (c:Code):Zz (C.withView V) fid n c=Zz C fid n c:=by
 induction c with
 | region id ops draw=>simp only [Zz,Zbb];rfl
 | seq a b iha ihb=>simp only [Zz,iha,ihb]
 | cond _ a b iha ihb=>simp only [Zz,iha,ihb]
 | block _ b ih=>simp only [Zz,ih]
 | loop b ih=>simp only [Zz,ih]
 | scope b ih=>simp only [Zz,ih]
 | rangeFunc _ ps a b iha ihb=>simp only [Zz,iha,ihb]
 | _=>rfl
theorem GA:Rel (C.withView V) g H w ↔ Rel C g H w:=by
 have hb:∀ (n:Nat) (l:Loc) (b:ABlk),Yj (C.withView V) g n w l b ↔ Yj C g n w l b:=by
  intro n l b;cases b with
  | loop r=>simp only [Yj,IU]
  | _=>exact Iff.rfl
 exact ⟨fun h=>⟨fun id hid=>(hb _ _ _).1 (h.blk id hid),h.out,h.lt,h.inj,h.know,h.apart,h.glob,h.gsz⟩,fun h=>⟨fun id hid=>(hb _ _ _).2 (h.blk id hid),h.out,h.lt,h.inj,h.know,h.apart,h.glob,h.gsz⟩⟩
theorem GB:Za (C.withView V) lo f args H v H' ↔ Za C lo f args H v H':=by
 have hp:∀ (g:Gh) (w:World) (e:Ending) (w':World),Qe (C.withView V) lo g H w v H' e w' ↔ Qe C lo g H w v H' e w':=by
  intro g w e w';cases e with
  | returned cv=>exact ⟨fun ⟨g',h1,h2⟩=>⟨g',GA.1 h1,h2⟩,fun ⟨g',h1,h2⟩=>⟨g',GA.2 h1,h2⟩⟩
  | _=>exact Iff.rfl
 exact ⟨fun h=>⟨h.1,fun g w cargs hR ha=>(h.2 g w cargs (GA.2 hR) ha).mono fun e w' x=>(hp g w e w').1 x⟩,
  fun h=>⟨h.1,fun g w cargs hR ha=>(h.2 g w cargs (GA.1 hR) ha).mono fun e w' x=>(hp g w e w').2 x⟩⟩
theorem Sane.withView (Sa:Sane C) (V:FuncId->Bool):Sane (C.withView V) where
 depth:=Sa.depth
 orders:=Sa.orders
 good:=fun f hf=>by
  obtain ⟨fn,c,h1,h2,h3,h4⟩:=Sa.good f hf;exact ⟨fn,c,h1,h2,h3,by rw [IU];exact h4⟩
 memo:=fun f args v h lo H=>GB.2 (Sa.memo f args v h lo H)
 prim:=fun f p args v hp h lo H=>GB.2 (Sa.prim f p args v hp h lo H)
 hprim:=fun f p lo args H v H' hp h hl=>GB.2 (Sa.hprim f p lo args H v H' hp h hl)
 at1:=Sa.at1
 born:=fun f b args H v H' hb h=>GB.2 (Sa.born f b args H v H' hb h)
theorem IV:∀ {args:List AV},YH args=true -> ∀ a ∈ args,a.pure=true
 | [],_,a,ha=>by simp at ha
 | x::r,hp,a,ha=>by
   simp only [YH,and_eq_true] at hp;rcases mem_cons.1 ha with rfl | ha
   . exact hp.1
   . exact IV hp.2 a ha
theorem Zbc {C2:Cfg} (Sa:Sane C2) (hP:C2.P=C.P) (hG:C2.glob=C.glob) (h:R C2 (.call 0 f args .empty)=some (.ofVal v H')) (hp:YH args=true)
 {d:Nat} (hd:Ye d H' v=some v') (lo:Nat) (H:Heap):Za C lo f args H v' H:=by
 obtain ⟨k,hk⟩:=(JU C2).1 h;have hs:=run_ok Sa k _ _ hk (Nat.le_refl 0);refine ⟨hP ▸ hs.1,fun g w cargs hR ha => ?_⟩;have hR0:=hR.bare hG (K:=g.K) (fun _ _ _ h=>h) hR.know;have ha0:Zb ⟨g.L,g.K⟩ 0 args cargs:=⟨ha.1,fun i a v h1 h2=>(ha.2 i a v h1 h2).pure (IV hp a (mem_of_getElem? h1))⟩;rw [<- hP];refine (hs.2 ⟨g.L,g.K⟩ w cargs hR0 ha0).mono fun e w' hpost => ?_
 obtain ⟨cv,rfl,g',r1,r2,r3⟩:=hpost.returned;have r3:VRel g' H'.n v cv:=r3;have r1:Rel C2 g' H' w':=r1;have r2:Ext 0 ⟨g.L,g.K⟩ .empty w g' H' w':=r2;have hfr:∀ b,b < w.heap.size->w'.heap[b]? = w.heap[b]?:=fun b hb=>r2.frame b hb UQ
 have hnew:∀ b o v,b < w.heap.size->g'.K b o=some v->g.K b o=some v:=fun b o v hb hk=>by
  rcases r2.newK b o v hk with h | h | h
  . exact h
  . exact absurd h UQ
  . omega
 let g2:Gh:=⟨g.L,fun b o=>if b < w.heap.size then g'.K b o else w'.cell? ⟨b,o,none⟩⟩
 have hlt:∀ {b o v},b < w.heap.size->g2.K b o=some v->g'.K b o=some v:=fun {b o v} hb hk=>by
  have:(if b < w.heap.size then g'.K b o else w'.cell? ⟨b,o,none⟩)=some v:=hk
  rwa [if_pos hb] at this
 have hup:∀ {b o v},g'.K b o=some v->g2.K b o=some v:=fun {b o v} hk=>by
  show (if b < w.heap.size then g'.K b o else w'.cell? ⟨b,o,none⟩)=some v
  split
  . exact hk
  . exact r1.know b o v hk
 have hle:Gh.le H.n g g2:=⟨fun _ _=>rfl,fun b o v hk=>hup (r2.le.K b o v hk)⟩;have hrel:VRel g2 0 v' cv:=by
  refine AN r1 (g2:=g2) (fun b o v hk=>hup hk) (fun id hid hl o u hu => ?_) d hd r3;show (if (g'.L id).b < w.heap.size then g'.K (g'.L id).b o else w'.cell? ⟨(g'.L id).b,o,none⟩)=some u
  rcases r2.own (g'.L id).b ⟨id,hid,hl,rfl⟩ with h | h
  . exact absurd h UQ
  . rw [if_neg (by omega)];exact hu
 have hE:Ext lo g H w g2 H w':=by
  refine ⟨hle,Nat.le_refl _,fun _ _ _=>rfl,fun b h=>.inl h,fun b o v hk => ?_,fun b hb _=>hfr b hb,r2.size,r2.os,r2.output,r2.tape⟩;by_cases hb:b < w.heap.size
  . exact .inl (hnew b o v hb (hlt hb hk))
  . exact .inr (.inr (by omega))
 refine ⟨g2,⟨fun id hid => ?_,hR.out,fun id hid hl=>lt_of_lt_of_le (hR.lt id hid hl) r2.size,hR.inj,fun b o v hk => ?_,fun id hid hl o v hk => ?_,fun x cs hx => ?_,hR.gsz_ext hE⟩,hE,hrel.mono (zero_le _) (.refl _ _)⟩
 . cases hl:(H.get id).live with
   | true=>exact (hR.blk id hid).mono (Nat.le_refl _) hle (hfr _ (hR.lt id hid hl))
   | false=>rw [Jj hl];trivial
 . by_cases hb:b < w.heap.size
   . exact r1.know b o v (hlt hb hk)
   . have:(if b < w.heap.size then g'.K b o else w'.cell? ⟨b,o,none⟩)=some v:=hk
     rwa [if_neg hb] at this
 . exact hR.apart id hid hl o v (hnew _ _ _ (hR.lt id hid hl) (hlt (hR.lt id hid hl) hk))
 . obtain ⟨vals,h1,h2⟩:=hR.glob x cs hx;exact ⟨vals,h1.mono (Nat.le_refl _) (hle.mono (zero_le _)),fun i v hi=>hle.K _ _ _ (h2 i v hi)⟩
theorem Zbd {P:PF} (Sa:Sane C) (hP:PrimsOk C P) (V:FuncId->Bool) (d:Nat) {fn:Func} {c:Code} {rs:List ResultVar} (hg:C.good f=true) (hf:C.P.funcs[f]? = some fn) (hb:fn.body=some c) (hr:fn.results=rs.toArray) (hp:YH args=true)
 (h:W ((C.withPrims P).withView V) 0 f false c (XR args 0 .leaf) .empty [] (Ky ((C.withPrims P).withView V) rs fun v' H'=>Ye d H' v'=some v)) (lo:Nat) (H:Heap):Za C lo f args H v H:=by
 obtain ⟨v',H',h1,h2⟩:=Zd (C:=(C.withPrims P).withView V) hg hf hb hr h;exact Zbc (C:=C) (C2:=(C.withPrims P).withView V) ((Sa.withPrims hP).withView V) rfl rfl h1 hp h2 lo H
end Go.Sim

namespace Go.Sim
section
variable {P:PF} {V:FuncId->Bool}
theorem Zbe:((NC.withPrims P).withView V).P=NC.P:=rfl
theorem Zbf (f r:Nat):((NC.withPrims P).withView V).plans f r=(NC.withPrims P).plans f r:=rfl
theorem Zbg (f t:Nat):((NC.withPrims P).withView V).refApp f t=(NC.withPrims P).refApp f t:=rfl
theorem Zbh (f t:Nat):((NC.withPrims P).withView V).frz f t=(NC.withPrims P).frz f t:=rfl
theorem Zbi (f t:Nat):((NC.withPrims P).withView V).lit f t=(NC.withPrims P).lit f t:=rfl
theorem Zbj (f:Nat):((NC.withPrims P).withView V).nilArg f=(NC.withPrims P).nilArg f:=rfl
end
attribute [go_sem] Zbe Zbf Zbg Zbh Zbi Zbj
def SL (H:Heap) (v:AV) (sz:Nat) (te:TypeId) (rows:List (List AV)):Prop:=(v=.ps .exact []/\rows=[]) \/ ∃ id,rows ≠ []/\v=.rs id 0 rows.length sz none/\id < H.n/\H.get id=.row rows.flatten sz te
theorem SL.push (h:SL H v sz te rows) (x:ABlk):SL (H.push x) v sz te rows:=by
 rcases h with h | ⟨id,h1,h2,h3,h4⟩
 . exact .inl h
 . exact .inr ⟨id,h1,h2,by simp;omega,by rw [Heap.get_push,if_neg (by omega)];exact h4⟩
theorem SL.set (h:SL H v sz te rows) (x:ABlk) (hi:∀ cs s,H.get i ≠ .row cs s te):SL (H.set i x) v sz te rows:=by
 rcases h with h | ⟨id,h1,h2,h3,h4⟩
 . exact .inl h
 . exact .inr ⟨id,h1,h2,h3,by rw [Heap.get_set,if_neg (fun e=>hi _ _ (by rw [<- e];exact h4))];exact h4⟩
structure RegL where
 vT:AV
 vF:AV
 vR:AV
 vP:AV
 vM:AV
def RegL.row (L:RegL) (tk:Int):List AV:=[.int .i64 tk,L.vT,L.vF,L.vR,L.vP,L.vM]
structure LstIs (H:Heap) (L:RegL) (r:Reg):Prop where
 lT:SL H L.vT 2 113 (r.tracks.map Pos.Trk.row)
 lF:SL H L.vF 7 114 (r.faults.map Pos.Flt.row)
 lR:SL H L.vR 3 115 (r.trains.map Pos.Trn.row)
 lP:SL H L.vP 10 76 (r.poss.map Pos.Pos.row)
 lM:SL H L.vM 2 117 (r.machs.map Pos.Mch.row)
theorem KS {te:TypeId} (h1:rows.length<=Z2) (h2:rows.all (fun r=>r.all AV.one)=true) (h3:0 < sz) :
 ∃ v H',Yv lo H sz te (.ps .exact []) rows=some (v,H')/\SL H' v sz te rows/\H.n<=H'.n/\(H'=H \/ ∃ x,H'=H.push x):=by
 cases rows with
 | nil=>exact ⟨_,H,rfl,.inl ⟨rfl,rfl⟩,Nat.le_refl _,.inl rfl⟩
 | cons a r =>
   refine ⟨.rs H.n 0 (r.length+1) sz none,H.push (.row (a::r).flatten sz te), ?_,.inr ⟨H.n,by simp,by simp,by simp,by rw [Heap.get_push,if_pos rfl]⟩,by simp,.inr ⟨_,rfl⟩⟩;unfold Yv;simp only [Tok.full,h2,h3,length_nil,zero_add,all_nil,decide_true,nil_append,length_cons];simp only [length_cons] at h1;simp only [h1,decide_true,Bool.and_self,if_true]
theorem J8 {b:ABlk} (h:H.get i=b) (hi:i < H.n) (he:H'=H \/ ∃ x,H'=H.push x):H'.get i=b:=by
 rcases he with rfl | ⟨x,rfl⟩
 . exact h
 . rw [Heap.get_push,if_neg (by omega)];exact h
theorem SL.ext (h:SL H v sz te rows) (he:H'=H \/ ∃ x,H'=H.push x):SL H' v sz te rows:=by
 rcases he with rfl | ⟨x,rfl⟩
 . exact h
 . exact h.push x
theorem KT {f:α->List AV} (hf:∀ x,(f x).all AV.one=true) (l:List α):(l.map f).all (fun r=>r.all AV.one)=true:=by
 rw [all_eq_true];intro r hr;obtain ⟨x,_,rfl⟩:=mem_map.1 hr;exact hf x
variable {P:PF} {V:FuncId->Bool}
theorem trk_2 (l:List Trk):(l.map Pos.Trk.row).all (fun r=>decide (r.length=2))=true:=Ql (f:=Pos.Trk.row) (sz:=2) (fun _=>rfl) l
theorem flt_7 (l:List Flt):(l.map Pos.Flt.row).all (fun r=>decide (r.length=7))=true:=Ql (f:=Pos.Flt.row) (sz:=7) (fun _=>rfl) l
theorem trn_3 (l:List Trn):(l.map Pos.Trn.row).all (fun r=>decide (r.length=3))=true:=Ql (f:=Pos.Trn.row) (sz:=3) (fun _=>rfl) l
theorem Zbk (l:List Pos):(l.map Pos.Pos.row).all (fun r=>decide (r.length=10))=true:=Ql (f:=Pos.Pos.row) (sz:=10) (fun _=>rfl) l
theorem mch_2 (l:List Mch):(l.map Pos.Mch.row).all (fun r=>decide (r.length=2))=true:=Ql (f:=Pos.Mch.row) (sz:=2) (fun _=>rfl) l
theorem SL.cells (h:SL H v sz te rows):AV.cells v=[v]:=by
 rcases h with ⟨rfl,_⟩ | ⟨id,_,rfl,_⟩<;>rfl
theorem SL.one (h:SL H v sz te rows):AV.one v=true:=by
 rcases h with ⟨rfl,_⟩ | ⟨id,_,rfl,_⟩<;>rfl
theorem SL.full (h:SL H v sz te rows):AV.fullN v=v:=by
 rcases h with ⟨rfl,_⟩ | ⟨id,_,rfl,_⟩<;>rfl
theorem X3 {s:Nat}:ABlk.cells c t ≠ .row c' s t':=by intro h;cases h
theorem Ur (h:H'=H \/ ∃ x,H'=H.push x) (hb:b<=H.n):Old b H H':=by
 rcases h with rfl | ⟨x,rfl⟩
 . exact ⟨hb,fun _ _=>rfl⟩
 . exact ⟨by simp;omega,fun i hi=>by rw [Heap.get_push,if_neg (by omega)]⟩
theorem r276 (hl:ZH r):∃ w H2,R ((NC.withPrims P).withView V) (.call H.n 276 [.agg (Z8 r)] H)=some (.ofVal w H2)/\(∃ L:RegL,w=.agg (L.row r.tick)/\LstIs H2 L r)/\Old H.n H H2:=by
 refine Zd (C:=(NC.withPrims P).withView V) (f:=276) (lo:=H.n) (args:=[.agg (Z8 r)]) (H:=H) (fn:=Tryz.f276) (Q:=fun w H2=>(∃ L:RegL,w=.agg (L.row r.tick)/\LstIs H2 L r)/\Old H.n H H2) (by kernel_rfl) Tryz.func276 rfl rfl ?_;obtain ⟨n1,n2,n3,n4,n5⟩:=hl;obtain ⟨tick,trs,fls,tns,pss,mcs⟩:=r;simp only at n1 n2 n3 n4 n5;have a1:=trk_2 trs;have a2:=flt_7 fls;have a3:=trn_3 tns;have a4:=Zbk pss;have a5:=mch_2 mcs;have o0:Old H.n H ((H.push (.cells [.int .i64 tick,.ps .unk (trs.map Pos.Trk.row),.ps .unk (fls.map Pos.Flt.row),.ps .unk (tns.map Pos.Trn.row),.ps .unk (pss.map Pos.Pos.row),.ps .unk (mcs.map Pos.Mch.row)] 34)).push (.cells [.int .i64 0,.ps .nil [],.ps .nil [],.ps .nil [],.ps .nil [],.ps .nil []] 34)):=((Old.refl H).push _).push _;have m0:H.n+2<=((H.push (.cells [.int .i64 tick,.ps .unk (trs.map Pos.Trk.row),.ps .unk (fls.map Pos.Flt.row),.ps .unk (tns.map Pos.Trn.row),.ps .unk (pss.map Pos.Pos.row),.ps .unk (mcs.map Pos.Mch.row)] 34)).push (.cells [.int .i64 0,.ps .nil [],.ps .nil [],.ps .nil [],.ps .nil [],.ps .nil []] 34)).n:=Nat.le_refl _;have p0:((H.push (.cells [.int .i64 tick,.ps .unk (trs.map Pos.Trk.row),.ps .unk (fls.map Pos.Flt.row),.ps .unk (tns.map Pos.Trn.row),.ps .unk (pss.map Pos.Pos.row),.ps .unk (mcs.map Pos.Mch.row)] 34)).push (.cells [.int .i64 0,.ps .nil [],.ps .nil [],.ps .nil [],.ps .nil [],.ps .nil []] 34)).get H.n=.cells [.int .i64 tick,.ps .unk (trs.map Pos.Trk.row),.ps .unk (fls.map Pos.Flt.row),.ps .unk (tns.map Pos.Trn.row),.ps .unk (pss.map Pos.Pos.row),.ps .unk (mcs.map Pos.Mch.row)] 34:=by rw [Heap.get_push,if_neg (by simp),Heap.get_push,if_pos rfl]
 have z0:((H.push (.cells [.int .i64 tick,.ps .unk (trs.map Pos.Trk.row),.ps .unk (fls.map Pos.Flt.row),.ps .unk (tns.map Pos.Trn.row),.ps .unk (pss.map Pos.Pos.row),.ps .unk (mcs.map Pos.Mch.row)] 34)).push (.cells [.int .i64 0,.ps .nil [],.ps .nil [],.ps .nil [],.ps .nil [],.ps .nil []] 34)).get (H.n+1)=.cells [.int .i64 0,.ps .nil [],.ps .nil [],.ps .nil [],.ps .nil [],.ps .nil []] 34:=by rw [Heap.get_push];exact if_pos rfl
 obtain ⟨v1,H1,e1,s1,m1,x1⟩:=KS (lo:=H.n) (H:=((H.push (.cells [.int .i64 tick,.ps .unk (trs.map Pos.Trk.row),.ps .unk (fls.map Pos.Flt.row),.ps .unk (tns.map Pos.Trn.row),.ps .unk (pss.map Pos.Pos.row),.ps .unk (mcs.map Pos.Mch.row)] 34)).push (.cells [.int .i64 0,.ps .nil [],.ps .nil [],.ps .nil [],.ps .nil [],.ps .nil []] 34))) (sz:=2) (te:=113) (rows:=trs.map Pos.Trk.row) (by rw [length_map];unfold Z2;omega) (KT (fun _=>rfl) _) (by decide);have g1:H1.get H.n=.cells [.int .i64 tick,.ps .unk (trs.map Pos.Trk.row),.ps .unk (fls.map Pos.Flt.row),.ps .unk (tns.map Pos.Trn.row),.ps .unk (pss.map Pos.Pos.row),.ps .unk (mcs.map Pos.Mch.row)] 34:=J8 p0 (by omega) x1;have w1:H1.get (H.n+1)=.cells [.int .i64 0,.ps .nil [],.ps .nil [],.ps .nil [],.ps .nil [],.ps .nil []] 34:=J8 z0 (by omega) x1;have o1:Old H.n H (H1.set H.n (.cells [.int .i64 tick,v1,.ps .unk (fls.map Pos.Flt.row),.ps .unk (tns.map Pos.Trn.row),.ps .unk (pss.map Pos.Pos.row),.ps .unk (mcs.map Pos.Mch.row)] 34)):=(o0.trans (Ur x1 (by omega))).set (Nat.le_refl _) _;have m1':H.n+2<=(H1.set H.n (.cells [.int .i64 tick,v1,.ps .unk (fls.map Pos.Flt.row),.ps .unk (tns.map Pos.Trn.row),.ps .unk (pss.map Pos.Pos.row),.ps .unk (mcs.map Pos.Mch.row)] 34)).n:=by show H.n+2<=H1.n;omega
 have p1:(H1.set H.n (.cells [.int .i64 tick,v1,.ps .unk (fls.map Pos.Flt.row),.ps .unk (tns.map Pos.Trn.row),.ps .unk (pss.map Pos.Pos.row),.ps .unk (mcs.map Pos.Mch.row)] 34)).get H.n=.cells [.int .i64 tick,v1,.ps .unk (fls.map Pos.Flt.row),.ps .unk (tns.map Pos.Trn.row),.ps .unk (pss.map Pos.Pos.row),.ps .unk (mcs.map Pos.Mch.row)] 34:=by rw [Heap.get_set,if_pos rfl]
 have z1:(H1.set H.n (.cells [.int .i64 tick,v1,.ps .unk (fls.map Pos.Flt.row),.ps .unk (tns.map Pos.Trn.row),.ps .unk (pss.map Pos.Pos.row),.ps .unk (mcs.map Pos.Mch.row)] 34)).get (H.n+1)=.cells [.int .i64 0,.ps .nil [],.ps .nil [],.ps .nil [],.ps .nil [],.ps .nil []] 34:=by rw [Heap.get_set,if_neg (by omega)];exact w1
 have c1:=s1.cells;have u1:=s1.one;simp only [AV.cells] at c1;simp only [AV.one] at u1;have s1:=s1.set (i:=H.n) (.cells [.int .i64 tick,v1,.ps .unk (fls.map Pos.Flt.row),.ps .unk (tns.map Pos.Trn.row),.ps .unk (pss.map Pos.Pos.row),.ps .unk (mcs.map Pos.Mch.row)] 34) (fun _ _=>by rw [g1];exact X3);obtain ⟨v2,H2,e2,s2,m2,x2⟩:=KS (lo:=H.n) (H:=(H1.set H.n (.cells [.int .i64 tick,v1,.ps .unk (fls.map Pos.Flt.row),.ps .unk (tns.map Pos.Trn.row),.ps .unk (pss.map Pos.Pos.row),.ps .unk (mcs.map Pos.Mch.row)] 34))) (sz:=7) (te:=114) (rows:=fls.map Pos.Flt.row) (by rw [length_map];unfold Z2;omega) (KT (fun _=>rfl) _) (by decide);have g2:H2.get H.n=.cells [.int .i64 tick,v1,.ps .unk (fls.map Pos.Flt.row),.ps .unk (tns.map Pos.Trn.row),.ps .unk (pss.map Pos.Pos.row),.ps .unk (mcs.map Pos.Mch.row)] 34:=J8 p1 (by omega) x2;have w2:H2.get (H.n+1)=.cells [.int .i64 0,.ps .nil [],.ps .nil [],.ps .nil [],.ps .nil [],.ps .nil []] 34:=J8 z1 (by omega) x2;have o2:Old H.n H (H2.set H.n (.cells [.int .i64 tick,v1,v2,.ps .unk (tns.map Pos.Trn.row),.ps .unk (pss.map Pos.Pos.row),.ps .unk (mcs.map Pos.Mch.row)] 34)):=(o1.trans (Ur x2 (by omega))).set (Nat.le_refl _) _;have m2':H.n+2<=(H2.set H.n (.cells [.int .i64 tick,v1,v2,.ps .unk (tns.map Pos.Trn.row),.ps .unk (pss.map Pos.Pos.row),.ps .unk (mcs.map Pos.Mch.row)] 34)).n:=by show H.n+2<=H2.n;omega
 have p2:(H2.set H.n (.cells [.int .i64 tick,v1,v2,.ps .unk (tns.map Pos.Trn.row),.ps .unk (pss.map Pos.Pos.row),.ps .unk (mcs.map Pos.Mch.row)] 34)).get H.n=.cells [.int .i64 tick,v1,v2,.ps .unk (tns.map Pos.Trn.row),.ps .unk (pss.map Pos.Pos.row),.ps .unk (mcs.map Pos.Mch.row)] 34:=by rw [Heap.get_set,if_pos rfl]
 have z2:(H2.set H.n (.cells [.int .i64 tick,v1,v2,.ps .unk (tns.map Pos.Trn.row),.ps .unk (pss.map Pos.Pos.row),.ps .unk (mcs.map Pos.Mch.row)] 34)).get (H.n+1)=.cells [.int .i64 0,.ps .nil [],.ps .nil [],.ps .nil [],.ps .nil [],.ps .nil []] 34:=by rw [Heap.get_set,if_neg (by omega)];exact w2
 have c2:=s2.cells;have u2:=s2.one;simp only [AV.cells] at c2;simp only [AV.one] at u2;have s2:=s2.set (i:=H.n) (.cells [.int .i64 tick,v1,v2,.ps .unk (tns.map Pos.Trn.row),.ps .unk (pss.map Pos.Pos.row),.ps .unk (mcs.map Pos.Mch.row)] 34) (fun _ _=>by rw [g2];exact X3);have s1:=(s1.ext x2).set (i:=H.n) (.cells [.int .i64 tick,v1,v2,.ps .unk (tns.map Pos.Trn.row),.ps .unk (pss.map Pos.Pos.row),.ps .unk (mcs.map Pos.Mch.row)] 34) (fun _ _=>by rw [g2];exact X3);obtain ⟨v3,H3,e3,s3,m3,x3⟩:=KS (lo:=H.n) (H:=(H2.set H.n (.cells [.int .i64 tick,v1,v2,.ps .unk (tns.map Pos.Trn.row),.ps .unk (pss.map Pos.Pos.row),.ps .unk (mcs.map Pos.Mch.row)] 34))) (sz:=3) (te:=115) (rows:=tns.map Pos.Trn.row) (by rw [length_map];unfold Z2;omega) (KT (fun _=>rfl) _) (by decide);have g3:H3.get H.n=.cells [.int .i64 tick,v1,v2,.ps .unk (tns.map Pos.Trn.row),.ps .unk (pss.map Pos.Pos.row),.ps .unk (mcs.map Pos.Mch.row)] 34:=J8 p2 (by omega) x3;have w3:H3.get (H.n+1)=.cells [.int .i64 0,.ps .nil [],.ps .nil [],.ps .nil [],.ps .nil [],.ps .nil []] 34:=J8 z2 (by omega) x3;have o3:Old H.n H (H3.set H.n (.cells [.int .i64 tick,v1,v2,v3,.ps .unk (pss.map Pos.Pos.row),.ps .unk (mcs.map Pos.Mch.row)] 34)):=(o2.trans (Ur x3 (by omega))).set (Nat.le_refl _) _;have m3':H.n+2<=(H3.set H.n (.cells [.int .i64 tick,v1,v2,v3,.ps .unk (pss.map Pos.Pos.row),.ps .unk (mcs.map Pos.Mch.row)] 34)).n:=by show H.n+2<=H3.n;omega
 have p3:(H3.set H.n (.cells [.int .i64 tick,v1,v2,v3,.ps .unk (pss.map Pos.Pos.row),.ps .unk (mcs.map Pos.Mch.row)] 34)).get H.n=.cells [.int .i64 tick,v1,v2,v3,.ps .unk (pss.map Pos.Pos.row),.ps .unk (mcs.map Pos.Mch.row)] 34:=by rw [Heap.get_set,if_pos rfl]
 have z3:(H3.set H.n (.cells [.int .i64 tick,v1,v2,v3,.ps .unk (pss.map Pos.Pos.row),.ps .unk (mcs.map Pos.Mch.row)] 34)).get (H.n+1)=.cells [.int .i64 0,.ps .nil [],.ps .nil [],.ps .nil [],.ps .nil [],.ps .nil []] 34:=by rw [Heap.get_set,if_neg (by omega)];exact w3
 have c3:=s3.cells;have u3:=s3.one;simp only [AV.cells] at c3;simp only [AV.one] at u3;have s3:=s3.set (i:=H.n) (.cells [.int .i64 tick,v1,v2,v3,.ps .unk (pss.map Pos.Pos.row),.ps .unk (mcs.map Pos.Mch.row)] 34) (fun _ _=>by rw [g3];exact X3);have s1:=(s1.ext x3).set (i:=H.n) (.cells [.int .i64 tick,v1,v2,v3,.ps .unk (pss.map Pos.Pos.row),.ps .unk (mcs.map Pos.Mch.row)] 34) (fun _ _=>by rw [g3];exact X3);have s2:=(s2.ext x3).set (i:=H.n) (.cells [.int .i64 tick,v1,v2,v3,.ps .unk (pss.map Pos.Pos.row),.ps .unk (mcs.map Pos.Mch.row)] 34) (fun _ _=>by rw [g3];exact X3);obtain ⟨v4,H4,e4,s4,m4,x4⟩:=KS (lo:=H.n) (H:=(H3.set H.n (.cells [.int .i64 tick,v1,v2,v3,.ps .unk (pss.map Pos.Pos.row),.ps .unk (mcs.map Pos.Mch.row)] 34))) (sz:=10) (te:=76) (rows:=pss.map Pos.Pos.row) (by rw [length_map];unfold Z2;omega) (KT (fun _=>rfl) _) (by decide);have g4:H4.get H.n=.cells [.int .i64 tick,v1,v2,v3,.ps .unk (pss.map Pos.Pos.row),.ps .unk (mcs.map Pos.Mch.row)] 34:=J8 p3 (by omega) x4;have w4:H4.get (H.n+1)=.cells [.int .i64 0,.ps .nil [],.ps .nil [],.ps .nil [],.ps .nil [],.ps .nil []] 34:=J8 z3 (by omega) x4;have o4:Old H.n H (H4.set H.n (.cells [.int .i64 tick,v1,v2,v3,v4,.ps .unk (mcs.map Pos.Mch.row)] 34)):=(o3.trans (Ur x4 (by omega))).set (Nat.le_refl _) _;have m4':H.n+2<=(H4.set H.n (.cells [.int .i64 tick,v1,v2,v3,v4,.ps .unk (mcs.map Pos.Mch.row)] 34)).n:=by show H.n+2<=H4.n;omega
 have p4:(H4.set H.n (.cells [.int .i64 tick,v1,v2,v3,v4,.ps .unk (mcs.map Pos.Mch.row)] 34)).get H.n=.cells [.int .i64 tick,v1,v2,v3,v4,.ps .unk (mcs.map Pos.Mch.row)] 34:=by rw [Heap.get_set,if_pos rfl]
 have z4:(H4.set H.n (.cells [.int .i64 tick,v1,v2,v3,v4,.ps .unk (mcs.map Pos.Mch.row)] 34)).get (H.n+1)=.cells [.int .i64 0,.ps .nil [],.ps .nil [],.ps .nil [],.ps .nil [],.ps .nil []] 34:=by rw [Heap.get_set,if_neg (by omega)];exact w4
 have c4:=s4.cells;have u4:=s4.one;simp only [AV.cells] at c4;simp only [AV.one] at u4;have s4:=s4.set (i:=H.n) (.cells [.int .i64 tick,v1,v2,v3,v4,.ps .unk (mcs.map Pos.Mch.row)] 34) (fun _ _=>by rw [g4];exact X3);have s1:=(s1.ext x4).set (i:=H.n) (.cells [.int .i64 tick,v1,v2,v3,v4,.ps .unk (mcs.map Pos.Mch.row)] 34) (fun _ _=>by rw [g4];exact X3);have s2:=(s2.ext x4).set (i:=H.n) (.cells [.int .i64 tick,v1,v2,v3,v4,.ps .unk (mcs.map Pos.Mch.row)] 34) (fun _ _=>by rw [g4];exact X3);have s3:=(s3.ext x4).set (i:=H.n) (.cells [.int .i64 tick,v1,v2,v3,v4,.ps .unk (mcs.map Pos.Mch.row)] 34) (fun _ _=>by rw [g4];exact X3);obtain ⟨v5,H5,e5,s5,m5,x5⟩:=KS (lo:=H.n) (H:=(H4.set H.n (.cells [.int .i64 tick,v1,v2,v3,v4,.ps .unk (mcs.map Pos.Mch.row)] 34))) (sz:=2) (te:=117) (rows:=mcs.map Pos.Mch.row) (by rw [length_map];unfold Z2;omega) (KT (fun _=>rfl) _) (by decide);have g5:H5.get H.n=.cells [.int .i64 tick,v1,v2,v3,v4,.ps .unk (mcs.map Pos.Mch.row)] 34:=J8 p4 (by omega) x5;have w5:H5.get (H.n+1)=.cells [.int .i64 0,.ps .nil [],.ps .nil [],.ps .nil [],.ps .nil [],.ps .nil []] 34:=J8 z4 (by omega) x5;have o5:Old H.n H (H5.set H.n (.cells [.int .i64 tick,v1,v2,v3,v4,v5] 34)):=(o4.trans (Ur x5 (by omega))).set (Nat.le_refl _) _;have m5':H.n+2<=(H5.set H.n (.cells [.int .i64 tick,v1,v2,v3,v4,v5] 34)).n:=by show H.n+2<=H5.n;omega
 have p5:(H5.set H.n (.cells [.int .i64 tick,v1,v2,v3,v4,v5] 34)).get H.n=.cells [.int .i64 tick,v1,v2,v3,v4,v5] 34:=by rw [Heap.get_set,if_pos rfl]
 have z5:(H5.set H.n (.cells [.int .i64 tick,v1,v2,v3,v4,v5] 34)).get (H.n+1)=.cells [.int .i64 0,.ps .nil [],.ps .nil [],.ps .nil [],.ps .nil [],.ps .nil []] 34:=by rw [Heap.get_set,if_neg (by omega)];exact w5
 have c5:=s5.cells;have u5:=s5.one;simp only [AV.cells] at c5;simp only [AV.one] at u5;have s5:=s5.set (i:=H.n) (.cells [.int .i64 tick,v1,v2,v3,v4,v5] 34) (fun _ _=>by rw [g5];exact X3);have s1:=(s1.ext x5).set (i:=H.n) (.cells [.int .i64 tick,v1,v2,v3,v4,v5] 34) (fun _ _=>by rw [g5];exact X3);have s2:=(s2.ext x5).set (i:=H.n) (.cells [.int .i64 tick,v1,v2,v3,v4,v5] 34) (fun _ _=>by rw [g5];exact X3);have s3:=(s3.ext x5).set (i:=H.n) (.cells [.int .i64 tick,v1,v2,v3,v4,v5] 34) (fun _ _=>by rw [g5];exact X3);have s4:=(s4.ext x5).set (i:=H.n) (.cells [.int .i64 tick,v1,v2,v3,v4,v5] 34) (fun _ _=>by rw [g5];exact X3);have hle:(H.n<=H.n+1)=True:=eq_true (by omega);have hne1:(H.n=H.n+1)=False:=eq_false (by omega);simp (maxDischargeDepth:=12) only [go_sem,reduceEqDiff,reduceAdd,reduceMul,reduceLeDiff,reduceCtorEq,Z8,Zu,hle,a1,e1,g1,c1,u1,a2,e2,g2,c2,u2,a3,e3,g3,c3,u3,a4,e4,g4,c4,u4,a5,e5,g5,c5,u5,z5];refine ⟨⟨⟨v1,v2,v3,v4,v5⟩,rfl,⟨?_, ?_, ?_, ?_, ?_⟩⟩, ?_⟩
 . exact s1.set (i:=H.n+1) _ (fun _ _=>by rw [z5];exact X3)
 . exact s2.set (i:=H.n+1) _ (fun _ _=>by rw [z5];exact X3)
 . exact s3.set (i:=H.n+1) _ (fun _ _=>by rw [z5];exact X3)
 . exact s4.set (i:=H.n+1) _ (fun _ _=>by rw [z5];exact X3)
 . exact s5.set (i:=H.n+1) _ (fun _ _=>by rw [z5];exact X3)
 . exact o5.set (by omega) _
end Go.Sim

namespace Go.Sim
theorem IW {d:AV->Option AV}:∀ {cs:List AV},(∀ c ∈ cs,d c=some c)->YL d cs=some cs
 | [],_=>rfl
 | a::r,h=>by
   unfold YL;rw [h a (by simp),IW fun c hc=>h c (by simp [hc])]
theorem Zbl {H:Heap} (h:v.scal=true):Ye (k+1) H v=some v:=by
 cases v<;>first | rfl | simp [AV.scal] at h
def Scal (rows:List (List AV)):Prop:=∀ r ∈ rows,∀ c ∈ r,AV.scal c=true
theorem Jz {f:α->List AV} (hf:∀ x,∀ c ∈ f x,AV.scal c=true) (l:List α):Scal (l.map f):=by
 intro r hr;obtain ⟨x,_,rfl⟩:=mem_map.1 hr;exact hf x
theorem Yi {f:α->List AV} (hf:∀ x,(f x).length=sz) (l:List α):Len sz (l.map f):=by
 intro r hr;obtain ⟨x,_,rfl⟩:=mem_map.1 hr;exact hf x
theorem SL.reads {H:Heap} (h:SL H v sz te rows) (hl:Len sz rows) (hs:Scal rows):Ye (k+2) H v=some (.ps .unk rows):=by
 rcases h with ⟨rfl,rfl⟩ | ⟨id,_,rfl,_,hg⟩
 . rfl
 . have hlen:=Zl hl;have hr:YB H (.ptr id 0) (rows.length * sz)=some rows.flatten:=by
    unfold YB;simp only [hg,Xw];unfold ZW;rw [if_pos (by omega),drop_zero,take_of_length_le (by omega)]
   have hd:YL (Ye (k+1) H) rows.flatten=some rows.flatten:=IW fun c hc=>by
    obtain ⟨r,h1,h2⟩:=mem_flatten.1 hc;exact Zbl (hs r h1 c h2)
   have hch:XY sz rows.length rows.flatten=some rows:=by
    have:=Gm (rows:=rows) [] hl
    rwa [append_nil] at this
   unfold Ye;simp only [hr,hd,hch]
theorem SL.reads0 {H:Heap} (h:SL H v sz te rows) (hl:Len sz rows) (hs:Scal rows):Ye (k+2) H v.strip0=some (.ps .unk rows):=by
 rcases h with ⟨rfl,rfl⟩ | ⟨id,h1,rfl,h2,h3⟩
 . rfl
 . exact SL.reads (.inr ⟨id,h1,rfl,h2,h3⟩) hl hs
theorem CR {H:Heap} {L:RegL} (h:LstIs H L r) (tk:Int):Ye (k+3) H (.agg ((L.row tk).map AV.strip0))=some (.agg (Z8 { r with tick:=tk })):=by
 have d1:=h.lT.reads0 (k:=k) (Yi (f:=Pos.Trk.row) (sz:=2) (fun _=>rfl) _) (Jz (f:=Pos.Trk.row) (fun x c hc=>by simp [Pos.Trk.row] at hc;rcases hc with rfl | rfl<;>rfl) _)
 have d2:=h.lF.reads0 (k:=k) (Yi (f:=Pos.Flt.row) (sz:=7) (fun _=>rfl) _) (Jz (f:=Pos.Flt.row) (fun x c hc=>by simp [Pos.Flt.row] at hc;rcases hc with rfl | rfl | rfl | rfl | rfl | rfl | rfl<;>rfl) _)
 have d3:=h.lR.reads0 (k:=k) (Yi (f:=Pos.Trn.row) (sz:=3) (fun _=>rfl) _) (Jz (f:=Pos.Trn.row) (fun x c hc=>by simp [Pos.Trn.row] at hc;rcases hc with rfl | rfl | rfl<;>rfl) _)
 have d4:=h.lP.reads0 (k:=k) (Yi (f:=Pos.Pos.row) (sz:=10) (fun _=>rfl) _) (Jz (f:=Pos.Pos.row) (fun x c hc=>by simp [Pos.Pos.row] at hc;rcases hc with rfl | rfl | rfl | rfl | rfl | rfl | rfl | rfl | rfl | rfl<;>rfl) _)
 have d5:=h.lM.reads0 (k:=k) (Yi (f:=Pos.Mch.row) (sz:=2) (fun _=>rfl) _) (Jz (f:=Pos.Mch.row) (fun x c hc=>by simp [Pos.Mch.row] at hc;rcases hc with rfl | rfl<;>rfl) _)
 show (match YL (Ye (k+2) H) ((L.row tk).map AV.strip0) with
  | some l=>some (AV.agg l)
  | none=>none)=_
 have hd:YL (Ye (k+2) H) ((L.row tk).map AV.strip0)=some (Z8 { r with tick:=tk }):=by
  unfold RegL.row;have d0:Ye (k+2) H (AV.strip0 (.int .i64 tk))=some (.int .i64 tk):=rfl;simp only [map_cons,map_nil,YL,d0,d1,d2,d3,d4,d5];rfl
 rw [hd]
def vset (f:FuncId):Bool:=decide (f=20) || decide (f=47) || decide (f=45)
def CS:PF:=Zo 93 p93 (Zo 45 p45 (Zo 47 p47 (Zo 20 p20 (Zo 275 p275 (fun _=>none)))))
theorem Zbm:PrimsOk NC CS:=Yn (Yn (Pa (Pa (Pa (ZK) Zba) Gx) pok47) (by kernel_rfl) (by kernel_rfl) pok45) (by kernel_rfl) (by kernel_rfl) IF
abbrev PV:Cfg:=(NC.withPrims CS).withView vset
theorem Qr {H:Heap} {L:RegL} (h:LstIs H L r) (hl:ZH r) (tk:Int) {c:Int} (hc:QD c) (w:Nm):Qt H p20 [.agg ((L.row tk).map AV.strip0),.int .u8 c,.str w]=some (i64 (atL (ZO r c) w)):=by
 have hd:=CR (k:=1) h tk;have hp:=Vy { r with tick:=tk } c w ⟨hl,hc⟩
 have d1:Ye 4 H (.int .u8 c)=some (.int .u8 c):=rfl;have d2:Ye 4 H (.str w)=some (.str w):=rfl;unfold Qt;simp only [YL,hd,d1,d2,hp];rfl
theorem Zbn {H:Heap} {L:RegL} (h:LstIs H L r) (hl:ZH r) (tk:Int) (w:Nm):Qt H p47 [.agg ((L.row tk).map AV.strip0),.str w]=some (i64 (Qq r w)):=by
 have hd:=CR (k:=1) h tk;have hp:=pe47 { r with tick:=tk } w hl
 have d2:Ye 4 H (.str w)=some (.str w):=rfl;unfold Qt;simp only [YL,hd,d2,hp];rfl
theorem Zbo {H:Heap} {L:RegL} (h:LstIs H L r) (hl:ZH r) (tk:Int) (w:Nm) (ht:(r.track? w).isSome=true):Qt H p45 [.agg ((L.row tk).map AV.strip0),.str w]=some (i64 (r.permitted w)):=by
 have hd:=CR (k:=1) h tk;have hp:=pe45 { r with tick:=tk } w ⟨hl,ht⟩
 have d2:Ye 4 H (.str w)=some (.str w):=rfl;unfold Qt;simp only [YL,hd,d2,hp];rfl
section
variable {rec:Rec} {lo:Nat} {args:List AV} {H:Heap} {K:AV->Heap->Prop}
theorem Zbp:VO (Z9 PV rec lo 275 args H) K=AO (p275 args) fun v=>K v H:=ZA (by rfl) (by kernel_rfl) (by kernel_rfl)
theorem Zbq:VO (Z9 PV rec lo 93 args H) K=AO (p93 args) fun v=>K v H:=ZA (by rfl) (by kernel_rfl) (by kernel_rfl)
theorem Zbr:VO (Z9 PV rec lo 20 args H) K=AO (Qt H p20 args) fun v=>K v H:=Fu (by rfl) (by kernel_rfl) (by kernel_rfl)
theorem Zbs:VO (Z9 PV rec lo 47 args H) K=AO (Qt H p47 args) fun v=>K v H:=Fu (by rfl) (by kernel_rfl) (by kernel_rfl)
theorem Zbt:VO (Z9 PV rec lo 45 args H) K=AO (Qt H p45 args) fun v=>K v H:=Fu (by rfl) (by kernel_rfl) (by kernel_rfl)
end
attribute [go_sem ↓] Zbp Zbq Zbr Zbs Zbt
def Us (H:Heap) (t:TypeId) (v:AV):Option AV:=YJ NC.P H t v
theorem Zbu {rec:Rec} {fid lo:Nat} {H:Heap} {K:AV->Heap->Prop} {d:Option Tmp} {p:String} {af:Array Edge} {gd:Option (Nat × Bool)} (x:Operand) (t':TypeId):VO (aop PV rec fid lo ⟨d,.call ⟨.builtin .len,#[x],#[t']⟩,t,p,af,gd⟩ T H) K=AO (Z4 PV T x) fun a=>AO (Us H t' a) fun v=>K v H:=Ft x t'
attribute [go_sem ↓ 2000] Zbu
theorem Zbv (H:Heap) (t:TypeId) (a:Tok) (b:List (List AV)):Us H t (.ps a b)=YJ NC.P H t (.ps a b):=rfl
theorem Zbw (H:Heap) (t:TypeId) (a b c d:Nat) (e:Option Nat):Us H t (.rs a b c d e)=YJ NC.P H t (.rs a b c d e):=rfl
theorem Zbx (H:Heap) (t:TypeId) (s:List Nat):Us H t (.str s)=YJ NC.P H t (.str s):=rfl
attribute [go_sem 100] Zbv Zbw Zbx
theorem SL.len {H0:Heap} (h:SL H0 v sz te rows) (hu:NC.P.underlying t=some (.slice te)) (H:Heap):Us H t v=some (.int .i64 (rows.length:Int)):=by
 show YJ NC.P H t v=_;unfold YJ;rcases h with ⟨rfl,rfl⟩ | ⟨id,_,rfl,_⟩<;>simp only [hu]<;>rfl
theorem XX (nm:α->Nm) (w:Nm) (l:List α):(l.find? (fun z=>decide (nm z=w))=none/\atL (l.map nm) w = -1) \/ ∃ (i:Nat) (y:α),l.find? (fun z=>decide (nm z=w))=some y/\atL (l.map nm) w=(i:Int)/\l[i]? = some y/\i < l.length:=by
 have hm:∀ l:List α,Yr (fun y=>y) w (l.map nm)=Yr nm w l:=by
  intro l
  induction l with
  | nil=>rfl
  | cons a r ih =>
    show Yr (fun y=>y) w (nm a::r.map nm)=_;unfold Yr;rw [ih]
 cases hf:l.find? (fun z=>decide (nm z=w)) with
 | none =>
   refine .inl ⟨rfl, ?_⟩;unfold atL;rw [hm];cases hi:Yr nm w l with
   | none=>rfl
   | some i =>
     obtain ⟨y,_,_,h3,_⟩:=Gi hi;rw [hf] at h3;cases h3
 | some y =>
   obtain ⟨i,h1,h2,h3⟩:=Ca hf;refine .inr ⟨i,y,rfl, ?_,h2,h3⟩;unfold atL;rw [hm,h1]
def Y2 (H:Heap) (r:Reg) (a:Pos.Act) (code:Int) (tk:Int) (w:AV) (H2:Heap):Prop :=
 (∃ L,w=.tup [.agg (L.row tk),.int .i64 code]/\LstIs H2 L (if code=0 then doA r r.tick a else r))/\H.n<=H2.n /\ ∀ i c t,i < H.n->H.get i=.cells c t->H2.get i=.cells c t
theorem Ut {te:TypeId} {r:List AV} (h:SL H v sz te rows) (hlo:lo=0) (h1:rows.length+1<=Z2) (h2:r.all AV.one=true) (h3:0 < sz) (hr:r.length=sz) (hl:Len sz rows) :
 ∃ v' H',Yv lo H sz te v [r]=some (v',H')/\SL H' v' sz te (rows++[r])/\H.n<=H'.n/\(∀ i c t,i < H.n->H.get i=.cells c t->H'.get i=.cells c t)/\(∀ {v2 sz2 te2 rows2},te2 ≠ te->SL H v2 sz2 te2 rows2->SL H' v2 sz2 te2 rows2):=by
 subst hlo;rcases h with ⟨rfl,rfl⟩ | ⟨id,hne,rfl,hid,hg⟩
 . refine ⟨.rs H.n 0 1 sz none,H.push (.row r sz te), ?_,.inr ⟨H.n,by simp,rfl,by simp,by rw [Heap.get_push,if_pos rfl];simp⟩,by simp,fun i c t hi hc=>by rw [Heap.get_push,if_neg (by omega)];exact hc,fun _ hs=>hs.push _⟩;unfold Yv;have m1:(1<=Z2)=True:=eq_true (by unfold Z2;decide);simp only [Tok.full,h2,h3,length_nil,length_cons,zero_add,m1,all_nil,all_cons,decide_true,Bool.and_self,if_true,nil_append,flatten_cons,flatten_nil,append_nil]
 . have hfl:=Zl hl;refine ⟨.rs H.n 0 (rows.length+1) sz none,(H.set id .dead).push (.row (rows.flatten++r) sz te), ?_,.inr ⟨H.n,by simp,by simp,by simp,by rw [Heap.get_push,if_pos (by simp)];simp⟩,by simp,fun i c t hi hc => ?_,fun hte hs => ?_⟩
   . unfold Yv;have e1:0+rows.length * sz=rows.flatten.length:=by omega
     have m1:(rows.length+1<=Z2)=True:=eq_true h1;simp only [h2,h3,length_cons,length_nil,zero_add,m1,all_nil,all_cons,decide_true,Bool.and_self,if_true,isNone_none,zero_le,hg,hfl,drop_zero,flatten_cons,flatten_nil,append_nil]
   . rw [Heap.get_push,if_neg (by simp;omega),Heap.get_set,if_neg (fun e=>by rw [e,hg] at hc;cases hc)];exact hc
   . exact (hs.set (i:=id) _ (fun cs s=>by rw [hg];intro e;cases e;exact hte rfl)).push _
structure Keep (H H':Heap) (te:Nat):Prop where
 le:H.n<=H'.n
 cells:∀ i c t,i < H.n->H.get i=.cells c t->H'.get i=.cells c t
 sl:∀ {v sz te2 rows},te2 ≠ te->SL H v sz te2 rows->SL H' v sz te2 rows
theorem Keep.refl (H:Heap) (te:Nat):Keep H H te:=⟨Nat.le_refl _,fun _ _ _ _ h=>h,fun _ h=>h⟩
theorem Keep.push (h:Keep H H' te) (x:ABlk):Keep H (H'.push x) te :=
 ⟨Nat.le_trans h.le (by simp),fun i c t hi hc=>by rw [Heap.get_push,if_neg (by have:=h.le;omega)];exact h.cells i c t hi hc,fun ht hs=>(h.sl ht hs).push x⟩
theorem Keep.set (h:Keep H H' te) (hi:H.n<=i) (hc:H'.get i=.cells c t) (x:ABlk):Keep H (H'.set i x) te :=
 ⟨by rw [Qx];exact h.le,fun j c2 t2 hj hc2=>by rw [Heap.get_set,if_neg (by omega)];exact h.cells j c2 t2 hj hc2,fun ht hs=>(h.sl ht hs).set x (fun _ _=>by rw [hc];exact X3)⟩
theorem Keep.trans {A B C:Heap} (h:Keep A B te) (k:Keep B C te):Keep A C te :=
 ⟨Nat.le_trans h.le k.le,fun i c t hi hc=>k.cells i c t (lt_of_lt_of_le hi h.le) (h.cells i c t hi hc),fun ht hs=>k.sl ht (h.sl ht hs)⟩
theorem Keep.fin (h:Keep H H' te) (h0:H'.get H.n=.cells c t) (h2:H'.get (H.n+1+1)=.cells c' t') (x y:ABlk):Keep H ((H'.set H.n x).set (H.n+1+1) y) te :=
 (h.set (Nat.le_refl _) h0 x).set (by omega) (by rw [Heap.get_set,if_neg (by omega)];exact h2) y
theorem SL.setc (h:SL H v sz te rows) (hc:H.get i=.cells c t) (x:ABlk):SL (H.set i x) v sz te rows:=h.set x (fun _ _=>by rw [hc];exact X3)
def Zj (H:Heap) (reg ev z:List AV):Heap:=((H.push (.cells reg 34)).push (.cells ev 53)).push (.cells z 34)
theorem Yu (H:Heap) (reg ev z:List AV) (te:Nat):Keep H (Zj H reg ev z) te:=(((Keep.refl H te).push _).push _).push _
theorem JA (H:Heap) (reg ev z:List AV):(Zj H reg ev z).get (H.n+1+1)=.cells z 34:=by
 unfold Zj;rw [Heap.get_push];exact if_pos rfl
theorem SL.fin (h:SL H' v sz te rows) (h0:H'.get H.n=.cells c t) (h2:H'.get (H.n+1+1)=.cells c' t') (x y:ABlk):SL ((H'.set H.n x).set (H.n+1+1) y) v sz te rows :=
 (h.setc h0 x).setc (by rw [Heap.get_set,if_neg (by omega)];exact h2) y
theorem LstIs.keep {L:RegL} (h:LstIs H L r) (k:Keep H H' 0):LstIs H' L r:=⟨k.sl (by decide) h.lT,k.sl (by decide) h.lF,k.sl (by decide) h.lR,k.sl (by decide) h.lP,k.sl (by decide) h.lM⟩
theorem QR {L:RegL} {a:Pos.Act} {code:Int} (h:LstIs H L r) (hc:code ≠ 0):Y2 H r a code tk (.tup [.agg (L.row tk),.int .i64 code]) ((Zj H reg ev z).set (H.n+1+1) (.cells u 34)):=by
 have k:=(Yu H reg ev z 0).set (by omega) (JA H reg ev z) (.cells u 34);refine ⟨⟨L,rfl, ?_⟩,k.le,k.cells⟩;rw [if_neg hc];exact h.keep k
theorem Zby {L:RegL} {t:Nm} {v:Int} (hL:LstIs H L r) (hl:ZH r) (hnone:r.track? t=none) (htk:¬ v0 < r.tick) :
 ∃ w H2,R PV (.call 0 277 [.agg (L.row tk),.agg (Ev.row ⟨num,Xp,[t],[v0,v],[]⟩)] H)=some (.ofVal w H2)/\Y2 H r (Pos.Act.track t v) (okA r v0 (Pos.Act.track t v)) tk w H2:=by
 refine Zd (C:=PV) (f:=277) (lo:=0) (args:=[.agg (L.row tk),.agg (Ev.row ⟨num,Xp,[t],[v0,v],[]⟩)]) (H:=H) (fn:=Tryz.f277) (Q:=fun w H2=>Y2 H r (Pos.Act.track t v) (okA r v0 (Pos.Act.track t v)) tk w H2) (by kernel_rfl) Tryz.func277 rfl rfl ?_;have hok:okA r v0 (Pos.Act.track t v)=if v < 1\/400 < v then 3 else if 8<=r.tracks.length then 5 else 0:=by
  unfold okA;rw [if_neg htk];simp only [];rw [hnone];rfl
 rw [hok];have ho:=Jx v 1 400;have c1:=hL.lT.cells;have c2:=hL.lF.cells;have c3:=hL.lR.cells;have c4:=hL.lP.cells;have c5:=hL.lM.cells;have u1:=hL.lT.one;have u2:=hL.lF.one;have u3:=hL.lR.one;have u4:=hL.lP.one;have u5:=hL.lM.one;have hn1:=hL.lT.len (t:=28) (by kernel_rfl);simp only [AV.cells] at c1 c2 c3 c4 c5;simp only [AV.one] at u1 u2 u3 u4 u5;simp only [length_map] at hn1;have b1:Z6 Xp [116,114,97,99,107]=true:=rfl;by_cases k1:v < 1\/400 < v
 . rw [if_pos k1];have q:(decide (v < 1) || decide (400 < v))=true:=by simpa using k1
   rw [q] at ho;obtain ⟨vT,vF,vR,vP,vM⟩:=L;simp (maxDischargeDepth:=12) only [go_sem,reduceEqDiff,reduceAdd,reduceLeDiff,reduceCtorEq,Pos.Ev.row,RegL.row,Z0,Z3,u1,u2,u3,u4,u5,b1,ho];exact QR hL (by decide:(3:Int) ≠ 0)
 rw [if_neg k1];have q:(decide (v < 1) || decide (400 < v))=false:=by rw [decide_eq_false (fun h=>k1 (.inl h)),decide_eq_false (fun h=>k1 (.inr h))];rfl
 rw [q] at ho;by_cases k2:8<=r.tracks.length
 . rw [if_pos k2];have q2:((r.tracks.length:Int) < 8)=False:=eq_false (by omega);obtain ⟨vT,vF,vR,vP,vM⟩:=L;simp (maxDischargeDepth:=12) only [go_sem,reduceEqDiff,reduceAdd,reduceLeDiff,reduceCtorEq,Pos.Ev.row,RegL.row,Z0,Z3,u1,u2,u3,u4,u5,b1,ho,hn1,q2];exact QR hL (by decide:(5:Int) ≠ 0)
 rw [if_neg k2];have q2:((r.tracks.length:Int) < 8)=True:=eq_true (by omega);obtain ⟨vT,vF,vR,vP,vM⟩:=L;obtain ⟨v',H',e1,s1,k⟩:=Ut (lo:=0) (H:=Zj H [.int .i64 tk,vT,vF,vR,vP,vM] [.int .i64 num,.str Xp,.ps .unk [[.str t]],.ps .unk [[.int .i64 v0],[.int .i64 v]],.str []] [.int .i64 0,.ps .nil [],.ps .nil [],.ps .nil [],.ps .nil [],.ps .nil []]) ((Yu H _ _ _ 0).sl (by decide) hL.lT) rfl (by rw [length_map];unfold Z2;omega) (r:=[.str t,.int .i64 v]) rfl (by decide) rfl (Yi (f:=Pos.Trk.row) (fun _=>rfl) _);have g0:H'.get H.n=.cells [.int .i64 tk,vT,vF,vR,vP,vM] 34:=k.2.1 _ _ _ (by unfold Zj;simp;omega) (by unfold Zj;simp (maxDischargeDepth:=12) only [go_sem]);have g2:H'.get (H.n+1+1)=.cells [.int .i64 0,.ps .nil [],.ps .nil [],.ps .nil [],.ps .nil [],.ps .nil []] 34:=k.2.1 _ _ _ (by unfold Zj;simp) (JA _ _ _ _);have kk:Keep H H' 113:=(Yu H _ _ _ _).trans ⟨k.1,k.2.1,k.2.2⟩;unfold Zj at e1;have c6:=s1.cells;have u6:=s1.one;simp only [AV.cells] at c6;simp only [AV.one] at u6;simp (maxDischargeDepth:=12) only [go_sem,reduceEqDiff,reduceAdd,reduceMul,reduceSub,reduceLeDiff,reduceCtorEq,Pos.Ev.row,RegL.row,Z0,Z3,u1,u2,u3,u4,u5,b1,ho,hn1,q2,Zu,e1,g0,g2,c6,u6];refine ⟨⟨(⟨v',vF,vR,vP,vM⟩:RegL),rfl, ?_⟩,(kk.fin g0 g2 _ _).le,(kk.fin g0 g2 _ _).cells⟩;rw [if_pos rfl];refine ⟨?_,(kk.fin g0 g2 _ _).sl (by decide) hL.lF,(kk.fin g0 g2 _ _).sl (by decide) hL.lR,(kk.fin g0 g2 _ _).sl (by decide) hL.lP,(kk.fin g0 g2 _ _).sl (by decide) hL.lM⟩;have e:(doA r r.tick (Pos.Act.track t v)).tracks.map Pos.Trk.row=r.tracks.map Pos.Trk.row++[[.str t,.int .i64 v]]:=by
  show (r.tracks++[(⟨t,v⟩:Trk)]).map Pos.Trk.row=_;rw [map_append];rfl
 rw [e];exact s1.fin g0 g2 _ _
theorem Zbz (n:Nat):YI n (.int .i64 2)=if 2 < n then some 2 else none:=rfl
theorem ZbA (n:Nat):YI n (.int .i64 3)=if 3 < n then some 3 else none:=rfl
attribute [go_sem] Zbz ZbA
theorem SL.under (h:SL H v sz te rows) (hn:H.n<=n):v.under n=true:=by
 rcases h with ⟨rfl,_⟩ | ⟨id,_,rfl,hid,_⟩
 . rfl
 . show Nat.blt id n=true;rw [blt_eq];omega
theorem ZbB {L:RegL} {f t:Nm} {a b v:Int} (hL:LstIs H L r) (hl:ZH r) (h1:(r.track? t).isSome=true) (h2:r.fault? f=none) (htk:¬ v0 < r.tick) :
 ∃ w H2,R PV (.call 0 277 [.agg (L.row tk),.agg (Ev.row ⟨num,Xc,[f,t],[v0,a,b,v],[]⟩)] H)=some (.ofVal w H2)/\Y2 H r (Pos.Act.fault f t a b v) (okA r v0 (Pos.Act.fault f t a b v)) tk w H2:=by
 refine Zd (C:=PV) (f:=277) (lo:=0) (args:=[.agg (L.row tk),.agg (Ev.row ⟨num,Xc,[f,t],[v0,a,b,v],[]⟩)]) (H:=H) (fn:=Tryz.f277) (Q:=fun w H2=>Y2 H r (Pos.Act.fault f t a b v) (okA r v0 (Pos.Act.fault f t a b v)) tk w H2) (by kernel_rfl) Tryz.func277 rfl rfl ?_;have hok:okA r v0 (Pos.Act.fault f t a b v)=if b<=a\/100000000 < b then 14 else if 400 < v then 3 else if 64<=r.faults.length then 5 else 0:=by
  obtain ⟨y,hy⟩:=isSome_iff_exists.1 h1;unfold okA;rw [if_neg htk];simp only [];rw [hy,h2];rfl
 rw [hok];have c1:=hL.lT.cells;have c2:=hL.lF.cells;have c3:=hL.lR.cells;have c4:=hL.lP.cells;have c5:=hL.lM.cells;have u1:=hL.lT.one;have u2:=hL.lF.one;have u3:=hL.lR.one;have u4:=hL.lP.one;have u5:=hL.lM.one;have hn1:=hL.lF.len (t:=29) (by kernel_rfl);simp only [AV.cells] at c1 c2 c3 c4 c5;simp only [AV.one] at u1 u2 u3 u4 u5;simp only [length_map] at hn1;have b_track:Z6 Xc [116,114,97,99,107]=false:=rfl;have b_fault:Z6 Xc [102,97,117,108,116]=true:=rfl;by_cases k_14:b<=a\/100000000 < b
 . rw [if_pos k_14];obtain ⟨vT,vF,vR,vP,vM⟩:=L;rcases Classical.propComplete (a < b) with q1 | q1
   . have q2:(100000000 < b)=True:=eq_true (by have:=of_eq_true q1;omega);simp (maxDischargeDepth:=12) only [go_sem,reduceEqDiff,reduceAdd,reduceSub,reduceLeDiff,reduceCtorEq,Pos.Ev.row,RegL.row,Z0,Z3,u1,u2,u3,u4,u5,b_track,b_fault,q1,q2];exact QR hL (by decide:(14:Int) ≠ 0)
   . simp (maxDischargeDepth:=12) only [go_sem,reduceEqDiff,reduceAdd,reduceSub,reduceLeDiff,reduceCtorEq,Pos.Ev.row,RegL.row,Z0,Z3,u1,u2,u3,u4,u5,b_track,b_fault,q1];exact QR hL (by decide:(14:Int) ≠ 0)
 rw [if_neg k_14];have q1:(a < b)=True:=eq_true (by omega);have q2:(100000000 < b)=False:=eq_false (by omega);by_cases k_3:400 < v
 . rw [if_pos k_3];have q3:(400 < v)=True:=eq_true k_3;obtain ⟨vT,vF,vR,vP,vM⟩:=L;simp (maxDischargeDepth:=12) only [go_sem,reduceEqDiff,reduceAdd,reduceSub,reduceLeDiff,reduceCtorEq,Pos.Ev.row,RegL.row,Z0,Z3,u1,u2,u3,u4,u5,b_track,b_fault,q1,q2,q3];exact QR hL (by decide:(3:Int) ≠ 0)
 rw [if_neg k_3];have q3:(400 < v)=False:=eq_false k_3;by_cases k_5:64<=r.faults.length
 . rw [if_pos k_5];have q4:((r.faults.length:Int) < 64)=False:=eq_false (by omega);obtain ⟨vT,vF,vR,vP,vM⟩:=L;simp (maxDischargeDepth:=12) only [go_sem,reduceEqDiff,reduceAdd,reduceSub,reduceLeDiff,reduceCtorEq,Pos.Ev.row,RegL.row,Z0,Z3,u1,u2,u3,u4,u5,b_track,b_fault,q1,q2,q3,hn1,q4];exact QR hL (by decide:(5:Int) ≠ 0)
 rw [if_neg k_5];have q4:((r.faults.length:Int) < 64)=True:=eq_true (by omega);obtain ⟨vT,vF,vR,vP,vM⟩:=L;obtain ⟨v',H',e1,s1,k⟩:=Ut (lo:=0) (H:=Zj H [.int .i64 tk,vT,vF,vR,vP,vM] [.int .i64 num,.str Xc,.ps .unk [[.str f],[.str t]],.ps .unk [[.int .i64 v0],[.int .i64 a],[.int .i64 b],[.int .i64 v]],.str []] [.int .i64 0,.ps .nil [],.ps .nil [],.ps .nil [],.ps .nil [],.ps .nil []]) ((Yu H _ _ _ 0).sl (by decide) hL.lF) rfl (by rw [length_map];unfold Z2;omega) (r:=[.str f,.str t,.int .i64 a,.int .i64 b,.int .i64 v,.bool false,.bool false]) rfl (by decide) rfl (Yi (f:=Pos.Flt.row) (fun _=>rfl) _);have g0:H'.get H.n=.cells [.int .i64 tk,vT,vF,vR,vP,vM] 34:=k.2.1 _ _ _ (by unfold Zj;simp;omega) (by unfold Zj;simp (maxDischargeDepth:=12) only [go_sem]);have g2:H'.get (H.n+1+1)=.cells [.int .i64 0,.ps .nil [],.ps .nil [],.ps .nil [],.ps .nil [],.ps .nil []] 34:=k.2.1 _ _ _ (by unfold Zj;simp) (JA _ _ _ _);have kk:Keep H H' 114:=(Yu H _ _ _ _).trans ⟨k.1,k.2.1,k.2.2⟩;unfold Zj at e1;have c6:=s1.cells;have u6:=s1.one;simp only [AV.cells] at c6;simp only [AV.one] at u6;simp (maxDischargeDepth:=12) only [go_sem,reduceEqDiff,reduceAdd,reduceMul,reduceSub,reduceLeDiff,reduceCtorEq,Pos.Ev.row,RegL.row,Z0,Z3,u1,u2,u3,u4,u5,b_track,b_fault,q1,q2,q3,hn1,q4,Zu,e1,g0,g2,c6,u6];refine ⟨⟨(⟨vT,v',vR,vP,vM⟩:RegL),rfl, ?_⟩,(kk.fin g0 g2 _ _).le,(kk.fin g0 g2 _ _).cells⟩;rw [if_pos rfl];have e:(doA r r.tick (Pos.Act.fault f t a b v)).faults.map Pos.Flt.row=r.faults.map Pos.Flt.row++[[.str f,.str t,.int .i64 a,.int .i64 b,.int .i64 v,.bool false,.bool false]]:=by
  show (r.faults++[(⟨f,t,a,b,v,false,false⟩:Flt)]).map Pos.Flt.row=_;rw [map_append];rfl
 refine ⟨(kk.fin g0 g2 _ _).sl (by decide) hL.lT, ?_,(kk.fin g0 g2 _ _).sl (by decide) hL.lR,(kk.fin g0 g2 _ _).sl (by decide) hL.lP,(kk.fin g0 g2 _ _).sl (by decide) hL.lM⟩;rw [e];exact s1.fin g0 g2 _ _
theorem ZbC {L:RegL} {n t:Nm} {v:Int} (hL:LstIs H L r) (hl:ZH r) (h1:(r.track? t).isSome=true) (h2:r.train? n=none) (hv:0<=v) (htk:¬ v0 < r.tick) :
 ∃ w H2,R PV (.call 0 277 [.agg (L.row tk),.agg (Ev.row ⟨num,ZZ,[n,t],[v0,v],[]⟩)] H)=some (.ofVal w H2)/\Y2 H r (Pos.Act.enter n t v) (okA r v0 (Pos.Act.enter n t v)) tk w H2:=by
 refine Zd (C:=PV) (f:=277) (lo:=0) (args:=[.agg (L.row tk),.agg (Ev.row ⟨num,ZZ,[n,t],[v0,v],[]⟩)]) (H:=H) (fn:=Tryz.f277) (Q:=fun w H2=>Y2 H r (Pos.Act.enter n t v) (okA r v0 (Pos.Act.enter n t v)) tk w H2) (by kernel_rfl) Tryz.func277 rfl rfl ?_;have hok:okA r v0 (Pos.Act.enter n t v)=if Qq r t ≠ 0 then Qq r t else if v < 1\/r.permitted t < v then 20 else if 16<=r.trains.length then 5 else 0:=by
  obtain ⟨y,hy⟩:=isSome_iff_exists.1 h1;unfold okA Qq;rw [if_neg htk];simp only [];rw [hy,h2];cases r.taken t<;>cases r.silentOn t<;>rfl
 rw [hok];have c1:=hL.lT.cells;have c2:=hL.lF.cells;have c3:=hL.lR.cells;have c4:=hL.lP.cells;have c5:=hL.lM.cells;have u1:=hL.lT.one;have u2:=hL.lF.one;have u3:=hL.lR.one;have u4:=hL.lP.one;have u5:=hL.lM.one;have hn1:=hL.lR.len (t:=30) (by kernel_rfl);simp only [AV.cells] at c1 c2 c3 c4 c5;simp only [AV.one] at u1 u2 u3 u4 u5;simp only [length_map] at hn1;have b_track:Z6 ZZ [116,114,97,99,107]=false:=rfl;have b_fault:Z6 ZZ [102,97,117,108,116]=false:=rfl;have b_answer:Z6 ZZ [97,110,115,119,101,114]=false:=rfl;have b_repair:Z6 ZZ [114,101,112,97,105,114]=false:=rfl;have b_enter:Z6 ZZ [101,110,116,101,114]=true:=rfl;have hE:=Zbn (hL.keep (Yu H [.int .i64 tk,L.vT,L.vF,L.vR,L.vP,L.vM] [.int .i64 num,.str ZZ,.ps .unk [[.str n],[.str t]],.ps .unk [[.int .i64 v0],[.int .i64 v]],.str []] [.int .i64 0,.ps .nil [],.ps .nil [],.ps .nil [],.ps .nil [],.ps .nil []] 0)) hl tk t;have hP:=Zbo (hL.keep (Yu H [.int .i64 tk,L.vT,L.vF,L.vR,L.vP,L.vM] [.int .i64 num,.str ZZ,.ps .unk [[.str n],[.str t]],.ps .unk [[.int .i64 v0],[.int .i64 v]],.str []] [.int .i64 0,.ps .nil [],.ps .nil [],.ps .nil [],.ps .nil [],.ps .nil []] 0)) hl tk t h1;unfold Zj RegL.row at hE hP;simp only [map_cons,map_nil,AV.strip0] at hE hP;have un1:=hL.lT.under (n:=H.n+1+1+1) (by omega);have un2:=hL.lF.under (n:=H.n+1+1+1) (by omega);have un3:=hL.lR.under (n:=H.n+1+1+1) (by omega);have un4:=hL.lP.under (n:=H.n+1+1+1) (by omega);have un5:=hL.lM.under (n:=H.n+1+1+1) (by omega);by_cases k_e:Qq r t ≠ 0
 . rw [if_pos k_e];have q1:(Qq r t=0)=False:=eq_false k_e;generalize Qq r t=ec at *;obtain ⟨vT,vF,vR,vP,vM⟩:=L;simp (maxDischargeDepth:=12) only [go_sem,reduceEqDiff,reduceAdd,reduceSub,reduceLeDiff,reduceCtorEq,Pos.Ev.row,RegL.row,Z0,Z3,u1,u2,u3,u4,u5,b_track,b_fault,b_answer,b_repair,b_enter,un1,un2,un3,un4,un5,hE,q1];exact QR hL k_e
 rw [if_neg k_e];have k_e:=Decidable.not_not.1 k_e;rw [k_e] at hE;by_cases k_20:v < 1\/r.permitted t < v
 . rw [if_pos k_20];obtain ⟨vT,vF,vR,vP,vM⟩:=L;rcases Classical.propComplete (v=0) with q2 | q2
   . simp (maxDischargeDepth:=12) only [go_sem,reduceEqDiff,reduceAdd,reduceSub,reduceLeDiff,reduceCtorEq,Pos.Ev.row,RegL.row,Z0,Z3,u1,u2,u3,u4,u5,b_track,b_fault,b_answer,b_repair,b_enter,un1,un2,un3,un4,un5,hE,q2];exact QR hL (by decide:(20:Int) ≠ 0)
   . have q3:(r.permitted t < v)=True:=eq_true (by have:=of_eq_false q2;omega);simp (maxDischargeDepth:=12) only [go_sem,reduceEqDiff,reduceAdd,reduceSub,reduceLeDiff,reduceCtorEq,Pos.Ev.row,RegL.row,Z0,Z3,u1,u2,u3,u4,u5,b_track,b_fault,b_answer,b_repair,b_enter,un1,un2,un3,un4,un5,hE,hP,q2,q3];exact QR hL (by decide:(20:Int) ≠ 0)
 rw [if_neg k_20];have q2:(v=0)=False:=eq_false (by omega);have q3:(r.permitted t < v)=False:=eq_false (by omega);by_cases k_5:16<=r.trains.length
 . rw [if_pos k_5];have q4:((r.trains.length:Int) < 16)=False:=eq_false (by omega);obtain ⟨vT,vF,vR,vP,vM⟩:=L;simp (maxDischargeDepth:=12) only [go_sem,reduceEqDiff,reduceAdd,reduceSub,reduceLeDiff,reduceCtorEq,Pos.Ev.row,RegL.row,Z0,Z3,u1,u2,u3,u4,u5,b_track,b_fault,b_answer,b_repair,b_enter,un1,un2,un3,un4,un5,hE,hP,q2,q3,hn1,q4];exact QR hL (by decide:(5:Int) ≠ 0)
 rw [if_neg k_5];have q4:((r.trains.length:Int) < 16)=True:=eq_true (by omega);obtain ⟨vT,vF,vR,vP,vM⟩:=L;obtain ⟨v',H',e1,s1,k⟩:=Ut (lo:=0) (H:=Zj H [.int .i64 tk,vT,vF,vR,vP,vM] [.int .i64 num,.str ZZ,.ps .unk [[.str n],[.str t]],.ps .unk [[.int .i64 v0],[.int .i64 v]],.str []] [.int .i64 0,.ps .nil [],.ps .nil [],.ps .nil [],.ps .nil [],.ps .nil []]) ((Yu H _ _ _ 0).sl (by decide) hL.lR) rfl (by rw [length_map];unfold Z2;omega) (r:=[.str n,.str t,.int .i64 v]) rfl (by decide) rfl (Yi (f:=Pos.Trn.row) (fun _=>rfl) _);have g0:H'.get H.n=.cells [.int .i64 tk,vT,vF,vR,vP,vM] 34:=k.2.1 _ _ _ (by unfold Zj;simp;omega) (by unfold Zj;simp (maxDischargeDepth:=12) only [go_sem]);have g2:H'.get (H.n+1+1)=.cells [.int .i64 0,.ps .nil [],.ps .nil [],.ps .nil [],.ps .nil [],.ps .nil []] 34:=k.2.1 _ _ _ (by unfold Zj;simp) (JA _ _ _ _);have kk:Keep H H' 115:=(Yu H _ _ _ _).trans ⟨k.1,k.2.1,k.2.2⟩;unfold Zj at e1;have c6:=s1.cells;have u6:=s1.one;simp only [AV.cells] at c6;simp only [AV.one] at u6;simp (maxDischargeDepth:=12) only [go_sem,reduceEqDiff,reduceAdd,reduceMul,reduceSub,reduceLeDiff,reduceCtorEq,Pos.Ev.row,RegL.row,Z0,Z3,u1,u2,u3,u4,u5,b_track,b_fault,b_answer,b_repair,b_enter,un1,un2,un3,un4,un5,hE,hP,q2,q3,hn1,q4,Zu,e1,g0,g2,c6,u6];refine ⟨⟨(⟨vT,vF,v',vP,vM⟩:RegL),rfl, ?_⟩,(kk.fin g0 g2 _ _).le,(kk.fin g0 g2 _ _).cells⟩;rw [if_pos rfl];have e:(doA r r.tick (Pos.Act.enter n t v)).trains.map Pos.Trn.row=r.trains.map Pos.Trn.row++[[.str n,.str t,.int .i64 v]]:=by
  show (r.trains++[(⟨n,t,v⟩:Trn)]).map Pos.Trn.row=_;rw [map_append];rfl
 refine ⟨(kk.fin g0 g2 _ _).sl (by decide) hL.lT,(kk.fin g0 g2 _ _).sl (by decide) hL.lF, ?_,(kk.fin g0 g2 _ _).sl (by decide) hL.lP,(kk.fin g0 g2 _ _).sl (by decide) hL.lM⟩;rw [e];exact s1.fin g0 g2 _ _
theorem SL.blk (h:SL H v sz te rows) (hne:rows ≠ []):∃ id,v=.rs id 0 rows.length sz none/\id < H.n/\H.get id=.row rows.flatten sz te:=by
 rcases h with ⟨_,h⟩ | ⟨id,_,h1,h2,h3⟩
 . exact absurd h hne
 . exact ⟨id,h1,h2,h3⟩
theorem Keep.setRow {s:Nat} (h:Keep H H' te) (hg:H'.get i=.row c s te) (x:ABlk):Keep H (H'.set i x) te :=
 ⟨by rw [Qx];exact h.le,fun j c2 t2 hj hc2=>by
   have:=h.cells j c2 t2 hj hc2;rw [Heap.get_set,if_neg (fun e=>by rw [e,hg] at this;cases this)];exact this,fun ht hs=>(h.sl ht hs).set x (fun cs s' e=>by rw [hg] at e;cases e;exact ht rfl)⟩
theorem ZbD {L:RegL} {f:Nm} (hL:LstIs H L r) (hl:ZH r) (hu:Zw (·.name) r.faults) {y:Flt} (hy:r.fault? f=some y) (htk:¬ v0 < r.tick) :
 ∃ w H2,R PV (.call 0 277 [.agg (L.row tk),.agg (Ev.row ⟨num,YE,[f],[v0],[]⟩)] H)=some (.ofVal w H2)/\Y2 H r (Pos.Act.answer f) (okA r v0 (Pos.Act.answer f)) tk w H2:=by
 refine Zd (C:=PV) (f:=277) (lo:=0) (args:=[.agg (L.row tk),.agg (Ev.row ⟨num,YE,[f],[v0],[]⟩)]) (H:=H) (fn:=Tryz.f277) (Q:=fun w H2=>Y2 H r (Pos.Act.answer f) (okA r v0 (Pos.Act.answer f)) tk w H2) (by kernel_rfl) Tryz.func277 rfl rfl ?_;have hok:okA r v0 (Pos.Act.answer f)=if y.rep=true then 23 else if y.ans=true then 9 else 0:=by
  unfold okA;rw [if_neg htk];simp only [];rw [hy]
 rw [hok];have hA:=Qr (hL.keep (Yu H [.int .i64 tk,L.vT,L.vF,L.vR,L.vP,L.vM] [.int .i64 num,.str YE,.ps .unk [[.str f]],.ps .unk [[.int .i64 v0]],.str []] [.int .i64 0,.ps .nil [],.ps .nil [],.ps .nil [],.ps .nil [],.ps .nil []] 0)) hl tk (c:=102) (.inr (.inl rfl)) f;have hidx:∃ i:Nat,atL (ZO r 102) f=(i:Int)/\r.faults[i]? = some y/\i < r.faults.length:=by
  rcases XX (fun z:Flt=>z.name) f r.faults with ⟨h1,_⟩ | ⟨i,z,h1,h2,h3,h4⟩
  . have h1:r.fault? f=none:=h1;rw [hy] at h1;cases h1
  . have h1:r.fault? f=some z:=h1;rw [hy] at h1;cases h1;exact ⟨i,h2,h3,h4⟩
 obtain ⟨i,hi1,hi2,hi3⟩:=hidx;rw [hi1] at hA;unfold Zj RegL.row at hA;simp only [map_cons,map_nil,AV.strip0] at hA;have un1:=hL.lT.under (n:=H.n+1+1+1) (by omega);have un2:=hL.lF.under (n:=H.n+1+1+1) (by omega);have un3:=hL.lR.under (n:=H.n+1+1+1) (by omega);have un4:=hL.lP.under (n:=H.n+1+1+1) (by omega);have un5:=hL.lM.under (n:=H.n+1+1+1) (by omega);have c1:=hL.lT.cells;have c3:=hL.lR.cells;have c4:=hL.lP.cells;have c5:=hL.lM.cells;have u1:=hL.lT.one;have u3:=hL.lR.one;have u4:=hL.lP.one;have u5:=hL.lM.one;simp only [AV.cells] at c1 c3 c4 c5;simp only [AV.one] at u1 u3 u4 u5;have b_track:Z6 YE [116,114,97,99,107]=false:=rfl;have b_fault:Z6 YE [102,97,117,108,116]=false:=rfl;have b_answer:Z6 YE [97,110,115,119,101,114]=true:=rfl;have hne:r.faults.map Pos.Flt.row ≠ []:=by intro e;rw [map_eq_nil_iff] at e;rw [e] at hi3;simp at hi3
 obtain ⟨id,hv,hid,hg⟩:=hL.lF.blk hne;rw [length_map] at hv;have hlen7:Len 7 (r.faults.map Pos.Flt.row):=Yi (f:=Pos.Flt.row) (fun _=>rfl) _;have hrow:(r.faults.map Pos.Flt.row)[i]? = some (Pos.Flt.row y):=Zy (f:=Pos.Flt.row) hi2;have hc6:=Xg (k:=6) (v:=.bool y.rep) hlen7 hrow rfl;have hc5:=Xg (k:=5) (v:=.bool y.ans) hlen7 hrow rfl;have hset:=Yt (k:=5) (v:=.bool true) hlen7 hrow (by decide);simp only [go_sem] at hc6 hc5 hset;have i1:(id=H.n+1+1)=False:=eq_false (by omega);have i2:(id=H.n+1)=False:=eq_false (by omega);have i3:(id=H.n)=False:=eq_false (by omega);have i4:(H.n=id)=False:=eq_false (by omega);have i5:(H.n+1+1=id)=False:=eq_false (by omega);obtain ⟨vT,vF,vR,vP,vM⟩:=L;simp only at hv;subst hv;generalize hFLe:(r.faults.map Pos.Flt.row).flatten=FL at *;cases hr:y.rep with
 | true =>
   rw [if_pos rfl];rw [hr] at hc6;simp (maxDischargeDepth:=12) only [go_sem,reduceEqDiff,reduceAdd,reduceSub,reduceLeDiff,reduceCtorEq,Pos.Ev.row,RegL.row,Z0,Z3,u1,u3,u4,u5,b_track,b_fault,b_answer,un1,un2,un3,un4,un5,hA,hi3,i1,i2,i3,hg,hc6];exact QR hL (by decide:(23:Int) ≠ 0)
 | false =>
 rw [if_neg (by decide)];rw [hr] at hc6;cases ha:y.ans with
 | true =>
   rw [if_pos rfl];rw [ha] at hc5;simp (maxDischargeDepth:=12) only [go_sem,reduceEqDiff,reduceAdd,reduceSub,reduceLeDiff,reduceCtorEq,Pos.Ev.row,RegL.row,Z0,Z3,u1,u3,u4,u5,b_track,b_fault,b_answer,un1,un2,un3,un4,un5,hA,hi3,i1,i2,i3,hg,hc6,hc5];exact QR hL (by decide:(9:Int) ≠ 0)
 | false =>
 rw [if_neg (by decide)];rw [ha] at hc5;have hFl:FL.length=r.faults.length * 7:=by
  have:=Zl hlen7;rw [hFLe,length_map] at this;exact this
 have hF5:i * 7+5+1<=FL.length:=by omega
 have hF6:i * 7+6+1<=FL.length:=by omega
 rw [if_pos hF5] at hc5;rw [if_pos hF6] at hc6;have t5:=Option.some.inj hc5;have t6:=Option.some.inj hc6;have zz:(0<=id)=True:=eq_true (zero_le _);simp (maxDischargeDepth:=12) only [go_sem,reduceEqDiff,reduceAdd,reduceSub,reduceLeDiff,reduceCtorEq,Pos.Ev.row,RegL.row,Z0,Z3,u1,u3,u4,u5,b_track,b_fault,b_answer,un1,un2,un3,un4,un5,hA,hi3,i1,i2,i3,hg,t5,t6,hF5,hF6,hset,zz,i4,i5];have hgF:(Zj H [.int .i64 tk,vT,.rs id 0 r.faults.length 7 none,vR,vP,vM] [.int .i64 num,.str YE,.ps .unk [[.str f]],.ps .unk [[.int .i64 v0]],.str []] [.int .i64 0,.ps .nil [],.ps .nil [],.ps .nil [],.ps .nil [],.ps .nil []]).get id=.row FL 7 114:=by
  unfold Zj;simp (maxDischargeDepth:=12) only [go_sem,i1,i2,i3,hg]
 have kk:=fun X=>(Yu H [.int .i64 tk,vT,.rs id 0 r.faults.length 7 none,vR,vP,vM] [.int .i64 num,.str YE,.ps .unk [[.str f]],.ps .unk [[.int .i64 v0]],.str []] [.int .i64 0,.ps .nil [],.ps .nil [],.ps .nil [],.ps .nil [],.ps .nil []] 114).setRow hgF X
 have kf:=fun X Y=>(kk X).set (i:=H.n+1+1) (by omega) (by rw [Heap.get_set,if_neg (by omega)];exact JA _ _ _ _) Y
 have hname:y.name=f:=by simpa using find?_some hy
 have hupd:=Qz (nm:=fun z:Flt=>z.name) (g:=fun z:Flt=>{ z with ans:=true }) hu hi2
 have e:(doA r r.tick (Pos.Act.answer f)).faults.map Pos.Flt.row=(r.faults.map Pos.Flt.row).set i ((Pos.Flt.row y).set 5 (.bool true)):=by
  show (J1 r.faults f fun z=>{ z with ans:=true }).map Pos.Flt.row=_
  unfold J1;rw [<- hname,<- hupd,map_set];rfl
 refine ⟨⟨(⟨vT,.rs id 0 r.faults.length 7 none,vR,vP,vM⟩:RegL),rfl, ?_⟩,(kf _ _).le,(kf _ _).cells⟩;rw [if_pos rfl];refine ⟨(kf _ _).sl (by decide) hL.lT, ?_,(kf _ _).sl (by decide) hL.lR,(kf _ _).sl (by decide) hL.lP,(kf _ _).sl (by decide) hL.lM⟩;rw [e];refine .inr ⟨id,by intro h;have:=congrArg List.length h;rw [length_set,length_map,length_nil] at this;omega,by rw [length_set,length_map],by unfold Zj at *;simp;omega, ?_⟩;rw [Heap.get_set,if_neg (by omega),Heap.get_set,if_pos rfl]
theorem JM {r:List AV} (h:Len sz rows) (hi:i < rows.length) (hr:r.length=sz):over rows.flatten (i * sz) r=(rows.set i r).flatten:=by
 unfold over;rw [set_eq_take_append_cons_drop,if_pos hi,flatten_append,flatten_cons,ZT i h,hr];have e:i * sz+sz=(i+1) * sz:=by rw [succ_mul]
 rw [e,ZM (i+1) h,append_assoc]
def X4 (H:Heap) (reg ev z c:List AV):Heap:=((Zj H reg ev z).push (.cells [.str [],.str [],.int .i64 0,.int .i64 0,.bool false,.bool false,.bool false,.int .i64 0,.int .i64 0,.int .i64 0] 76)).set (H.n+1+1+1) (.cells c 76)
theorem XF (H:Heap) (reg ev z:List AV):(Zj H reg ev z).n=H.n+1+1+1:=rfl
theorem QE (H:Heap) (reg ev z c:List AV) (te:Nat):Keep H (X4 H reg ev z c) te :=
 ((Yu H reg ev z te).push _).set (by omega) (by rw [Heap.get_push];exact if_pos rfl) _
theorem JB (H:Heap) (reg ev z c:List AV):(X4 H reg ev z c).get (H.n+1+1)=.cells z 34:=by
 unfold X4;rw [Heap.get_set,if_neg (by omega),Heap.get_push,if_neg (by rw [XF];omega)];exact JA _ _ _ _
theorem Kg (H:Heap) (reg ev z c:List AV):(X4 H reg ev z c).get (H.n+1+1+1)=.cells c 76:=by
 unfold X4;rw [Heap.get_set,if_pos rfl]
theorem YA {L:RegL} {a:Pos.Act} (h:LstIs H L r) (code:Int) (hc:code ≠ 0):Y2 H r a code tk (.tup [.agg (L.row tk),.int .i64 code]) ((X4 H reg ev z c).set (H.n+1+1) (.cells u 34)):=by
 have k:=(QE H reg ev z c 0).set (by omega) (JB H reg ev z c) (.cells u 34);refine ⟨⟨L,rfl, ?_⟩,k.le,k.cells⟩;rw [if_neg hc];exact h.keep k
theorem Kh {b:ABlk} (hid:id < H.n) (hg:H.get id=b):(X4 H reg ev z c).get id=b:=by
 unfold X4 Zj;rw [Heap.get_set,if_neg (by omega),Heap.get_push,if_neg (by simp;omega),Heap.get_push,if_neg (by simp;omega),Heap.get_push,if_neg (by simp;omega),Heap.get_push,if_neg (by omega)];exact hg
theorem okW {vT vF vR vM:AV} {a:Pos.Act} {FL row':List AV} (hL:LstIs H ⟨vT,vF,vR,.rs id 0 r.poss.length 10 none,vM⟩ r) (hg:HW.get id=.row FL 10 76) (hid:id < H.n) (hi:i < r.poss.length) (e:(doA r r.tick a).poss.map Pos.Pos.row=(r.poss.map Pos.Pos.row).set i row') (ho:(doA r r.tick a).tracks=r.tracks/\(doA r r.tick a).faults=r.faults/\(doA r r.tick a).trains=r.trains/\(doA r r.tick a).machs=r.machs) (kW:Keep H HW 76) (hz:HW.get (H.n+1+1)=.cells z t) :
 Y2 H r a 0 tk (.tup [.agg [.int .i64 tk,vT,vF,vR,.rs id 0 r.poss.length 10 none,vM],.int .i64 0]) ((HW.set id (.row ((r.poss.map Pos.Pos.row).set i row').flatten 10 76)).set (H.n+1+1) (.cells u 34)):=by
 have kf:=(kW.setRow hg (.row ((r.poss.map Pos.Pos.row).set i row').flatten 10 76)).set (i:=H.n+1+1) (by omega) (by rw [Heap.get_set,if_neg (by omega)];exact hz) (.cells u 34);refine ⟨⟨(⟨vT,vF,vR,.rs id 0 r.poss.length 10 none,vM⟩:RegL),rfl, ?_⟩,kf.le,kf.cells⟩;rw [if_pos rfl];obtain ⟨o1,o2,o3,o4⟩:=ho;refine ⟨by rw [o1];exact kf.sl (by decide) hL.lT,by rw [o2];exact kf.sl (by decide) hL.lF,by rw [o3];exact kf.sl (by decide) hL.lR, ?_,by rw [o4];exact kf.sl (by decide) hL.lM⟩;rw [e];refine .inr ⟨id, ?_,by rw [length_set,length_map],by rw [Qx,Qx];have:=kW.le;omega, ?_⟩
 . intro h;have:=congrArg List.length h;rw [length_set,length_map,length_nil] at this;omega
 . rw [Heap.get_set,if_neg (by omega),Heap.get_set,if_pos rfl]
theorem ZbE {L:RegL} (hL:LstIs H L r) (hl:ZH r) (hu:Zw (·.name) r.poss) (hy:r.poss? p=some y)  (htk:¬ v0 < r.tick) :
 ∃ w H2,R PV (.call 0 278 [.agg (L.row tk),.agg (Ev.row ⟨num,Xq,[p],[v0],[]⟩)] H)=some (.ofVal w H2)∧Y2 H r (Pos.Act.prot p) (okA r v0 (Pos.Act.prot p)) tk w H2:=by
 refine Zd (C:=PV) (f:=278) (lo:=0) (args:=[.agg (L.row tk),.agg (Ev.row ⟨num,Xq,[p],[v0],[]⟩)]) (H:=H) (fn:=Tryz.f278) (Q:=fun w H2=>Y2 H r (Pos.Act.prot p) (okA r v0 (Pos.Act.prot p)) tk w H2) (by kernel_rfl) Tryz.func278 rfl rfl ?_
 have hok:okA r v0 (Pos.Act.prot p)=if y.ret=true then 23 else if y.prot=true then 9 else 0:=by
  unfold okA Yy;rw [if_neg htk];simp only [];rw [hy]
 rw [hok]
 have hA:=Qr (hL.keep (Yu H [.int .i64 tk,L.vT,L.vF,L.vR,L.vP,L.vM] [.int .i64 num,.str Xq,.ps .unk [[.str p]],.ps .unk [[.int .i64 v0]],.str []] [.int .i64 0,.ps .nil [],.ps .nil [],.ps .nil [],.ps .nil [],.ps .nil []] 0)) hl tk (c:=112) (.inr (.inr (.inr (.inl rfl)))) p
 obtain ⟨i,hi1,hi2,hi3⟩:∃ i:Nat,atL (ZO r 112) p=(i:Int)∧r.poss[i]? = some y∧i < r.poss.length:=by
  rcases XX (fun z:Pos=>z.name) p r.poss with ⟨h1,_⟩ | ⟨i,z,h1,h2,h3,h4⟩
  · have h1:r.poss? p=none:=h1
    rw [hy] at h1;cases h1
  · have h1:r.poss? p=some z:=h1
    rw [hy] at h1;cases h1
    exact ⟨i,h2,h3,h4⟩
 rw [hi1] at hA
 unfold Zj RegL.row at hA
 simp only [map_cons,map_nil,AV.strip0] at hA
 have un1:=hL.lT.under (n:=H.n+1+1+1) (by omega)
 have un2:=hL.lF.under (n:=H.n+1+1+1) (by omega)
 have un3:=hL.lR.under (n:=H.n+1+1+1) (by omega)
 have un4:=hL.lP.under (n:=H.n+1+1+1) (by omega)
 have un5:=hL.lM.under (n:=H.n+1+1+1) (by omega)
 have c1:=hL.lT.cells
 have c2:=hL.lF.cells
 have c3:=hL.lR.cells
 have c5:=hL.lM.cells
 have u1:=hL.lT.one
 have u2:=hL.lF.one
 have u3:=hL.lR.one
 have u5:=hL.lM.one
 simp only [AV.cells] at c1 c2 c3 c5
 simp only [AV.one] at u1 u2 u3 u5
 have b_out:Z6 Xq [111,117,116]=false:=rfl
 have b_raise:Z6 Xq [114,97,105,115,101]=false:=rfl
 have b_protect:Z6 Xq [112,114,111,116,101,99,116]=true:=rfl
 have hne:r.poss.map Pos.Pos.row ≠ []:=by intro e;rw [map_eq_nil_iff] at e;rw [e] at hi3;simp at hi3
 obtain ⟨id,hv,hid,hg⟩:=hL.lP.blk hne
 rw [length_map] at hv
 have hlen:Len 10 (r.poss.map Pos.Pos.row):=Yi (f:=Pos.Pos.row) (fun _=>rfl) _
 have hrow:(r.poss.map Pos.Pos.row)[i]? = some (Pos.Pos.row y):=Zy (f:=Pos.Pos.row) hi2
 have hil:i < (r.poss.map Pos.Pos.row).length:=by rw [length_map];exact hi3
 have hat:=Zx hlen hrow
 have hfl:=Zl hlen
 have hF:i * 10+10≤(r.poss.map Pos.Pos.row).flatten.length:=by rw [hfl,length_map];omega
 have hset:=fun (R':List AV) (h:R'.length=10)=>JM (r:=R') hlen hil h
 have hname:y.name=p:=by simpa using find?_some hy
 have hupd:=fun g=>Qz (nm:=fun z:Pos=>z.name) (g:=g) hu hi2
 unfold ZW at hat
 rw [if_pos hF] at hat
 have tR:=Option.some.inj hat
 clear hat hne hil hok hi1
 have w0:ZC .i64 (Int.sub ((1:Nat):Int) 1)=0:=by kernel_rfl
 have i1:(id=H.n+1+1)=False:=eq_false (by omega)
 have i2:(id=H.n+1)=False:=eq_false (by omega)
 have i3:(id=H.n)=False:=eq_false (by omega)
 have i4:(H.n=id)=False:=eq_false (by omega)
 have i5:(H.n+1+1=id)=False:=eq_false (by omega)
 have i6:(id=H.n+1+1+1)=False:=eq_false (by omega)
 have i7:(H.n+1+1+1=id)=False:=eq_false (by omega)
 obtain ⟨vT,vF,vR,vP,vM⟩:=L
 simp only at hv
 subst hv
 obtain ⟨nm,tr,fa,tb,rt,pr,op,cl,pe,sp⟩:=y
 simp only [Pos.Pos.row] at tR
 simp only at hname
 cases rt with
 | true =>
   try simp only []
   simp (maxDischargeDepth:=12) only [go_sem,reduceEqDiff,reduceAdd,reduceSub,reduceLeDiff,reduceCtorEq,Pos.Ev.row,RegL.row,Z0,Z3,u1,u2,u3,u5,b_out,b_raise,un1,un2,un3,un4,un5,w0,hA,hi3,i1,i2,i3,hg,hF,tR]
   exact YA hL (23:Int) (by decide)
 | false =>
 try simp only []
 cases pr with
 | true =>
   try simp only [if_true,if_false,reduceIte,Bool.not_true,Bool.not_false]
   simp (maxDischargeDepth:=12) only [go_sem,reduceEqDiff,reduceAdd,reduceSub,reduceLeDiff,reduceCtorEq,Pos.Ev.row,RegL.row,Z0,Z3,u1,u2,u3,u5,b_out,b_raise,b_protect,un1,un2,un3,un4,un5,w0,hA,hi3,i1,i2,i3,hg,hF,tR]
   exact YA hL (9:Int) (by decide)
 | false =>
 try simp only [reduceIte,Bool.not_true,Bool.not_false,false_eq_true]
 have hst:=hset [.str nm,.str tr,.int .i64 fa,.int .i64 tb,.bool false,.bool true,.bool op,.int .i64 cl,.int .i64 pe,.int .i64 sp] rfl
 unfold over at hst
 simp (maxDischargeDepth:=12) only [go_sem,reduceAdd] at hst
 simp (maxDischargeDepth:=12) only [go_sem,reduceEqDiff,reduceAdd,reduceSub,reduceLeDiff,reduceCtorEq,Pos.Ev.row,RegL.row,Z0,Z3,u1,u2,u3,u5,b_out,b_raise,b_protect,un1,un2,un3,un4,un5,w0,hA,hi3,i1,i2,i3,i4,i5,i6,hg,hF,tR,hst]
 have e:(doA r r.tick (Pos.Act.prot p)).poss.map Pos.Pos.row=(r.poss.map Pos.Pos.row).set i [.str nm,.str tr,.int .i64 fa,.int .i64 tb,.bool false,.bool true,.bool op,.int .i64 cl,.int .i64 pe,.int .i64 sp]:=by
  show (YY r.poss p (fun y=>{ y with prot:=true })).map Pos.Pos.row=_
  have h:=hupd (fun y=>{ y with prot:=true })
  simp only at h
  unfold YY
  rw [← hname,← h,map_set];rfl
 exact okW hL (by rw [Heap.get_set,if_neg (by omega)];exact Kh hid hg) hid hi3 e ⟨rfl,rfl,rfl,rfl⟩ ((QE _ _ _ _ _ _).set (by omega) (Kg _ _ _ _ _) _) (by rw [Heap.get_set,if_neg (by omega)];exact JB _ _ _ _ _)
theorem ZbF {L:RegL} {v:Int} (hL:LstIs H L r) (hl:ZH r) (hu:Zw (·.name) r.poss) (hy:r.poss? p=some y) (hv:0≤v) (hpe:0≤y.pers∧y.pers≤1000000) (htk:¬ v0 < r.tick) :
 ∃ w H2,R PV (.call 0 278 [.agg (L.row tk),.agg (Ev.row ⟨num,X2,[p],[v0,v],[]⟩)] H)=some (.ofVal w H2)∧Y2 H r (Pos.Act.staff p v) (okA r v0 (Pos.Act.staff p v)) tk w H2:=by
 refine Zd (C:=PV) (f:=278) (lo:=0) (args:=[.agg (L.row tk),.agg (Ev.row ⟨num,X2,[p],[v0,v],[]⟩)]) (H:=H) (fn:=Tryz.f278) (Q:=fun w H2=>Y2 H r (Pos.Act.staff p v) (okA r v0 (Pos.Act.staff p v)) tk w H2) (by kernel_rfl) Tryz.func278 rfl rfl ?_
 have hok:okA r v0 (Pos.Act.staff p v)=if y.ret=true then 23 else if v < 1∨100 < v then 3 else if (!y.prot)=true then 21 else if 100 < y.pers+v then 4 else 0:=by
  unfold okA Yy;rw [if_neg htk];simp only [];rw [hy]
 rw [hok]
 have hA:=Qr (hL.keep (Yu H [.int .i64 tk,L.vT,L.vF,L.vR,L.vP,L.vM] [.int .i64 num,.str X2,.ps .unk [[.str p]],.ps .unk [[.int .i64 v0],[.int .i64 v]],.str []] [.int .i64 0,.ps .nil [],.ps .nil [],.ps .nil [],.ps .nil [],.ps .nil []] 0)) hl tk (c:=112) (.inr (.inr (.inr (.inl rfl)))) p
 obtain ⟨i,hi1,hi2,hi3⟩:∃ i:Nat,atL (ZO r 112) p=(i:Int)∧r.poss[i]? = some y∧i < r.poss.length:=by
  rcases XX (fun z:Pos=>z.name) p r.poss with ⟨h1,_⟩ | ⟨i,z,h1,h2,h3,h4⟩
  · have h1:r.poss? p=none:=h1
    rw [hy] at h1;cases h1
  · have h1:r.poss? p=some z:=h1
    rw [hy] at h1;cases h1
    exact ⟨i,h2,h3,h4⟩
 rw [hi1] at hA
 unfold Zj RegL.row at hA
 simp only [map_cons,map_nil,AV.strip0] at hA
 have un1:=hL.lT.under (n:=H.n+1+1+1) (by omega)
 have un2:=hL.lF.under (n:=H.n+1+1+1) (by omega)
 have un3:=hL.lR.under (n:=H.n+1+1+1) (by omega)
 have un4:=hL.lP.under (n:=H.n+1+1+1) (by omega)
 have un5:=hL.lM.under (n:=H.n+1+1+1) (by omega)
 have c1:=hL.lT.cells
 have c2:=hL.lF.cells
 have c3:=hL.lR.cells
 have c5:=hL.lM.cells
 have u1:=hL.lT.one
 have u2:=hL.lF.one
 have u3:=hL.lR.one
 have u5:=hL.lM.one
 simp only [AV.cells] at c1 c2 c3 c5
 simp only [AV.one] at u1 u2 u3 u5
 have b_out:Z6 X2 [111,117,116]=false:=rfl
 have b_raise:Z6 X2 [114,97,105,115,101]=false:=rfl
 have b_protect:Z6 X2 [112,114,111,116,101,99,116]=false:=rfl
 have b_clear:Z6 X2 [99,108,101,97,114]=false:=rfl
 have b_in:Z6 X2 [105,110]=false:=rfl
 have b_staff:Z6 X2 [115,116,97,102,102]=true:=rfl
 have hne:r.poss.map Pos.Pos.row ≠ []:=by intro e;rw [map_eq_nil_iff] at e;rw [e] at hi3;simp at hi3
 obtain ⟨id,hv,hid,hg⟩:=hL.lP.blk hne
 rw [length_map] at hv
 have hlen:Len 10 (r.poss.map Pos.Pos.row):=Yi (f:=Pos.Pos.row) (fun _=>rfl) _
 have hrow:(r.poss.map Pos.Pos.row)[i]? = some (Pos.Pos.row y):=Zy (f:=Pos.Pos.row) hi2
 have hil:i < (r.poss.map Pos.Pos.row).length:=by rw [length_map];exact hi3
 have hat:=Zx hlen hrow
 have hfl:=Zl hlen
 have hF:i * 10+10≤(r.poss.map Pos.Pos.row).flatten.length:=by rw [hfl,length_map];omega
 have hset:=fun (R':List AV) (h:R'.length=10)=>JM (r:=R') hlen hil h
 have hname:y.name=p:=by simpa using find?_some hy
 have hupd:=fun g=>Qz (nm:=fun z:Pos=>z.name) (g:=g) hu hi2
 unfold ZW at hat
 rw [if_pos hF] at hat
 have tR:=Option.some.inj hat
 clear hat hne hil hok hi1
 have w0:ZC .i64 (Int.sub ((1:Nat):Int) 1)=0:=by kernel_rfl
 have i1:(id=H.n+1+1)=False:=eq_false (by omega)
 have i2:(id=H.n+1)=False:=eq_false (by omega)
 have i3:(id=H.n)=False:=eq_false (by omega)
 have i4:(H.n=id)=False:=eq_false (by omega)
 have i5:(H.n+1+1=id)=False:=eq_false (by omega)
 have i6:(id=H.n+1+1+1)=False:=eq_false (by omega)
 have i7:(H.n+1+1+1=id)=False:=eq_false (by omega)
 obtain ⟨vT,vF,vR,vP,vM⟩:=L
 simp only at hv
 subst hv
 obtain ⟨nm,tr,fa,tb,rt,pr,op,cl,pe,sp⟩:=y
 simp only [Pos.Pos.row] at tR
 simp only at hname
 simp only at hpe
 cases rt with
 | true =>
   try simp only []
   simp (maxDischargeDepth:=12) only [go_sem,reduceEqDiff,reduceAdd,reduceSub,reduceLeDiff,reduceCtorEq,Pos.Ev.row,RegL.row,Z0,Z3,u1,u2,u3,u5,b_out,b_raise,un1,un2,un3,un4,un5,w0,hA,hi3,i1,i2,i3,hg,hF,tR]
   exact YA hL (23:Int) (by decide)
 | false =>
 try simp only []
 by_cases k_3:v < 1∨100 < v
 · rw [if_pos k_3]
   have hO:=Jx v 1 100
   have q0:(decide (v < 1) || decide (100 < v))=true:=by simpa using k_3
   rw [q0] at hO
   simp (maxDischargeDepth:=12) only [go_sem,reduceEqDiff,reduceAdd,reduceSub,reduceLeDiff,reduceCtorEq,Pos.Ev.row,RegL.row,Z0,Z3,u1,u2,u3,u5,b_out,b_raise,b_protect,b_clear,b_in,b_staff,un1,un2,un3,un4,un5,w0,hA,hi3,i1,i2,i3,hg,hF,tR,hO]
   exact YA hL (3:Int) (by decide)
 rw [if_neg k_3]
 have hO:=Jx v 1 100
 have q0:(decide (v < 1) || decide (100 < v))=false:=by rw [decide_eq_false (fun h=>k_3 (.inl h)),decide_eq_false (fun h=>k_3 (.inr h))];rfl
 rw [q0] at hO
 have wv:ZC .i64 (Int.add pe v)=pe+v:=JX (by show _≤pe+v;omega) (by show pe+v≤_;omega)
 cases pr with
 | false =>
   try simp only [if_true,if_false,reduceIte,Bool.not_true,Bool.not_false]
   simp (maxDischargeDepth:=12) only [go_sem,reduceEqDiff,reduceAdd,reduceSub,reduceLeDiff,reduceCtorEq,Pos.Ev.row,RegL.row,Z0,Z3,u1,u2,u3,u5,b_out,b_raise,b_protect,b_clear,b_in,b_staff,un1,un2,un3,un4,un5,w0,hA,hi3,i1,i2,i3,hg,hF,tR,hO]
   exact YA hL (21:Int) (by decide)
 | true =>
 try simp only [reduceIte,Bool.not_true,Bool.not_false,false_eq_true]
 by_cases k_4:100 < pe+v
 · rw [if_pos k_4]
   have q4:(100 < pe+v)=True:=eq_true k_4
   simp (maxDischargeDepth:=12) only [go_sem,reduceEqDiff,reduceAdd,reduceSub,reduceLeDiff,reduceCtorEq,Pos.Ev.row,RegL.row,Z0,Z3,u1,u2,u3,u5,b_out,b_raise,b_protect,b_clear,b_in,b_staff,un1,un2,un3,un4,un5,w0,hA,hi3,i1,i2,i3,hg,hF,tR,hO,wv,q4]
   exact YA hL (4:Int) (by decide)
 rw [if_neg k_4]
 have q4:(100 < pe+v)=False:=eq_false k_4
 have hst:=hset [.str nm,.str tr,.int .i64 fa,.int .i64 tb,.bool false,.bool true,.bool op,.int .i64 cl,.int .i64 (pe+v),.int .i64 sp] rfl
 unfold over at hst
 simp (maxDischargeDepth:=12) only [go_sem,reduceAdd] at hst
 simp (maxDischargeDepth:=12) only [go_sem,reduceEqDiff,reduceAdd,reduceSub,reduceLeDiff,reduceCtorEq,Pos.Ev.row,RegL.row,Z0,Z3,u1,u2,u3,u5,b_out,b_raise,b_protect,b_clear,b_in,b_staff,un1,un2,un3,un4,un5,w0,hA,hi3,i1,i2,i3,i4,i5,i6,hg,hF,tR,hO,wv,q4,hst]
 have e:(doA r r.tick (Pos.Act.staff p v)).poss.map Pos.Pos.row=(r.poss.map Pos.Pos.row).set i [.str nm,.str tr,.int .i64 fa,.int .i64 tb,.bool false,.bool true,.bool op,.int .i64 cl,.int .i64 (pe+v),.int .i64 sp]:=by
  show (YY r.poss p (fun y=>{ y with pers:=y.pers+v })).map Pos.Pos.row=_
  have h:=hupd (fun y=>{ y with pers:=y.pers+v })
  simp only at h
  unfold YY
  rw [← hname,← h,map_set];rfl
 exact okW hL (by rw [Heap.get_set,if_neg (by omega)];exact Kh hid hg) hid hi3 e ⟨rfl,rfl,rfl,rfl⟩ ((QE _ _ _ _ _ _).set (by omega) (Kg _ _ _ _ _) _) (by rw [Heap.get_set,if_neg (by omega)];exact JB _ _ _ _ _)
theorem r_off {L:RegL} {v:Int} (hL:LstIs H L r) (hl:ZH r) (hu:Zw (·.name) r.poss) (hy:r.poss? p=some y) (hv:0≤v) (hpe:0≤y.pers∧y.pers≤1000000) (htk:¬ v0 < r.tick) :
 ∃ w H2,R PV (.call 0 278 [.agg (L.row tk),.agg (Ev.row ⟨num,YT,[p],[v0,v],[]⟩)] H)=some (.ofVal w H2)∧Y2 H r (Pos.Act.off p v) (okA r v0 (Pos.Act.off p v)) tk w H2:=by
 refine Zd (C:=PV) (f:=278) (lo:=0) (args:=[.agg (L.row tk),.agg (Ev.row ⟨num,YT,[p],[v0,v],[]⟩)]) (H:=H) (fn:=Tryz.f278) (Q:=fun w H2=>Y2 H r (Pos.Act.off p v) (okA r v0 (Pos.Act.off p v)) tk w H2) (by kernel_rfl) Tryz.func278 rfl rfl ?_
 have hok:okA r v0 (Pos.Act.off p v)=if y.ret=true then 23 else if v < 1∨100 < v then 3 else if y.pers < v then 16 else 0:=by
  unfold okA Yy;rw [if_neg htk];simp only [];rw [hy]
 rw [hok]
 have hA:=Qr (hL.keep (Yu H [.int .i64 tk,L.vT,L.vF,L.vR,L.vP,L.vM] [.int .i64 num,.str YT,.ps .unk [[.str p]],.ps .unk [[.int .i64 v0],[.int .i64 v]],.str []] [.int .i64 0,.ps .nil [],.ps .nil [],.ps .nil [],.ps .nil [],.ps .nil []] 0)) hl tk (c:=112) (.inr (.inr (.inr (.inl rfl)))) p
 obtain ⟨i,hi1,hi2,hi3⟩:∃ i:Nat,atL (ZO r 112) p=(i:Int)∧r.poss[i]? = some y∧i < r.poss.length:=by
  rcases XX (fun z:Pos=>z.name) p r.poss with ⟨h1,_⟩ | ⟨i,z,h1,h2,h3,h4⟩
  · have h1:r.poss? p=none:=h1
    rw [hy] at h1;cases h1
  · have h1:r.poss? p=some z:=h1
    rw [hy] at h1;cases h1
    exact ⟨i,h2,h3,h4⟩
 rw [hi1] at hA
 unfold Zj RegL.row at hA
 simp only [map_cons,map_nil,AV.strip0] at hA
 have un1:=hL.lT.under (n:=H.n+1+1+1) (by omega)
 have un2:=hL.lF.under (n:=H.n+1+1+1) (by omega)
 have un3:=hL.lR.under (n:=H.n+1+1+1) (by omega)
 have un4:=hL.lP.under (n:=H.n+1+1+1) (by omega)
 have un5:=hL.lM.under (n:=H.n+1+1+1) (by omega)
 have c1:=hL.lT.cells
 have c2:=hL.lF.cells
 have c3:=hL.lR.cells
 have c5:=hL.lM.cells
 have u1:=hL.lT.one
 have u2:=hL.lF.one
 have u3:=hL.lR.one
 have u5:=hL.lM.one
 simp only [AV.cells] at c1 c2 c3 c5
 simp only [AV.one] at u1 u2 u3 u5
 have b_out:Z6 YT [111,117,116]=false:=rfl
 have b_raise:Z6 YT [114,97,105,115,101]=false:=rfl
 have b_protect:Z6 YT [112,114,111,116,101,99,116]=false:=rfl
 have b_clear:Z6 YT [99,108,101,97,114]=false:=rfl
 have b_in:Z6 YT [105,110]=false:=rfl
 have b_staff:Z6 YT [115,116,97,102,102]=false:=rfl
 have b_off:Z6 YT [111,102,102]=true:=rfl
 have hne:r.poss.map Pos.Pos.row ≠ []:=by intro e;rw [map_eq_nil_iff] at e;rw [e] at hi3;simp at hi3
 obtain ⟨id,hv,hid,hg⟩:=hL.lP.blk hne
 rw [length_map] at hv
 have hlen:Len 10 (r.poss.map Pos.Pos.row):=Yi (f:=Pos.Pos.row) (fun _=>rfl) _
 have hrow:(r.poss.map Pos.Pos.row)[i]? = some (Pos.Pos.row y):=Zy (f:=Pos.Pos.row) hi2
 have hil:i < (r.poss.map Pos.Pos.row).length:=by rw [length_map];exact hi3
 have hat:=Zx hlen hrow
 have hfl:=Zl hlen
 have hF:i * 10+10≤(r.poss.map Pos.Pos.row).flatten.length:=by rw [hfl,length_map];omega
 have hset:=fun (R':List AV) (h:R'.length=10)=>JM (r:=R') hlen hil h
 have hname:y.name=p:=by simpa using find?_some hy
 have hupd:=fun g=>Qz (nm:=fun z:Pos=>z.name) (g:=g) hu hi2
 unfold ZW at hat
 rw [if_pos hF] at hat
 have tR:=Option.some.inj hat
 clear hat hne hil hok hi1
 have w0:ZC .i64 (Int.sub ((1:Nat):Int) 1)=0:=by kernel_rfl
 have i1:(id=H.n+1+1)=False:=eq_false (by omega)
 have i2:(id=H.n+1)=False:=eq_false (by omega)
 have i3:(id=H.n)=False:=eq_false (by omega)
 have i4:(H.n=id)=False:=eq_false (by omega)
 have i5:(H.n+1+1=id)=False:=eq_false (by omega)
 have i6:(id=H.n+1+1+1)=False:=eq_false (by omega)
 have i7:(H.n+1+1+1=id)=False:=eq_false (by omega)
 obtain ⟨vT,vF,vR,vP,vM⟩:=L
 simp only at hv
 subst hv
 obtain ⟨nm,tr,fa,tb,rt,pr,op,cl,pe,sp⟩:=y
 simp only [Pos.Pos.row] at tR
 simp only at hname
 simp only at hpe
 cases rt with
 | true =>
   try simp only []
   simp (maxDischargeDepth:=12) only [go_sem,reduceEqDiff,reduceAdd,reduceSub,reduceLeDiff,reduceCtorEq,Pos.Ev.row,RegL.row,Z0,Z3,u1,u2,u3,u5,b_out,b_raise,un1,un2,un3,un4,un5,w0,hA,hi3,i1,i2,i3,hg,hF,tR]
   exact YA hL (23:Int) (by decide)
 | false =>
 try simp only []
 by_cases k_3:v < 1∨100 < v
 · rw [if_pos k_3]
   have hO:=Jx v 1 100
   have q0:(decide (v < 1) || decide (100 < v))=true:=by simpa using k_3
   rw [q0] at hO
   simp (maxDischargeDepth:=12) only [go_sem,reduceEqDiff,reduceAdd,reduceSub,reduceLeDiff,reduceCtorEq,Pos.Ev.row,RegL.row,Z0,Z3,u1,u2,u3,u5,b_out,b_raise,b_protect,b_clear,b_in,b_staff,b_off,un1,un2,un3,un4,un5,w0,hA,hi3,i1,i2,i3,hg,hF,tR,hO]
   exact YA hL (3:Int) (by decide)
 rw [if_neg k_3]
 have hO:=Jx v 1 100
 have q0:(decide (v < 1) || decide (100 < v))=false:=by rw [decide_eq_false (fun h=>k_3 (.inl h)),decide_eq_false (fun h=>k_3 (.inr h))];rfl
 rw [q0] at hO
 have wv:ZC .i64 (Int.sub pe v)=pe - v:=JX (by show _≤pe - v;omega) (by show pe - v≤_;omega)
 by_cases k_16:pe < v
 · rw [if_pos k_16]
   have q4:(pe < v)=True:=eq_true k_16
   simp (maxDischargeDepth:=12) only [go_sem,reduceEqDiff,reduceAdd,reduceSub,reduceLeDiff,reduceCtorEq,Pos.Ev.row,RegL.row,Z0,Z3,u1,u2,u3,u5,b_out,b_raise,b_protect,b_clear,b_in,b_staff,b_off,un1,un2,un3,un4,un5,w0,hA,hi3,i1,i2,i3,hg,hF,tR,hO,q4]
   exact YA hL (16:Int) (by decide)
 rw [if_neg k_16]
 have q4:(pe < v)=False:=eq_false k_16
 have hst:=hset [.str nm,.str tr,.int .i64 fa,.int .i64 tb,.bool false,.bool pr,.bool op,.int .i64 cl,.int .i64 (pe - v),.int .i64 sp] rfl
 unfold over at hst
 simp (maxDischargeDepth:=12) only [go_sem,reduceAdd] at hst
 simp (maxDischargeDepth:=12) only [go_sem,reduceEqDiff,reduceAdd,reduceSub,reduceLeDiff,reduceCtorEq,Pos.Ev.row,RegL.row,Z0,Z3,u1,u2,u3,u5,b_out,b_raise,b_protect,b_clear,b_in,b_staff,b_off,un1,un2,un3,un4,un5,w0,hA,hi3,i1,i2,i3,i4,i5,i6,hg,hF,tR,hO,wv,q4,hst]
 have e:(doA r r.tick (Pos.Act.off p v)).poss.map Pos.Pos.row=(r.poss.map Pos.Pos.row).set i [.str nm,.str tr,.int .i64 fa,.int .i64 tb,.bool false,.bool pr,.bool op,.int .i64 cl,.int .i64 (pe - v),.int .i64 sp]:=by
  show (YY r.poss p (fun y=>{ y with pers:=y.pers - v })).map Pos.Pos.row=_
  have h:=hupd (fun y=>{ y with pers:=y.pers - v })
  simp only at h
  unfold YY
  rw [← hname,← h,map_set];rfl
 exact okW hL (by rw [Heap.get_set,if_neg (by omega)];exact Kh hid hg) hid hi3 e ⟨rfl,rfl,rfl,rfl⟩ ((QE _ _ _ _ _ _).set (by omega) (Kg _ _ _ _ _) _) (by rw [Heap.get_set,if_neg (by omega)];exact JB _ _ _ _ _)
theorem ZbG {L:RegL} (hL:LstIs H L r) (hl:ZH r) (hu:Zw (·.name) r.poss) (hy:r.poss? p=some y)  (htk:¬ v0 < r.tick) :
 ∃ w H2,R PV (.call 0 278 [.agg (L.row tk),.agg (Ev.row ⟨num,YO,[p],[v0],[]⟩)] H)=some (.ofVal w H2)∧Y2 H r (Pos.Act.opn p) (okA r v0 (Pos.Act.opn p)) tk w H2:=by
 refine Zd (C:=PV) (f:=278) (lo:=0) (args:=[.agg (L.row tk),.agg (Ev.row ⟨num,YO,[p],[v0],[]⟩)]) (H:=H) (fn:=Tryz.f278) (Q:=fun w H2=>Y2 H r (Pos.Act.opn p) (okA r v0 (Pos.Act.opn p)) tk w H2) (by kernel_rfl) Tryz.func278 rfl rfl ?_
 have hok:okA r v0 (Pos.Act.opn p)=if y.ret=true then 23 else if y.opn=true then 9 else if 8≤y.closed then 5 else 0:=by
  unfold okA Yy;rw [if_neg htk];simp only [];rw [hy]
 rw [hok]
 have hA:=Qr (hL.keep (Yu H [.int .i64 tk,L.vT,L.vF,L.vR,L.vP,L.vM] [.int .i64 num,.str YO,.ps .unk [[.str p]],.ps .unk [[.int .i64 v0]],.str []] [.int .i64 0,.ps .nil [],.ps .nil [],.ps .nil [],.ps .nil [],.ps .nil []] 0)) hl tk (c:=112) (.inr (.inr (.inr (.inl rfl)))) p
 obtain ⟨i,hi1,hi2,hi3⟩:∃ i:Nat,atL (ZO r 112) p=(i:Int)∧r.poss[i]? = some y∧i < r.poss.length:=by
  rcases XX (fun z:Pos=>z.name) p r.poss with ⟨h1,_⟩ | ⟨i,z,h1,h2,h3,h4⟩
  · have h1:r.poss? p=none:=h1
    rw [hy] at h1;cases h1
  · have h1:r.poss? p=some z:=h1
    rw [hy] at h1;cases h1
    exact ⟨i,h2,h3,h4⟩
 rw [hi1] at hA
 unfold Zj RegL.row at hA
 simp only [map_cons,map_nil,AV.strip0] at hA
 have un1:=hL.lT.under (n:=H.n+1+1+1) (by omega)
 have un2:=hL.lF.under (n:=H.n+1+1+1) (by omega)
 have un3:=hL.lR.under (n:=H.n+1+1+1) (by omega)
 have un4:=hL.lP.under (n:=H.n+1+1+1) (by omega)
 have un5:=hL.lM.under (n:=H.n+1+1+1) (by omega)
 have c1:=hL.lT.cells
 have c2:=hL.lF.cells
 have c3:=hL.lR.cells
 have c5:=hL.lM.cells
 have u1:=hL.lT.one
 have u2:=hL.lF.one
 have u3:=hL.lR.one
 have u5:=hL.lM.one
 simp only [AV.cells] at c1 c2 c3 c5
 simp only [AV.one] at u1 u2 u3 u5
 have b_out:Z6 YO [111,117,116]=false:=rfl
 have b_raise:Z6 YO [114,97,105,115,101]=false:=rfl
 have b_protect:Z6 YO [112,114,111,116,101,99,116]=false:=rfl
 have b_clear:Z6 YO [99,108,101,97,114]=false:=rfl
 have b_in:Z6 YO [105,110]=false:=rfl
 have b_staff:Z6 YO [115,116,97,102,102]=false:=rfl
 have b_off:Z6 YO [111,102,102]=false:=rfl
 have b_open:Z6 YO [111,112,101,110]=true:=rfl
 have hne:r.poss.map Pos.Pos.row ≠ []:=by intro e;rw [map_eq_nil_iff] at e;rw [e] at hi3;simp at hi3
 obtain ⟨id,hv,hid,hg⟩:=hL.lP.blk hne
 rw [length_map] at hv
 have hlen:Len 10 (r.poss.map Pos.Pos.row):=Yi (f:=Pos.Pos.row) (fun _=>rfl) _
 have hrow:(r.poss.map Pos.Pos.row)[i]? = some (Pos.Pos.row y):=Zy (f:=Pos.Pos.row) hi2
 have hil:i < (r.poss.map Pos.Pos.row).length:=by rw [length_map];exact hi3
 have hat:=Zx hlen hrow
 have hfl:=Zl hlen
 have hF:i * 10+10≤(r.poss.map Pos.Pos.row).flatten.length:=by rw [hfl,length_map];omega
 have hset:=fun (R':List AV) (h:R'.length=10)=>JM (r:=R') hlen hil h
 have hname:y.name=p:=by simpa using find?_some hy
 have hupd:=fun g=>Qz (nm:=fun z:Pos=>z.name) (g:=g) hu hi2
 unfold ZW at hat
 rw [if_pos hF] at hat
 have tR:=Option.some.inj hat
 clear hat hne hil hok hi1
 have w0:ZC .i64 (Int.sub ((1:Nat):Int) 1)=0:=by kernel_rfl
 have i1:(id=H.n+1+1)=False:=eq_false (by omega)
 have i2:(id=H.n+1)=False:=eq_false (by omega)
 have i3:(id=H.n)=False:=eq_false (by omega)
 have i4:(H.n=id)=False:=eq_false (by omega)
 have i5:(H.n+1+1=id)=False:=eq_false (by omega)
 have i6:(id=H.n+1+1+1)=False:=eq_false (by omega)
 have i7:(H.n+1+1+1=id)=False:=eq_false (by omega)
 obtain ⟨vT,vF,vR,vP,vM⟩:=L
 simp only at hv
 subst hv
 obtain ⟨nm,tr,fa,tb,rt,pr,op,cl,pe,sp⟩:=y
 simp only [Pos.Pos.row] at tR
 simp only at hname
 cases rt with
 | true =>
   try simp only []
   simp (maxDischargeDepth:=12) only [go_sem,reduceEqDiff,reduceAdd,reduceSub,reduceLeDiff,reduceCtorEq,Pos.Ev.row,RegL.row,Z0,Z3,u1,u2,u3,u5,b_out,b_raise,un1,un2,un3,un4,un5,w0,hA,hi3,i1,i2,i3,hg,hF,tR]
   exact YA hL (23:Int) (by decide)
 | false =>
 try simp only []
 cases op with
 | true =>
   try simp only [if_true,if_false,reduceIte,Bool.not_true,Bool.not_false]
   simp (maxDischargeDepth:=12) only [go_sem,reduceEqDiff,reduceAdd,reduceSub,reduceLeDiff,reduceCtorEq,Pos.Ev.row,RegL.row,Z0,Z3,u1,u2,u3,u5,b_out,b_raise,b_protect,b_clear,b_in,b_staff,b_off,b_open,un1,un2,un3,un4,un5,w0,hA,hi3,i1,i2,i3,hg,hF,tR]
   exact YA hL (9:Int) (by decide)
 | false =>
 try simp only [reduceIte,Bool.not_true,Bool.not_false,false_eq_true]
 by_cases k_5:8≤cl
 · rw [if_pos k_5]
   have q4:(cl < 8)=False:=eq_false (by omega)
   simp (maxDischargeDepth:=12) only [go_sem,reduceEqDiff,reduceAdd,reduceSub,reduceLeDiff,reduceCtorEq,Pos.Ev.row,RegL.row,Z0,Z3,u1,u2,u3,u5,b_out,b_raise,b_protect,b_clear,b_in,b_staff,b_off,b_open,un1,un2,un3,un4,un5,w0,hA,hi3,i1,i2,i3,hg,hF,tR,q4]
   exact YA hL (5:Int) (by decide)
 rw [if_neg k_5]
 have q4:(cl < 8)=True:=eq_true (by omega)
 have hst:=hset [.str nm,.str tr,.int .i64 fa,.int .i64 tb,.bool false,.bool pr,.bool true,.int .i64 cl,.int .i64 pe,.int .i64 sp] rfl
 unfold over at hst
 simp (maxDischargeDepth:=12) only [go_sem,reduceAdd] at hst
 simp (maxDischargeDepth:=12) only [go_sem,reduceEqDiff,reduceAdd,reduceSub,reduceLeDiff,reduceCtorEq,Pos.Ev.row,RegL.row,Z0,Z3,u1,u2,u3,u5,b_out,b_raise,b_protect,b_clear,b_in,b_staff,b_off,b_open,un1,un2,un3,un4,un5,w0,hA,hi3,i1,i2,i3,i4,i5,i6,hg,hF,tR,q4,hst]
 have e:(doA r r.tick (Pos.Act.opn p)).poss.map Pos.Pos.row=(r.poss.map Pos.Pos.row).set i [.str nm,.str tr,.int .i64 fa,.int .i64 tb,.bool false,.bool pr,.bool true,.int .i64 cl,.int .i64 pe,.int .i64 sp]:=by
  show (YY r.poss p (fun y=>{ y with opn:=true })).map Pos.Pos.row=_
  have h:=hupd (fun y=>{ y with opn:=true })
  simp only at h
  unfold YY
  rw [← hname,← h,map_set];rfl
 exact okW hL (by rw [Heap.get_set,if_neg (by omega)];exact Kh hid hg) hid hi3 e ⟨rfl,rfl,rfl,rfl⟩ ((QE _ _ _ _ _ _).set (by omega) (Kg _ _ _ _ _) _) (by rw [Heap.get_set,if_neg (by omega)];exact JB _ _ _ _ _)
theorem ZbH {L:RegL} {v:Int} (hL:LstIs H L r) (hl:ZH r) (hu:Zw (·.name) r.poss) (hy:r.poss? p=some y) (hcl:0≤y.closed∧y.closed≤1000000) (htk:¬ v0 < r.tick) :
 ∃ w H2,R PV (.call 0 278 [.agg (L.row tk),.agg (Ev.row ⟨num,YF,[p],[v0,v],[]⟩)] H)=some (.ofVal w H2)∧Y2 H r (Pos.Act.close p v) (okA r v0 (Pos.Act.close p v)) tk w H2:=by
 refine Zd (C:=PV) (f:=278) (lo:=0) (args:=[.agg (L.row tk),.agg (Ev.row ⟨num,YF,[p],[v0,v],[]⟩)]) (H:=H) (fn:=Tryz.f278) (Q:=fun w H2=>Y2 H r (Pos.Act.close p v) (okA r v0 (Pos.Act.close p v)) tk w H2) (by kernel_rfl) Tryz.func278 rfl rfl ?_
 have hok:okA r v0 (Pos.Act.close p v)=if y.ret=true then 23 else if v < 1∨400 < v then 3 else if (!y.opn)=true then 22 else 0:=by
  unfold okA Yy;rw [if_neg htk];simp only [];rw [hy]
 rw [hok]
 have hA:=Qr (hL.keep (Yu H [.int .i64 tk,L.vT,L.vF,L.vR,L.vP,L.vM] [.int .i64 num,.str YF,.ps .unk [[.str p]],.ps .unk [[.int .i64 v0],[.int .i64 v]],.str []] [.int .i64 0,.ps .nil [],.ps .nil [],.ps .nil [],.ps .nil [],.ps .nil []] 0)) hl tk (c:=112) (.inr (.inr (.inr (.inl rfl)))) p
 obtain ⟨i,hi1,hi2,hi3⟩:∃ i:Nat,atL (ZO r 112) p=(i:Int)∧r.poss[i]? = some y∧i < r.poss.length:=by
  rcases XX (fun z:Pos=>z.name) p r.poss with ⟨h1,_⟩ | ⟨i,z,h1,h2,h3,h4⟩
  · have h1:r.poss? p=none:=h1
    rw [hy] at h1;cases h1
  · have h1:r.poss? p=some z:=h1
    rw [hy] at h1;cases h1
    exact ⟨i,h2,h3,h4⟩
 rw [hi1] at hA
 unfold Zj RegL.row at hA
 simp only [map_cons,map_nil,AV.strip0] at hA
 have un1:=hL.lT.under (n:=H.n+1+1+1) (by omega)
 have un2:=hL.lF.under (n:=H.n+1+1+1) (by omega)
 have un3:=hL.lR.under (n:=H.n+1+1+1) (by omega)
 have un4:=hL.lP.under (n:=H.n+1+1+1) (by omega)
 have un5:=hL.lM.under (n:=H.n+1+1+1) (by omega)
 have c1:=hL.lT.cells
 have c2:=hL.lF.cells
 have c3:=hL.lR.cells
 have c5:=hL.lM.cells
 have u1:=hL.lT.one
 have u2:=hL.lF.one
 have u3:=hL.lR.one
 have u5:=hL.lM.one
 simp only [AV.cells] at c1 c2 c3 c5
 simp only [AV.one] at u1 u2 u3 u5
 have b_out:Z6 YF [111,117,116]=false:=rfl
 have b_raise:Z6 YF [114,97,105,115,101]=false:=rfl
 have b_protect:Z6 YF [112,114,111,116,101,99,116]=false:=rfl
 have b_clear:Z6 YF [99,108,101,97,114]=false:=rfl
 have b_in:Z6 YF [105,110]=false:=rfl
 have b_staff:Z6 YF [115,116,97,102,102]=false:=rfl
 have b_off:Z6 YF [111,102,102]=false:=rfl
 have b_open:Z6 YF [111,112,101,110]=false:=rfl
 have b_close:Z6 YF [99,108,111,115,101]=true:=rfl
 have hne:r.poss.map Pos.Pos.row ≠ []:=by intro e;rw [map_eq_nil_iff] at e;rw [e] at hi3;simp at hi3
 obtain ⟨id,hv,hid,hg⟩:=hL.lP.blk hne
 rw [length_map] at hv
 have hlen:Len 10 (r.poss.map Pos.Pos.row):=Yi (f:=Pos.Pos.row) (fun _=>rfl) _
 have hrow:(r.poss.map Pos.Pos.row)[i]? = some (Pos.Pos.row y):=Zy (f:=Pos.Pos.row) hi2
 have hil:i < (r.poss.map Pos.Pos.row).length:=by rw [length_map];exact hi3
 have hat:=Zx hlen hrow
 have hfl:=Zl hlen
 have hF:i * 10+10≤(r.poss.map Pos.Pos.row).flatten.length:=by rw [hfl,length_map];omega
 have hset:=fun (R':List AV) (h:R'.length=10)=>JM (r:=R') hlen hil h
 have hname:y.name=p:=by simpa using find?_some hy
 have hupd:=fun g=>Qz (nm:=fun z:Pos=>z.name) (g:=g) hu hi2
 unfold ZW at hat
 rw [if_pos hF] at hat
 have tR:=Option.some.inj hat
 clear hat hne hil hok hi1
 have w0:ZC .i64 (Int.sub ((1:Nat):Int) 1)=0:=by kernel_rfl
 have i1:(id=H.n+1+1)=False:=eq_false (by omega)
 have i2:(id=H.n+1)=False:=eq_false (by omega)
 have i3:(id=H.n)=False:=eq_false (by omega)
 have i4:(H.n=id)=False:=eq_false (by omega)
 have i5:(H.n+1+1=id)=False:=eq_false (by omega)
 have i6:(id=H.n+1+1+1)=False:=eq_false (by omega)
 have i7:(H.n+1+1+1=id)=False:=eq_false (by omega)
 obtain ⟨vT,vF,vR,vP,vM⟩:=L
 simp only at hv
 subst hv
 obtain ⟨nm,tr,fa,tb,rt,pr,op,cl,pe,sp⟩:=y
 simp only [Pos.Pos.row] at tR
 simp only at hname
 simp only at hcl
 cases rt with
 | true =>
   try simp only []
   simp (maxDischargeDepth:=12) only [go_sem,reduceEqDiff,reduceAdd,reduceSub,reduceLeDiff,reduceCtorEq,Pos.Ev.row,RegL.row,Z0,Z3,u1,u2,u3,u5,b_out,b_raise,un1,un2,un3,un4,un5,w0,hA,hi3,i1,i2,i3,hg,hF,tR]
   exact YA hL (23:Int) (by decide)
 | false =>
 try simp only []
 by_cases k_3:v < 1∨400 < v
 · rw [if_pos k_3]
   have hO:=Jx v 1 400
   have q0:(decide (v < 1) || decide (400 < v))=true:=by simpa using k_3
   rw [q0] at hO
   simp (maxDischargeDepth:=12) only [go_sem,reduceEqDiff,reduceAdd,reduceSub,reduceLeDiff,reduceCtorEq,Pos.Ev.row,RegL.row,Z0,Z3,u1,u2,u3,u5,b_out,b_raise,b_protect,b_clear,b_in,b_staff,b_off,b_open,b_close,un1,un2,un3,un4,un5,w0,hA,hi3,i1,i2,i3,hg,hF,tR,hO]
   exact YA hL (3:Int) (by decide)
 rw [if_neg k_3]
 have hO:=Jx v 1 400
 have q0:(decide (v < 1) || decide (400 < v))=false:=by rw [decide_eq_false (fun h=>k_3 (.inl h)),decide_eq_false (fun h=>k_3 (.inr h))];rfl
 rw [q0] at hO
 have wv:ZC .i64 (Int.add cl 1)=cl+1:=JX (by show _≤cl+1;omega) (by show cl+1≤_;omega)
 cases op with
 | false =>
   try simp only [if_true,if_false,reduceIte,Bool.not_true,Bool.not_false]
   simp (maxDischargeDepth:=12) only [go_sem,reduceEqDiff,reduceAdd,reduceSub,reduceLeDiff,reduceCtorEq,Pos.Ev.row,RegL.row,Z0,Z3,u1,u2,u3,u5,b_out,b_raise,b_protect,b_clear,b_in,b_staff,b_off,b_open,b_close,un1,un2,un3,un4,un5,w0,hA,hi3,i1,i2,i3,hg,hF,tR,hO]
   exact YA hL (22:Int) (by decide)
 | true =>
 try simp only [reduceIte,Bool.not_true,Bool.not_false,false_eq_true]
 have hst:=hset [.str nm,.str tr,.int .i64 fa,.int .i64 tb,.bool false,.bool pr,.bool false,.int .i64 (cl+1),.int .i64 pe,.int .i64 v] rfl
 unfold over at hst
 simp (maxDischargeDepth:=12) only [go_sem,reduceAdd] at hst
 simp (maxDischargeDepth:=12) only [go_sem,reduceEqDiff,reduceAdd,reduceSub,reduceLeDiff,Nat.reduceBEq,reduceCtorEq,Pos.Ev.row,RegL.row,Z0,Z3,u1,u2,u3,u5,b_out,b_raise,b_protect,b_clear,b_in,b_staff,b_off,b_open,b_close,un1,un2,un3,un4,un5,w0,hA,hi3,i1,i2,i3,i4,i5,i6,hg,hF,tR,hO,wv,hst]
 have e:(doA r r.tick (Pos.Act.close p v)).poss.map Pos.Pos.row=(r.poss.map Pos.Pos.row).set i [.str nm,.str tr,.int .i64 fa,.int .i64 tb,.bool false,.bool pr,.bool false,.int .i64 (cl+1),.int .i64 pe,.int .i64 v]:=by
  show (YY r.poss p (fun y=>{ y with opn:=false,closed:=y.closed+1,speed:=v })).map Pos.Pos.row=_
  have h:=hupd (fun y=>{ y with opn:=false,closed:=y.closed+1,speed:=v })
  simp only at h
  unfold YY
  rw [← hname,← h,map_set];rfl
 exact okW hL (by rw [Heap.get_set,if_neg (by omega),Heap.get_set,if_neg (by omega),Heap.get_set,if_neg (by omega)];exact Kh hid hg) hid hi3 e ⟨rfl,rfl,rfl,rfl⟩ ((((QE _ _ _ _ _ _).set (by omega) (Kg _ _ _ _ _) _).set (by omega) (by rw [Heap.get_set];exact if_pos rfl) _).set (by omega) (by rw [Heap.get_set];exact if_pos rfl) _) (by rw [Heap.get_set,if_neg (by omega),Heap.get_set,if_neg (by omega),Heap.get_set,if_neg (by omega)];exact JB _ _ _ _ _)
theorem ZbI {L:RegL} {v:Int} (hL:LstIs H L r) (hl:ZH r) (hu:Zw (·.name) r.poss) (hy:r.poss? p=some y)  (htk:¬ v0 < r.tick) :
 ∃ w H2,R PV (.call 0 278 [.agg (L.row tk),.agg (Ev.row ⟨num,XD,[p],[v0,v],[]⟩)] H)=some (.ofVal w H2)∧Y2 H r (Pos.Act.raise p v) (okA r v0 (Pos.Act.raise p v)) tk w H2:=by
 refine Zd (C:=PV) (f:=278) (lo:=0) (args:=[.agg (L.row tk),.agg (Ev.row ⟨num,XD,[p],[v0,v],[]⟩)]) (H:=H) (fn:=Tryz.f278) (Q:=fun w H2=>Y2 H r (Pos.Act.raise p v) (okA r v0 (Pos.Act.raise p v)) tk w H2) (by kernel_rfl) Tryz.func278 rfl rfl ?_
 have hok:okA r v0 (Pos.Act.raise p v)=if (!y.ret)=true then 22 else if 400 < v then 3 else if v≤y.speed then 21 else 0:=by
  unfold okA Yy;rw [if_neg htk];simp only [];rw [hy]
 rw [hok]
 have hA:=Qr (hL.keep (Yu H [.int .i64 tk,L.vT,L.vF,L.vR,L.vP,L.vM] [.int .i64 num,.str XD,.ps .unk [[.str p]],.ps .unk [[.int .i64 v0],[.int .i64 v]],.str []] [.int .i64 0,.ps .nil [],.ps .nil [],.ps .nil [],.ps .nil [],.ps .nil []] 0)) hl tk (c:=112) (.inr (.inr (.inr (.inl rfl)))) p
 obtain ⟨i,hi1,hi2,hi3⟩:∃ i:Nat,atL (ZO r 112) p=(i:Int)∧r.poss[i]? = some y∧i < r.poss.length:=by
  rcases XX (fun z:Pos=>z.name) p r.poss with ⟨h1,_⟩ | ⟨i,z,h1,h2,h3,h4⟩
  · have h1:r.poss? p=none:=h1
    rw [hy] at h1;cases h1
  · have h1:r.poss? p=some z:=h1
    rw [hy] at h1;cases h1
    exact ⟨i,h2,h3,h4⟩
 rw [hi1] at hA
 unfold Zj RegL.row at hA
 simp only [map_cons,map_nil,AV.strip0] at hA
 have un1:=hL.lT.under (n:=H.n+1+1+1) (by omega)
 have un2:=hL.lF.under (n:=H.n+1+1+1) (by omega)
 have un3:=hL.lR.under (n:=H.n+1+1+1) (by omega)
 have un4:=hL.lP.under (n:=H.n+1+1+1) (by omega)
 have un5:=hL.lM.under (n:=H.n+1+1+1) (by omega)
 have c1:=hL.lT.cells
 have c2:=hL.lF.cells
 have c3:=hL.lR.cells
 have c5:=hL.lM.cells
 have u1:=hL.lT.one
 have u2:=hL.lF.one
 have u3:=hL.lR.one
 have u5:=hL.lM.one
 simp only [AV.cells] at c1 c2 c3 c5
 simp only [AV.one] at u1 u2 u3 u5
 have b_out:Z6 XD [111,117,116]=false:=rfl
 have b_raise:Z6 XD [114,97,105,115,101]=true:=rfl
 have hne:r.poss.map Pos.Pos.row ≠ []:=by intro e;rw [map_eq_nil_iff] at e;rw [e] at hi3;simp at hi3
 obtain ⟨id,hv,hid,hg⟩:=hL.lP.blk hne
 rw [length_map] at hv
 have hlen:Len 10 (r.poss.map Pos.Pos.row):=Yi (f:=Pos.Pos.row) (fun _=>rfl) _
 have hrow:(r.poss.map Pos.Pos.row)[i]? = some (Pos.Pos.row y):=Zy (f:=Pos.Pos.row) hi2
 have hil:i < (r.poss.map Pos.Pos.row).length:=by rw [length_map];exact hi3
 have hat:=Zx hlen hrow
 have hfl:=Zl hlen
 have hF:i * 10+10≤(r.poss.map Pos.Pos.row).flatten.length:=by rw [hfl,length_map];omega
 have hset:=fun (R':List AV) (h:R'.length=10)=>JM (r:=R') hlen hil h
 have hname:y.name=p:=by simpa using find?_some hy
 have hupd:=fun g=>Qz (nm:=fun z:Pos=>z.name) (g:=g) hu hi2
 unfold ZW at hat
 rw [if_pos hF] at hat
 have tR:=Option.some.inj hat
 clear hat hne hil hok hi1
 have w0:ZC .i64 (Int.sub ((1:Nat):Int) 1)=0:=by kernel_rfl
 have i1:(id=H.n+1+1)=False:=eq_false (by omega)
 have i2:(id=H.n+1)=False:=eq_false (by omega)
 have i3:(id=H.n)=False:=eq_false (by omega)
 have i4:(H.n=id)=False:=eq_false (by omega)
 have i5:(H.n+1+1=id)=False:=eq_false (by omega)
 have i6:(id=H.n+1+1+1)=False:=eq_false (by omega)
 have i7:(H.n+1+1+1=id)=False:=eq_false (by omega)
 obtain ⟨vT,vF,vR,vP,vM⟩:=L
 simp only at hv
 subst hv
 obtain ⟨nm,tr,fa,tb,rt,pr,op,cl,pe,sp⟩:=y
 simp only [Pos.Pos.row] at tR
 simp only at hname
 cases rt with
 | false =>
   try simp only []
   simp (maxDischargeDepth:=12) only [go_sem,reduceEqDiff,reduceAdd,reduceSub,reduceLeDiff,reduceCtorEq,Pos.Ev.row,RegL.row,Z0,Z3,u1,u2,u3,u5,b_out,b_raise,un1,un2,un3,un4,un5,w0,hA,hi3,i1,i2,i3,hg,hF,tR]
   exact YA hL (22:Int) (by decide)
 | true =>
 try simp only []
 by_cases k_3:400 < v
 · rw [if_pos k_3]
   have q3:(400 < v)=True:=eq_true k_3
   simp (maxDischargeDepth:=12) only [go_sem,reduceEqDiff,reduceAdd,reduceSub,reduceLeDiff,reduceCtorEq,Pos.Ev.row,RegL.row,Z0,Z3,u1,u2,u3,u5,b_out,b_raise,un1,un2,un3,un4,un5,w0,hA,hi3,i1,i2,i3,hg,hF,tR,q3]
   exact YA hL (3:Int) (by decide)
 rw [if_neg k_3]
 have q3:(400 < v)=False:=eq_false k_3
 by_cases k_21:v≤sp
 · rw [if_pos k_21]
   have q4:(sp < v)=False:=eq_false (by omega)
   simp (maxDischargeDepth:=12) only [go_sem,reduceEqDiff,reduceAdd,reduceSub,reduceLeDiff,reduceCtorEq,Pos.Ev.row,RegL.row,Z0,Z3,u1,u2,u3,u5,b_out,b_raise,un1,un2,un3,un4,un5,w0,hA,hi3,i1,i2,i3,hg,hF,tR,q3,q4]
   exact YA hL (21:Int) (by decide)
 rw [if_neg k_21]
 have q4:(sp < v)=True:=eq_true (by omega)
 have hst:=Yt (k:=9) (v:=.int .i64 v) hlen hrow (by decide)
 unfold over at hst
 simp (maxDischargeDepth:=12) only [go_sem] at hst
 simp (maxDischargeDepth:=12) only [go_sem,reduceEqDiff,reduceAdd,reduceSub,reduceLeDiff,reduceCtorEq,Pos.Ev.row,RegL.row,Z0,Z3,u1,u2,u3,u5,b_out,b_raise,un1,un2,un3,un4,un5,w0,hA,hi3,i1,i2,i3,i4,i5,i6,hg,hF,tR,q3,q4,hst]
 have e:(doA r r.tick (Pos.Act.raise p v)).poss.map Pos.Pos.row=(r.poss.map Pos.Pos.row).set i [.str nm,.str tr,.int .i64 fa,.int .i64 tb,.bool true,.bool pr,.bool op,.int .i64 cl,.int .i64 pe,.int .i64 v]:=by
  show (YY r.poss p (fun y=>{ y with speed:=v })).map Pos.Pos.row=_
  have h:=hupd (fun y=>{ y with speed:=v })
  simp only at h
  unfold YY
  rw [← hname,← h,map_set];rfl
 exact okW hL (by exact Kh hid hg) hid hi3 e ⟨rfl,rfl,rfl,rfl⟩ (QE _ _ _ _ _ _) (by exact JB _ _ _ _ _)
theorem SL.setSame (h:SL H v sz te rows) {b:ABlk} (hb:H.get i=b):SL (H.set i b) v sz te rows:=by
 rcases h with h | ⟨id,h1,h2,h3,h4⟩
 . exact .inl h
 . refine .inr ⟨id,h1,h2,h3, ?_⟩;rw [Heap.get_set];split
   . rename_i e;subst e;rw [<- hb];exact h4
   . exact h4
theorem Keep.setSame {b:ABlk} (h:Keep H H' te) (hb:H'.get i=b):Keep H (H'.set i b) te :=
 ⟨by rw [Qx];exact h.le,fun j c t hj hc=>by
   have:=h.cells j c t hj hc;rw [Heap.get_set];split
   . rename_i e;subst e;rw [<- hb];exact this
   . exact this,fun ht hs=>(h.sl ht hs).setSame hb⟩
theorem r_in {L:RegL} (hL:LstIs H L r) (hl:ZH r) (hu:Zw (·.name) r.poss) (hy:r.poss? p=some y) (hm:r.mach? m=none) (htk:¬ v0 < r.tick) :
 ∃ w H2,R PV (.call 0 278 [.agg (L.row tk),.agg (Ev.row ⟨num,Pos.kIn,[m,p],[v0],[]⟩)] H)=some (.ofVal w H2)∧Y2 H r (Pos.Act.into m p) (okA r v0 (Pos.Act.into m p)) tk w H2:=by
 refine Zd (C:=PV) (f:=278) (lo:=0) (args:=[.agg (L.row tk),.agg (Ev.row ⟨num,Pos.kIn,[m,p],[v0],[]⟩)]) (H:=H) (fn:=Tryz.f278) (Q:=fun w H2=>Y2 H r (Pos.Act.into m p) (okA r v0 (Pos.Act.into m p)) tk w H2) (by kernel_rfl) Tryz.func278 rfl rfl ?_
 have hok:okA r v0 (Pos.Act.into m p)=if y.ret=true then 23 else if (!y.prot)=true then 21 else if 16≤r.machs.length then 5 else 0:=by
  unfold okA;rw [if_neg htk];simp only [];rw [hy,hm];rfl
 rw [hok]
 have hA:=Qr (hL.keep (Yu H [.int .i64 tk,L.vT,L.vF,L.vR,L.vP,L.vM] [.int .i64 num,.str Pos.kIn,.ps .unk [[.str m],[.str p]],.ps .unk [[.int .i64 v0]],.str []] [.int .i64 0,.ps .nil [],.ps .nil [],.ps .nil [],.ps .nil [],.ps .nil []] 0)) hl tk (c:=112) (.inr (.inr (.inr (.inl rfl)))) p
 obtain ⟨i,hi1,hi2,hi3⟩:∃ i:Nat,atL (ZO r 112) p=(i:Int)∧r.poss[i]? = some y∧i < r.poss.length:=by
  rcases XX (fun z:Pos=>z.name) p r.poss with ⟨h1,_⟩ | ⟨i,z,h1,h2,h3,h4⟩
  · have h1:r.poss? p=none:=h1
    rw [hy] at h1;cases h1
  · have h1:r.poss? p=some z:=h1
    rw [hy] at h1;cases h1
    exact ⟨i,h2,h3,h4⟩
 rw [hi1] at hA
 unfold Zj RegL.row at hA
 simp only [map_cons,map_nil,AV.strip0] at hA
 have un1:=hL.lT.under (n:=H.n+1+1+1) (by omega)
 have un2:=hL.lF.under (n:=H.n+1+1+1) (by omega)
 have un3:=hL.lR.under (n:=H.n+1+1+1) (by omega)
 have un4:=hL.lP.under (n:=H.n+1+1+1) (by omega)
 have un5:=hL.lM.under (n:=H.n+1+1+1) (by omega)
 have c1:=hL.lT.cells
 have c2:=hL.lF.cells
 have c3:=hL.lR.cells
 have c5:=hL.lM.cells
 have u1:=hL.lT.one
 have u2:=hL.lF.one
 have u3:=hL.lR.one
 have u5:=hL.lM.one
 simp only [AV.cells] at c1 c2 c3 c5
 simp only [AV.one] at u1 u2 u3 u5
 have b_out:Z6 Pos.kIn [111,117,116]=false:=rfl
 have b_raise:Z6 Pos.kIn [114,97,105,115,101]=false:=rfl
 have b_protect:Z6 Pos.kIn [112,114,111,116,101,99,116]=false:=rfl
 have b_clear:Z6 Pos.kIn [99,108,101,97,114]=false:=rfl
 have b_in:Z6 Pos.kIn [105,110]=true:=rfl
 have hne:r.poss.map Pos.Pos.row ≠ []:=by intro e;rw [map_eq_nil_iff] at e;rw [e] at hi3;simp at hi3
 obtain ⟨id,hv,hid,hg⟩:=hL.lP.blk hne
 rw [length_map] at hv
 have hlen:Len 10 (r.poss.map Pos.Pos.row):=Yi (f:=Pos.Pos.row) (fun _=>rfl) _
 have hrow:(r.poss.map Pos.Pos.row)[i]? = some (Pos.Pos.row y):=Zy (f:=Pos.Pos.row) hi2
 have hil:i < (r.poss.map Pos.Pos.row).length:=by rw [length_map];exact hi3
 have hat:=Zx hlen hrow
 have hfl:=Zl hlen
 have hF:i * 10+10≤(r.poss.map Pos.Pos.row).flatten.length:=by rw [hfl,length_map];omega
 have hset:=fun (R':List AV) (h:R'.length=10)=>JM (r:=R') hlen hil h
 have hname:y.name=p:=by simpa using find?_some hy
 have hupd:=fun g=>Qz (nm:=fun z:Pos=>z.name) (g:=g) hu hi2
 unfold ZW at hat
 rw [if_pos hF] at hat
 have tR:=Option.some.inj hat
 clear hat hne hil hok hi1
 have w0:ZC .i64 (Int.sub ((2:Nat):Int) 1)=1:=by kernel_rfl
 have i1:(id=H.n+1+1)=False:=eq_false (by omega)
 have i2:(id=H.n+1)=False:=eq_false (by omega)
 have i3:(id=H.n)=False:=eq_false (by omega)
 have i4:(H.n=id)=False:=eq_false (by omega)
 have i5:(H.n+1+1=id)=False:=eq_false (by omega)
 have i6:(id=H.n+1+1+1)=False:=eq_false (by omega)
 have i7:(H.n+1+1+1=id)=False:=eq_false (by omega)
 obtain ⟨vT,vF,vR,vP,vM⟩:=L
 simp only at hv
 subst hv
 obtain ⟨nm,tr,fa,tb,rt,pr,op,cl,pe,sp⟩:=y
 simp only [Pos.Pos.row] at tR
 simp only at hname
 cases rt with
 | true =>
   try simp only []
   simp (maxDischargeDepth:=12) only [go_sem,reduceEqDiff,reduceAdd,reduceSub,reduceLeDiff,reduceCtorEq,Pos.Ev.row,RegL.row,Z0,Z3,u1,u2,u3,u5,b_out,b_raise,un1,un2,un3,un4,un5,w0,hA,hi3,i1,i2,i3,hg,hF,tR]
   exact YA hL (23:Int) (by decide)
 | false =>
 try simp only []
 cases pr with
 | false =>
   try simp only [if_true,if_false,reduceIte,Bool.not_true,Bool.not_false]
   simp (maxDischargeDepth:=12) only [go_sem,reduceEqDiff,reduceAdd,reduceSub,reduceLeDiff,reduceCtorEq,Pos.Ev.row,RegL.row,Z0,Z3,u1,u2,u3,u5,b_out,b_raise,b_protect,b_clear,b_in,un1,un2,un3,un4,un5,w0,hA,hi3,i1,i2,i3,hg,hF,tR]
   exact YA hL (21:Int) (by decide)
 | true =>
 try simp only [reduceIte,Bool.not_true,Bool.not_false,false_eq_true]
 by_cases k_5:16≤r.machs.length
 · rw [if_pos k_5]
   have q4:((r.machs.length:Int) < 16)=False:=eq_false (by omega)
   have hn1:=hL.lM.len (t:=32) (by kernel_rfl)
   simp only [length_map] at hn1
   simp (maxDischargeDepth:=12) only [go_sem,reduceEqDiff,reduceAdd,reduceSub,reduceLeDiff,reduceCtorEq,Pos.Ev.row,RegL.row,Z0,Z3,u1,u2,u3,u5,b_out,b_raise,b_protect,b_clear,b_in,un1,un2,un3,un4,un5,w0,hA,hi3,i1,i2,i3,hg,hF,tR,q4,hn1]
   exact YA hL (5:Int) (by decide)
 rw [if_neg k_5]
 have q4:((r.machs.length:Int) < 16)=True:=eq_true (by omega)
 have hn1:=hL.lM.len (t:=32) (by kernel_rfl)
 simp only [length_map] at hn1
 obtain ⟨v',H',e1,s1,k⟩:=Ut (lo:=0) (H:=X4 H [.int .i64 tk,vT,vF,vR,.rs id 0 r.poss.length 10 none,vM] [.int .i64 num,.str Pos.kIn,.ps .unk [[.str m],[.str p]],.ps .unk [[.int .i64 v0]],.str []] [.int .i64 0,.ps .nil [],.ps .nil [],.ps .nil [],.ps .nil [],.ps .nil []] [.str nm,.str tr,.int .i64 fa,.int .i64 tb,.bool false,.bool true,.bool op,.int .i64 cl,.int .i64 pe,.int .i64 sp]) ((QE H _ _ _ _ 0).sl (by decide) hL.lM) rfl (by rw [length_map];unfold Z2;have:=hl.2.2.2.2;omega) (r:=[.str m,.str nm]) rfl (by decide) rfl (Yi (f:=Pos.Mch.row) (fun _=>rfl) _)
 have g0:H'.get H.n=.cells [.int .i64 tk,vT,vF,vR,.rs id 0 r.poss.length 10 none,vM] 34:=k.2.1 _ _ _ (by unfold X4 Zj;simp;omega) (by unfold X4 Zj;simp (maxDischargeDepth:=12) only [go_sem])
 have g2:H'.get (H.n+1+1)=.cells [.int .i64 0,.ps .nil [],.ps .nil [],.ps .nil [],.ps .nil [],.ps .nil []] 34:=k.2.1 _ _ _ (by unfold X4 Zj;simp) (JB _ _ _ _ _)
 have g1:H'.get (H.n+1)=.cells [.int .i64 num,.str Pos.kIn,.ps .unk [[.str m],[.str p]],.ps .unk [[.int .i64 v0]],.str []] 53:=k.2.1 _ _ _ (by unfold X4 Zj;simp) (by unfold X4 Zj;simp (maxDischargeDepth:=12) only [go_sem])
 have g3:H'.get (H.n+1+1+1)=.cells [.str nm,.str tr,.int .i64 fa,.int .i64 tb,.bool false,.bool true,.bool op,.int .i64 cl,.int .i64 pe,.int .i64 sp] 76:=k.2.1 _ _ _ (by unfold X4 Zj;simp) (Kg _ _ _ _ _)
 have kk:Keep H H' 117:=(QE H _ _ _ _ _).trans ⟨k.1,k.2.1,k.2.2⟩
 have gid:H'.get id=.row (r.poss.map Pos.Pos.row).flatten 10 76:=by
  obtain ⟨id',q1,q2,q3⟩:=(kk.sl (by decide) hL.lP).blk (by intro e;rw [map_eq_nil_iff] at e;rw [e] at hi3;simp at hi3)
  rw [length_map] at q1
  cases q1
  exact q3
 have hle:=k.1
 unfold X4 Zj at e1
 have c6:=s1.cells
 have u6:=s1.one
 simp only [AV.cells] at c6
 simp only [AV.one] at u6
 have hst:=hset [.str nm,.str tr,.int .i64 fa,.int .i64 tb,.bool false,.bool true,.bool op,.int .i64 cl,.int .i64 pe,.int .i64 sp] rfl
 have hsame:(r.poss.map Pos.Pos.row).set i [.str nm,.str tr,.int .i64 fa,.int .i64 tb,.bool false,.bool true,.bool op,.int .i64 cl,.int .i64 pe,.int .i64 sp]=r.poss.map Pos.Pos.row:=by
  apply ext_getElem?
  intro j
  rw [getElem?_set]
  split
  · rename_i h;subst h;rw [hrow];rw [if_pos (List.getElem?_eq_some_iff.1 hrow).1];rfl
  · rfl
 rw [hsame] at hst
 unfold over at hst
 simp (maxDischargeDepth:=12) only [go_sem,reduceAdd] at hst
 simp (maxDischargeDepth:=12) only [go_sem,reduceEqDiff,reduceAdd,reduceMul,reduceSub,reduceLeDiff,reduceCtorEq,Pos.Ev.row,RegL.row,Z0,Z3,u1,u2,u3,u5,b_out,b_raise,b_protect,b_clear,b_in,un1,un2,un3,un4,un5,w0,hA,hi3,i1,i2,i3,i4,i5,hg,hF,tR,q4,hn1,Zu,e1,g0,g2,g3,gid,c6,u6,hst]
 have kf:∀ x y,Keep H (((H'.set H.n (.cells x 34)).set id (.row (r.poss.map Pos.Pos.row).flatten 10 76)).set (H.n+1+1) (.cells y 34)) 117:=fun x y =>
  ((kk.set (Nat.le_refl _) g0 _).setSame (by rw [Heap.get_set,if_neg (by omega)];exact gid)).set (by omega) (by rw [Heap.get_set,if_neg (by omega),Heap.get_set,if_neg (by omega)];exact g2) _
 have e:(doA r r.tick (Pos.Act.into m p)).machs.map Pos.Mch.row=r.machs.map Pos.Mch.row++[[.str m,.str nm]]:=by
  show (r.machs++[(⟨m,p⟩:Mch)]).map Pos.Mch.row=_
  rw [map_append,← hname];rfl
 refine ⟨⟨(⟨vT,vF,vR,.rs id 0 r.poss.length 10 none,v'⟩:RegL),rfl, ?_⟩,(kf _ _).le,(kf _ _).cells⟩
 rw [if_pos rfl]
 refine ⟨(kf _ _).sl (by decide) hL.lT,(kf _ _).sl (by decide) hL.lF,(kf _ _).sl (by decide) hL.lR,(kf _ _).sl (by decide) hL.lP, ?_⟩
 rw [e]
 exact ((s1.setc g0 _).setSame (by rw [Heap.get_set,if_neg (by omega)];exact gid)).setc (by rw [Heap.get_set,if_neg (by omega),Heap.get_set,if_neg (by omega)];exact g2) _
def JC (id i sz n:Nat):AV:=if i+1=n then .ps .unk [] else .rs id ((i+1) * sz) (n - (i+1)) sz none
theorem IX {t:Nat} (hu:NC.P.underlying t=some (.slice te)) (hs:Zf NC.P te=some sz) (hi:i<=n):XH NC.P t (.rs id 0 n sz none) none (some (.int .i64 (i:Int))) none=some (.rs id 0 i sz none):=by
 unfold XH;simp only [hu,hs,if_true];have h1:YS n n (some (.int .i64 (i:Int)))=some i:=by
  unfold YS;simp only [U2];rw [if_pos (by omega)]
 have h2:YS 0 i none=some 0:=rfl;simp only [h1,h2];rw [if_neg (by omega)];simp
theorem IY {t:Nat} (hu:NC.P.underlying t=some (.slice te)) (hs:Zf NC.P te=some sz) (hi:i+1<=n):XH NC.P t (.rs id 0 n sz none) (some (.int .i64 ((i+1:Nat):Int))) none none=some (JC id i sz n):=by
 unfold XH;simp only [hu,hs,if_true];have h1:YS n n none=some n:=rfl;have h2:YS 0 n (some (.int .i64 ((i+1:Nat):Int)))=some (i+1):=by
  unfold YS;simp only [U2];rw [if_pos (by omega)]
 simp only [h1,h2];unfold JC;by_cases h:i+1=n
 . rw [if_pos ⟨h,by omega⟩,if_pos h]
 . rw [if_neg (fun x=>h x.1),if_neg h];simp
theorem GC {fid lo:Nat} {H:Heap} {t sz:Nat} {s x:AV} {rx:List (List AV)} (he:Yk C.P t=some te) (hu:C.P.underlying t=some (.slice te)) (hz:(match Zf C.P te,YR C.P te,ZF C.P te with
 | some s,some b,some z=>decide (s=sz) && (decide (z.cells.length=s) && decide (b<=4096))
 | _,_,_=>false)=true) (hr:XZ H sz x=some rx) (hra:C.refApp fid t=true):Zu C fid lo H t t s x=Yv lo H sz te s rx:=by
 unfold Zu;simp only [he,hu,By,false_eq_true,if_false];split at hz
 . rename_i s' b z h1 h2 h3
   simp only [and_eq_true,decide_eq_true_eq] at hz;obtain ⟨rfl,h4,h5⟩:=hz;simp only [h1,h2,h3,h4,h5,hr,hra,decide_true,Bool.and_self,if_true]
 . cases hz
theorem IZ {m:Nat} (hg:H.get id=.row rows.flatten sz te) (hl:Len sz rows) (hk:k+m<=rows.length):XZ H sz (.rs id (k * sz) m sz none)=some ((rows.drop k).take m):=by
 have hfl:=Zl hl;have hr:YB H (.ptr id (k * sz)) (m * sz)=some ((rows.drop k).take m).flatten:=by
  unfold YB;simp only [hg,Xw];unfold ZW;have:k * sz+m * sz<=rows.length * sz:=by rw [<- add_mul];exact mul_le_mul_right _ hk
  rw [if_pos (by omega),ZM k hl,ZT m (fun r hr=>hl r (mem_of_mem_drop hr))]
 have hch:XY sz m ((rows.drop k).take m).flatten=some ((rows.drop k).take m):=by
  have h:=Gm (rows:=(rows.drop k).take m) [] (fun r hr=>hl r (mem_of_mem_drop (mem_of_mem_take hr)));rw [append_nil,length_take,length_drop] at h;have e:min m (rows.length - k)=m:=min_eq_left (by omega)
  rwa [e] at h
 unfold XZ;simp only [if_true,hr,hch]
theorem Keep.ofPush (h:H'=H \/ ∃ x,H'=H.push x):Keep H H' te:=by
 rcases h with rfl | ⟨x,rfl⟩
 . exact Keep.refl _ _
 . exact (Keep.refl _ _).push _
theorem ZbJ (h:SL H v sz te rows) (h1:rows.length+rx.length<=Z2) (h2:rx.all (fun r=>r.all AV.one)=true) (h3:0 < sz) (hl:Len sz rows) :
 ∃ v' H',Yv 0 H sz te v rx=some (v',H')/\SL H' v' sz te (rows++rx)/\Keep H H' te:=by
 cases rx with
 | nil=>rw [append_nil];exact ⟨v,H,by unfold Yv;rcases h with ⟨rfl,_⟩ | ⟨id,_,rfl,_⟩<;>rfl,h,Keep.refl _ _⟩
 | cons a q =>
   rcases h with ⟨rfl,rfl⟩ | ⟨id,hne,rfl,hid,hg⟩
   . obtain ⟨v',H',e1,s1,_,x1⟩:=KS (lo:=0) (H:=H) (sz:=sz) (te:=te) (rows:=a::q) (by simpa using h1) h2 h3;exact ⟨v',H',e1,by simpa using s1,Keep.ofPush x1⟩
   . have hfl:=Zl hl;refine ⟨.rs H.n 0 (rows.length+(a::q).length) sz none,(H.set id .dead).push (.row (rows.flatten++(a::q).flatten) sz te), ?_,.inr ⟨H.n,by simp,by rw [length_append],by simp,by rw [Heap.get_push,if_pos (by simp),flatten_append]⟩, ?_⟩
     . unfold Yv;have e1:0+rows.length * sz=rows.flatten.length:=by omega
       simp only [h1,h2,h3,decide_true,Bool.and_self,if_true,isNone_none,zero_le,hg,hfl,zero_add,drop_zero]
     . exact ((Keep.refl H te).setRow hg _).push _
theorem L5 (hid:id < H.n) (hg:H.get id=.row rows.flatten sz te) (hl:Len sz rows) (hone:rows.all (fun r=>r.all AV.one)=true) (hi:i < rows.length) (h3:0 < sz) (hm:rows.length≤Z2) :
 ∃ v1 H1 v2 H2,Yv 0 H sz te (.ps .exact []) (rows.take i)=some (v1,H1)∧Yv 0 H1 sz te v1 (rows.drop (i+1))=some (v2,H2)∧XZ H sz (.rs id 0 i sz none)=some (rows.take i)∧XZ H1 sz (JC id i sz rows.length)=some (rows.drop (i+1))∧SL H2 v2 sz te (rows.take i++rows.drop (i+1))∧H1.get id=.row rows.flatten sz te∧Keep H H1 te∧Keep H H2 te:=by
 have ht:(rows.take i).all (fun r=>r.all AV.one)=true:=by
  rw [all_eq_true] at hone ⊢;exact fun r hr=>hone r (mem_of_mem_take hr)
 have hd:(rows.drop (i+1)).all (fun r=>r.all AV.one)=true:=by
  rw [all_eq_true] at hone ⊢;exact fun r hr=>hone r (mem_of_mem_drop hr)
 obtain ⟨v1,H1,a1,s1,m1,x1⟩:=KS (lo:=0) (H:=H) (sz:=sz) (te:=te) (rows:=rows.take i) (by rw [length_take];omega) ht h3;have hg1:H1.get id=.row rows.flatten sz te:=J8 hg hid x1;obtain ⟨v2,H2,a2,s2,k2⟩:=ZbJ (rx:=rows.drop (i+1)) s1 (by rw [length_take,length_drop];omega) hd h3 (fun r hr=>hl r (mem_of_mem_take hr));have k1:Keep H H1 te:=Keep.ofPush x1;refine ⟨v1,H1,v2,H2,a1,a2, ?_, ?_,s2,hg1,k1,k1.trans k2⟩
 · have:=IZ (k:=0) (m:=i) hg hl (by omega)
   rwa [zero_mul,drop_zero] at this
 · unfold JC;split
   · rename_i h
     rw [h,drop_length];rfl
   · have:=IZ (k:=i+1) (m:=rows.length - (i+1)) hg1 hl (by omega);rw [this]
     congr 1
     exact take_of_length_le (by rw [length_drop];omega)
theorem r_out {L:RegL} (hL:LstIs H L r) (hl:ZH r) (hu:Zw (·.name) r.machs) {y:Mch} (hy:r.mach? m=some y) (htk:¬ v0 < r.tick) :
 ∃ w H2,R PV (.call 0 278 [.agg (L.row tk),.agg (Ev.row ⟨num,Xd,[m],[v0],[]⟩)] H)=some (.ofVal w H2)∧Y2 H r (Pos.Act.out m) (okA r v0 (Pos.Act.out m)) tk w H2:=by
 refine Zd (C:=PV) (f:=278) (lo:=0) (args:=[.agg (L.row tk),.agg (Ev.row ⟨num,Xd,[m],[v0],[]⟩)]) (H:=H) (fn:=Tryz.f278) (Q:=fun w H2=>Y2 H r (Pos.Act.out m) (okA r v0 (Pos.Act.out m)) tk w H2) (by kernel_rfl) Tryz.func278 rfl rfl ?_
 have hok:okA r v0 (Pos.Act.out m)=0:=by
  unfold okA;rw [if_neg htk];simp only [];rw [hy];rfl
 rw [hok]
 have hA:=Qr (hL.keep (Yu H [.int .i64 tk,L.vT,L.vF,L.vR,L.vP,L.vM] [.int .i64 num,.str Xd,.ps .unk [[.str m]],.ps .unk [[.int .i64 v0]],.str []] [.int .i64 0,.ps .nil [],.ps .nil [],.ps .nil [],.ps .nil [],.ps .nil []] 0)) hl tk (c:=109) (.inr (.inr (.inr (.inr rfl)))) m
 obtain ⟨i,hi1,hi2,hi3⟩:∃ i:Nat,atL (ZO r 109) m=(i:Int)∧r.machs[i]? = some y∧i < r.machs.length:=by
  rcases XX (fun z:Mch=>z.name) m r.machs with ⟨h1,_⟩ | ⟨i,z,h1,h2,h3,h4⟩
  · have h1:r.mach? m=none:=h1
    rw [hy] at h1;cases h1
  · have h1:r.mach? m=some z:=h1
    rw [hy] at h1;cases h1
    exact ⟨i,h2,h3,h4⟩
 rw [hi1] at hA
 unfold Zj RegL.row at hA
 simp only [map_cons,map_nil,AV.strip0] at hA
 have un1:=hL.lT.under (n:=H.n+1+1+1) (by omega)
 have un2:=hL.lF.under (n:=H.n+1+1+1) (by omega)
 have un3:=hL.lR.under (n:=H.n+1+1+1) (by omega)
 have un4:=hL.lP.under (n:=H.n+1+1+1) (by omega)
 have un5:=hL.lM.under (n:=H.n+1+1+1) (by omega)
 have c1:=hL.lT.cells
 have u1:=hL.lT.one
 have c2:=hL.lF.cells
 have u2:=hL.lF.one
 have c3:=hL.lR.cells
 have u3:=hL.lR.one
 have c4:=hL.lP.cells
 have u4:=hL.lP.one
 simp only [AV.cells] at c1 c2 c3 c4
 simp only [AV.one] at u1 u2 u3 u4
 have b_out:Z6 Xd [111,117,116]=true:=rfl
 have hne:r.machs.map Pos.Mch.row ≠ []:=by intro e;rw [map_eq_nil_iff] at e;rw [e] at hi3;simp at hi3
 obtain ⟨id,hv,hid,hg⟩:=hL.lM.blk hne
 rw [length_map] at hv
 have hlen:Len 2 (r.machs.map Pos.Mch.row):=Yi (f:=Pos.Mch.row) (fun _=>rfl) _
 have hil:i < (r.machs.map Pos.Mch.row).length:=by rw [length_map];exact hi3
 have hln:(r.machs.map Pos.Mch.row).length=r.machs.length:=length_map _
 have i1:(id=H.n+1+1)=False:=eq_false (by omega)
 have i2:(id=H.n+1)=False:=eq_false (by omega)
 have i3:(id=H.n)=False:=eq_false (by omega)
 have i4:(H.n=id)=False:=eq_false (by omega)
 have i5:(H.n+1+1=id)=False:=eq_false (by omega)
 obtain ⟨vT,vF,vR,vP,vM⟩:=L
 simp only at hv
 subst hv
 have hgF:(Zj H [.int .i64 tk,vT,vF,vR,vP,.rs id 0 r.machs.length 2 none] [.int .i64 num,.str Xd,.ps .unk [[.str m]],.ps .unk [[.int .i64 v0]],.str []] [.int .i64 0,.ps .nil [],.ps .nil [],.ps .nil [],.ps .nil [],.ps .nil []]).get id=.row (r.machs.map Pos.Mch.row).flatten 2 117:=by
  unfold Zj
  simp (maxDischargeDepth:=12) only [go_sem,i1,i2,i3,hg]
 obtain ⟨v1,H1,v2,H2,a1,a2,r1,r2,s2,hga,hk1,hk2⟩:=L5 (H:=Zj H [.int .i64 tk,vT,vF,vR,vP,.rs id 0 r.machs.length 2 none] [.int .i64 num,.str Xd,.ps .unk [[.str m]],.ps .unk [[.int .i64 v0]],.str []] [.int .i64 0,.ps .nil [],.ps .nil [],.ps .nil [],.ps .nil [],.ps .nil []]) (id:=id) (by rw [XF];omega) hgF hlen (KT (f:=Pos.Mch.row) (fun _=>rfl) _) hil (by decide) (by have:=hl;unfold ZH at this;unfold Z2;omega)
 have g0a:H1.get H.n=.cells [.int .i64 tk,vT,vF,vR,vP,.rs id 0 r.machs.length 2 none] 34:=hk1.cells _ _ _ (by rw [XF];omega) (by unfold Zj;simp (maxDischargeDepth:=12) only [go_sem])
 have g1a:H1.get (H.n+1)=.cells [.int .i64 num,.str Xd,.ps .unk [[.str m]],.ps .unk [[.int .i64 v0]],.str []] 53:=hk1.cells _ _ _ (by rw [XF];omega) (by unfold Zj;simp (maxDischargeDepth:=12) only [go_sem])
 have g0:H2.get H.n=.cells [.int .i64 tk,vT,vF,vR,vP,.rs id 0 r.machs.length 2 none] 34:=hk2.cells _ _ _ (by rw [XF];omega) (by unfold Zj;simp (maxDischargeDepth:=12) only [go_sem])
 have g2:H2.get (H.n+1+1)=.cells [.int .i64 0,.ps .nil [],.ps .nil [],.ps .nil [],.ps .nil [],.ps .nil []] 34:=hk2.cells _ _ _ (by rw [XF];omega) (JA _ _ _ _)
 have kk:Keep H H2 117:=(Yu H _ _ _ _).trans hk2
 have ap1:Zu PV 278 0 (Zj H [.int .i64 tk,vT,vF,vR,vP,.rs id 0 r.machs.length 2 none] [.int .i64 num,.str Xd,.ps .unk [[.str m]],.ps .unk [[.int .i64 v0]],.str []] [.int .i64 0,.ps .nil [],.ps .nil [],.ps .nil [],.ps .nil [],.ps .nil []]) 32 32 (.ps .exact []) (.rs id 0 i 2 none)=some (v1,H1):=by
  rw [GC (C:=PV) (te:=117) (by kernel_rfl) (by kernel_rfl) (by kernel_rfl) r1 (by kernel_rfl)];exact a1
 have hrest:(if i+1=r.machs.length then AV.ps .unk [] else .rs id ((i+1) * 2) (r.machs.length - (i+1)) 2 none)=JC id i 2 r.machs.length:=rfl
 rw [hln] at r2
 have ap2:Zu PV 278 0 H1 32 32 v1 (JC id i 2 r.machs.length)=some (v2,H2):=by
  rw [GC (C:=PV) (te:=117) (by kernel_rfl) (by kernel_rfl) (by kernel_rfl) r2 (by kernel_rfl)];exact a2
 have asl1:XH NC.P 32 (.rs id 0 r.machs.length 2 none) none (some (.int .i64 (i:Int))) none=some (.rs id 0 i 2 none):=IX (te:=117) (by kernel_rfl) (by kernel_rfl) (by omega)
 have asl2:XH NC.P 32 (.rs id 0 r.machs.length 2 none) (some (.int .i64 ((i+1:Nat):Int))) none none=some (JC id i 2 r.machs.length):=IY (te:=117) (by kernel_rfl) (by kernel_rfl) (by omega)
 have w1:ZC .i64 (Int.add (i:Int) 1)=((i+1:Nat):Int):=ZQ hi3 (by have:=hl;unfold ZH at this;unfold Z2;omega)
 unfold Zj at ap1
 have c6:=s2.cells
 have u6:=s2.one
 simp only [AV.cells] at c6
 simp only [AV.one] at u6
 simp (maxDischargeDepth:=12) only [go_sem,reduceEqDiff,reduceAdd,reduceMul,reduceSub,reduceLeDiff,Nat.reduceBEq,reduceCtorEq,Pos.Ev.row,RegL.row,Z0,Z3,u1,u2,u3,u4,b_out,un1,un2,un3,un4,un5,hA,asl1,asl2,ap1,ap2,w1,c6,u6,g0,g2]
 refine ⟨⟨(⟨vT,vF,vR,vP,v2⟩:RegL),rfl, ?_⟩,(kk.fin g0 g2 _ _).le,(kk.fin g0 g2 _ _).cells⟩
 rw [if_pos rfl]
 have hname:y.name=m:=by simpa using find?_some hy
 have hrem:=Cb (nm:=fun z:Mch=>z.name) hu hi2
 have e:(doA r r.tick (Pos.Act.out m)).machs.map Pos.Mch.row=(r.machs.map Pos.Mch.row).take i++(r.machs.map Pos.Mch.row).drop (i+1):=by
  show (r.machs.filter fun z=>decide (z.name ≠ m)).map Pos.Mch.row=_
  try simp only at hrem
  rw [← hname,← hrem,map_append,map_take,map_drop]
 refine ⟨(kk.fin g0 g2 _ _).sl (by decide) hL.lT,(kk.fin g0 g2 _ _).sl (by decide) hL.lF,(kk.fin g0 g2 _ _).sl (by decide) hL.lR,(kk.fin g0 g2 _ _).sl (by decide) hL.lP, ?_⟩
 rw [e]
 exact s2.fin g0 g2 _ _
theorem ZbK {L:RegL} {n:Nm} (hL:LstIs H L r) (hl:ZH r) (hu:Zw (·.name) r.trains) {y:Trn} (hy:r.train? n=some y) (htk:¬ v0 < r.tick) :
 ∃ w H2,R PV (.call 0 277 [.agg (L.row tk),.agg (Ev.row ⟨num,Yb,[n],[v0],[]⟩)] H)=some (.ofVal w H2)∧Y2 H r (Pos.Act.leave n) (okA r v0 (Pos.Act.leave n)) tk w H2:=by
 refine Zd (C:=PV) (f:=277) (lo:=0) (args:=[.agg (L.row tk),.agg (Ev.row ⟨num,Yb,[n],[v0],[]⟩)]) (H:=H) (fn:=Tryz.f277) (Q:=fun w H2=>Y2 H r (Pos.Act.leave n) (okA r v0 (Pos.Act.leave n)) tk w H2) (by kernel_rfl) Tryz.func277 rfl rfl ?_
 have hok:okA r v0 (Pos.Act.leave n)=0:=by
  unfold okA;rw [if_neg htk];simp only [];rw [hy];rfl
 rw [hok]
 have hA:=Qr (hL.keep (Yu H [.int .i64 tk,L.vT,L.vF,L.vR,L.vP,L.vM] [.int .i64 num,.str Yb,.ps .unk [[.str n]],.ps .unk [[.int .i64 v0]],.str []] [.int .i64 0,.ps .nil [],.ps .nil [],.ps .nil [],.ps .nil [],.ps .nil []] 0)) hl tk (c:=114) (.inr (.inr (.inl rfl))) n
 obtain ⟨i,hi1,hi2,hi3⟩:∃ i:Nat,atL (ZO r 114) n=(i:Int)∧r.trains[i]? = some y∧i < r.trains.length:=by
  rcases XX (fun z:Trn=>z.name) n r.trains with ⟨h1,_⟩ | ⟨i,z,h1,h2,h3,h4⟩
  · have h1:r.train? n=none:=h1
    rw [hy] at h1;cases h1
  · have h1:r.train? n=some z:=h1
    rw [hy] at h1;cases h1
    exact ⟨i,h2,h3,h4⟩
 rw [hi1] at hA
 unfold Zj RegL.row at hA
 simp only [map_cons,map_nil,AV.strip0] at hA
 have un1:=hL.lT.under (n:=H.n+1+1+1) (by omega)
 have un2:=hL.lF.under (n:=H.n+1+1+1) (by omega)
 have un3:=hL.lR.under (n:=H.n+1+1+1) (by omega)
 have un4:=hL.lP.under (n:=H.n+1+1+1) (by omega)
 have un5:=hL.lM.under (n:=H.n+1+1+1) (by omega)
 have c1:=hL.lT.cells
 have u1:=hL.lT.one
 have c2:=hL.lF.cells
 have u2:=hL.lF.one
 have c4:=hL.lP.cells
 have u4:=hL.lP.one
 have c5:=hL.lM.cells
 have u5:=hL.lM.one
 simp only [AV.cells] at c1 c2 c4 c5
 simp only [AV.one] at u1 u2 u4 u5
 have b_track:Z6 Yb [116,114,97,99,107]=false:=rfl
 have b_fault:Z6 Yb [102,97,117,108,116]=false:=rfl
 have b_answer:Z6 Yb [97,110,115,119,101,114]=false:=rfl
 have b_repair:Z6 Yb [114,101,112,97,105,114]=false:=rfl
 have b_enter:Z6 Yb [101,110,116,101,114]=false:=rfl
 have b_leave:Z6 Yb [108,101,97,118,101]=true:=rfl
 have hne:r.trains.map Pos.Trn.row ≠ []:=by intro e;rw [map_eq_nil_iff] at e;rw [e] at hi3;simp at hi3
 obtain ⟨id,hv,hid,hg⟩:=hL.lR.blk hne
 rw [length_map] at hv
 have hlen:Len 3 (r.trains.map Pos.Trn.row):=Yi (f:=Pos.Trn.row) (fun _=>rfl) _
 have hil:i < (r.trains.map Pos.Trn.row).length:=by rw [length_map];exact hi3
 have hln:(r.trains.map Pos.Trn.row).length=r.trains.length:=length_map _
 have i1:(id=H.n+1+1)=False:=eq_false (by omega)
 have i2:(id=H.n+1)=False:=eq_false (by omega)
 have i3:(id=H.n)=False:=eq_false (by omega)
 have i4:(H.n=id)=False:=eq_false (by omega)
 have i5:(H.n+1+1=id)=False:=eq_false (by omega)
 obtain ⟨vT,vF,vR,vP,vM⟩:=L
 simp only at hv
 subst hv
 have hgF:(Zj H [.int .i64 tk,vT,vF,.rs id 0 r.trains.length 3 none,vP,vM] [.int .i64 num,.str Yb,.ps .unk [[.str n]],.ps .unk [[.int .i64 v0]],.str []] [.int .i64 0,.ps .nil [],.ps .nil [],.ps .nil [],.ps .nil [],.ps .nil []]).get id=.row (r.trains.map Pos.Trn.row).flatten 3 115:=by
  unfold Zj
  simp (maxDischargeDepth:=12) only [go_sem,i1,i2,i3,hg]
 obtain ⟨v1,H1,v2,H2,a1,a2,r1,r2,s2,hga,hk1,hk2⟩:=L5 (H:=Zj H [.int .i64 tk,vT,vF,.rs id 0 r.trains.length 3 none,vP,vM] [.int .i64 num,.str Yb,.ps .unk [[.str n]],.ps .unk [[.int .i64 v0]],.str []] [.int .i64 0,.ps .nil [],.ps .nil [],.ps .nil [],.ps .nil [],.ps .nil []]) (id:=id) (by rw [XF];omega) hgF hlen (KT (f:=Pos.Trn.row) (fun _=>rfl) _) hil (by decide) (by have:=hl;unfold ZH at this;unfold Z2;omega)
 have g0a:H1.get H.n=.cells [.int .i64 tk,vT,vF,.rs id 0 r.trains.length 3 none,vP,vM] 34:=hk1.cells _ _ _ (by rw [XF];omega) (by unfold Zj;simp (maxDischargeDepth:=12) only [go_sem])
 have g1a:H1.get (H.n+1)=.cells [.int .i64 num,.str Yb,.ps .unk [[.str n]],.ps .unk [[.int .i64 v0]],.str []] 53:=hk1.cells _ _ _ (by rw [XF];omega) (by unfold Zj;simp (maxDischargeDepth:=12) only [go_sem])
 have g0:H2.get H.n=.cells [.int .i64 tk,vT,vF,.rs id 0 r.trains.length 3 none,vP,vM] 34:=hk2.cells _ _ _ (by rw [XF];omega) (by unfold Zj;simp (maxDischargeDepth:=12) only [go_sem])
 have g2:H2.get (H.n+1+1)=.cells [.int .i64 0,.ps .nil [],.ps .nil [],.ps .nil [],.ps .nil [],.ps .nil []] 34:=hk2.cells _ _ _ (by rw [XF];omega) (JA _ _ _ _)
 have kk:Keep H H2 115:=(Yu H _ _ _ _).trans hk2
 have ap1:Zu PV 277 0 (Zj H [.int .i64 tk,vT,vF,.rs id 0 r.trains.length 3 none,vP,vM] [.int .i64 num,.str Yb,.ps .unk [[.str n]],.ps .unk [[.int .i64 v0]],.str []] [.int .i64 0,.ps .nil [],.ps .nil [],.ps .nil [],.ps .nil [],.ps .nil []]) 30 30 (.ps .exact []) (.rs id 0 i 3 none)=some (v1,H1):=by
  rw [GC (C:=PV) (te:=115) (by kernel_rfl) (by kernel_rfl) (by kernel_rfl) r1 (by kernel_rfl)];exact a1
 have hrest:(if i+1=r.trains.length then AV.ps .unk [] else .rs id ((i+1) * 3) (r.trains.length - (i+1)) 3 none)=JC id i 3 r.trains.length:=rfl
 rw [hln] at r2
 have ap2:Zu PV 277 0 H1 30 30 v1 (JC id i 3 r.trains.length)=some (v2,H2):=by
  rw [GC (C:=PV) (te:=115) (by kernel_rfl) (by kernel_rfl) (by kernel_rfl) r2 (by kernel_rfl)];exact a2
 have asl1:XH NC.P 30 (.rs id 0 r.trains.length 3 none) none (some (.int .i64 (i:Int))) none=some (.rs id 0 i 3 none):=IX (te:=115) (by kernel_rfl) (by kernel_rfl) (by omega)
 have asl2:XH NC.P 30 (.rs id 0 r.trains.length 3 none) (some (.int .i64 ((i+1:Nat):Int))) none none=some (JC id i 3 r.trains.length):=IY (te:=115) (by kernel_rfl) (by kernel_rfl) (by omega)
 have w1:ZC .i64 (Int.add (i:Int) 1)=((i+1:Nat):Int):=ZQ hi3 (by have:=hl;unfold ZH at this;unfold Z2;omega)
 unfold Zj at ap1
 have c6:=s2.cells
 have u6:=s2.one
 simp only [AV.cells] at c6
 simp only [AV.one] at u6
 simp (maxDischargeDepth:=12) only [go_sem,reduceEqDiff,reduceAdd,reduceMul,reduceSub,reduceLeDiff,Nat.reduceBEq,reduceCtorEq,Pos.Ev.row,RegL.row,Z0,Z3,u1,u2,u4,u5,b_track,b_fault,b_answer,b_repair,b_enter,b_leave,un1,un2,un3,un4,un5,hA,asl1,asl2,ap1,ap2,w1,c6,u6,g0,g2]
 refine ⟨⟨(⟨vT,vF,v2,vP,vM⟩:RegL),rfl, ?_⟩,(kk.fin g0 g2 _ _).le,(kk.fin g0 g2 _ _).cells⟩
 rw [if_pos rfl]
 have hname:y.name=n:=by simpa using find?_some hy
 have hrem:=Cb (nm:=fun z:Trn=>z.name) hu hi2
 have e:(doA r r.tick (Pos.Act.leave n)).trains.map Pos.Trn.row=(r.trains.map Pos.Trn.row).take i++(r.trains.map Pos.Trn.row).drop (i+1):=by
  show (r.trains.filter fun z=>decide (z.name ≠ n)).map Pos.Trn.row=_
  try simp only at hrem
  rw [← hname,← hrem,map_append,map_take,map_drop]
 refine ⟨(kk.fin g0 g2 _ _).sl (by decide) hL.lT,(kk.fin g0 g2 _ _).sl (by decide) hL.lF, ?_,(kk.fin g0 g2 _ _).sl (by decide) hL.lP,(kk.fin g0 g2 _ _).sl (by decide) hL.lM⟩
 rw [e]
 exact s2.fin g0 g2 _ _
theorem CT {K:AV->Heap->Prop}:VO (Z9 PV (R PV) lo 28 args H) K=AO (R PV (.call H.n 28 args H)) fun o=>K o.val o.s.H:=Fx (by rfl) (by kernel_rfl) (by kernel_rfl) (by kernel_rfl) (by kernel_rfl)
theorem L6 {l:List Mch} {y:Mch} {w:Nm} (h:l[k]? = some y):((l.take (k+1)).filter fun m=>decide (m.poss=w)).map (·.name)=((l.take k).filter fun m=>decide (m.poss=w)).map (·.name)++(if y.poss=w then [y.name] else []):=by
 rw [take_add_one,h,filter_append,map_append];by_cases hp:y.poss=w<;>simp [hp]
theorem CU {L:RegL} (hL:LstIs H L r) (hl:ZH r) (w:Nm) :
 ∃ v H2,R PV (.call H.n 28 [.agg ((L.row tk).map AV.strip0),.str w] H)=some (.ofVal v H2)∧(∃ t,v=.ps t (Z0 ((r.within w).map (·.name)))∧ZB H.n H2 t (Z0 ((r.within w).map (·.name))) 1 9)∧Old H.n H H2:=by
 refine Zd (C:=PV) (f:=28) (lo:=H.n) (args:=[.agg ((L.row tk).map AV.strip0),.str w]) (H:=H) (fn:=Tryz.f28) (Q:=fun v H2=>(∃ t,v=.ps t (Z0 ((r.within w).map (·.name)))∧ZB H.n H2 t (Z0 ((r.within w).map (·.name))) 1 9)∧Old H.n H H2) (by kernel_rfl) Tryz.func28 rfl rfl ?_;have hm:=hl.2.2.2.2;have one0:∀ {v:AV} {sz te:Nat} {rows:List (List AV)},SL H v sz te rows→AV.one v.strip0=true∧AV.cells v.strip0=[v.strip0]:=fun h=>by
  rcases h with ⟨rfl,_⟩ | ⟨id,_,rfl,_⟩<;>exact ⟨rfl,rfl⟩
 obtain ⟨u1,c1⟩:=one0 hL.lT;obtain ⟨u2,c2⟩:=one0 hL.lF;obtain ⟨u3,c3⟩:=one0 hL.lR;obtain ⟨u4,c4⟩:=one0 hL.lP;obtain ⟨tick,trs,fls,tns,pss,mcs⟩:=r;obtain ⟨vT,vF,vR,vP,vM⟩:=L;have hsl:=hL.lM;clear hL;simp only [RegL.row,map_cons,map_nil] at u1 u2 u3 u4 c1 c2 c3 c4 ⊢;have e0:AV.strip0 (.int .i64 tk)=.int .i64 tk:=rfl;rw [e0];generalize vT.strip0=vT at *;generalize vF.strip0=vF at *;generalize vR.strip0=vR at *;generalize vP.strip0=vP at *;simp only [AV.cells] at c1 c2 c3 c4;simp only [AV.one] at u1 u2 u3 u4;unfold Reg.within;simp only at hm hsl ⊢;rcases hsl with ⟨rfl,h0⟩ | ⟨id,_,rfl,hid,hg⟩
 · have h0:mcs=[]:=map_eq_nil_iff.1 h0;subst h0;have q00:((0:Int) < 0)=False:=eq_false (by decide);simp (maxDischargeDepth:=12) only [go_sem,reduceIte,reduceEqDiff,reduceAdd,reduceMul,reduceSub,reduceLeDiff,reduceLT,Nat.reduceBEq,reduceCtorEq,u1,u2,u3,u4,c1,c2,c3,c4];refine ZP (fun k T H2 M=>M=[]∧Z1 T 2=.ptr H.n 0∧Z1 T 5=.ps .nil []∧Z1 T 6=i64 k∧H2.get H.n=.cells [.int .i64 tk,vT,vF,vR,vP,.ps .unk []] 34∧Old H.n H H2) 0 ?_ ?_ ?_
   · simp (maxDischargeDepth:=12) only [go_sem,reduceIte,reduceEqDiff,reduceAdd,reduceMul,reduceSub,reduceLeDiff,reduceLT,Nat.reduceBEq,reduceCtorEq]
     first | done | exact (Old.refl H).push _
   · intro k T H2 M hk;omega
   · rintro T H2 M ⟨rfl,g2,g5,g6,hg,ho⟩;simp (maxDischargeDepth:=12) only [go_sem,reduceIte,reduceEqDiff,reduceAdd,reduceMul,reduceSub,reduceLeDiff,reduceLT,Nat.reduceBEq,reduceCtorEq,g2,g5,g6,hg,q00];exact ⟨⟨.nil,rfl,.inl ⟨rfl,rfl⟩⟩,ho⟩
 · rw [length_map];have hlen:Len 2 (mcs.map Pos.Mch.row):=Yi (f:=Pos.Mch.row) (fun _=>rfl) _;have hfl:=Zl hlen;rw [length_map] at hfl;simp (maxDischargeDepth:=12) only [go_sem,reduceIte,reduceEqDiff,reduceAdd,reduceMul,reduceSub,reduceLeDiff,reduceLT,Nat.reduceBEq,reduceCtorEq,u1,u2,u3,u4,c1,c2,c3,c4];refine ZP (fun k T H2 M=>M=[]∧Z1 T 1=.str w∧Z1 T 2=.ptr H.n 0∧Z1 T 6=i64 k∧H.n+1≤H2.n∧H2.get H.n=.cells [.int .i64 tk,vT,vF,vR,vP,.rs id 0 mcs.length 2 none] 34∧Old H.n H H2 ∧ ∃ t,Z1 T 5=.ps t (Z0 (((mcs.take k).filter fun m=>decide (m.poss=w)).map (·.name)))∧ZB (H.n+1) H2 t (Z0 (((mcs.take k).filter fun m=>decide (m.poss=w)).map (·.name))) 1 9) mcs.length ?_ ?_ ?_
   · simp (maxDischargeDepth:=12) only [go_sem,reduceIte,reduceEqDiff,reduceAdd,reduceMul,reduceSub,reduceLeDiff,reduceLT,Nat.reduceBEq,reduceCtorEq]
     first | exact ⟨(Old.refl H).push _,.nil,rfl,.inl ⟨rfl,rfl⟩⟩ | exact ⟨Nat.le_refl _,(Old.refl H).push _,.nil,rfl,.inl ⟨rfl,rfl⟩⟩ | exact ⟨.nil,rfl,.inl ⟨rfl,rfl⟩⟩
   · rintro k T H2 M hk ⟨rfl,g1,g2,g6,hn,hg0,ho,tk',g5,hA⟩;obtain ⟨y,hy⟩:∃ y,mcs[k]? = some y:=⟨mcs[k],by simp⟩;have hrow:(mcs.map Pos.Mch.row)[k]? = some (Pos.Mch.row y):=Zy (f:=Pos.Mch.row) hy;have hgid:H2.get id=.row (mcs.map Pos.Mch.row).flatten 2 117:=(ho.2 id hid).trans hg;have hc0:=Xg (k:=0) (v:=.str y.name) hlen hrow rfl;have hc1:=Xg (k:=1) (v:=.str y.poss) hlen hrow rfl;have hst:=L6 (w:=w) hy;generalize (mcs.map Pos.Mch.row).flatten=FL at *;have hF0:k * 2+1≤FL.length:=by omega
     have hF1:k * 2+1+1≤FL.length:=by omega
     unfold ZW at hc0 hc1;rw [add_zero,if_pos hF0] at hc0;rw [if_pos hF1] at hc1;have t0:=Option.some.inj hc0;have t1:=Option.some.inj hc1;have t0':List.take 1 (List.drop (k * 2) FL)=[.str y.name]:=t0;have hw:=ZQ hk (by unfold Z2;omega);rw [hst];by_cases hp:y.poss=w
     · have b1:=Yh hp;rw [if_pos hp];obtain ⟨t',H3,ha,hB,hn1,hO1,hC1⟩:=Xm (lo:=H.n) hA hn (le_succ _) (r:=[.str y.name]) (by rw [Zv,length_map];have:=length_filter_le (fun m:Mch=>decide (m.poss=w)) (mcs.take k);rw [length_take] at this;unfold Z2;omega) rfl (by decide) (Kf _);have hmap:Z0 (((mcs.take k).filter fun m=>decide (m.poss=w)).map (·.name))++[[AV.str y.name].map AV.strip0]=Z0 (((mcs.take k).filter fun m=>decide (m.poss=w)).map (·.name)++[y.name]):=by simp [Z0,AV.strip0]
       rw [hmap] at ha hB;have hg0':=hC1 H.n _ _ (by omega) hg0;simp (maxDischargeDepth:=12) only [go_sem,reduceIte,reduceEqDiff,reduceAdd,reduceMul,reduceSub,reduceLeDiff,reduceLT,Nat.reduceBEq,reduceCtorEq,g1,g2,g6,g5,hg0,hgid,hk,hF0,hF1,t0',t1,b1,Zu,ha,hw];exact ⟨by omega,hg0',⟨by omega,fun j hj=>(hO1.2 j (by omega)).trans (ho.2 j hj)⟩,t',rfl,hB⟩
     · have b1:=Yd hp;rw [if_neg hp,append_nil];simp (maxDischargeDepth:=12) only [go_sem,reduceIte,reduceEqDiff,reduceAdd,reduceMul,reduceSub,reduceLeDiff,reduceLT,Nat.reduceBEq,reduceCtorEq,g1,g2,g6,g5,hg0,hgid,hk,hF0,hF1,t0,t1,b1,hw];exact ⟨hn,ho,tk',rfl,hA⟩
   · rintro T H2 M ⟨rfl,g1,g2,g6,hn,hg0,ho,tk',g5,hA⟩;rw [take_length] at g5 hA;simp (maxDischargeDepth:=12) only [go_sem,reduceIte,reduceEqDiff,reduceAdd,reduceMul,reduceSub,reduceLeDiff,reduceLT,Nat.reduceBEq,reduceCtorEq,g1,g2,g6,g5,hg0,Nat.lt_irrefl];refine ⟨⟨tk',rfl, ?_⟩,ho⟩;rcases hA with h | ⟨j,h1,h2,h3,h4,h5⟩
     · exact .inl h
     · exact .inr ⟨j,h1,h2,by omega,h4,h5⟩
theorem GD {f:Nat} {K:AV->Heap->Prop} (hen:VO (Z9 PV (R PV) lo f args H) K=AO (R PV (.call H.n f args H)) fun o=>K o.val o.s.H) (hR:R PV (.call H.n f args H)=some (.ofVal v H2)):VO (Z9 PV (R PV) lo f args H) K=K v H2:=by
 rw [hen,hR];rfl
theorem Keep.ofOld (h:Old H.n H H'):Keep H H' te :=
 ⟨h.1,fun i c t hi hc=>(h.2 i hi).trans hc,fun _ hs=>by
   rcases hs with hs | ⟨id,h1,h2,h3,h4⟩
   . exact .inl hs
   . exact .inr ⟨id,h1,h2,lt_of_lt_of_le h3 h.1,(h.2 id h3).trans h4⟩⟩
theorem Ki {L:RegL} {a:Pos.Act} (h:LstIs H L r) (code:Int) (hc:code ≠ 0) (kW:Keep H HW 0) (hz:HW.get (H.n+1+1)=.cells z t):Y2 H r a code tk (.tup [.agg (L.row tk),.int .i64 code]) (HW.set (H.n+1+1) (.cells u 34)):=by
 have k:=kW.set (by omega) hz (.cells u 34);refine ⟨⟨L,rfl, ?_⟩,k.le,k.cells⟩;rw [if_neg hc];exact h.keep k
theorem CV (H:Heap) (reg ev z c:List AV):(X4 H reg ev z c).n=H.n+1+1+1+1:=rfl
theorem kW3 (H:Heap) (reg ev z c:List AV) (ho:Old (X4 H reg ev z c).n (X4 H reg ev z c) H2):Keep (Zj H reg ev z) H2 0 :=
 (((Keep.refl _ 0).push _).set (by rw [XF];exact Nat.le_refl _) (by rw [Heap.get_push];exact if_pos rfl) _:Keep (Zj H reg ev z) (X4 H reg ev z c) 0).trans (Keep.ofOld ho)
theorem ZbL {L:RegL} (hL:LstIs H L r) (hl:ZH r) (hu:Zw (·.name) r.poss) (hy:r.poss? p=some y)  (htk:¬ v0 < r.tick) :
 ∃ w H2,R PV (.call 0 278 [.agg (L.row tk),.agg (Ev.row ⟨num,YZ,[p],[v0],[]⟩)] H)=some (.ofVal w H2)∧Y2 H r (Pos.Act.clear p) (okA r v0 (Pos.Act.clear p)) tk w H2:=by
 refine Zd (C:=PV) (f:=278) (lo:=0) (args:=[.agg (L.row tk),.agg (Ev.row ⟨num,YZ,[p],[v0],[]⟩)]) (H:=H) (fn:=Tryz.f278) (Q:=fun w H2=>Y2 H r (Pos.Act.clear p) (okA r v0 (Pos.Act.clear p)) tk w H2) (by kernel_rfl) Tryz.func278 rfl rfl ?_
 have hok:okA r v0 (Pos.Act.clear p)=if y.ret=true then 23 else if (!y.prot)=true then 22 else if 0 < y.pers∨r.within p ≠ [] then 32 else 0:=by
  unfold okA Yy;rw [if_neg htk];simp only [];rw [hy]
 rw [hok]
 have hA:=Qr (hL.keep (Yu H [.int .i64 tk,L.vT,L.vF,L.vR,L.vP,L.vM] [.int .i64 num,.str YZ,.ps .unk [[.str p]],.ps .unk [[.int .i64 v0]],.str []] [.int .i64 0,.ps .nil [],.ps .nil [],.ps .nil [],.ps .nil [],.ps .nil []] 0)) hl tk (c:=112) (.inr (.inr (.inr (.inl rfl)))) p
 obtain ⟨i,hi1,hi2,hi3⟩:∃ i:Nat,atL (ZO r 112) p=(i:Int)∧r.poss[i]? = some y∧i < r.poss.length:=by
  rcases XX (fun z:Pos=>z.name) p r.poss with ⟨h1,_⟩ | ⟨i,z,h1,h2,h3,h4⟩
  · have h1:r.poss? p=none:=h1
    rw [hy] at h1;cases h1
  · have h1:r.poss? p=some z:=h1
    rw [hy] at h1;cases h1
    exact ⟨i,h2,h3,h4⟩
 rw [hi1] at hA
 unfold Zj RegL.row at hA
 simp only [map_cons,map_nil,AV.strip0] at hA
 have un1:=hL.lT.under (n:=H.n+1+1+1) (by omega)
 have un2:=hL.lF.under (n:=H.n+1+1+1) (by omega)
 have un3:=hL.lR.under (n:=H.n+1+1+1) (by omega)
 have un4:=hL.lP.under (n:=H.n+1+1+1) (by omega)
 have un5:=hL.lM.under (n:=H.n+1+1+1) (by omega)
 have c1:=hL.lT.cells
 have c2:=hL.lF.cells
 have c3:=hL.lR.cells
 have c5:=hL.lM.cells
 have u1:=hL.lT.one
 have u2:=hL.lF.one
 have u3:=hL.lR.one
 have u5:=hL.lM.one
 simp only [AV.cells] at c1 c2 c3 c5
 simp only [AV.one] at u1 u2 u3 u5
 have b_out:Z6 YZ [111,117,116]=false:=rfl
 have b_raise:Z6 YZ [114,97,105,115,101]=false:=rfl
 have b_protect:Z6 YZ [112,114,111,116,101,99,116]=false:=rfl
 have b_clear:Z6 YZ [99,108,101,97,114]=true:=rfl
 have hne:r.poss.map Pos.Pos.row ≠ []:=by intro e;rw [map_eq_nil_iff] at e;rw [e] at hi3;simp at hi3
 obtain ⟨id,hv,hid,hg⟩:=hL.lP.blk hne
 rw [length_map] at hv
 have hlen:Len 10 (r.poss.map Pos.Pos.row):=Yi (f:=Pos.Pos.row) (fun _=>rfl) _
 have hrow:(r.poss.map Pos.Pos.row)[i]? = some (Pos.Pos.row y):=Zy (f:=Pos.Pos.row) hi2
 have hil:i < (r.poss.map Pos.Pos.row).length:=by rw [length_map];exact hi3
 have hat:=Zx hlen hrow
 have hfl:=Zl hlen
 have hF:i * 10+10≤(r.poss.map Pos.Pos.row).flatten.length:=by rw [hfl,length_map];omega
 have hset:=fun (R':List AV) (h:R'.length=10)=>JM (r:=R') hlen hil h
 have hname:y.name=p:=by simpa using find?_some hy
 have hupd:=fun g=>Qz (nm:=fun z:Pos=>z.name) (g:=g) hu hi2
 unfold ZW at hat
 rw [if_pos hF] at hat
 have tR:=Option.some.inj hat
 clear hat hne hil hok hi1
 have w0:ZC .i64 (Int.sub ((1:Nat):Int) 1)=0:=by kernel_rfl
 have i1:(id=H.n+1+1)=False:=eq_false (by omega)
 have i2:(id=H.n+1)=False:=eq_false (by omega)
 have i3:(id=H.n)=False:=eq_false (by omega)
 have i4:(H.n=id)=False:=eq_false (by omega)
 have i5:(H.n+1+1=id)=False:=eq_false (by omega)
 have i6:(id=H.n+1+1+1)=False:=eq_false (by omega)
 have i7:(H.n+1+1+1=id)=False:=eq_false (by omega)
 obtain ⟨vT,vF,vR,vP,vM⟩:=L
 simp only at hv
 subst hv
 obtain ⟨nm,tr,fa,tb,rt,pr,op,cl,pe,sp⟩:=y
 simp only [Pos.Pos.row] at tR
 simp only at hname
 cases rt with
 | true =>
   try simp only []
   simp (maxDischargeDepth:=12) only [go_sem,reduceEqDiff,reduceAdd,reduceSub,reduceLeDiff,reduceCtorEq,Pos.Ev.row,RegL.row,Z0,Z3,u1,u2,u3,u5,b_out,b_raise,un1,un2,un3,un4,un5,w0,hA,hi3,i1,i2,i3,hg,hF,tR]
   exact YA hL (23:Int) (by decide)
 | false =>
 try simp only []
 cases pr with
 | false =>
   try simp only [if_true,if_false,reduceIte,Bool.not_true,Bool.not_false]
   simp (maxDischargeDepth:=12) only [go_sem,reduceEqDiff,reduceAdd,reduceSub,reduceLeDiff,reduceCtorEq,Pos.Ev.row,RegL.row,Z0,Z3,u1,u2,u3,u5,b_out,b_raise,b_protect,b_clear,un1,un2,un3,un4,un5,w0,hA,hi3,i1,i2,i3,hg,hF,tR]
   exact YA hL (22:Int) (by decide)
 | true =>
 try simp only [reduceIte,Bool.not_true,Bool.not_false,false_eq_true]
 obtain ⟨mv,H2,hr,⟨mt,rfl,hmA⟩,ho⟩:=CU (tk:=tk) (hL.keep (QE H [.int .i64 tk,vT,vF,vR,.rs id 0 r.poss.length 10 none,vM] [.int .i64 num,.str YZ,.ps .unk [[.str p]],.ps .unk [[.int .i64 v0]],.str []] [.int .i64 0,.ps .nil [],.ps .nil [],.ps .nil [],.ps .nil [],.ps .nil []] [.str nm,.str tr,.int .i64 fa,.int .i64 tb,.bool false,.bool true,.bool op,.int .i64 cl,.int .i64 pe,.int .i64 sp] 0)) hl nm
 have hM:=fun K=>GD (K:=K) (lo:=0) CT hr
 unfold X4 Zj RegL.row at hM
 simp only [map_cons,map_nil,AV.strip0] at hM
 have hwl:(Z0 ((r.within nm).map (·.name))).length=(r.within nm).length:=by rw [Zv,length_map]
 have kW2:∀ te,Keep H H2 te:=fun te=>(QE H _ _ _ _ te).trans (Keep.ofOld ho)
 have z2:H2.get (H.n+1+1)=.cells [.int .i64 0,.ps .nil [],.ps .nil [],.ps .nil [],.ps .nil [],.ps .nil []] 34:=(ho.2 _ (by rw [CV];omega)).trans (JB _ _ _ _ _)
 have y2:H2.get (H.n+1+1+1)=.cells [.str nm,.str tr,.int .i64 fa,.int .i64 tb,.bool false,.bool true,.bool op,.int .i64 cl,.int .i64 pe,.int .i64 sp] 76:=(ho.2 _ (by rw [CV];omega)).trans (Kg _ _ _ _ _)
 have gid2:H2.get id=.row (r.poss.map Pos.Pos.row).flatten 10 76:=(ho.2 _ (by rw [CV];omega)).trans (Kh hid hg)
 have g02:H2.get H.n=.cells [.int .i64 tk,vT,vF,vR,.rs id 0 r.poss.length 10 none,vM] 34:=(kW3 H _ _ _ _ ho).cells _ _ _ (by rw [XF];omega) (by unfold Zj;simp (maxDischargeDepth:=12) only [go_sem])
 have g12:H2.get (H.n+1)=.cells [.int .i64 num,.str YZ,.ps .unk [[.str p]],.ps .unk [[.int .i64 v0]],.str []] 53:=(kW3 H _ _ _ _ ho).cells _ _ _ (by rw [XF];omega) (by unfold Zj;simp (maxDischargeDepth:=12) only [go_sem])
 by_cases k_32:0 < pe∨r.within p ≠ []
 · rw [if_pos k_32]
   rcases Classical.propComplete (0 < pe) with q5 | q5
   · simp (maxDischargeDepth:=12) only [go_sem,reduceEqDiff,reduceAdd,reduceSub,reduceLeDiff,reduceCtorEq,Pos.Ev.row,RegL.row,Z0,Z3,u1,u2,u3,u5,b_out,b_raise,b_protect,b_clear,un1,un2,un3,un4,un5,w0,hA,hi3,i1,i2,i3,hg,hF,tR,q5]
     exact YA hL (32:Int) (by decide)
   · have hwn:r.within nm ≠ []:=by rw [hname];rcases k_32 with h | h;exact absurd h (of_eq_false q5);exact h
     have q6:((0:Int) < ((r.within nm).length:Int))=True:=eq_true (by have:=length_pos_iff.2 hwn;omega)
     simp (maxDischargeDepth:=12) only [go_sem,reduceEqDiff,reduceAdd,reduceSub,reduceLeDiff,reduceCtorEq,Pos.Ev.row,RegL.row,Z0,Z3,u1,u2,u3,u5,b_out,b_raise,b_protect,b_clear,un1,un2,un3,un4,un5,w0,hA,hi3,i1,i2,i3,hg,hF,tR,q5,hM,q6,z2,g02]
     exact Ki hL (32:Int) (by decide) (kW2 0) z2
 rw [if_neg k_32]
 have q5:(0 < pe)=False:=eq_false (fun h=>k_32 (.inl h))
 have hwn:r.within nm=[]:=by rw [hname];exact Decidable.not_not.1 (fun h=>k_32 (.inr h))
 have q6:((0:Int) < ((r.within nm).length:Int))=False:=eq_false (by rw [hwn];simp)
 have hst:=hset [.str nm,.str tr,.int .i64 fa,.int .i64 tb,.bool false,.bool false,.bool op,.int .i64 cl,.int .i64 pe,.int .i64 sp] rfl
 unfold over at hst
 simp (maxDischargeDepth:=12) only [go_sem,reduceAdd] at hst
 simp (maxDischargeDepth:=12) only [go_sem,reduceEqDiff,reduceAdd,reduceSub,reduceLeDiff,reduceCtorEq,Pos.Ev.row,RegL.row,Z0,Z3,u1,u2,u3,u5,b_out,b_raise,b_protect,b_clear,un1,un2,un3,un4,un5,w0,hA,hi3,i1,i2,i3,i4,i5,i6,hg,hF,tR,q5,hM,q6,z2,y2,gid2,g02,hst]
 have e:(doA r r.tick (Pos.Act.clear p)).poss.map Pos.Pos.row=(r.poss.map Pos.Pos.row).set i [.str nm,.str tr,.int .i64 fa,.int .i64 tb,.bool false,.bool false,.bool op,.int .i64 cl,.int .i64 pe,.int .i64 sp]:=by
  show (YY r.poss p (fun y=>{ y with prot:=false })).map Pos.Pos.row=_
  have h:=hupd (fun y=>{ y with prot:=false })
  simp only at h
  unfold YY
  rw [← hname,← h,map_set];rfl
 exact okW hL (by rw [Heap.get_set,if_neg (by omega)];exact gid2) hid hi3 e ⟨rfl,rfl,rfl,rfl⟩ ((kW2 _).set (by omega) y2 _) (by rw [Heap.get_set,if_neg (by omega)];exact z2)
theorem ZbM {K:AV->Heap->Prop}:VO (Z9 PV (R PV) lo 29 args H) K=AO (R PV (.call H.n 29 args H)) fun o=>o.val.strip.pure=true/\K o.val.strip H:=BB (by rfl) (by kernel_rfl) (by kernel_rfl) (by kernel_rfl) (by kernel_rfl)
theorem ZbN {f:Nat} {K:AV->Heap->Prop} (hen:VO (Z9 PV (R PV) lo f args H) K=AO (R PV (.call H.n f args H)) fun o=>o.val.strip.pure=true/\K o.val.strip H) (hR:∃ H2,R PV (.call H.n f args H)=some (.ofVal v H2)) (hs:v.strip=v') (hp:v'.pure=true):VO (Z9 PV (R PV) lo f args H) K=K v' H:=by
 obtain ⟨H2,h⟩:=hR;rw [hen,h];show (v.strip.pure=true/\K v.strip H)=_;rw [hs];simp only [hp,true_and]
theorem Uu (v:AV):v.strip0.strip0=v.strip0:=by cases v<;>rfl
theorem L7:Z4 C T (.const (.string { data:=#[115,116,97,102,102] }))=some (.str Uf):=rfl
theorem L8:Z4 C T (.const (.string { data:=#[109,101,97,115,117,114,101,109,101,110,116] }))=some (.str KG):=rfl
theorem L9:Z4 C T (.const (.string { data:=#[112,114,111,116,101,99,116,105,111,110] }))=some (.str J5):=rfl
attribute [local go_sem ↓ 4000] L7 L8 L9
theorem Kj {t:Tok} {l:List Nm} (h:ZB b H t (Z0 l) 1 9) (hb:b<=H.n) (hlo:lo<=b) (hl:l.length+1<=Z2) (w:Nm) :
 ∃ t' H',Xx lo H 1 9 (.ps t (Z0 l)) [[.str w]]=some (.ps t' (Z0 (l++[w])),H')/\ZB b H' t' (Z0 (l++[w])) 1 9/\H.n<=H'.n/\(∀ i c u,i < H.n->H.get i=.cells c u->H'.get i=.cells c u):=by
 obtain ⟨t',H',h1,h2,h3,_,h5⟩:=Xm (lo:=lo) h hb hlo (r:=[.str w]) (by rw [Zv];exact hl) rfl (by decide) (Kf _);have e:Z0 l++[[AV.str w].map AV.strip0]=Z0 (l++[w]):=by simp [Z0,AV.strip0]
 rw [e] at h1 h2;exact ⟨t',H',h1,h2,h3,h5⟩
theorem ZbO {L:RegL} (hL:LstIs H L r) (hl:ZH r) (y:Pos) :
 ∃ v H2,R PV (.call H.n 29 [.agg ((L.row tk).map AV.strip0),.agg y.row] H)=some (.ofVal v H2)∧v.strip=.ps .unk (Z0 (Xf r y)):=by
 refine Zd (C:=PV) (f:=29) (lo:=H.n) (args:=[.agg ((L.row tk).map AV.strip0),.agg y.row]) (H:=H) (fn:=Tryz.f29) (Q:=fun v _=>v.strip=.ps .unk (Z0 (Xf r y))) (by kernel_rfl) Tryz.func29 rfl rfl ?_;obtain ⟨mv,H2,hr,⟨mt,rfl,hmA⟩,ho⟩:=CU (tk:=tk) (hL.keep (((Keep.refl H 0).push (.cells ((L.row tk).map AV.strip0) 34)).push (.cells y.row 76))) hl y.name;have hM:=fun K=>GD (K:=K) (lo:=H.n) CT hr
 have one0:∀ {v:AV} {sz te:Nat} {rows:List (List AV)},SL H v sz te rows→AV.one v.strip0=true∧AV.cells v.strip0=[v.strip0]∧AV.under (H.n+1+1) v.strip0=true:=fun h=>by
  rcases h with ⟨rfl,_⟩ | ⟨id,_,rfl,hid,_⟩
  · exact ⟨rfl,rfl,rfl⟩
  · refine ⟨rfl,rfl, ?_⟩;show Nat.blt id (H.n+1+1)=true;rw [blt_eq];omega
 obtain ⟨u1,c1,n1⟩:=one0 hL.lT;obtain ⟨u2,c2,n2⟩:=one0 hL.lF;obtain ⟨u3,c3,n3⟩:=one0 hL.lR;obtain ⟨u4,c4,n4⟩:=one0 hL.lP;obtain ⟨u5,c5,n5⟩:=one0 hL.lM;have s1:=Uu L.vT;have s2:=Uu L.vF;have s3:=Uu L.vR;have s4:=Uu L.vP;have s5:=Uu L.vM;have hwl:((r.within y.name).map (·.name)).length≤1000000:=by
  rw [length_map];exact Nat.le_trans (length_filter_le _ _) hl.2.2.2.2
 have e0:AV.strip0 (.int .i64 tk)=.int .i64 tk:=rfl;simp only [RegL.row,map_cons,map_nil,e0] at hM hmA ho ⊢;clear hL hl hr;obtain ⟨vT,vF,vR,vP,vM⟩:=L;simp only at u1 u2 u3 u4 u5 c1 c2 c3 c4 c5 n1 n2 n3 n4 n5 s1 s2 s3 s4 s5 hM ho ⊢;generalize vT.strip0=vT at *;generalize vF.strip0=vF at *;generalize vR.strip0=vR at *;generalize vP.strip0=vP at *;generalize vM.strip0=vM at *;simp only [AV.cells] at c1 c2 c3 c4 c5;simp only [AV.one] at u1 u2 u3 u4 u5;simp only [AV.strip0] at s1 s2 s3 s4 s5;have g1:H2.get (H.n+1)=.cells y.row 76:=(ho.2 _ (by simp)).trans (by rw [Heap.get_push];exact if_pos rfl);have hn2:H.n+2≤H2.n:=ho.1;simp only [JY] at hmA;unfold Xf;generalize ((r.within y.name).map (·.name))=W at *;obtain ⟨nm,tr,fa,tb,rt,pr,op,cl,pe,sp⟩:=y;simp only [Pos.Pos.row] at g1 hM ⊢;rcases Classical.propComplete (0 < pe) with q | q
 · rw [if_pos (of_eq_true q)];obtain ⟨t1,K1,a1,b1,l1,o1⟩:=Kj (lo:=H.n) hmA (by omega) (by omega) (by (try simp only [length_append,length_cons,length_nil]);unfold Z2;omega) Uf;have g2:=o1 (H.n+1) _ _ (by omega) g1;cases op with
   | true =>
     obtain ⟨t2,K2,a2,b2,l2,o2⟩:=Kj (lo:=H.n) b1 (by omega) (by omega) (by (try simp only [length_append,length_cons,length_nil]);unfold Z2;omega) KG;have g3:=o2 (H.n+1) _ _ (by omega) g2;cases pr with
     | true =>
       obtain ⟨t3,K3,a3,b3,l3,o3⟩:=Kj (lo:=H.n) b2 (by omega) (by omega) (by (try simp only [length_append,length_cons,length_nil]);unfold Z2;omega) J5;have g4:=o3 (H.n+1) _ _ (by omega) g3;simp (maxDischargeDepth:=12) only [go_sem,reduceEqDiff,reduceAdd,reduceMul,reduceLeDiff,reduceCtorEq,u1,u2,u3,u4,u5,s1,s2,s3,s4,s5,hM,g1,q,Zu,a1,g2,Zu,a2,g3,Zu,a3]<;>first | rfl | (simp only [append_assoc,nil_append,cons_append]<;>rfl)
     | false =>
       simp (maxDischargeDepth:=12) only [go_sem,reduceEqDiff,reduceAdd,reduceMul,reduceLeDiff,reduceCtorEq,u1,u2,u3,u4,u5,s1,s2,s3,s4,s5,hM,g1,q,Zu,a1,g2,Zu,a2,g3]<;>first | rfl | (simp only [append_assoc,nil_append,cons_append]<;>rfl)
   | false =>
     cases pr with
     | true =>
       obtain ⟨t2,K2,a2,b2,l2,o2⟩:=Kj (lo:=H.n) b1 (by omega) (by omega) (by (try simp only [length_append,length_cons,length_nil]);unfold Z2;omega) J5;have g3:=o2 (H.n+1) _ _ (by omega) g2;simp (maxDischargeDepth:=12) only [go_sem,reduceEqDiff,reduceAdd,reduceMul,reduceLeDiff,reduceCtorEq,u1,u2,u3,u4,u5,s1,s2,s3,s4,s5,hM,g1,q,Zu,a1,g2,Zu,a2]<;>first | rfl | (simp only [append_assoc,nil_append,cons_append]<;>rfl)
     | false =>
       simp (maxDischargeDepth:=12) only [go_sem,reduceEqDiff,reduceAdd,reduceMul,reduceLeDiff,reduceCtorEq,u1,u2,u3,u4,u5,s1,s2,s3,s4,s5,hM,g1,q,Zu,a1,g2]<;>first | rfl | (simp only [append_nil,append_assoc,nil_append,cons_append,if_true,if_false,false_eq_true,reduceIte]<;>rfl)
 · rw [if_neg (of_eq_false q)];cases op with
   | true =>
     obtain ⟨t1,K1,a1,b1,l1,o1⟩:=Kj (lo:=H.n) hmA (by omega) (by omega) (by (try simp only [length_append,length_cons,length_nil]);unfold Z2;omega) KG;have g2:=o1 (H.n+1) _ _ (by omega) g1;cases pr with
     | true =>
       obtain ⟨t2,K2,a2,b2,l2,o2⟩:=Kj (lo:=H.n) b1 (by omega) (by omega) (by (try simp only [length_append,length_cons,length_nil]);unfold Z2;omega) J5;have g3:=o2 (H.n+1) _ _ (by omega) g2;simp (maxDischargeDepth:=12) only [go_sem,reduceEqDiff,reduceAdd,reduceMul,reduceLeDiff,reduceCtorEq,u1,u2,u3,u4,u5,s1,s2,s3,s4,s5,hM,g1,q,Zu,a1,g2,Zu,a2]<;>first | rfl | (simp only [append_assoc,nil_append,cons_append]<;>rfl)
     | false =>
       simp (maxDischargeDepth:=12) only [go_sem,reduceEqDiff,reduceAdd,reduceMul,reduceLeDiff,reduceCtorEq,u1,u2,u3,u4,u5,s1,s2,s3,s4,s5,hM,g1,q,Zu,a1,g2]<;>first | rfl | (simp only [append_nil,append_assoc,nil_append,cons_append,if_true,if_false,false_eq_true,reduceIte]<;>rfl)
   | false =>
     cases pr with
     | true =>
       obtain ⟨t1,K1,a1,b1,l1,o1⟩:=Kj (lo:=H.n) hmA (by omega) (by omega) (by (try simp only [length_append,length_cons,length_nil]);unfold Z2;omega) J5;have g2:=o1 (H.n+1) _ _ (by omega) g1;simp (maxDischargeDepth:=12) only [go_sem,reduceEqDiff,reduceAdd,reduceMul,reduceLeDiff,reduceCtorEq,u1,u2,u3,u4,u5,s1,s2,s3,s4,s5,hM,g1,q,Zu,a1]<;>first | rfl | (simp only [append_nil,append_assoc,nil_append,cons_append,if_true,if_false,false_eq_true,reduceIte]<;>rfl)
     | false =>
       simp (maxDischargeDepth:=12) only [go_sem,reduceEqDiff,reduceAdd,reduceLeDiff,reduceCtorEq,u1,u2,u3,u4,u5,s1,s2,s3,s4,s5,hM,g1,q]<;>first | rfl | (simp only [append_nil,append_assoc,nil_append,cons_append,if_true,if_false,false_eq_true,reduceIte]<;>rfl)
end Go.Sim

namespace Go.Sim
theorem ZbP (r:Reg) (y:Pos):(Xf r y=[]) ↔ ¬ (r.within y.name ≠ []\/0 < y.pers\/y.opn=true\/y.prot=true):=by
 unfold Xf;obtain ⟨nm,tr,fa,tb,rt,pr,op,cl,pe,sp⟩:=y;simp only [append_eq_nil_iff,map_eq_nil_iff];by_cases h1:r.within nm=[]<;>by_cases h2:0 < pe<;>cases op<;>cases pr<;>simp [h1,h2]
theorem ZbQ {L:RegL} (hL:LstIs H L r) (hl:ZH r) (hu:Zw (·.name) r.poss) (hy:r.poss? p=some y)  (htk:¬ v0 < r.tick) :
 ∃ w H2,R PV (.call 0 278 [.agg (L.row tk),.agg (Ev.row ⟨num,Y7,[p],[v0],[]⟩)] H)=some (.ofVal w H2)∧Y2 H r (Pos.Act.ret p) (okA r v0 (Pos.Act.ret p)) tk w H2:=by
 refine Zd (C:=PV) (f:=278) (lo:=0) (args:=[.agg (L.row tk),.agg (Ev.row ⟨num,Y7,[p],[v0],[]⟩)]) (H:=H) (fn:=Tryz.f278) (Q:=fun w H2=>Y2 H r (Pos.Act.ret p) (okA r v0 (Pos.Act.ret p)) tk w H2) (by kernel_rfl) Tryz.func278 rfl rfl ?_
 have hok:okA r v0 (Pos.Act.ret p)=if y.ret=true then 23 else if r.within p ≠ []∨0 < y.pers∨y.opn=true∨y.prot=true then 32 else if y.closed=0 then 7 else 0:=by
  unfold okA Yy;rw [if_neg htk];simp only [];rw [hy]
 rw [hok]
 have hA:=Qr (hL.keep (Yu H [.int .i64 tk,L.vT,L.vF,L.vR,L.vP,L.vM] [.int .i64 num,.str Y7,.ps .unk [[.str p]],.ps .unk [[.int .i64 v0]],.str []] [.int .i64 0,.ps .nil [],.ps .nil [],.ps .nil [],.ps .nil [],.ps .nil []] 0)) hl tk (c:=112) (.inr (.inr (.inr (.inl rfl)))) p
 obtain ⟨i,hi1,hi2,hi3⟩:∃ i:Nat,atL (ZO r 112) p=(i:Int)∧r.poss[i]? = some y∧i < r.poss.length:=by
  rcases XX (fun z:Pos=>z.name) p r.poss with ⟨h1,_⟩ | ⟨i,z,h1,h2,h3,h4⟩
  · have h1:r.poss? p=none:=h1
    rw [hy] at h1;cases h1
  · have h1:r.poss? p=some z:=h1
    rw [hy] at h1;cases h1
    exact ⟨i,h2,h3,h4⟩
 rw [hi1] at hA
 unfold Zj RegL.row at hA
 simp only [map_cons,map_nil,AV.strip0] at hA
 have un1:=hL.lT.under (n:=H.n+1+1+1) (by omega)
 have un2:=hL.lF.under (n:=H.n+1+1+1) (by omega)
 have un3:=hL.lR.under (n:=H.n+1+1+1) (by omega)
 have un4:=hL.lP.under (n:=H.n+1+1+1) (by omega)
 have un5:=hL.lM.under (n:=H.n+1+1+1) (by omega)
 have c1:=hL.lT.cells
 have c2:=hL.lF.cells
 have c3:=hL.lR.cells
 have c5:=hL.lM.cells
 have u1:=hL.lT.one
 have u2:=hL.lF.one
 have u3:=hL.lR.one
 have u5:=hL.lM.one
 simp only [AV.cells] at c1 c2 c3 c5
 simp only [AV.one] at u1 u2 u3 u5
 have b_out:Z6 Y7 [111,117,116]=false:=rfl
 have b_raise:Z6 Y7 [114,97,105,115,101]=false:=rfl
 have b_protect:Z6 Y7 [112,114,111,116,101,99,116]=false:=rfl
 have b_clear:Z6 Y7 [99,108,101,97,114]=false:=rfl
 have b_in:Z6 Y7 [105,110]=false:=rfl
 have b_staff:Z6 Y7 [115,116,97,102,102]=false:=rfl
 have b_off:Z6 Y7 [111,102,102]=false:=rfl
 have b_open:Z6 Y7 [111,112,101,110]=false:=rfl
 have b_close:Z6 Y7 [99,108,111,115,101]=false:=rfl
 have hne:r.poss.map Pos.Pos.row ≠ []:=by intro e;rw [map_eq_nil_iff] at e;rw [e] at hi3;simp at hi3
 obtain ⟨id,hv,hid,hg⟩:=hL.lP.blk hne
 rw [length_map] at hv
 have hlen:Len 10 (r.poss.map Pos.Pos.row):=Yi (f:=Pos.Pos.row) (fun _=>rfl) _
 have hrow:(r.poss.map Pos.Pos.row)[i]? = some (Pos.Pos.row y):=Zy (f:=Pos.Pos.row) hi2
 have hil:i < (r.poss.map Pos.Pos.row).length:=by rw [length_map];exact hi3
 have hat:=Zx hlen hrow
 have hfl:=Zl hlen
 have hF:i * 10+10≤(r.poss.map Pos.Pos.row).flatten.length:=by rw [hfl,length_map];omega
 have hset:=fun (R':List AV) (h:R'.length=10)=>JM (r:=R') hlen hil h
 have hname:y.name=p:=by simpa using find?_some hy
 have hupd:=fun g=>Qz (nm:=fun z:Pos=>z.name) (g:=g) hu hi2
 unfold ZW at hat
 rw [if_pos hF] at hat
 have tR:=Option.some.inj hat
 clear hat hne hil hok hi1
 have w0:ZC .i64 (Int.sub ((1:Nat):Int) 1)=0:=by kernel_rfl
 have i1:(id=H.n+1+1)=False:=eq_false (by omega)
 have i2:(id=H.n+1)=False:=eq_false (by omega)
 have i3:(id=H.n)=False:=eq_false (by omega)
 have i4:(H.n=id)=False:=eq_false (by omega)
 have i5:(H.n+1+1=id)=False:=eq_false (by omega)
 have i6:(id=H.n+1+1+1)=False:=eq_false (by omega)
 have i7:(H.n+1+1+1=id)=False:=eq_false (by omega)
 obtain ⟨vT,vF,vR,vP,vM⟩:=L
 simp only at hv
 subst hv
 obtain ⟨nm,tr,fa,tb,rt,pr,op,cl,pe,sp⟩:=y
 simp only [Pos.Pos.row] at tR
 simp only at hname
 cases rt with
 | true =>
   try simp only []
   simp (maxDischargeDepth:=12) only [go_sem,reduceEqDiff,reduceAdd,reduceSub,reduceLeDiff,reduceCtorEq,Pos.Ev.row,RegL.row,Z0,Z3,u1,u2,u3,u5,b_out,b_raise,un1,un2,un3,un4,un5,w0,hA,hi3,i1,i2,i3,hg,hF,tR]
   exact YA hL (23:Int) (by decide)
 | false =>
 try simp only []
 obtain ⟨bv,H2,hr,hs⟩:=ZbO (tk:=tk) (hL.keep (QE H [.int .i64 tk,vT,vF,vR,.rs id 0 r.poss.length 10 none,vM] [.int .i64 num,.str Y7,.ps .unk [[.str p]],.ps .unk [[.int .i64 v0]],.str []] [.int .i64 0,.ps .nil [],.ps .nil [],.ps .nil [],.ps .nil [],.ps .nil []] [.str nm,.str tr,.int .i64 fa,.int .i64 tb,.bool false,.bool pr,.bool op,.int .i64 cl,.int .i64 pe,.int .i64 sp] 0)) hl ⟨nm,tr,fa,tb,false,pr,op,cl,pe,sp⟩
 have hM:=fun K=>ZbN (K:=K) (lo:=0) ZbM ⟨H2,hr⟩ hs rfl
 have hiff:=ZbP r ⟨nm,tr,fa,tb,false,pr,op,cl,pe,sp⟩
 simp only at hiff
 unfold X4 Zj RegL.row at hM
 simp only [map_cons,map_nil,AV.strip0,Pos.Pos.row] at hM
 generalize Xf r ⟨nm,tr,fa,tb,false,pr,op,cl,pe,sp⟩=W at *
 rw [hname] at hiff
 by_cases k_32:r.within p ≠ []∨0 < pe∨op=true∨pr=true
 · rw [if_pos k_32]
   have hW:W ≠ []:=fun h=>(hiff.1 h) k_32
   have q6:((0:Int) < (W.length:Int))=True:=eq_true (by have:=length_pos_iff.2 hW;omega)
   simp (maxDischargeDepth:=12) only [go_sem,reduceEqDiff,reduceAdd,reduceSub,reduceLeDiff,reduceCtorEq,Pos.Ev.row,RegL.row,Z0,Z3,u1,u2,u3,u5,b_out,b_raise,b_protect,b_clear,b_in,b_staff,b_off,b_open,b_close,un1,un2,un3,un4,un5,w0,hA,hi3,i1,i2,i3,hg,hF,tR,hM,q6]
   exact YA hL (32:Int) (by decide)
 rw [if_neg k_32]
 have hW:W=[]:=hiff.2 k_32
 have q6:((0:Int) < (W.length:Int))=False:=eq_false (by rw [hW];simp)
 by_cases k_7:cl=0
 · rw [if_pos k_7]
   have q7:(cl=0)=True:=eq_true k_7
   simp (maxDischargeDepth:=12) only [go_sem,reduceEqDiff,reduceAdd,reduceSub,reduceLeDiff,reduceCtorEq,Pos.Ev.row,RegL.row,Z0,Z3,u1,u2,u3,u5,b_out,b_raise,b_protect,b_clear,b_in,b_staff,b_off,b_open,b_close,un1,un2,un3,un4,un5,w0,hA,hi3,i1,i2,i3,hg,hF,tR,hM,q6,q7]
   exact YA hL (7:Int) (by decide)
 rw [if_neg k_7]
 have q7:(cl=0)=False:=eq_false k_7
 have hst:=hset [.str nm,.str tr,.int .i64 fa,.int .i64 tb,.bool true,.bool pr,.bool op,.int .i64 cl,.int .i64 pe,.int .i64 sp] rfl
 unfold over at hst
 simp (maxDischargeDepth:=12) only [go_sem,reduceAdd] at hst
 simp (maxDischargeDepth:=12) only [go_sem,reduceEqDiff,reduceAdd,reduceSub,reduceLeDiff,reduceCtorEq,Pos.Ev.row,RegL.row,Z0,Z3,u1,u2,u3,u5,b_out,b_raise,b_protect,b_clear,b_in,b_staff,b_off,b_open,b_close,un1,un2,un3,un4,un5,w0,hA,hi3,i1,i2,i3,i4,i5,i6,hg,hF,tR,hM,q6,q7,hst]
 have e:(doA r r.tick (Pos.Act.ret p)).poss.map Pos.Pos.row=(r.poss.map Pos.Pos.row).set i [.str nm,.str tr,.int .i64 fa,.int .i64 tb,.bool true,.bool pr,.bool op,.int .i64 cl,.int .i64 pe,.int .i64 sp]:=by
  show (YY r.poss p (fun y=>{ y with ret:=true })).map Pos.Pos.row=_
  have h:=hupd (fun y=>{ y with ret:=true })
  simp only at h
  unfold YY
  rw [← hname,← h,map_set];rfl
 exact okW hL (by rw [Heap.get_set,if_neg (by omega)];exact Kh hid hg) hid hi3 e ⟨rfl,rfl,rfl,rfl⟩ ((QE _ _ _ _ _ _).set (by omega) (Kg _ _ _ _ _) _) (by rw [Heap.get_set,if_neg (by omega)];exact JB _ _ _ _ _)
end Go.Sim
