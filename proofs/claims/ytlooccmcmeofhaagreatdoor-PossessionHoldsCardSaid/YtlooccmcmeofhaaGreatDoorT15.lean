/-
Lemmas of one proof, the texts Lay2 to Lg1 joined.
-/
import Derived.Test.YtlooccmcmeofhaaGreatDoorT14
import Derived.Shelf.Small.Strs
import Derived.Shelf.Strings.Search3
import Derived.Shelf.Strings.Count
import Derived.Test.YtlooccmcmeofhaaGreatDoorProg
set_option linter.unusedSimpArgs false
set_option linter.unusedVariables false
open Nat (reduceEqDiff reduceAdd reduceMul reduceSub reduceLeDiff reduceLT)
set_option maxRecDepth 100000
set_option maxHeartbeats 32000000
noncomputable section
open Go Go.Proofs
open Bool (or_eq_true)
open List (all_cons all_eq_true any_cons append_assoc append_nil count_cons drop_left' drop_of_length_le drop_zero flatten_cons length_append length_cons length_map map_cons map_map mem_cons mem_flatten mem_map mem_singleton nil_append not_mem_nil take_left' take_zero)
open Nat (ble_eq mul_le_mul zero_add zero_le)
open Option (isNone_none)
open Go.Sim.Pos (Ev Flt Len Mch Nm Pos Qy Reg Trk Trn X2 XD Xc Xd Xp Xq Y1 Y7 YE YF YO YT YZ Yb Yc Yz ZJ ZM ZT ZZ Zl Zx)
variable {H:Go.Sim.Heap} {N id lo sz:Nat} {cap:Option Nat} {cs:List Go.Sim.AV} {e:Go.TypeId} {l:List Go.Sim.Pos.Nm} {rows:List (List Go.Sim.AV)}

namespace Go.Proofs
def Tryz.lays143_ren:Go.Shelf.Ren:=⟨fun | 143=>250 | 219=>280 | 217=>311 | 225=>312 | 224=>313 | 267=>314 | 266=>330 | 314=>331 | n=>n,fun | 9=>9 | 3=>3 | 4=>4 | 5=>5 | 46=>315 | 146=>382 | 51=>357 | n=>n,fun | 1=>0 | n=>n⟩
theorem Tryz.lays143:Go.Proofs.Lays.n143 Tryz.prog Tryz.lays143_ren:={
 mixed:=by kernel_rfl
 f143:=Tryz.func250.trans (congrArg some (by kernel_rfl))
 f217:=Tryz.func311.trans (congrArg some (by kernel_rfl))
 f219:=Tryz.func280.trans (congrArg some (by kernel_rfl))
 f224:=Tryz.func313.trans (congrArg some (by kernel_rfl))
 f225:=Tryz.func312.trans (congrArg some (by kernel_rfl))
 f266:=Tryz.func330.trans (congrArg some (by kernel_rfl))
 f267:=Tryz.func314.trans (congrArg some (by kernel_rfl))
 f314:=Tryz.func331.trans (congrArg some (by kernel_rfl))
 t3:=Tryz.underlying3
 a3:=Tryz.isAgg3
 z3:=Tryz.sizeOf3
 v3:=Tryz.zeroValue3
 t4:=Tryz.underlying4
 a4:=Tryz.isAgg4
 z4:=Tryz.sizeOf4
 v4:=Tryz.zeroValue4
 t5:=Tryz.underlying5
 a5:=Tryz.isAgg5
 z5:=Tryz.sizeOf5
 v5:=Tryz.zeroValue5
 t9:=Tryz.underlying9
 a9:=Tryz.isAgg9
 z9:=Tryz.sizeOf9
 v9:=Tryz.zeroValue9
 t46:=Tryz.underlying315
 a46:=Tryz.isAgg315
 z46:=Tryz.sizeOf315
 v46:=Tryz.zeroValue315
 t51:=Tryz.underlying357
 a51:=Tryz.isAgg357
 z51:=Tryz.sizeOf357
 v51:=Tryz.zeroValue357
 t146:=Tryz.underlying382
 a146:=Tryz.isAgg382
 z146:=Tryz.sizeOf382
 v146:=Tryz.zeroValue382
 g1:=by kernel_rfl }
open Go.RowKit Go.Lib in
theorem Tryz.strings_Index_one (s:ByteArray) (c:UInt8) (w:World) :
 Calls Tryz.prog 250 #[.string s,.string ⟨#[c]⟩] w fun e w'=>e=.returned (.int .i64 (Lib.indexByte s.data.toList c))/\w'=w:=Any.strings_Index_one Tryz.lays143 s c w
open Go.RowKit Go.Lib in
theorem Tryz.stringslite_Index_one (s:ByteArray) (c:UInt8) (w:World) :
 Calls Tryz.prog 280 #[.string s,.string ⟨#[c]⟩] w fun e w'=>e=.returned (.int .i64 (Lib.indexByte s.data.toList c))/\w'=w:=Any.stringslite_Index_one (ρ:=Tryz.lays143_ren) { Tryz.lays143 with } s c w
def Tryz.lays138_ren:Go.Shelf.Ren:=⟨fun | 138=>249 | 195=>303 | 218=>305 | 143=>250 | 219=>280 | 217=>311 | 225=>312 | 224=>313 | 267=>314 | 266=>330 | 314=>331 | n=>n,fun | 9=>9 | 3=>3 | 4=>4 | 5=>5 | 0=>0 | 46=>315 | 146=>382 | 51=>357 | n=>n,fun | 1=>0 | n=>n⟩
theorem Tryz.lays138:Go.Proofs.Lays.n138 Tryz.prog Tryz.lays138_ren:={
 mixed:=by kernel_rfl
 f138:=Tryz.func249.trans (congrArg some (by kernel_rfl))
 f143:=Tryz.func250.trans (congrArg some (by kernel_rfl))
 f195:=Tryz.func303.trans (congrArg some (by kernel_rfl))
 f217:=Tryz.func311.trans (congrArg some (by kernel_rfl))
 f218:=Tryz.func305.trans (congrArg some (by kernel_rfl))
 f219:=Tryz.func280.trans (congrArg some (by kernel_rfl))
 f224:=Tryz.func313.trans (congrArg some (by kernel_rfl))
 f225:=Tryz.func312.trans (congrArg some (by kernel_rfl))
 f266:=Tryz.func330.trans (congrArg some (by kernel_rfl))
 f267:=Tryz.func314.trans (congrArg some (by kernel_rfl))
 f314:=Tryz.func331.trans (congrArg some (by kernel_rfl))
 t0:=Tryz.underlying0
 a0:=Tryz.isAgg0
 z0:=Tryz.sizeOf0
 v0:=Tryz.zeroValue0
 t3:=Tryz.underlying3
 a3:=Tryz.isAgg3
 z3:=Tryz.sizeOf3
 v3:=Tryz.zeroValue3
 t4:=Tryz.underlying4
 a4:=Tryz.isAgg4
 z4:=Tryz.sizeOf4
 v4:=Tryz.zeroValue4
 t5:=Tryz.underlying5
 a5:=Tryz.isAgg5
 z5:=Tryz.sizeOf5
 v5:=Tryz.zeroValue5
 t9:=Tryz.underlying9
 a9:=Tryz.isAgg9
 z9:=Tryz.sizeOf9
 v9:=Tryz.zeroValue9
 t46:=Tryz.underlying315
 a46:=Tryz.isAgg315
 z46:=Tryz.sizeOf315
 v46:=Tryz.zeroValue315
 t51:=Tryz.underlying357
 a51:=Tryz.isAgg357
 z51:=Tryz.sizeOf357
 v51:=Tryz.zeroValue357
 t146:=Tryz.underlying382
 a146:=Tryz.isAgg382
 z146:=Tryz.sizeOf382
 v146:=Tryz.zeroValue382
 g1:=by kernel_rfl }
open Go.RowKit Go.Lib in
theorem Tryz.strings_Count_one (s:ByteArray) (c:UInt8) (w:World) :
 Calls Tryz.prog 249 #[.string s,.string ⟨#[c]⟩] w fun e w'=>e=.returned (.int .i64 (Lib.countByte s.data.toList c))/\w'=w:=Any.strings_Count_one Tryz.lays138 s c w
end Go.Proofs

namespace Go.Sim
theorem Z5R (k:Nm) (n:Nat):(Qy k=none/\lkS k (J6 n)=none) \/ ∃ a b nm f1 l1 f2 l2,Qy k=some (a,b)/\lkS k (J6 n)=some (.agg [.str nm,i64 (b:Nat),.fn f1 [] l1,.fn f2 [] l2])/\nm.length=a:=by
 by_cases h0:k=Xp
 . subst h0;exact .inr ⟨_,_,_,_,_,_,_,rfl,rfl,rfl⟩
 by_cases h1:k=Xc
 . subst h1;exact .inr ⟨_,_,_,_,_,_,_,rfl,rfl,rfl⟩
 by_cases h2:k=YE
 . subst h2;exact .inr ⟨_,_,_,_,_,_,_,rfl,rfl,rfl⟩
 by_cases h3:k=Yz
 . subst h3;exact .inr ⟨_,_,_,_,_,_,_,rfl,rfl,rfl⟩
 by_cases h4:k=ZZ
 . subst h4;exact .inr ⟨_,_,_,_,_,_,_,rfl,rfl,rfl⟩
 by_cases h5:k=Yb
 . subst h5;exact .inr ⟨_,_,_,_,_,_,_,rfl,rfl,rfl⟩
 by_cases h6:k=Yc
 . subst h6;exact .inr ⟨_,_,_,_,_,_,_,rfl,rfl,rfl⟩
 by_cases h7:k=Xq
 . subst h7;exact .inr ⟨_,_,_,_,_,_,_,rfl,rfl,rfl⟩
 by_cases h8:k=YZ
 . subst h8;exact .inr ⟨_,_,_,_,_,_,_,rfl,rfl,rfl⟩
 by_cases h9:k=Pos.kIn
 . subst h9;exact .inr ⟨_,_,_,_,_,_,_,rfl,rfl,rfl⟩
 by_cases h10:k=Xd
 . subst h10;exact .inr ⟨_,_,_,_,_,_,_,rfl,rfl,rfl⟩
 by_cases h11:k=X2
 . subst h11;exact .inr ⟨_,_,_,_,_,_,_,rfl,rfl,rfl⟩
 by_cases h12:k=YT
 . subst h12;exact .inr ⟨_,_,_,_,_,_,_,rfl,rfl,rfl⟩
 by_cases h13:k=YO
 . subst h13;exact .inr ⟨_,_,_,_,_,_,_,rfl,rfl,rfl⟩
 by_cases h14:k=YF
 . subst h14;exact .inr ⟨_,_,_,_,_,_,_,rfl,rfl,rfl⟩
 by_cases h15:k=Y7
 . subst h15;exact .inr ⟨_,_,_,_,_,_,_,rfl,rfl,rfl⟩
 by_cases h16:k=XD
 . subst h16;exact .inr ⟨_,_,_,_,_,_,_,rfl,rfl,rfl⟩
 by_cases h17:k=ZJ
 . subst h17;exact .inr ⟨_,_,_,_,_,_,_,rfl,rfl,rfl⟩
 refine .inl ⟨?_, ?_⟩
 . unfold Qy;simp only [h0,h1,h2,h3,h4,h5,h6,h7,h8,h9,h10,h11,h12,h13,h14,h15,h16,h17,if_false]
 . unfold J6;simp only [lkS,h0,h1,h2,h3,h4,h5,h6,h7,h8,h9,h10,h11,h12,h13,h14,h15,h16,h17,if_false]
theorem Gl (n:Nat):∀ x ∈ J6 n,∃ k,x.1=.str k:=by
 intro x hx;unfold J6 at hx;simp only [mem_cons,not_mem_nil,or_false] at hx;rcases hx with h | h | h | h | h | h | h | h | h | h | h | h | h | h | h | h | h | h<;>subst h<;>exact ⟨_,rfl⟩
theorem Z5S (l:List Nm):Zc (l.map Q4)=if l.all Z7=false then 8 else 0:=by
 induction l with
 | nil=>rfl
 | cons a r ih =>
   rw [map_cons,all_cons];show (if Q4 a=0 then Zc (r.map Q4) else Q4 a)=_
   rw [ih];cases h:Z7 a<;>simp [Q4,Z5,h]
theorem Z5T (l:List Int):Zc (l.map Q5)=if l.any (fun v=>decide (v < 0) || decide (999999999 < v))=true then 3 else 0:=by
 induction l with
 | nil=>rfl
 | cons a r ih =>
   rw [map_cons,any_cons];show (if Q5 a=0 then Zc (r.map Q5) else Q5 a)=_
   rw [ih];cases h:(decide (a < 0) || decide (999999999 < a))<;>simp [Q5,ZU,Z5,h]
def chkA (e:Ev):Int:=Zc [ZU e.num 1 1000,Z5 (Qy e.kind).isNone 13,match Qy e.kind with
 | none=>0
 | some (a,b)=>Z5 (decide (e.names.length ≠ a) || decide (e.vals.length ≠ b)) 2]
def chkB (e:Ev):Int:=Zc [Zc (e.names.map Q4),Zc (e.vals.map Q5),Z5 (!decide (e.text=[])) 1]
theorem Z5U (e:Ev):Y1 Z7 e=if chkA e=0 then chkB e else chkA e:=by
 unfold Y1 chkA chkB;rw [Z5S,Z5T];by_cases h1:e.num < 1\/1000 < e.num
 . rw [if_pos h1];have:ZU e.num 1 1000=3:=by
    unfold ZU Z5;rcases h1 with h | h<;>simp [h]
   simp [this,Zc]
 rw [if_neg h1];have h1:ZU e.num 1 1000=0:=by
  unfold ZU Z5;simp;omega
 rw [h1];cases hf:Qy e.kind with
 | none=>simp [Zc,Z5]
 | some x =>
   obtain ⟨a,b⟩:=x;simp only [Option.isNone_some];by_cases h2:e.names.length ≠ a\/e.vals.length ≠ b
   . rw [if_pos h2];have:(decide (e.names.length ≠ a) || decide (e.vals.length ≠ b))=true:=by
      rw [or_eq_true,decide_eq_true_eq,decide_eq_true_eq];exact h2
     rw [this];simp [Zc,Z5]
   . rw [if_neg h2];have:(decide (e.names.length ≠ a) || decide (e.vals.length ≠ b))=false:=by simpa using h2
     simp only [Zc,Z5,this];by_cases h3:e.names.all Z7=false<;>by_cases h4:(e.vals.any fun v=>decide (v < 0) || decide (999999999 < v))=true<;>by_cases h5:e.text=[]<;>simp [h3,h4,h5]
def Jt:PF:=Zo 132 p132 (Zo 129 p129 (Zo 87 p87 (Zo 88 p88 (Zo 125 Ka (fun _=>none)))))
theorem Z5V:PrimsOk NC Jt:=Yn (Yn (Pa (Pa (Pa (ZK) Cc) Ug) Hu) (by kernel_rfl) (by kernel_rfl) Z5H) (by kernel_rfl) (by kernel_rfl) Z5K
theorem Z5W:En Jt 125 Ka:=ZA (by rfl) (by kernel_rfl)
theorem Z5X:En Jt 88 p88:=ZA (by rfl) (by kernel_rfl)
theorem Z5Y:En Jt 87 p87:=ZA (by rfl) (by kernel_rfl)
theorem Z5Z:En Jt 129 p129:=ZA (by rfl) (by kernel_rfl)
theorem Z60:En Jt 132 p132:=ZA (by rfl) (by kernel_rfl)
attribute [go_sem ↓] Z5W Z5X Z5Y Z5Z Z60
theorem c57 (e:Ev) (hp:e.names.length<=Z2/\e.vals.length<=Z2):∀ lo H,Za NC lo 57 [.agg e.row] H (i64 (Y1 Z7 e)) H:=by
 refine Cn Z5V Tryz.func57 rfl rfl ?_;obtain ⟨hn,hv⟩:=hp;obtain ⟨num,kind,names,vals,text⟩:=e;obtain ⟨H',hr,hn',hk,hF⟩:=Uj (P:=Jt) (by rfl) (by rfl) 1 (Heap.empty.push (.cells (Pos.Ev.row ⟨num,kind,names,vals,text⟩) 53)) (Nat.le_refl _);have hlk:=(Gk hF.map (Gl _) kind).1;have hb:H'.get 0=.cells (Pos.Ev.row ⟨num,kind,names,vals,text⟩) 53:=by rw [hk 0 (by show 0 < 1;decide),Heap.get_push];exact if_pos rfl
 have hn1:(Heap.empty.push (.cells (Pos.Ev.row ⟨num,kind,names,vals,text⟩) 53)).n=1:=rfl;rw [hn1] at hr hn' hlk;have hn2:H'.n=18:=hn';simp only [Pos.Ev.row] at hr hb;simp only at hn hv;have hlen:∀ a b:Nat,((a:Int)=(b:Int))=(a=b):=fun a b=>by simp only [eq_iff_iff];omega
 have hspec:=Z5U ⟨num,kind,names,vals,text⟩;unfold chkA chkB at hspec;simp only at hspec;rcases Z5R kind 1 with ⟨hf,hl⟩ | ⟨a,b,nm,f1,l1,f2,l2,hf,hl,rfl⟩
 . rw [hl] at hlk;simp only [hf,isNone_none] at hspec;rw [hspec];have hz:Zc [ZU num 1 1000,Z5 true 13,0] ≠ 0:=by
    unfold Zc;split
    . decide
    . assumption
   have hz':∀ x,Zc [ZU num 1 1000,Z5 true 13,x]=Zc [ZU num 1 1000,Z5 true 13,0]:=fun x=>by
    unfold Zc;split
    . rfl
    . rfl
   rw [if_neg hz];rcases Classical.propComplete ((names.length:Int)=0) with c1 | c1<;>rcases Classical.propComplete ((vals.length:Int)=0) with c2 | c2
   all_goals
    simp (maxDischargeDepth:=12) only [go_sem,reduceEqDiff,reduceAdd,reduceMul,reduceSub,reduceLeDiff,reduceLT,reduceCtorEq,Js (P:=Jt) rfl,Pos.Ev.row,hr,hb,hlk,hn2,Zv,Yo,hz',hz,c1,c2]
 . rw [hl] at hlk;simp only [hf,Option.isNone_some] at hspec;obtain ⟨G,hG⟩:∃ G,Zc [ZU num 1 1000,Z5 false 13,Z5 (decide (names.length ≠ nm.length) || decide (vals.length ≠ b)) 2]=G:=⟨_,rfl⟩;rw [hG] at hspec;rcases Classical.propComplete (names.length=nm.length) with c1 | c1<;>rcases Classical.propComplete (vals.length=b) with c2 | c2
   all_goals
    simp only [c1,c2,ne_eq,not_true_eq_false,not_false_eq_true,decide_true,decide_false,Bool.or_true,Bool.or_false] at hG;by_cases h0:G=0
    . rw [if_pos h0] at hspec;rw [hspec];subst h0;simp (maxDischargeDepth:=12) only [go_sem,reduceEqDiff,reduceAdd,reduceMul,reduceSub,reduceLeDiff,reduceLT,reduceCtorEq,Js (P:=Jt) rfl,Pos.Ev.row,hr,hb,hlk,hn2,Zv,Yo,length_map,hlen,hn,hv,hG,c1,c2,Ys]
    . rw [if_neg h0] at hspec;rw [hspec];simp (maxDischargeDepth:=12) only [go_sem,reduceEqDiff,reduceAdd,reduceMul,reduceSub,reduceLeDiff,reduceLT,reduceCtorEq,Js (P:=Jt) rfl,Pos.Ev.row,hr,hb,hlk,hn2,Zv,Yo,hlen,hG,h0,c1,c2]
def p57:List AV->Option AV:=ZG (α:=(Ev)) (fun x=>[.agg x.row]) (fun x=>x.names.length<=Z2/\x.vals.length<=Z2) (fun x=>i64 (Y1 Z7 x))
theorem pok57:Pok p57 57:=by
 intro args v h;obtain ⟨x,rfl,hp,rfl⟩:=ZL h;exact c57 x hp
theorem pe57 (e:Ev) (hp:e.names.length<=Z2/\e.vals.length<=Z2):p57 [.agg e.row]=some (.int .i64 (Y1 Z7 e)):=ZN (by intro x y h;(simp only [List.cons.injEq,AV.agg.injEq,Pos.Ev.row_inj,and_true] at h;first | simpa only [Prod.ext_iff] using h | simpa only [Prod.ext_iff,and_assoc] using h)) e hp
attribute [go_sem] pe57
section
variable {C:Cfg} {rec:Rec} {fid lo:Nat} {T:TT AV} {H:Heap} {K:AV->Heap->Prop} {d:Option Tmp} {t:TypeId} {p:String} {af:Array Edge} {gd:Option (Nat × Bool)}
theorem Z61 (t':TypeId) (l c:Operand) :
 VO (aop C rec fid lo ⟨d,.makeSlice t' l c,t,p,af,gd⟩ T H) K=AO (Z4 C T l) fun x=>AO (Z4 C T c) fun y=>VO (Jd C.P H t' x y) K:=by
 simp only [aop];cases Z4 C T l with
 | none=>rfl
 | some x=>cases Z4 C T c<;>rfl
theorem Z62 (a b:Operand) (ts tx:TypeId) :
 VO (aop C rec fid lo ⟨d,.call ⟨.builtin .copy,#[a,b],#[ts,tx]⟩,t,p,af,gd⟩ T H) K=AO (Z4 C T a) fun x=>AO (Z4 C T b) fun y=>VO (Je C.P lo H ts x y) K:=by
 simp only [aop,YV,Y4];cases Z4 C T a with
 | none=>rfl
 | some x=>cases Z4 C T b<;>rfl
end
attribute [go_sem ↓] Z61 Z62
theorem HT {H:Heap} {t:TypeId} {z:AV} {b:Nat} (hel:Yk NC.P t=some e) (hsz:Zf NC.P e=some sz) (hby:YR NC.P e=some b) (hz:ZF NC.P e=some z) (hzl:z.cells.length=sz) (hb:b<=131072) (h0:0 < sz) (h:N<=Z2) :
 Jd NC.P H t (.int .i64 (N:Nat)) (.int .i64 (N:Nat))=some (.rs H.n 0 N sz (some N),H.push (.cells (List.replicate N z.cells).flatten e)):=by
 have h1:b * N<=140737488355328:=Nat.le_trans (mul_le_mul hb h) (by unfold Z2;decide);unfold Jd;have e1:∀ x:Nat,(AV.int .i64 (x:Int))=AV.int .i64 (.ofNat x):=fun _=>rfl
 simp only [hel,hsz,hby,hz,e1,Nat.le_refl,h1,h,h0,hzl,decide_true,Bool.and_self,if_true]
theorem Z63 {vs:List AV} (h:cs.length=vs.length):over cs 0 vs=vs:=by
 unfold over;rw [take_zero,nil_append,zero_add,drop_of_length_le (by omega),append_nil]
theorem Z64 (h:Len sz rows):rows.all (fun r=>decide (r.length=sz))=true:=by
 rw [all_eq_true];intro r hr;simp [h r hr]
theorem HU {lo:Nat} {H:Heap} {t e':TypeId} {tok:Tok} (hel:Yk NC.P t=some e) (hsz:Zf NC.P e=some sz) (hg:H.get id=.cells cs e') (hc:cs.length=N * sz) (hN:rows.length=N) (hr:Len sz rows) (ho:rows.flatten.all AV.one=true) (hlo:lo<=id) :
 Je NC.P lo H t (.rs id 0 N sz cap) (.ps tok rows)=some (.int .i64 (N:Nat),H.set id (.cells rows.flatten e')):=by
 have hf:=Zl hr;have hle:0+rows.flatten.length<=cs.length:=by rw [hf,hN,hc];omega
 have hov:=Z63 (cs:=cs) (vs:=rows.flatten) (by rw [hf,hN,hc]);unfold Je;simp only [hel,hsz,XZ,Z64 hr,if_true,hlo,decide_true,hN,Nat.le_refl,ho,Bool.and_self,hg,Q8,hle,hov]
theorem Gm {sz:Nat}:∀ {rows:List (List AV)} (cs:List AV),Len sz rows->XY sz rows.length (rows.flatten++cs)=some rows
 | [],_,_=>rfl
 | r::l,cs,h=>by
   have hr:=h r (by simp);have ih:=Gm (rows:=l) cs fun x hx=>h x (by simp [hx])
   rw [length_cons,flatten_cons,append_assoc];unfold XY;rw [if_pos (by rw [length_append];omega),drop_left' hr,ih,take_left' hr]
theorem HV {lo:Nat} {H:Heap} {b:ABlk} (hb:b=H.get id) (hc:Xw b=some (rows.flatten++cs)) (hr:Len sz rows) (hp:rows.all Q0=true) (hs:rows.map (List.map AV.strip0)=rows) (hlo:lo<=id) :
 QI lo H (.rs id 0 rows.length sz cap)=some (.ps .unk rows,H.set id .dead):=by
 have hf:=Zl hr;have hrd:YB H (.ptr id 0) (rows.length * sz)=some rows.flatten:=by
  unfold YB;simp only;rw [<- hb,hc];unfold ZW;simp only;rw [if_pos (by rw [length_append,hf];omega),drop_zero,<- hf,take_left' rfl]
 have hch:XY sz rows.length rows.flatten=some rows:=by
  have:=Gm (rows:=rows) [] hr
  rwa [append_nil] at this
 unfold QI;simp only [hlo,decide_true,if_true,hrd,hch,hp,hs]
theorem HX (l:List Nm):Len 1 (Z0 l):=fun r hr=>by
 obtain ⟨x,_,rfl⟩:=mem_map.1 hr;rfl
theorem HY (l:List Int):Len 1 (Z3 l):=fun r hr=>by
 obtain ⟨x,_,rfl⟩:=mem_map.1 hr;rfl
theorem Z65 (l:List Nm):(Z0 l).all Q0=true:=by
 rw [all_eq_true];intro r hr;obtain ⟨x,_,rfl⟩:=mem_map.1 hr;rfl
theorem Z66 (l:List Int):(Z3 l).all Q0=true:=by
 rw [all_eq_true];intro r hr;obtain ⟨x,_,rfl⟩:=mem_map.1 hr;rfl
theorem Z67 (l:List Nm):(Z0 l).map (List.map AV.strip0)=Z0 l:=by
 unfold Z0;rw [map_map];rfl
theorem Z68 (l:List Int):(Z3 l).map (List.map AV.strip0)=Z3 l:=by
 unfold Z3;rw [map_map];rfl
theorem Z69 (l:List Nm):(Z0 l).flatten.all AV.one=true:=by
 rw [all_eq_true];intro x hx;obtain ⟨r,hr,hx⟩:=mem_flatten.1 hx;obtain ⟨y,_,rfl⟩:=mem_map.1 hr;rw [mem_singleton.1 hx];rfl
theorem Z6a (l:List Int):(Z3 l).flatten.all AV.one=true:=by
 rw [all_eq_true];intro x hx;obtain ⟨r,hr,hx⟩:=mem_flatten.1 hx;obtain ⟨y,_,rfl⟩:=mem_map.1 hr;rw [mem_singleton.1 hx];rfl
theorem mkS (h:N<=Z2):Jd NC.P H 50 (.int .i64 (N:Nat)) (.int .i64 (N:Nat))=some (.rs H.n 0 N 1 (some N),H.push (.cells (List.replicate N [AV.str []]).flatten 9)) :=
 HT (b:=16) (z:=.str []) (by kernel_rfl) (by kernel_rfl) (by kernel_rfl) (by kernel_rfl) rfl (by decide) (by decide) h
theorem mkI (h:N<=Z2):Jd NC.P H 51 (.int .i64 (N:Nat)) (.int .i64 (N:Nat))=some (.rs H.n 0 N 1 (some N),H.push (.cells (List.replicate N [AV.int .i64 0]).flatten 3)) :=
 HT (b:=8) (z:=.int .i64 0) (by kernel_rfl) (by kernel_rfl) (by kernel_rfl) (by kernel_rfl) rfl (by decide) (by decide) h
theorem rep_len (n:Nat) (v:AV):(List.replicate n [v]).flatten.length=n * 1:=by simp
theorem cpS (hg:H.get id=.cells (List.replicate l.length [AV.str []]).flatten 9) (hlo:lo<=id):Je NC.P lo H 50 (.rs id 0 l.length 1 cap) (.ps .unk (Z0 l))=some (.int .i64 (l.length:Nat),H.set id (.cells (Z0 l).flatten 9)) :=
 HU (e:=9) (by kernel_rfl) (by kernel_rfl) hg (rep_len _ _) (Zv l) (HX l) (Z69 l) hlo
theorem cpI {l:List Int} (hg:H.get id=.cells (List.replicate l.length [AV.int .i64 0]).flatten 3) (hlo:lo<=id):Je NC.P lo H 51 (.rs id 0 l.length 1 cap) (.ps .unk (Z3 l))=some (.int .i64 (l.length:Nat),H.set id (.cells (Z3 l).flatten 3)) :=
 HU (e:=3) (by kernel_rfl) (by kernel_rfl) hg (rep_len _ _) (Yo l) (HY l) (Z6a l) hlo
theorem Z6b (lo:Nat) (H:Heap) (k:IntKind) (n:Int):QI lo H (.int k n)=some (.int k n,H):=rfl
theorem Z6c (lo:Nat) (H:Heap) (s:List Nat):QI lo H (.str s)=some (.str s,H):=rfl
theorem frzS (hc:Xw (H.get id)=some (Z0 l).flatten) (hlo:lo<=id):QI lo H (.rs id 0 l.length 1 cap)=some (.ps .unk (Z0 l),H.set id .dead):=by
 have:=HV (lo:=lo) (H:=H) (id:=id) (cap:=cap) (cs:=[]) rfl (by rw [append_nil];exact hc) (HX l) (Z65 l) (Z67 l) hlo
 rwa [Zv] at this
theorem frzI {l:List Int} (hc:Xw (H.get id)=some (Z3 l).flatten) (hlo:lo<=id):QI lo H (.rs id 0 l.length 1 cap)=some (.ps .unk (Z3 l),H.set id .dead):=by
 have:=HV (lo:=lo) (H:=H) (id:=id) (cap:=cap) (cs:=[]) rfl (by rw [append_nil];exact hc) (HY l) (Z66 l) (Z68 l) hlo
 rwa [Yo] at this
def PPF76:PF:=fun _=>none
theorem Z6d:PrimsOk NC PPF76:=ZK
theorem c76 (e:Ev) (hp:e.names.length<=Z2/\e.vals.length<=Z2):∀ lo H,Za NC lo 76 [.agg e.row] H (.agg e.row) H:=by
 refine PX KE Z6d (fn:=Tryz.f76) (by kernel_rfl) Tryz.func76 rfl rfl (by rfl) (by first | rfl | (split<;>first | rfl | (split<;>rfl))) ?_;obtain ⟨hn,hv⟩:=hp;obtain ⟨num,kind,names,vals,text⟩:=e;simp only at hn hv;have m1:=fun (H:Heap)=>mkS (H:=H) hn
 have m2:=fun (H:Heap)=>mkI (H:=H) hv
 have c1:∀ {H:Heap},H.get 2=.cells (List.replicate names.length [AV.str []]).flatten 9->Je NC.P 0 H 50 (.rs 2 0 names.length 1 (some names.length)) (.ps .unk (Z0 names))=some (.int .i64 (names.length:Nat),H.set 2 (.cells (Z0 names).flatten 9)):=fun hg=>cpS hg (zero_le _)
 have c2:∀ {H:Heap},H.get 3=.cells (List.replicate vals.length [AV.int .i64 0]).flatten 3->Je NC.P 0 H 51 (.rs 3 0 vals.length 1 (some vals.length)) (.ps .unk (Z3 vals))=some (.int .i64 (vals.length:Nat),H.set 3 (.cells (Z3 vals).flatten 3)):=fun hg=>cpI hg (zero_le _)
 simp (maxDischargeDepth:=12) only [go_sem,reduceEqDiff,reduceAdd,reduceSub,reduceLeDiff,reduceCtorEq,Pos.Ev.row,Zv,Yo,m1,m2,c1,c2];simp (maxDischargeDepth:=12) only [go_sem,reduceAdd,KB,U6,Vd,Z6b,Z6c,frzS,frzI];exact ⟨_,_,rfl,rfl⟩
def p76:List AV->Option AV:=ZG (α:=(Ev)) (fun x=>[.agg x.row]) (fun x=>x.names.length<=Z2/\x.vals.length<=Z2) (fun x=>.agg x.row)
theorem pok76:Pok p76 76:=by
 intro args v h;obtain ⟨x,rfl,hp,rfl⟩:=ZL h;exact c76 x hp
theorem pe76 (e:Ev) (hp:e.names.length<=Z2/\e.vals.length<=Z2):p76 [.agg e.row]=some (.agg e.row):=ZN (by intro x y h;(simp only [List.cons.injEq,AV.agg.injEq,Pos.Ev.row_inj,and_true] at h;first | simpa only [Prod.ext_iff] using h | simpa only [Prod.ext_iff,and_assoc] using h)) e hp
attribute [go_sem] pe76
def Pos.spanI (a b:Int):Int:=Z5 (!decide (a < b) || decide (100000000 < b)) 14
def HZ:PF:=Zo 88 p88 (fun _=>none)
theorem Z6e:PrimsOk NC HZ:=Pa (ZK) Ug
theorem Z6f:En HZ 88 p88:=ZA (by rfl) (by kernel_rfl)
attribute [go_sem ↓] Z6f
theorem c157 (e:Ev) (hp:3<=e.vals.length):∀ lo H,Za NC lo 157 [.agg e.row] H (.tup [.agg [i64 (e.vals.getD 1 0),i64 (e.vals.getD 2 0)],i64 (Pos.spanI (e.vals.getD 1 0) (e.vals.getD 2 0))]) H:=by
 refine Cn Z6e Tryz.func157 rfl rfl ?_;obtain ⟨num,kind,names,vals,text⟩:=e
 match vals,hp with
 | tk::a::b::r,_ =>
   have e1:(Z3 (tk::a::b::r))[1]? = some [.int .i64 a]:=rfl;have e2:(Z3 (tk::a::b::r))[2]? = some [.int .i64 b]:=rfl;have e3:(1 < (Z3 (tk::a::b::r)).length)=True:=by simp [Z3]
   have e4:(2 < (Z3 (tk::a::b::r)).length)=True:=by simp [Z3]
   have e5:YI (Z3 (tk::a::b::r)).length (.int .i64 2)=some 2:=by
    have:YI (Z3 (tk::a::b::r)).length (.int .i64 2)=if 2 < (Z3 (tk::a::b::r)).length then some 2 else none:=rfl
    rw [this,if_pos (of_eq_true e4)]
   by_cases h1:a < b<;>by_cases h2:100000000 < b
   all_goals
    simp (maxDischargeDepth:=12) only [go_sem,reduceEqDiff,reduceAdd,reduceSub,reduceLeDiff,reduceCtorEq,Pos.Ev.row,e1,e2,e3,e5,h1,h2];simp [Pos.spanI,h1,h2]
def p157:List AV->Option AV:=ZG (α:=(Ev)) (fun x=>[.agg x.row]) (fun x=>3<=x.vals.length) (fun x=>.tup [.agg [i64 (x.vals.getD 1 0),i64 (x.vals.getD 2 0)],i64 (Pos.spanI (x.vals.getD 1 0) (x.vals.getD 2 0))])
theorem Z6g:Pok p157 157:=by
 intro args v h;obtain ⟨x,rfl,hp,rfl⟩:=ZL h;exact c157 x hp
theorem Uk (e:Ev) (hp:3<=e.vals.length):p157 [.agg e.row]=some (.tup [.agg [.int .i64 (e.vals.getD 1 0),.int .i64 (e.vals.getD 2 0)],.int .i64 (Pos.spanI (e.vals.getD 1 0) (e.vals.getD 2 0))]):=ZN (by intro x y h;(simp only [List.cons.injEq,AV.agg.injEq,Pos.Ev.row_inj,and_true] at h;first | simpa only [Prod.ext_iff] using h | simpa only [Prod.ext_iff,and_assoc] using h)) e hp
attribute [go_sem] Uk
end Go.Sim

namespace Go.Sim
open Go Go.Proofs Go.Shelf Go.RowKit
theorem I0 (a b:UInt8):(a == b)=decide (a.toNat=b.toNat):=by
 rw [Bool.eq_iff_iff,beq_iff_eq,decide_eq_true_eq];exact UInt8.toNat_inj.symm
theorem Ci (c:UInt8):∀ l:List UInt8,Lib.indexByte l c=JI c.toNat (X9 l)
 | []=>rfl
 | b::l=>by
   have ih:=Ci c l;have hn:X9 (b::l)=b.toNat::X9 l:=rfl;unfold Lib.indexByte;rw [hn];unfold JI;rw [ih,I0];by_cases h:b.toNat=c.toNat
   . simp [h]
   . by_cases h2:JI c.toNat (X9 l) = -1<;>simp [h,h2]
theorem I1 (c:UInt8):∀ l:List UInt8,Lib.countByte l c=Ua c.toNat (X9 l)
 | []=>rfl
 | b::l=>by
   have ih:=I1 c l;have hn:X9 (b::l)=b.toNat::X9 l:=rfl;rw [hn];unfold Lib.countByte at ih ⊢;unfold Ua;rw [count_cons,ih,I0];by_cases h:b.toNat=c.toNat<;>simp [h]<;>omega
theorem Cj {b:ByteArray} {c:Nat} (h:b.data.toList.map UInt8.toNat=[c]):∃ u:UInt8,b=⟨#[u]⟩/\u.toNat=c:=by
 obtain ⟨⟨l⟩⟩:=b
 match l,h with
 | [u],h=>exact ⟨u,rfl,by simpa using h⟩
def p250:List AV->Option AV
 | [.str s,.str [c]]=>some (.int .i64 (JI c s))
 | _=>none
theorem Z6h:Pok p250 250:=by
 intro args v h lo H;unfold p250 at h;split at h
 . rename_i s c
   simp at h;subst h;refine ⟨⟨Tryz.f250,Tryz.func250,rfl,by kernel_rfl⟩,fun g w cargs hR ha => ?_⟩;obtain ⟨x,y,rfl,hx,hy⟩:=Gc ha;cases hx with
   | str hx =>
   cases hy with
   | str hy =>
   obtain ⟨u,rfl,rfl⟩:=Cj hy;show CallsIn Fence.wide 0 Tryz.prog 250 _ w _;rw [callsIn_wide];refine (Tryz.strings_Index_one _ u w).mono ?_;rintro e w' ⟨rfl,rfl⟩;refine ZI.same hR ?_;rw [Ci];subst hx;exact .int _ _
 . cases h
theorem pe250 (s:List Nat) (c:Nat):p250 [.str s,.str [c]]=some (.int .i64 (JI c s)):=rfl
attribute [go_sem] pe250
def p280:List AV->Option AV
 | [.str s,.str [c]]=>some (.int .i64 (JI c s))
 | _=>none
theorem Z6i:Pok p280 280:=by
 intro args v h lo H;unfold p280 at h;split at h
 . rename_i s c
   simp at h;subst h;refine ⟨⟨Tryz.f280,Tryz.func280,rfl,by kernel_rfl⟩,fun g w cargs hR ha => ?_⟩;obtain ⟨x,y,rfl,hx,hy⟩:=Gc ha;cases hx with
   | str hx =>
   cases hy with
   | str hy =>
   obtain ⟨u,rfl,rfl⟩:=Cj hy;show CallsIn Fence.wide 0 Tryz.prog 280 _ w _;rw [callsIn_wide];refine (Tryz.stringslite_Index_one _ u w).mono ?_;rintro e w' ⟨rfl,rfl⟩;refine ZI.same hR ?_;rw [Ci];subst hx;exact .int _ _
 . cases h
theorem pe280 (s:List Nat) (c:Nat):p280 [.str s,.str [c]]=some (.int .i64 (JI c s)):=rfl
attribute [go_sem] pe280
def p249:List AV->Option AV
 | [.str s,.str [c]]=>some (.int .i64 (((Ua c s:Nat):Int)))
 | _=>none
theorem Z6j:Pok p249 249:=by
 intro args v h lo H;unfold p249 at h;split at h
 . rename_i s c
   simp at h;subst h;refine ⟨⟨Tryz.f249,Tryz.func249,rfl,by kernel_rfl⟩,fun g w cargs hR ha => ?_⟩;obtain ⟨x,y,rfl,hx,hy⟩:=Gc ha;cases hx with
   | str hx =>
   cases hy with
   | str hy =>
   obtain ⟨u,rfl,rfl⟩:=Cj hy;show CallsIn Fence.wide 0 Tryz.prog 249 _ w _;rw [callsIn_wide];refine (Tryz.strings_Count_one _ u w).mono ?_;rintro e w' ⟨rfl,rfl⟩;refine ZI.same hR ?_;rw [I1];subst hx;exact .int _ _
 . cases h
theorem pe249 (s:List Nat) (c:Nat):p249 [.str s,.str [c]]=some (.int .i64 (((Ua c s:Nat):Int))):=rfl
attribute [go_sem] pe249
end Go.Sim

namespace Go.Sim
theorem kLF:Ks #[10] [10]:=rfl
theorem kSP:Ks #[32] [32]:=rfl
attribute [go_sem] kLF kSP
theorem Z6k {C:Cfg} {rec:Rec} {fid:Nat} {T:TT AV} {K:AV->Heap->Prop} {d:Option Tmp} {t:TypeId} {p:String} {af:Array Edge} {gd:Option (Nat × Bool)} (t':TypeId) (l c:Operand) :
 VO (aop C rec fid lo ⟨d,.makeSlice t' l c,t,p,af,gd⟩ T H) K=AO (Z4 C T l) fun x=>AO (Z4 C T c) fun y=>VO (Jd C.P H t' x y) K:=by
 simp only [aop];cases Z4 C T l with
 | none=>rfl
 | some x=>cases Z4 C T c<;>rfl
attribute [go_sem ↓] Z6k
theorem I3 {x:Int} (h1:0<=x) (h2:x<=255):ZC .u8 x=x:=by
 have:inK .u8 x=true:=by
  cases x with
  | ofNat n=>simp only [inK,QT,ble_eq];simp at h2;omega
  | negSucc n=>omega
 unfold ZC;rw [this];rfl
end Go.Sim
