/-
The parts NetP6, NetP7, NetR1, NetQ1, NetQ2, NetM1, NetR2, NetR3, NetApp, NetF1, NetD1, NetD2, NetAwake, NetZ1, NetFacts2, NetI0, NetI1, NetG1, NetV1, NetV2, NetN1, NetN2, NetW2, NetFacts3, NetV3, NetX1, NetW3, NetG2, NetF4, NetV4, NetV5, NetV6, NetV7 of one proof, joined: each begins with a remark that says what it shows.
-/
import Derived.Test.YtepaopekeidlmaaGreatDoorT13
import GoSem.Step
set_option linter.unusedSimpArgs false
set_option linter.unusedVariables false
open Nat (reduceEqDiff reduceAdd reduceMul reduceSub reduceLeDiff reduceLT)

/-
The program: Addressed, Placed.
-/
namespace Go.Sim
open Go Go.Proofs
set_option maxRecDepth 100000
set_option maxHeartbeats 8000000
noncomputable def p100:List AV→Option AV:=primOf (α:=Net × List Nat × Int) (fun x=>[.agg x.1.cells,.agg [.str x.2.1,i64 x.2.2]]) (fun x=>x.1.Ok) (fun x=>i64 (placeP x.1 x.2.1 x.2.2))
theorem pok100:∀ args v,p100 args=some v → ∀ lo H,CallOk NC lo 100 args H v H:=by
 intro args v h
 obtain ⟨x,rfl,hp,rfl⟩:=primOf_inv h
 clear h
 revert x
 intro x hx;exact c100 x.1 x.2.1 x.2.2 hx
theorem pe100 (x:Net × List Nat × Int) (hp:(fun x=>x.1.Ok) x):p100 ((fun x=>[.agg x.1.cells,.agg [.str x.2.1,i64 x.2.2]]) x)=some ((fun x=>i64 (placeP x.1 x.2.1 x.2.2)) x):=primOf_enc (by intro x y h;(obtain ⟨a,b,c⟩:=x;obtain ⟨d,e,f⟩:=y;simp only [List.cons.injEq,AV.agg.injEq,AV.str.injEq,AV.int.injEq,true_and,and_true] at h;obtain ⟨h1,rfl,rfl⟩:=h;rw [Net.cells_inj _ _ h1])) x hp
noncomputable def PPK:FuncId→Option (List AV→Option AV):=addPrim 100 p100 (PPJ)
theorem primsK:PrimsOk NC PPK:=primsOk_add (primsJ) (by kernel_rfl) (by kernel_rfl) pok100
theorem enK_48:En PPK 48 p48:=enter_prim (by rfl) (by kernel_rfl)
theorem enK_121:En PPK 121 p121:=enter_prim (by rfl) (by kernel_rfl)
theorem enK_34:En PPK 34 p34:=enter_prim (by rfl) (by kernel_rfl)
theorem enK_111:En PPK 111 p111:=enter_prim (by rfl) (by kernel_rfl)
theorem enK_26:En PPK 26 p26:=enter_prim (by rfl) (by kernel_rfl)
theorem enK_178:En PPK 178 p178:=enter_prim (by rfl) (by kernel_rfl)
theorem enK_109:En PPK 109 p109:=enter_prim (by rfl) (by kernel_rfl)
theorem enK_108:En PPK 108 p108:=enter_prim (by rfl) (by kernel_rfl)
theorem enK_27:En PPK 27 p27:=enter_prim (by rfl) (by kernel_rfl)
theorem enK_97:En PPK 97 p97:=enter_prim (by rfl) (by kernel_rfl)
theorem enK_122:En PPK 122 p122:=enter_prim (by rfl) (by kernel_rfl)
theorem enK_182:En PPK 182 p182:=enter_prim (by rfl) (by kernel_rfl)
theorem enK_35:En PPK 35 p35:=enter_prim (by rfl) (by kernel_rfl)
theorem enK_115:En PPK 115 p115:=enter_prim (by rfl) (by kernel_rfl)
theorem enK_36:En PPK 36 p36:=enter_prim (by rfl) (by kernel_rfl)
theorem enK_120:En PPK 120 p120:=enter_prim (by rfl) (by kernel_rfl)
theorem enK_106:En PPK 106 p106:=enter_prim (by rfl) (by kernel_rfl)
theorem enK_179:En PPK 179 p179:=enter_prim (by rfl) (by kernel_rfl)
theorem enK_126:En PPK 126 p126:=enter_prim (by rfl) (by kernel_rfl)
theorem enK_103:En PPK 103 p103:=enter_prim (by rfl) (by kernel_rfl)
theorem enK_104:En PPK 104 p104:=enter_prim (by rfl) (by kernel_rfl)
theorem enK_105:En PPK 105 p105:=enter_prim (by rfl) (by kernel_rfl)
theorem enK_99:En PPK 99 p99:=enter_prim (by rfl) (by kernel_rfl)
theorem enK_226:En PPK 226 p226:=enter_prim (by rfl) (by kernel_rfl)
theorem enK_134:En PPK 134 p134:=enter_prim (by rfl) (by kernel_rfl)
theorem enK_177:En PPK 177 p177:=enter_prim (by rfl) (by kernel_rfl)
theorem enK_180:En PPK 180 p180:=enter_prim (by rfl) (by kernel_rfl)
theorem enK_98:En PPK 98 p98:=enter_prim (by rfl) (by kernel_rfl)
theorem enK_181:En PPK 181 p181:=enter_prim (by rfl) (by kernel_rfl)
theorem enK_183:En PPK 183 p183:=enter_prim (by rfl) (by kernel_rfl)
theorem enK_110:En PPK 110 p110:=enter_prim (by rfl) (by kernel_rfl)
theorem enK_112:En PPK 112 p112:=enter_prim (by rfl) (by kernel_rfl)
theorem enK_113:En PPK 113 p113:=enter_prim (by rfl) (by kernel_rfl)
theorem enK_29:En PPK 29 p29:=enter_prim (by rfl) (by kernel_rfl)
theorem enK_100:En PPK 100 p100:=enter_prim (by rfl) (by kernel_rfl)
attribute [go_sem ↓] enK_48 enK_121 enK_34 enK_111 enK_26 enK_178 enK_109 enK_108 enK_27 enK_97 enK_122 enK_182
attribute [go_sem ↓] enK_35 enK_115 enK_36 enK_120 enK_106 enK_179 enK_126 enK_103 enK_104 enK_105 enK_99 enK_226
attribute [go_sem ↓] enK_134 enK_177 enK_180 enK_98 enK_181 enK_183 enK_110 enK_112 enK_113 enK_29 enK_100
def addrK (l:Ln) (m:Int):Nat→Int × Int
 | 0=>(0,0)
 | k+1=>match l.ps[k]? with
   | none=>addrK l m k
   | some p=>if !decide (m < begI l k) && decide (m < begI l (k+1)) then ((k:Int),wrapq .i64 (Int.add p.post (wrapq .i64 (Int.mul (stepI p.back) (wrapq .i64 (Int.sub m (begI l k))))))) else addrK l m k
theorem c101 (n:Net) (s:List Nat) (m:Int) (hn:n.Ok):∀ lo H,CallOk NC lo 101 [.agg n.cells,.agg [.str s,i64 m]] H (.agg [.str s,i64 (addrK (lnOf n.lines s) m (lnOf n.lines s).ps.length).1,i64 (addrK (lnOf n.lines s) m (lnOf n.lines s).ps.length).2]) H:=by
 refine contract saneNC primsK (fn:=Tryz.f101) (by kernel_rfl) Tryz.func101 rfl rfl (by rfl) (by rfl) ?_
 have e98:=pe98 (n,s) hn.lines
 have hfit:(lnOf n.lines s).ps.length≤maxRows:=lnOf_fits fun l hl=>(hn.line l hl).2
 simp only [Net.cells,Ln.row,i64] at e98
 generalize lnOf n.lines s=l at e98 hfit ⊢
 generalize lnB n.lines s=B at e98
 have r:=fun lo H=>r176 (P:=PPK) lo l H
 simp only [Ln.row] at r
 simp only [go_sem,reduceIte,reduceEqDiff,reduceAdd,reduceMul,reduceSub,reduceLeDiff,reduceLT,Nat.reduceBEq,reduceCtorEq,Net.cells,Ln.row,e98,en176 rfl (show PPK 176=none from rfl),r,ofVal_v,ofVal_H]
 refine W_pieces (l:=l) (c:=6) rfl hfit (Nat.zero_le _) (by simp only [go_sem,reduceIte,reduceEqDiff,reduceAdd,reduceMul,reduceSub,reduceLeDiff,reduceLT,Nat.reduceBEq,reduceCtorEq]) (by simp only [go_sem,reduceIte,reduceEqDiff,reduceAdd,reduceMul,reduceSub,reduceLeDiff,reduceLT,Nat.reduceBEq,reduceCtorEq]) (fun k i=>match i with | 0=>.cells n.cells 40 | 1=>.cells [.str s,i64 m] 45 | 2=>.cells [.str [],i64 0,i64 0] 42 | 3=>.cells l.row 196 | 4=>.cells [.str s,i64 (addrK l m k).1,i64 (addrK l m k).2] 42 | 5=>.cells [i64 k] 3 | 6=>.cells l.row 196 | _=>.dead) (fun _ _=>False) ?_ (fun k=>rfl) ?_ ?_ ?_
 · intro i hi
   simp only [go_sem,reduceIte,reduceEqDiff,reduceAdd,reduceMul,reduceSub,reduceLeDiff,reduceLT,Nat.reduceBEq,reduceCtorEq] at hi
   match i,hi with
   | 0,_=>simp only [go_sem,reduceIte,reduceEqDiff,reduceAdd,reduceMul,reduceSub,reduceLeDiff,reduceLT,Nat.reduceBEq,reduceCtorEq]<;>rfl
   | 1,_=>simp only [go_sem,reduceIte,reduceEqDiff,reduceAdd,reduceMul,reduceSub,reduceLeDiff,reduceLT,Nat.reduceBEq,reduceCtorEq]<;>rfl
   | 2,_=>simp only [go_sem,reduceIte,reduceEqDiff,reduceAdd,reduceMul,reduceSub,reduceLeDiff,reduceLT,Nat.reduceBEq,reduceCtorEq]<;>rfl
   | 3,_=>simp only [go_sem,reduceIte,reduceEqDiff,reduceAdd,reduceMul,reduceSub,reduceLeDiff,reduceLT,Nat.reduceBEq,reduceCtorEq]<;>rfl
   | 4,_=>simp only [go_sem,reduceIte,reduceEqDiff,reduceAdd,reduceMul,reduceSub,reduceLeDiff,reduceLT,Nat.reduceBEq,reduceCtorEq]<;>rfl
   | 5,_=>simp only [go_sem,reduceIte,reduceEqDiff,reduceAdd,reduceMul,reduceSub,reduceLeDiff,reduceLT,Nat.reduceBEq,reduceCtorEq]<;>rfl
   | 6,_=>simp only [go_sem,reduceIte,reduceEqDiff,reduceAdd,reduceMul,reduceSub,reduceLeDiff,reduceLT,Nat.reduceBEq,reduceCtorEq]<;>rfl
   | i+7,hi=>omega
 · intro k p Hk q hp hq hB
   simp only [go_sem,reduceIte,reduceEqDiff,reduceAdd,reduceMul,reduceSub,reduceLeDiff,reduceLT,Nat.reduceBEq,reduceCtorEq] at hq hB
   have h1:=hB 1 (by omega)
   have h4:=hB 4 (by omega)
   have h5:=hB 5 (by omega)
   have hbs:=begI_succ hp
   have hw:=wrap_succ (List.getElem?_eq_some_iff.1 hp).1 hfit
   obtain ⟨pl,pq,pb⟩:=p
   simp only at h1 h4 h5 hbs
   simp only [go_sem,reduceIte,reduceEqDiff,reduceAdd,reduceMul,reduceSub,reduceLeDiff,reduceLT,Nat.reduceBEq,reduceCtorEq,Pc.row,hq]
   refine ⟨fun j _ hj=>by rw [if_neg (by omega),if_neg (by omega)],fun r => ?_⟩
   rcases Classical.propComplete (m < begI l k) with c1 | c1<;>rcases Classical.propComplete (m < begI l (k+1)) with c2 | c2<;>simp only [go_sem,reduceIte,reduceEqDiff,reduceAdd,reduceMul,reduceSub,reduceLeDiff,reduceLT,Nat.reduceBEq,reduceCtorEq,hq,h1,h4,h5,← hbs,e178,hw,c1,c2]
   all_goals
    refine ⟨by omega,fun j h3 hj hj2 => ?_,fun i hi => ?_⟩
    · repeat (rw [if_neg (by omega)])
    · match i,hi with
      | 0,_=>simp [hB 0 (by omega)]
      | 1,_=>simp [hB 1 (by omega)]
      | 2,_=>simp [hB 2 (by omega)]
      | 3,_=>simp [hB 3 (by omega)]
      | 4,_=>simp [h4,addrK,hp,c1,c2]
      | 5,_=>simp
      | 6,_=>simp [hB 6 (by omega)]
      | i+7,hi=>omega
 · intro H4 hB hd
   simp only [go_sem,reduceIte,reduceEqDiff,reduceAdd,reduceMul,reduceSub,reduceLeDiff,reduceLT,Nat.reduceBEq,reduceCtorEq] at hB hd
   have h4:=hB 4 (by omega)
   have h2:=hB 2 (by omega)
   simp only at h4 h2
   simp only [go_sem,reduceIte,reduceEqDiff,reduceAdd,reduceMul,reduceSub,reduceLeDiff,reduceLT,Nat.reduceBEq,reduceCtorEq,h2,h4,hd,shutMarks_cons]
 · intro e H3 H4 _ h
   exact h.elim
end Go.Sim

/-
The program: Placed; the calls that check first.
-/
namespace Go.Sim
open Go Go.Proofs
set_option maxRecDepth 100000
set_option maxHeartbeats 8000000
noncomputable def p101:List AV→Option AV:=primOf (α:=Net × List Nat × Int) (fun x=>[.agg x.1.cells,.agg [.str x.2.1,i64 x.2.2]]) (fun x=>x.1.Ok) (fun x=>.agg [.str x.2.1,i64 (addrK (lnOf x.1.lines x.2.1) x.2.2 (lnOf x.1.lines x.2.1).ps.length).1,i64 (addrK (lnOf x.1.lines x.2.1) x.2.2 (lnOf x.1.lines x.2.1).ps.length).2])
theorem pok101:∀ args v,p101 args=some v → ∀ lo H,CallOk NC lo 101 args H v H:=by
 intro args v h
 obtain ⟨x,rfl,hp,rfl⟩:=primOf_inv h
 clear h
 revert x
 intro x hx;exact c101 x.1 x.2.1 x.2.2 hx
noncomputable def PPL:FuncId→Option (List AV→Option AV):=addPrim 101 p101 (PPK)
theorem primsL:PrimsOk NC PPL:=primsOk_add (primsK) (by kernel_rfl) (by kernel_rfl) pok101
theorem enL_48:En PPL 48 p48:=enter_prim (by rfl) (by kernel_rfl)
theorem enL_121:En PPL 121 p121:=enter_prim (by rfl) (by kernel_rfl)
theorem enL_34:En PPL 34 p34:=enter_prim (by rfl) (by kernel_rfl)
theorem enL_111:En PPL 111 p111:=enter_prim (by rfl) (by kernel_rfl)
theorem enL_26:En PPL 26 p26:=enter_prim (by rfl) (by kernel_rfl)
theorem enL_178:En PPL 178 p178:=enter_prim (by rfl) (by kernel_rfl)
theorem enL_109:En PPL 109 p109:=enter_prim (by rfl) (by kernel_rfl)
theorem enL_108:En PPL 108 p108:=enter_prim (by rfl) (by kernel_rfl)
theorem enL_27:En PPL 27 p27:=enter_prim (by rfl) (by kernel_rfl)
theorem enL_97:En PPL 97 p97:=enter_prim (by rfl) (by kernel_rfl)
theorem enL_122:En PPL 122 p122:=enter_prim (by rfl) (by kernel_rfl)
theorem enL_182:En PPL 182 p182:=enter_prim (by rfl) (by kernel_rfl)
theorem enL_35:En PPL 35 p35:=enter_prim (by rfl) (by kernel_rfl)
theorem enL_115:En PPL 115 p115:=enter_prim (by rfl) (by kernel_rfl)
theorem enL_36:En PPL 36 p36:=enter_prim (by rfl) (by kernel_rfl)
theorem enL_120:En PPL 120 p120:=enter_prim (by rfl) (by kernel_rfl)
theorem enL_106:En PPL 106 p106:=enter_prim (by rfl) (by kernel_rfl)
theorem enL_179:En PPL 179 p179:=enter_prim (by rfl) (by kernel_rfl)
theorem enL_126:En PPL 126 p126:=enter_prim (by rfl) (by kernel_rfl)
theorem enL_103:En PPL 103 p103:=enter_prim (by rfl) (by kernel_rfl)
theorem enL_104:En PPL 104 p104:=enter_prim (by rfl) (by kernel_rfl)
theorem enL_105:En PPL 105 p105:=enter_prim (by rfl) (by kernel_rfl)
theorem enL_99:En PPL 99 p99:=enter_prim (by rfl) (by kernel_rfl)
theorem enL_226:En PPL 226 p226:=enter_prim (by rfl) (by kernel_rfl)
theorem enL_134:En PPL 134 p134:=enter_prim (by rfl) (by kernel_rfl)
theorem enL_177:En PPL 177 p177:=enter_prim (by rfl) (by kernel_rfl)
theorem enL_180:En PPL 180 p180:=enter_prim (by rfl) (by kernel_rfl)
theorem enL_98:En PPL 98 p98:=enter_prim (by rfl) (by kernel_rfl)
theorem enL_181:En PPL 181 p181:=enter_prim (by rfl) (by kernel_rfl)
theorem enL_183:En PPL 183 p183:=enter_prim (by rfl) (by kernel_rfl)
theorem enL_110:En PPL 110 p110:=enter_prim (by rfl) (by kernel_rfl)
theorem enL_112:En PPL 112 p112:=enter_prim (by rfl) (by kernel_rfl)
theorem enL_113:En PPL 113 p113:=enter_prim (by rfl) (by kernel_rfl)
theorem enL_29:En PPL 29 p29:=enter_prim (by rfl) (by kernel_rfl)
theorem enL_100:En PPL 100 p100:=enter_prim (by rfl) (by kernel_rfl)
theorem enL_101:En PPL 101 p101:=enter_prim (by rfl) (by kernel_rfl)
attribute [go_sem ↓] enL_48 enL_121 enL_34 enL_111 enL_26 enL_178 enL_109 enL_108 enL_27 enL_97 enL_122 enL_182
attribute [go_sem ↓] enL_35 enL_115 enL_36 enL_120 enL_106 enL_179 enL_126 enL_103 enL_104 enL_105 enL_99 enL_226
attribute [go_sem ↓] enL_134 enL_177 enL_180 enL_98 enL_181 enL_183 enL_110 enL_112 enL_113 enL_29 enL_100 enL_101
def noPlace:AV:=.agg [.str [],i64 0]
def hitB (l:Ln) (piece post:Int) (k:Nat):Bool:=match l.ps[k]? with
 | none=>false
 | some p=>metreB p post && decide ((k:Int)=piece)
def placedV (l:Ln) (s:List Nat) (piece post:Int):List AV:=match l.ps[piece.toNat]? with
 | none=>[noPlace,i64 14]
 | some p=>if metreB p post && decide (0≤piece) then [.agg [.str s,i64 (wrapq .i64 (Int.add (begI l piece.toNat) (metreI p post)))],i64 0] else [noPlace,i64 14]
def placedP (n:Net) (s:List Nat) (piece post:Int):List AV :=
 let e:=firstI [whenI (!lnB n.lines s) 10,whenI (decide (piece < 0) || !decide (piece < ((lnOf n.lines s).ps.length:Nat))) 7]
 if e=0 then (if rangeI post 0 9999999=0 then placedV (lnOf n.lines s) s piece post else [noPlace,i64 14]) else [noPlace,i64 e]
theorem placedV_hit {l:Ln} {s:List Nat} {piece post:Int} {k:Nat} {p:Pc} (hp:l.ps[k]? = some p) (hm:metreB p post=true) (hk:(k:Int)=piece):placedV l s piece post=[.agg [.str s,i64 (wrapq .i64 (Int.add (begI l k) (metreI p post)))],i64 0]:=by
 subst hk
 unfold placedV
 simp [hp,hm]
theorem placedV_none {l:Ln} {s:List Nat} {piece post:Int} (h:∀ k,k < l.ps.length→hitB l piece post k=false):placedV l s piece post=[noPlace,i64 14]:=by
 unfold placedV
 cases hp:l.ps[piece.toNat]? with
 | none=>rfl
 | some p =>
   by_cases h0:0≤piece
   · have:=h piece.toNat (List.getElem?_eq_some_iff.1 hp).1
     unfold hitB at this
     rw [hp] at this
     have e:((piece.toNat:Nat):Int)=piece:=Int.toNat_of_nonneg h0
     simp only [e,decide_true,Bool.and_true] at this
     simp [this]
   · simp [h0]
theorem placedP_pure (n:Net) (s:List Nat) (piece post:Int):(AV.tup (placedP n s piece post)).pure=true:=by
 unfold placedP placedV
 simp only []
 split
 · split
   · split
     · rfl
     · split<;>rfl
   · rfl
 · rfl
theorem first2 (a b:Int):firstI [a,b]=0→a=0∧b=0:=by
 simp only [firstI];split<;>(try split)<;>simp_all
theorem c102 (n:Net) (s:List Nat) (piece post:Int) (hn:n.Ok):∀ lo H,CallOk NC lo 102 [.agg n.cells,.agg [.str s,i64 piece,i64 post]] H (.tup (placedP n s piece post)) H:=by
 refine contract saneNC primsL (fn:=Tryz.f102) (by kernel_rfl) Tryz.func102 rfl rfl (by rfl) (placedP_pure ..) ?_
 have e98:=pe98 (n,s) hn.lines
 have hfit:(lnOf n.lines s).ps.length≤maxRows:=lnOf_fits fun l hl=>(hn.line l hl).2
 have hsp:placedP n s piece post=(let e:=firstI [whenI (!lnB n.lines s) 10,whenI (decide (piece < 0) || !decide (piece < ((lnOf n.lines s).ps.length:Nat))) 7]
  if e=0 then (if rangeI post 0 9999999=0 then placedV (lnOf n.lines s) s piece post else [noPlace,i64 14]) else [noPlace,i64 e]):=rfl
 simp only [Net.cells,Ln.row,i64] at e98
 rw [hsp]
 simp only []
 generalize lnOf n.lines s=l at e98 hfit ⊢
 generalize lnB n.lines s=B at e98 ⊢
 have r:=fun lo H=>r176 (P:=PPL) lo l H
 simp only [Ln.row] at r
 generalize hE:firstI [whenI (!B) 10,whenI (decide (piece < 0) || !decide (piece < (l.ps.length:Nat))) 7]=E
 generalize hF:rangeI post 0 9999999=F
 rcases Classical.propComplete (E=0) with z | z
 case inr =>
  rcases Classical.propComplete (piece < 0) with c1 | c1<;>rcases Classical.propComplete (piece < (l.ps.length:Nat)) with c2 | c2<;>simp only [c1,c2,decide_true,decide_false,Bool.true_or,Bool.or_true,Bool.not_true,Bool.not_false,Bool.or_false,Bool.false_or] at hE<;>simp only [go_sem,reduceIte,reduceEqDiff,reduceAdd,reduceMul,reduceSub,reduceLeDiff,reduceLT,Nat.reduceBEq,reduceCtorEq,Net.cells,Ln.row,e98,e121,e111_2,List.length_map,c1,c2,hE,z,noPlace]
 rcases Classical.propComplete (F=0) with z2 | z2
 case inr =>
  rcases Classical.propComplete (piece < 0) with c1 | c1<;>rcases Classical.propComplete (piece < (l.ps.length:Nat)) with c2 | c2<;>simp only [c1,c2,decide_true,decide_false,Bool.true_or,Bool.or_true,Bool.not_true,Bool.not_false,Bool.or_false,Bool.false_or] at hE<;>simp only [go_sem,reduceIte,reduceEqDiff,reduceAdd,reduceMul,reduceSub,reduceLeDiff,reduceLT,Nat.reduceBEq,reduceCtorEq,Net.cells,Ln.row,e98,e121,e111_2,e115,hF,List.length_map,c1,c2,hE,z,z2,noPlace]
 have h2:=first2 _ _ (hE.trans (of_eq_true z))
 have c1:(piece < 0)=False:=by
  rcases Classical.propComplete (piece < 0) with c1 | c1
  · have:=h2.2;simp [c1,whenI] at this
  · exact c1
 have c2:(piece < (l.ps.length:Nat))=True:=by
  rcases Classical.propComplete (piece < (l.ps.length:Nat)) with c2 | c2
  · exact c2
  · have:=h2.2;simp [c2,whenI] at this
 have e134:∀ (a b:Int) (d:Bool),p134 [.agg [.int .i64 a,.int .i64 b,.bool d],.int .i64 post]=some (.tup [.int .i64 (metreI ⟨a,b,d⟩ post),.bool (metreB ⟨a,b,d⟩ post)]):=fun a b d=>pe134 (⟨a,b,d⟩,post) trivial
 simp only [c1,c2,decide_true,decide_false,Bool.true_or,Bool.or_true,Bool.not_true,Bool.not_false,Bool.or_false,Bool.false_or] at hE
 simp only [go_sem,reduceIte,reduceEqDiff,reduceAdd,reduceMul,reduceSub,reduceLeDiff,reduceLT,Nat.reduceBEq,reduceCtorEq,Net.cells,Ln.row,e98,e121,e111_2,e115,hF,List.length_map,c1,c2,hE,z,z2,en176 rfl (show PPL 176=none from rfl),r,ofVal_v,ofVal_H]
 refine W_piecesG (l:=l) (c:=6) rfl hfit (Nat.zero_le _) (by simp only [go_sem,reduceIte,reduceEqDiff,reduceAdd,reduceMul,reduceSub,reduceLeDiff,reduceLT,Nat.reduceBEq,reduceCtorEq]) (by simp only [go_sem,reduceIte,reduceEqDiff,reduceAdd,reduceMul,reduceSub,reduceLeDiff,reduceLT,Nat.reduceBEq,reduceCtorEq]) (fun k=>∀ j,j < k→hitB l piece post j=false) (fun j hj=>by omega) (fun k i=>match i with | 0=>.cells n.cells 40 | 1=>.cells [.str s,i64 piece,i64 post] 42 | 2=>.cells [.str [],i64 0] 45 | 3=>.cells [i64 0] 33 | 4=>.cells l.row 196 | 5=>.cells [i64 k] 3 | 6=>.cells l.row 196 | _=>.dead)
  (fun e H3=>e=.ret ∧ ∃ (k:Nat) (p:Pc),l.ps[k]? = some p∧metreB p post=true∧(k:Int)=piece∧H3.get 2=.cells [.str s,i64 (wrapq .i64 (Int.add (begI l k) (metreI p post)))] 45∧H3.get 3=.cells [i64 0] 33) ?_ (fun k=>rfl) ?_ ?_ ?_
 · intro i hi
   simp only [go_sem,reduceIte,reduceEqDiff,reduceAdd,reduceMul,reduceSub,reduceLeDiff,reduceLT,Nat.reduceBEq,reduceCtorEq] at hi
   match i,hi with
   | 0,_=>simp only [go_sem,reduceIte,reduceEqDiff,reduceAdd,reduceMul,reduceSub,reduceLeDiff,reduceLT,Nat.reduceBEq,reduceCtorEq]<;>rfl
   | 1,_=>simp only [go_sem,reduceIte,reduceEqDiff,reduceAdd,reduceMul,reduceSub,reduceLeDiff,reduceLT,Nat.reduceBEq,reduceCtorEq]<;>rfl
   | 2,_=>simp only [go_sem,reduceIte,reduceEqDiff,reduceAdd,reduceMul,reduceSub,reduceLeDiff,reduceLT,Nat.reduceBEq,reduceCtorEq]<;>rfl
   | 3,_=>simp only [go_sem,reduceIte,reduceEqDiff,reduceAdd,reduceMul,reduceSub,reduceLeDiff,reduceLT,Nat.reduceBEq,reduceCtorEq]<;>rfl
   | 4,_=>simp only [go_sem,reduceIte,reduceEqDiff,reduceAdd,reduceMul,reduceSub,reduceLeDiff,reduceLT,Nat.reduceBEq,reduceCtorEq]<;>rfl
   | 5,_=>simp only [go_sem,reduceIte,reduceEqDiff,reduceAdd,reduceMul,reduceSub,reduceLeDiff,reduceLT,Nat.reduceBEq,reduceCtorEq]<;>rfl
   | 6,_=>simp only [go_sem,reduceIte,reduceEqDiff,reduceAdd,reduceMul,reduceSub,reduceLeDiff,reduceLT,Nat.reduceBEq,reduceCtorEq]<;>rfl
   | i+7,hi=>omega
 · intro k p Hk q hp hq hB hG
   simp only [go_sem,reduceIte,reduceEqDiff,reduceAdd,reduceMul,reduceSub,reduceLeDiff,reduceLT,Nat.reduceBEq,reduceCtorEq] at hq hB
   have h1:=hB 1 (by omega)
   have h2:=hB 2 (by omega)
   have h3:=hB 3 (by omega)
   have h5:=hB 5 (by omega)
   have hw:=wrap_succ (List.getElem?_eq_some_iff.1 hp).1 hfit
   obtain ⟨pl,pq,pb⟩:=p
   simp only at h1 h2 h3 h5
   simp only [go_sem,reduceIte,reduceEqDiff,reduceAdd,reduceMul,reduceSub,reduceLeDiff,reduceLT,Nat.reduceBEq,reduceCtorEq,Pc.row,hq]
   refine ⟨fun j _ hj=>by rw [if_neg (by omega),if_neg (by omega)],fun r => ?_⟩
   have hh:hitB l piece post k=(metreB ⟨pl,pq,pb⟩ post && decide ((k:Int)=piece)):=by unfold hitB;rw [hp]
   cases d1:metreB ⟨pl,pq,pb⟩ post<;>rcases Classical.propComplete ((k:Int)=piece) with d2 | d2<;>simp only [go_sem,reduceIte,reduceEqDiff,reduceAdd,reduceMul,reduceSub,reduceLeDiff,reduceLT,Nat.reduceBEq,reduceCtorEq,hq,h1,h2,h3,h5,e134,hw,d1,d2]
   case true.inl =>
    refine ⟨by omega,fun j h3 hj hj2=>by repeat (rw [if_neg (by omega)]),k,⟨pl,pq,pb⟩,hp,d1,of_eq_true d2, ?_⟩
    simp
   all_goals
    refine ⟨by omega,fun j h3 hj hj2 => ?_,fun i hi => ?_,fun j hj => ?_⟩
    · repeat (rw [if_neg (by omega)])
    · match i,hi with
      | 0,_=>simp [hB 0 (by omega)]
      | 1,_=>simp [hB 1 (by omega)]
      | 2,_=>simp [hB 2 (by omega)]
      | 3,_=>simp [hB 3 (by omega)]
      | 4,_=>simp [hB 4 (by omega)]
      | 5,_=>simp
      | 6,_=>simp [hB 6 (by omega)]
      | i+7,hi=>omega
    · by_cases e:j=k
      · subst e;rw [hh];simp [d1,d2]
      · exact hG j (by omega)
 · intro H4 hB hG hd
   simp only [go_sem,reduceIte,reduceEqDiff,reduceAdd,reduceMul,reduceSub,reduceLeDiff,reduceLT,Nat.reduceBEq,reduceCtorEq] at hB hd
   have h2:=hB 2 (by omega)
   have h3:=hB 3 (by omega)
   simp only at h2 h3
   simp only [go_sem,reduceIte,reduceEqDiff,reduceAdd,reduceMul,reduceSub,reduceLeDiff,reduceLT,Nat.reduceBEq,reduceCtorEq,h2,h3,hd,shutMarks_cons]
   rw [placedV_none hG];simp [z,z2,noPlace]
 · rintro e H3 H4 _ ⟨rfl,k,p,hp,hm,hk,q2,q3⟩ hH hd
   simp only [go_sem,reduceIte,reduceEqDiff,reduceAdd,reduceMul,reduceSub,reduceLeDiff,reduceLT,Nat.reduceBEq,reduceCtorEq] at hH hd
   have h2:=(hH 2 (by omega)).trans q2
   have h3:=(hH 3 (by omega)).trans q3
   have h7:=(hH 7 (by omega)).trans hd
   simp only [go_sem,reduceIte,reduceEqDiff,reduceAdd,reduceMul,reduceSub,reduceLeDiff,reduceLT,Nat.reduceBEq,reduceCtorEq,h2,h3,h7,shutMarks_cons]
   rw [placedV_hit hp hm hk];simp [z,z2]
noncomputable def p102:List AV→Option AV:=primOf (α:=Net × List Nat × Int × Int) (fun x=>[.agg x.1.cells,.agg [.str x.2.1,i64 x.2.2.1,i64 x.2.2.2]]) (fun x=>x.1.Ok) (fun x=>.tup (placedP x.1 x.2.1 x.2.2.1 x.2.2.2))
theorem pok102:∀ args v,p102 args=some v → ∀ lo H,CallOk NC lo 102 args H v H:=by
 intro args v h
 obtain ⟨x,rfl,hp,rfl⟩:=primOf_inv h
 clear h
 revert x
 intro x hx;exact c102 x.1 x.2.1 x.2.2.1 x.2.2.2 hx
noncomputable def PPM:FuncId→Option (List AV→Option AV):=addPrim 102 p102 (PPL)
theorem primsM:PrimsOk NC PPM:=primsOk_add (primsL) (by kernel_rfl) (by kernel_rfl) pok102
theorem enM_48:En PPM 48 p48:=enter_prim (by rfl) (by kernel_rfl)
theorem enM_121:En PPM 121 p121:=enter_prim (by rfl) (by kernel_rfl)
theorem enM_34:En PPM 34 p34:=enter_prim (by rfl) (by kernel_rfl)
theorem enM_111:En PPM 111 p111:=enter_prim (by rfl) (by kernel_rfl)
theorem enM_26:En PPM 26 p26:=enter_prim (by rfl) (by kernel_rfl)
theorem enM_178:En PPM 178 p178:=enter_prim (by rfl) (by kernel_rfl)
theorem enM_109:En PPM 109 p109:=enter_prim (by rfl) (by kernel_rfl)
theorem enM_108:En PPM 108 p108:=enter_prim (by rfl) (by kernel_rfl)
theorem enM_27:En PPM 27 p27:=enter_prim (by rfl) (by kernel_rfl)
theorem enM_97:En PPM 97 p97:=enter_prim (by rfl) (by kernel_rfl)
theorem enM_122:En PPM 122 p122:=enter_prim (by rfl) (by kernel_rfl)
theorem enM_182:En PPM 182 p182:=enter_prim (by rfl) (by kernel_rfl)
theorem enM_35:En PPM 35 p35:=enter_prim (by rfl) (by kernel_rfl)
theorem enM_115:En PPM 115 p115:=enter_prim (by rfl) (by kernel_rfl)
theorem enM_36:En PPM 36 p36:=enter_prim (by rfl) (by kernel_rfl)
theorem enM_120:En PPM 120 p120:=enter_prim (by rfl) (by kernel_rfl)
theorem enM_106:En PPM 106 p106:=enter_prim (by rfl) (by kernel_rfl)
theorem enM_179:En PPM 179 p179:=enter_prim (by rfl) (by kernel_rfl)
theorem enM_126:En PPM 126 p126:=enter_prim (by rfl) (by kernel_rfl)
theorem enM_103:En PPM 103 p103:=enter_prim (by rfl) (by kernel_rfl)
theorem enM_104:En PPM 104 p104:=enter_prim (by rfl) (by kernel_rfl)
theorem enM_105:En PPM 105 p105:=enter_prim (by rfl) (by kernel_rfl)
theorem enM_99:En PPM 99 p99:=enter_prim (by rfl) (by kernel_rfl)
theorem enM_226:En PPM 226 p226:=enter_prim (by rfl) (by kernel_rfl)
theorem enM_134:En PPM 134 p134:=enter_prim (by rfl) (by kernel_rfl)
theorem enM_177:En PPM 177 p177:=enter_prim (by rfl) (by kernel_rfl)
theorem enM_180:En PPM 180 p180:=enter_prim (by rfl) (by kernel_rfl)
theorem enM_98:En PPM 98 p98:=enter_prim (by rfl) (by kernel_rfl)
theorem enM_181:En PPM 181 p181:=enter_prim (by rfl) (by kernel_rfl)
theorem enM_183:En PPM 183 p183:=enter_prim (by rfl) (by kernel_rfl)
theorem enM_110:En PPM 110 p110:=enter_prim (by rfl) (by kernel_rfl)
theorem enM_112:En PPM 112 p112:=enter_prim (by rfl) (by kernel_rfl)
theorem enM_113:En PPM 113 p113:=enter_prim (by rfl) (by kernel_rfl)
theorem enM_29:En PPM 29 p29:=enter_prim (by rfl) (by kernel_rfl)
theorem enM_100:En PPM 100 p100:=enter_prim (by rfl) (by kernel_rfl)
theorem enM_101:En PPM 101 p101:=enter_prim (by rfl) (by kernel_rfl)
theorem enM_102:En PPM 102 p102:=enter_prim (by rfl) (by kernel_rfl)
attribute [go_sem ↓] enM_48 enM_121 enM_34 enM_111 enM_26 enM_178 enM_109 enM_108 enM_27 enM_97 enM_122 enM_182
attribute [go_sem ↓] enM_35 enM_115 enM_36 enM_120 enM_106 enM_179 enM_126 enM_103 enM_104 enM_105 enM_99 enM_226
attribute [go_sem ↓] enM_134 enM_177 enM_180 enM_98 enM_181 enM_183 enM_110 enM_112 enM_113 enM_29 enM_100 enM_101
attribute [go_sem ↓] enM_102
end Go.Sim

/-
The reference: Addressed, Placed.
-/
namespace Go.Sim
open Go Go.Proofs
set_option maxRecDepth 100000
set_option maxHeartbeats 8000000
def offI (p:Pc) (post:Int):Int:=if p.back then wrapq .i64 (Int.sub p.post post) else wrapq .i64 (Int.sub post p.post)
def metreOfI (l:Ln) (k:Nat) (post:Int):Int:=match l.ps[k]? with
 | none=>0
 | some p=>if decide (offI p post < 0) || !decide (offI p post < p.len) then -1 else wrapq .i64 (Int.add (begI l k) (offI p post))
theorem c107 (l : Ln) (k : Nat) (post : Int) (hl : l.ps.length ≤ maxRows) (hk : k < l.ps.length) : ∀ lo H, CallOk NC lo 107 [.agg l.row, i64 k, i64 post] H (i64 (metreOfI l k post)) H := by
 refine contract saneNC primsM (fn := Tryz.f107) (by kernel_rfl) Tryz.func107 rfl rfl (by rfl) (by rfl) ?_
 obtain ⟨p, hp⟩ : ∃ p, l.ps[k]? = some p := ⟨l.ps[k], by simp⟩
 have hr := map_at (f := Pc.row) hp
 have e108 := pe108 (l, k) ⟨Nat.le_of_lt hk, hl⟩
 obtain ⟨pl, pq, pb⟩ := p
 simp only [Pc.row] at hr
 simp only [Ln.row, i64] at e108
 have hbeg : sumW (l.ps.take k) 0 = begI l k := rfl
 rw [hbeg] at e108
 cases pb with
 | true =>
   generalize hE : wrapq .i64 (Int.sub pq post) = E
   have hsp : metreOfI l k post = if decide (E < 0) || !decide (E < pl) then -1 else wrapq .i64 (Int.add (begI l k) E) := by
    unfold metreOfI offI; simp only [hp, hE, if_true]
   rcases Classical.propComplete (E < 0) with c1 | c1 <;> rcases Classical.propComplete (E < pl) with c2 | c2 <;> simp only [go_sem, reduceIte, reduceEqDiff, reduceAdd, reduceMul, reduceSub, reduceLeDiff, reduceLT, Nat.reduceBEq, reduceCtorEq, Ln.row, List.length_map, hk, hr, e108, hE, c1, c2] <;> simp [hsp, c1, c2] <;> rfl
 | false =>
   generalize hE : wrapq .i64 (Int.sub post pq) = E
   have hsp : metreOfI l k post = if decide (E < 0) || !decide (E < pl) then -1 else wrapq .i64 (Int.add (begI l k) E) := by
    unfold metreOfI offI; simp only [hp, hE, Bool.false_eq_true, if_false]
   rcases Classical.propComplete (E < 0) with c1 | c1 <;> rcases Classical.propComplete (E < pl) with c2 | c2 <;> simp only [go_sem, reduceIte, reduceEqDiff, reduceAdd, reduceMul, reduceSub, reduceLeDiff, reduceLT, Nat.reduceBEq, reduceCtorEq, Ln.row, List.length_map, hk, hr, e108, hE, c1, c2] <;> simp [hsp, c1, c2] <;> rfl
noncomputable def p107:List AV→Option AV:=primOf (α:=Ln × Nat × Int) (fun x=>[.agg x.1.row,i64 x.2.1,i64 x.2.2]) (fun x=>x.1.ps.length≤maxRows∧x.2.1 < x.1.ps.length) (fun x=>i64 (metreOfI x.1 x.2.1 x.2.2))
theorem pok107:∀ args v,p107 args=some v → ∀ lo H,CallOk NC lo 107 args H v H:=by
 intro args v h
 obtain ⟨x,rfl,hp,rfl⟩:=primOf_inv h
 clear h
 revert x
 intro x hx;exact c107 x.1 x.2.1 x.2.2 hx.1 hx.2
noncomputable def PPN:FuncId→Option (List AV→Option AV):=addPrim 107 p107 (PPM)
theorem primsN:PrimsOk NC PPN:=primsOk_add (primsM) (by kernel_rfl) (by kernel_rfl) pok107
theorem enN_48:En PPN 48 p48:=enter_prim (by rfl) (by kernel_rfl)
theorem enN_121:En PPN 121 p121:=enter_prim (by rfl) (by kernel_rfl)
theorem enN_34:En PPN 34 p34:=enter_prim (by rfl) (by kernel_rfl)
theorem enN_111:En PPN 111 p111:=enter_prim (by rfl) (by kernel_rfl)
theorem enN_26:En PPN 26 p26:=enter_prim (by rfl) (by kernel_rfl)
theorem enN_178:En PPN 178 p178:=enter_prim (by rfl) (by kernel_rfl)
theorem enN_109:En PPN 109 p109:=enter_prim (by rfl) (by kernel_rfl)
theorem enN_108:En PPN 108 p108:=enter_prim (by rfl) (by kernel_rfl)
theorem enN_27:En PPN 27 p27:=enter_prim (by rfl) (by kernel_rfl)
theorem enN_97:En PPN 97 p97:=enter_prim (by rfl) (by kernel_rfl)
theorem enN_122:En PPN 122 p122:=enter_prim (by rfl) (by kernel_rfl)
theorem enN_182:En PPN 182 p182:=enter_prim (by rfl) (by kernel_rfl)
theorem enN_35:En PPN 35 p35:=enter_prim (by rfl) (by kernel_rfl)
theorem enN_115:En PPN 115 p115:=enter_prim (by rfl) (by kernel_rfl)
theorem enN_36:En PPN 36 p36:=enter_prim (by rfl) (by kernel_rfl)
theorem enN_120:En PPN 120 p120:=enter_prim (by rfl) (by kernel_rfl)
theorem enN_106:En PPN 106 p106:=enter_prim (by rfl) (by kernel_rfl)
theorem enN_179:En PPN 179 p179:=enter_prim (by rfl) (by kernel_rfl)
theorem enN_126:En PPN 126 p126:=enter_prim (by rfl) (by kernel_rfl)
theorem enN_103:En PPN 103 p103:=enter_prim (by rfl) (by kernel_rfl)
theorem enN_104:En PPN 104 p104:=enter_prim (by rfl) (by kernel_rfl)
theorem enN_105:En PPN 105 p105:=enter_prim (by rfl) (by kernel_rfl)
theorem enN_99:En PPN 99 p99:=enter_prim (by rfl) (by kernel_rfl)
theorem enN_226:En PPN 226 p226:=enter_prim (by rfl) (by kernel_rfl)
theorem enN_134:En PPN 134 p134:=enter_prim (by rfl) (by kernel_rfl)
theorem enN_177:En PPN 177 p177:=enter_prim (by rfl) (by kernel_rfl)
theorem enN_180:En PPN 180 p180:=enter_prim (by rfl) (by kernel_rfl)
theorem enN_98:En PPN 98 p98:=enter_prim (by rfl) (by kernel_rfl)
theorem enN_181:En PPN 181 p181:=enter_prim (by rfl) (by kernel_rfl)
theorem enN_183:En PPN 183 p183:=enter_prim (by rfl) (by kernel_rfl)
theorem enN_110:En PPN 110 p110:=enter_prim (by rfl) (by kernel_rfl)
theorem enN_112:En PPN 112 p112:=enter_prim (by rfl) (by kernel_rfl)
theorem enN_113:En PPN 113 p113:=enter_prim (by rfl) (by kernel_rfl)
theorem enN_29:En PPN 29 p29:=enter_prim (by rfl) (by kernel_rfl)
theorem enN_100:En PPN 100 p100:=enter_prim (by rfl) (by kernel_rfl)
theorem enN_101:En PPN 101 p101:=enter_prim (by rfl) (by kernel_rfl)
theorem enN_102:En PPN 102 p102:=enter_prim (by rfl) (by kernel_rfl)
theorem enN_107:En PPN 107 p107:=enter_prim (by rfl) (by kernel_rfl)
attribute [go_sem ↓] enN_48 enN_121 enN_34 enN_111 enN_26 enN_178 enN_109 enN_108 enN_27 enN_97 enN_122 enN_182
attribute [go_sem ↓] enN_35 enN_115 enN_36 enN_120 enN_106 enN_179 enN_126 enN_103 enN_104 enN_105 enN_99 enN_226
attribute [go_sem ↓] enN_134 enN_177 enN_180 enN_98 enN_181 enN_183 enN_110 enN_112 enN_113 enN_29 enN_100 enN_101
attribute [go_sem ↓] enN_102 enN_107
end Go.Sim

/-
The plain law: the program's errors are the reference's.
-/
namespace Go.Sim
open Go
theorem whenI_false (e:Int):whenI false e=0:=rfl
theorem firstI_cons (e:Int) (r:List Int):firstI (e::r)=if e=0 then firstI r else e:=rfl
theorem firstI_nil:firstI []=0:=rfl
theorem beqL_iff:∀ (a b:List Nat),beqL a b=true ↔ a=b
 | [],[]=>by simp [beqL]
 | [],_::_=>by simp [beqL]
 | _::_,[]=>by simp [beqL]
 | a::x,b::y=>by
   unfold beqL
   by_cases h:a=b
   · subst h
     have:Nat.beq a a=true:=Nat.beq_refl a
     rw [this]
     simp [beqL_iff x y]
   · have:Nat.beq a b=false:=by
      cases hb:Nat.beq a b with
      | false=>rfl
      | true=>exact absurd (Nat.eq_of_beq_eq_true hb) h
     rw [this]
     simp [h]
theorem rangeI_zero {n a b:Int} (h:rangeI n a b=0):a≤n∧n≤b:=by
 unfold rangeI whenI at h
 by_cases h1:n < a
 · simp [h1] at h
 · by_cases h2:b < n
   · simp [h2] at h
   · omega
theorem wrap_small {x:Int} (h:-1000000000≤x) (h2:x≤1000000000):wrapq .i64 x=x:=wrapq_i64 (by omega) (by omega)
theorem last_post {p:Pc} (h1:1≤p.len∧p.len≤100000) (h2:0≤p.post∧p.post≤9999999):lastI p=postI p (wrapq .i64 (Int.sub p.len 1)):=by
 unfold lastI postI stepI
 have e0:Int.sub p.len 1=p.len - 1:=rfl
 rw [e0,wrap_small (x:=p.len - 1) (by omega) (by omega)]
 cases p.back with
 | true =>
   simp only [if_true]
   have e1:Int.mul (-1) (p.len - 1) = -(p.len - 1):=by show (-1) * (p.len - 1)=_;omega
   rw [e1,wrap_small (x:=-(p.len - 1)) (by omega) (by omega)]
   have e2:Int.add p.post (-(p.len - 1))=p.post - (p.len - 1):=by show p.post + -(p.len - 1)=_;omega
   rw [e2]
 | false =>
   simp only [Bool.false_eq_true,if_false]
   have e1:Int.mul 1 (p.len - 1)=p.len - 1:=by show 1 * (p.len - 1)=_;omega
   rw [e1,wrap_small (x:=p.len - 1) (by omega) (by omega)]
   rfl
theorem piece_same (p:Pc):pieceP p=pieceR p:=by
 unfold pieceP pieceR
 simp only [firstI_cons,firstI_nil]
 by_cases h1:rangeI p.len 1 100000=0
 · by_cases h2:rangeI p.post 0 9999999=0
   · have a:=rangeI_zero h1
     have b:=rangeI_zero h2
     have hl:=last_post a b
     simp only [h1,h2,if_true,hl]
     split
     · rename_i h;rw [h]
     · rfl
   · simp [h1,h2]
 · simp [h1]
theorem dup_iff {ls:List Ln} {i:Nat} {l:Ln} (h:ls[i]? = some l):decide (findI ls l.name < i)=dupP ((ls.take i).map Ln.name) l.name:=by
 unfold dupP
 cases hd:((ls.take i).map Ln.name).any (beqL l.name) with
 | true =>
   rw [List.any_eq_true] at hd
   obtain ⟨x,hx,hb⟩:=hd
   obtain ⟨y,hy,rfl⟩:=List.mem_map.1 hx
   obtain ⟨j,hj⟩:=List.mem_iff_getElem?.1 hy
   rw [List.getElem?_take] at hj
   split at hj
   · rename_i hji
     have he:=(beqL_iff _ _).1 hb
     unfold findI findL
     cases hf:ls.findIdx? (fun l'=>beqL l'.name l.name) with
     | none=>simp only [decide_eq_true_eq];omega
     | some k =>
       simp only [decide_eq_true_eq]
       rw [List.findIdx?_eq_some_iff_getElem] at hf
       obtain ⟨hk,_,hmin⟩:=hf
       have:k≤j:=by
        rcases Nat.lt_or_ge j k with h' | h'
        · have:=hmin j h'
          have hjl:ls[j]? = some y:=hj
          rw [(List.getElem?_eq_some_iff.1 hjl).2] at this
          have h2:beqL y.name l.name=true:=(beqL_iff _ _).2 he.symm
          simp [h2] at this
        · exact h'
       omega
   · cases hj
 | false =>
   rw [List.any_eq_false] at hd
   have hno:∀ j l',j < i→ls[j]? = some l'→beqL l'.name l.name=false:=by
    intro j l' hj hl'
    have hm:l'.name ∈ (ls.take i).map Ln.name:=List.mem_map.2 ⟨l',List.mem_of_getElem? (i:=j) (by rw [List.getElem?_take_of_lt hj];exact hl'),rfl⟩
    have:=hd _ hm
    cases hb:beqL l'.name l.name with
    | false=>rfl
    | true =>
      have he:=(beqL_iff _ _).1 hb
      rw [he] at this
      exact absurd ((beqL_iff _ _).2 rfl) (by simpa using this)
   have:=findL_drop hno h ((beqL_iff _ _).2 rfl)
   unfold findI
   rw [this]
   simp
theorem line_same (n:Net) (i:Nat):lineP n.lines i=lineR n i:=by
 unfold lineP lineR
 cases h:n.lines[i]? with
 | none=>rfl
 | some l =>
   simp only []
   rw [← dup_iff h]
   have:l.ps.map pieceP=l.ps.map pieceR:=List.map_congr_left fun p _=>piece_same p
   rw [this]
theorem allR_congr {f g:Nat→Int} {n:Nat} (h:∀ i,f i=g i):allR f n=allR g n:=by
 have:f=g:=funext h
 rw [this]
theorem dupB_same {α:Type} (nm:α→List Nat) (l:List α) (i:Nat) (s:List Nat):dupP ((l.take i).map nm) s=dupB nm l i s:=by
 unfold dupP dupB
 rw [List.any_map]
 congr 1
 funext x
 simp only [Function.comp]
 rw [Bool.eq_iff_iff,beqL_iff,beqL_iff]
 exact eq_comm
theorem findI_neg (ls:List Ln) (s:List Nat):decide (findI ls s < 0) = !lnB ls s:=by
 unfold findI lnB
 cases findL ls s<;>simp
theorem has_same (ls:List Ln) (s:List Nat) (m:Int) (r:List Int):firstI (whenI (!lnB ls s) 10::whenI (!hasB (lnOf ls s) m) 14::r)=firstI (hasI ls s m::r):=by
 unfold hasI lnB lnOf
 cases hf:findL ls s with
 | none=>simp [firstI,whenI]
 | some i =>
   obtain ⟨l,hl,_⟩:=findL_at hf
   simp only [hl,Option.isSome_some,Bool.not_true,whenI_false,firstI_cons,if_true,List.getD_eq_getElem?_getD,Option.getD_some]
   have:(!hasB l m)=(decide (m < 0) || !decide (m < sumW l.ps 0)):=by
    unfold hasB
    by_cases h1:m < 0<;>by_cases h2:m < sumW l.ps 0<;>simp [h1,h2]
   rw [this]
theorem switch_same (n:Net) (i:Nat):switchP n i=switchR n i:=by
 unfold switchP switchR
 cases h:n.sws[i]? with
 | none=>rfl
 | some s =>
   simp only []
   rw [dupB_same]
   cases hn:nameB s.name with
   | false=>simp [firstI,whenI]
   | true =>
     simp only [Bool.not_true,whenI_false,if_true]
     rw [firstI_cons,if_pos rfl]
     cases hd:dupB Sw.name n.sws i s.name with
     | true=>simp [firstI,whenI]
     | false =>
       simp only [whenI_false,Bool.false_eq_true,if_false]
       rw [firstI_cons,if_pos rfl,has_same,findI_neg]
theorem metres_same (ls:List Ln) (s:List Nat) (fr till:Int):firstI [whenI (!lnB ls s) 10,whenI (spanB (lnOf ls s) fr till) 14]=metresI ls s fr till:=by
 unfold metresI lnB lnOf
 cases hf:findL ls s with
 | none=>simp [firstI,whenI]
 | some i =>
   obtain ⟨l,hl,_⟩:=findL_at hf
   simp only [hl,Option.isSome_some,Bool.not_true,whenI_false,firstI_cons,firstI_nil,if_true,List.getD_eq_getElem?_getD,Option.getD_some]
   have:spanB l fr till=(decide (fr < 0) || !decide (fr < till) || decide (sumW l.ps 0 < till)):=by
    unfold spanB hasB
    by_cases h1:fr < 0
    · simp [h1]
    · by_cases h2:fr < till
      · by_cases h3:sumW l.ps 0 < till
        · simp [h3]
        · have h4:fr < sumW l.ps 0:=by omega
          simp [h1,h2,h3,h4]
      · simp [h2]
   rw [this]
   split
   · rename_i h;exact h.symm
   · rfl
theorem struct_same (n:Net) (i:Nat):structP n i=structR n i:=by
 unfold structP structR
 cases h:n.sts[i]? with
 | none=>rfl
 | some s =>
   simp only []
   rw [dupB_same]
   cases hn:nameB s.name with
   | false=>simp [firstI,whenI]
   | true =>
     simp only [Bool.not_true,whenI_false,if_true]
     rw [firstI_cons,if_pos rfl]
     cases hd:dupB Stc.name n.sts i s.name with
     | true=>simp [firstI,whenI]
     | false =>
       simp only [whenI_false,Bool.false_eq_true,if_false]
       rw [firstI_cons,if_pos rfl]
       cases hk:nameB s.kind with
       | false=>simp [firstI,whenI]
       | true =>
         simp only [Bool.not_true,whenI_false,decide_true]
         show firstI [whenI (!lnB n.lines s.line) 10,whenI (spanB (lnOf n.lines s.line) s.fr s.till) 14]=firstI [metresI n.lines s.line s.fr s.till]
         rw [metres_same]
         simp only [firstI_cons,firstI_nil]
         split
         · rename_i h;exact h
         · rfl
theorem net_same (n:Net):netP n=netR n:=by
 unfold netP netR linesP switchesP structsP
 rw [allR_congr (line_same n),allR_congr (switch_same n),allR_congr (struct_same n)]
 by_cases h1:(8:Int) < n.lines.length
 · simp [h1]
 · simp only [h1,if_false]
   split
   · simp only [firstI_cons,firstI_nil]
     by_cases h2:(8:Int) < n.sws.length
     · simp [h2]
     · simp only [h2,if_false]
       split
       · by_cases h3:(16:Int) < n.sts.length
         · simp [h3]
         · simp only [h3,if_false]
           split
           · rename_i h;exact h.symm
           · rfl
       · rfl
   · rfl
theorem place_same (n:Net) (s:List Nat) (m:Int):placeP n s m=hasI n.lines s m:=by
 unfold placeP
 rw [has_same]
 simp only [firstI_cons,firstI_nil]
 split
 · rename_i h;exact h.symm
 · rfl
end Go.Sim

/-
The plain law: addresses and places of valid networks.
-/
namespace Go.Sim
open Go
theorem firstI_zero:∀ {es:List Int},firstI es=0 → ∀ e ∈ es,e=0
 | [],_,e,he=>by simp at he
 | a::r,h,e,he=>by
   rw [firstI_cons] at h
   by_cases ha:a=0
   · rw [if_pos ha] at h
     rcases List.mem_cons.1 he with rfl | he
     · exact ha
     · exact firstI_zero h e he
   · rw [if_neg ha] at h;exact absurd h ha
theorem allR_zero {f:Nat→Int} {n:Nat} (h:allR f n=0) {i:Nat} (hi:i < n):f i=0 :=
 firstI_zero h _ (List.mem_map.2 ⟨i,by simpa using hi,rfl⟩)
theorem netR_lines {n:Net} (h:netR n=0):allR (lineR n) n.lines.length=0:=by
 unfold netR at h
 by_cases h1:(8:Int) < n.lines.length
 · simp [h1] at h
 · simp only [h1,if_false] at h
   split at h
   · rename_i h2;exact h2
   · exact h
variable {l:Ln}
end Go.Sim

/-
Maps: data; the small functions, of the program and of the reference.
-/
namespace Go.Sim
open Go Go.Proofs
set_option maxRecDepth 100000
set_option maxHeartbeats 4000000
structure Mv where
 line:List Nat
 fr:Int
 len:Int
 other:List Nat
 to:Int
 turned:Bool
def Mv.row (x:Mv):List AV:=[.str x.line,i64 x.fr,i64 x.len,.str x.other,i64 x.to,.bool x.turned]
theorem Mv.row_inj (a b:Mv) (h:a.row=b.row):a=b:=by
 cases a;cases b;simp [Mv.row] at h;obtain ⟨rfl,rfl,rfl,rfl,rfl,rfl⟩:=h;rfl
theorem Net.cells_iff (a b:Net):a.cells=b.cells ↔ a=b:=⟨Net.cells_inj a b,fun h=>by rw [h]⟩
theorem Ln.row_iff (a b:Ln):a.row=b.row ↔ a=b:=⟨Ln.row_inj a b,fun h=>by rw [h]⟩
theorem Pc.row_iff (a b:Pc):a.row=b.row ↔ a=b:=⟨Pc.row_inj a b,fun h=>by rw [h]⟩
theorem Mv.row_iff (a b:Mv):a.row=b.row ↔ a=b:=⟨Mv.row_inj a b,fun h=>by rw [h]⟩
theorem lns_iff (a b:List Ln):a.map Ln.row=b.map Ln.row ↔ a=b:=⟨fun h=>map_inj Ln.row_inj h,fun h=>by rw [h]⟩
theorem pcs_iff (a b:List Pc):a.map Pc.row=b.map Pc.row ↔ a=b:=⟨fun h=>map_inj Pc.row_inj h,fun h=>by rw [h]⟩
theorem mvs_iff (a b:List Mv):a.map Mv.row=b.map Mv.row ↔ a=b:=⟨fun h=>map_inj Mv.row_inj h,fun h=>by rw [h]⟩
end Go.Sim

/-
The law: what it takes for short.
-/
namespace Go.Sim
open Go Go.Proofs
set_option maxRecDepth 100000
set_option maxHeartbeats 8000000
def shortLn (l:Ln):Bool:=shortB l.name && !decide ((9:Int) < l.ps.length)
def shortSw (s:Sw):Bool:=shortB s.name && shortB s.line && shortB s.other
def shortSt (s:Stc):Bool:=shortB s.name && shortB s.kind && shortB s.line
def shortN (n:Net):Bool:=!(decide ((9:Int) < n.lines.length) || decide ((9:Int) < n.sws.length) || decide ((17:Int) < n.sts.length)) && n.lines.all shortLn && n.sws.all shortSw && n.sts.all shortSt
theorem all_false {α:Type} {f:α→Bool} {l:List α} {k:Nat} {x:α} (h:l[k]? = some x) (hf:f x=false):l.all f=false:=by
 rw [List.all_eq_false];exact ⟨x,List.mem_of_getElem? h,by simp [hf]⟩
theorem all_true {α:Type} {f:α→Bool} {l:List α} (h:∀ (j:Nat) x,j < l.length→l[j]? = some x→f x=true):l.all f=true:=by
 rw [List.all_eq_true]
 intro x hx
 obtain ⟨j,hj⟩:=List.mem_iff_getElem?.1 hx
 exact h j x (List.getElem?_eq_some_iff.1 hj).1 hj
theorem c17 (n:Net):∀ lo H,CallOk NC lo 17 [.agg n.cells] H (.bool (shortN n)) H:=by
 refine contract saneNC primsN (fn:=Tryz.f17) (by kernel_rfl) Tryz.func17 rfl rfl (by rfl) (by rfl) ?_
 rcases Classical.propComplete ((9:Int) < n.lines.length) with q1 | q1
 · simp only [go_sem,reduceIte,reduceEqDiff,reduceAdd,reduceMul,reduceSub,reduceLeDiff,reduceLT,Nat.reduceBEq,reduceCtorEq,Net.cells,List.length_map,q1]
   simp [shortN,q1]
 rcases Classical.propComplete ((9:Int) < n.sws.length) with q2 | q2
 · simp only [go_sem,reduceIte,reduceEqDiff,reduceAdd,reduceMul,reduceSub,reduceLeDiff,reduceLT,Nat.reduceBEq,reduceCtorEq,Net.cells,List.length_map,q1,q2]
   simp [shortN,q1,q2]
 rcases Classical.propComplete ((17:Int) < n.sts.length) with q3 | q3
 · simp only [go_sem,reduceIte,reduceEqDiff,reduceAdd,reduceMul,reduceSub,reduceLeDiff,reduceLT,Nat.reduceBEq,reduceCtorEq,Net.cells,List.length_map,q1,q2,q3]
   simp [shortN,q1,q2,q3]
 have z1:n.lines.length≤maxRows:=by have:=of_eq_false q1;unfold maxRows;omega
 have z2:n.sws.length≤maxRows:=by have:=of_eq_false q2;unfold maxRows;omega
 have z3:n.sts.length≤maxRows:=by have:=of_eq_false q3;unfold maxRows;omega
 have hsp:shortN n=(n.lines.all shortLn && n.sws.all shortSw && n.sts.all shortSt):=by simp [shortN,q1,q2,q3]
 rw [hsp]
 simp only [go_sem,reduceIte,reduceEqDiff,reduceAdd,reduceMul,reduceSub,reduceLeDiff,reduceLT,Nat.reduceBEq,reduceCtorEq,Net.cells,List.length_map,q1,q2,q3]
 refine W_for (fun k T H M=>M=[]∧getT T 1=.ptr 0 0∧getT T 3=i64 k∧H.get 0=.cells n.cells 26∧0 < H.n ∧ ∀ (j:Nat) x,j < k→n.lines[j]? = some x→shortLn x=true) n.lines.length ?_ ?_ ?_
 · simp only [go_sem,reduceIte,reduceEqDiff,reduceAdd,reduceMul,reduceSub,reduceLeDiff,reduceLT,Nat.reduceBEq,reduceCtorEq,Net.cells];exact fun j x hj=>by omega
 · rintro k T H M hk ⟨rfl,g1,g3,h0,hn,hall⟩
   obtain ⟨l,hp⟩:∃ p,n.lines[k]? = some p:=⟨n.lines[k],by simp⟩
   have hr:=map_at (f:=Ln.row) hp
   have hw:=wrap_succ hk z1
   simp only [Ln.row] at hr
   cases d1:shortB l.name<;>rcases Classical.propComplete ((9:Int) < l.ps.length) with d2 | d2<;>simp only [go_sem,reduceIte,reduceEqDiff,reduceAdd,reduceMul,reduceSub,reduceLeDiff,reduceLT,Nat.reduceBEq,reduceCtorEq,g1,g3,h0,Net.cells,List.length_map,hk,hr,hw,e97,d1,d2]
   case true.inr =>
    refine ⟨hn,fun j x hj hx => ?_⟩
    by_cases e:j=k
    · subst e;rw [hp] at hx;cases hx;simp [shortLn,d1,d2]
    · exact hall j x (by omega) hx
   all_goals rw [all_false hp (by simp [shortLn,d1,d2])];try rfl
 rintro T H M ⟨rfl,g1,g3,h0,hn,hall⟩
 rw [all_true hall]
 simp only [go_sem,reduceIte,reduceEqDiff,reduceAdd,reduceMul,reduceSub,reduceLeDiff,reduceLT,Nat.reduceBEq,reduceCtorEq,g1,g3,h0,Net.cells,List.length_map,Nat.lt_irrefl]
 refine W_for (fun k T H M=>M=[]∧getT T 1=.ptr 0 0∧getT T 4=i64 k∧H.get 0=.cells n.cells 26∧0 < H.n ∧ ∀ (j:Nat) x,j < k→n.sws[j]? = some x→shortSw x=true) n.sws.length ?_ ?_ ?_
 · simp only [go_sem,reduceIte,reduceEqDiff,reduceAdd,reduceMul,reduceSub,reduceLeDiff,reduceLT,Nat.reduceBEq,reduceCtorEq,g1,h0,Net.cells];exact ⟨hn,fun j x hj=>by omega⟩
 · rintro k T H M hk ⟨rfl,g1,g3,h0,hn,hall⟩
   obtain ⟨l,hp⟩:∃ p,n.sws[k]? = some p:=⟨n.sws[k],by simp⟩
   have hr:=map_at (f:=Sw.row) hp
   have hw:=wrap_succ hk z2
   have b0:(0=H.n)=False:=by simp;omega
   simp only [Sw.row] at hr
   cases d1:shortB l.name<;>cases d2:shortB l.line<;>cases d3:shortB l.other<;>simp only [go_sem,reduceIte,reduceEqDiff,reduceAdd,reduceMul,reduceSub,reduceLeDiff,reduceLT,Nat.reduceBEq,reduceCtorEq,g1,g3,h0,b0,Net.cells,List.length_map,hk,hr,hw,e97,d1,d2,d3]
   case true.true.true =>
    refine ⟨by omega,fun j x hj hx => ?_⟩
    by_cases e:j=k
    · subst e;rw [hp] at hx;cases hx;simp [shortSw,d1,d2,d3]
    · exact hall j x (by omega) hx
   all_goals rw [all_false hp (by simp [shortSw,d1,d2,d3])];try rfl
 rintro T H M ⟨rfl,g1,g3,h0,hn,hall⟩
 rw [all_true hall]
 simp only [go_sem,reduceIte,reduceEqDiff,reduceAdd,reduceMul,reduceSub,reduceLeDiff,reduceLT,Nat.reduceBEq,reduceCtorEq,g1,g3,h0,Net.cells,List.length_map,Nat.lt_irrefl]
 refine W_for (fun k T H M=>M=[]∧getT T 1=.ptr 0 0∧getT T 6=i64 k∧H.get 0=.cells n.cells 26∧0 < H.n ∧ ∀ (j:Nat) x,j < k→n.sts[j]? = some x→shortSt x=true) n.sts.length ?_ ?_ ?_
 · simp only [go_sem,reduceIte,reduceEqDiff,reduceAdd,reduceMul,reduceSub,reduceLeDiff,reduceLT,Nat.reduceBEq,reduceCtorEq,g1,h0,Net.cells];exact ⟨hn,fun j x hj=>by omega⟩
 · rintro k T H M hk ⟨rfl,g1,g3,h0,hn,hall⟩
   obtain ⟨l,hp⟩:∃ p,n.sts[k]? = some p:=⟨n.sts[k],by simp⟩
   have hr:=map_at (f:=Stc.row) hp
   have hw:=wrap_succ hk z3
   have b0:(0=H.n)=False:=by simp;omega
   simp only [Stc.row] at hr
   cases d1:shortB l.name<;>cases d2:shortB l.kind<;>cases d3:shortB l.line<;>simp only [go_sem,reduceIte,reduceEqDiff,reduceAdd,reduceMul,reduceSub,reduceLeDiff,reduceLT,Nat.reduceBEq,reduceCtorEq,g1,g3,h0,b0,Net.cells,List.length_map,hk,hr,hw,e97,d1,d2,d3]
   case true.true.true =>
    refine ⟨by omega,fun j x hj hx => ?_⟩
    by_cases e:j=k
    · subst e;rw [hp] at hx;cases hx;simp [shortSt,d1,d2,d3]
    · exact hall j x (by omega) hx
   all_goals rw [all_false hp (by simp [shortSt,d1,d2,d3])];try rfl
 rintro T H M ⟨rfl,g1,g3,h0,hn,hall⟩
 rw [all_true hall]
 simp only [go_sem,reduceIte,reduceEqDiff,reduceAdd,reduceMul,reduceSub,reduceLeDiff,reduceLT,Nat.reduceBEq,reduceCtorEq,g1,g3,h0,Net.cells,List.length_map,Nat.lt_irrefl]
end Go.Sim

/-
The law: the network told to the program.
-/
namespace Go.Sim
open Go Go.Proofs
set_option maxRecDepth 100000
set_option maxHeartbeats 16000000
def App (H:Heap) (t:Tok) (rows:List (List AV)) (sz:Nat) (e:TypeId):Prop:=(t=.nil∧rows=[]) ∨ ∃ j,t=.tok j∧rows ≠ []∧j < H.n∧H.get j=.row [] sz e
theorem App.push {H:Heap} {t:Tok} {rows:List (List AV)} {sz:Nat} {e:TypeId} (h:App H t rows sz e) (b:ABlk):App (H.push b) t rows sz e:=by
 rcases h with h | ⟨j,h1,h2,h3,h4⟩
 · exact .inl h
 · exact .inr ⟨j,h1,h2,by simp;omega,by rw [Heap.get_push,if_neg (by omega)];exact h4⟩
theorem App.set {H:Heap} {t:Tok} {rows:List (List AV)} {sz:Nat} {e:TypeId} (h:App H t rows sz e) {i:Nat} (b:ABlk) (hi:H.get i ≠ .row [] sz e):App (H.set i b) t rows sz e:=by
 rcases h with h | ⟨j,h1,h2,h3,h4⟩
 · exact .inl h
 · exact .inr ⟨j,h1,h2,h3,by rw [Heap.get_set,if_neg (fun he=>hi (by rw [← he];exact h4))];exact h4⟩
theorem App.fresh {H:Heap} {t:Tok} {rows:List (List AV)} {sz:Nat} {e:TypeId} (h:App H t rows sz e) (b c:ABlk) {i:Nat} (hi:i=H.n):App ((H.push b).set i c) t rows sz e:=by
 subst hi
 rcases h with h | ⟨j,h1,h2,h3,h4⟩
 · exact .inl h
 · exact .inr ⟨j,h1,h2,by simp;omega,by rw [Heap.get_set,if_neg (by omega),Heap.get_push,if_neg (by omega)];exact h4⟩
theorem app_any {H:Heap} {t:Tok} {rows:List (List AV)} {sz:Nat} {e:TypeId} (h:App H t rows sz e) {r:List AV} (h1:rows.length+1≤maxRows) (h2:pureRow r=true) (h3:0 < sz) (h4:rows.all (fun r=>r.length=sz)=true) :
 ∃ t' H',appP 0 H sz e (.ps t rows) [r]=some (.ps t' (rows++[r.map AV.strip0]),H')∧App H' t' (rows++[r.map AV.strip0]) sz e∧H.n≤H'.n∧(∀ i c u,i < H.n→H.get i=.cells c u→H'.get i=.cells c u) ∧
   ∀ t2 rows2 sz2 e2,¬ (sz2=sz∧e2=e)→App H t2 rows2 sz2 e2→App H' t2 rows2 sz2 e2:=by
 rcases h with ⟨rfl,rfl⟩ | ⟨j,rfl,h6,h7,h8⟩
 · refine ⟨.tok H.n,H.push (.row [] sz e),app_first (by simp) (by show 1≤1073741824;decide) (by simp [h2]) h3,.inr ⟨H.n,rfl,by simp,by simp,by rw [Heap.get_push,if_pos rfl]⟩,by simp,fun i c u hi hc => ?_,fun t2 rows2 sz2 e2 _ ha=>ha.push _⟩
   rw [Heap.get_push,if_neg (by omega)];exact hc
 · refine ⟨.tok H.n,(H.set j .dead).push (.row [] sz e),app_next (by simp) (by simpa using h1) (by simp [h2]) h3 h4 h8 (Nat.zero_le _) h6,.inr ⟨H.n,rfl,by simp,by simp,by rw [Heap.get_push,if_pos (by simp)]⟩,by simp,fun i c u hi hc => ?_,fun t2 rows2 sz2 e2 hne ha => ?_⟩
   · rw [Heap.get_push,if_neg (by simp;omega),Heap.get_set,if_neg (fun he=>by rw [he,h8] at hc;cases hc)];exact hc
   · exact (ha.set _ (by rw [h8];intro he;cases he;exact hne ⟨rfl,rfl⟩)).push _
theorem rows_all {α:Type} {f:α→List AV} {sz:Nat} (hf:∀ x,(f x).length=sz) (l:List α):(l.map f).all (fun r=>decide (r.length=sz))=true:=by
 rw [List.all_eq_true]
 intro r hr
 obtain ⟨x,_,rfl⟩:=List.mem_map.1 hr
 simp [hf x]
theorem strip_ps (t:Tok) (rows:List (List AV)):AV.strip0 (.ps t rows)=.ps .unk rows:=rfl
attribute [go_sem] strip_ps
theorem take_map {α β:Type} {f:α→β} {l:List α} {k:Nat} {x:α} (h:l[k]? = some x):(l.take (k+1)).map f=(l.take k).map f++[f x]:=by
 rw [List.take_add_one,h];simp
theorem c19 (n:Net) (hn:n.fits) (hs:n.sws.length≤maxRows) (ht:n.sts.length≤maxRows):∀ lo H,CallOk NC lo 19 [.agg n.cells] H (.agg n.cells) H:=by
 refine contract saneNC primsN (fn:=Tryz.f19) (by kernel_rfl) Tryz.func19 rfl rfl (by rfl) (by rfl) ?_
 simp only [go_sem,reduceIte,reduceEqDiff,reduceAdd,reduceMul,reduceSub,reduceLeDiff,reduceLT,Nat.reduceBEq,reduceCtorEq,Net.cells]
 refine W_for (fun k T H M=>M=[]∧getT T 1=.ptr 0 0∧getT T 2=.ptr 1 0∧getT T 3=.ptr 2 0∧getT T 14=.ps .unk (n.lines.map Ln.row)∧getT T 15=i64 (n.lines.length:Nat)∧getT T 16=i64 k∧H.get 0=.cells n.cells 26∧H.get 1=.cells [.ps .nil [],.ps .nil [],.ps .nil []] 40∧2 < H.n ∧ ∃ t,H.get 2=.cells [.ps t ((n.lines.take k).map Ln.row),.ps .nil [],.ps .nil []] 40∧App H t ((n.lines.take k).map Ln.row) 2 196) n.lines.length ?_ ?_ ?_
 · simp only [go_sem,reduceIte,reduceEqDiff,reduceAdd,reduceMul,reduceSub,reduceLeDiff,reduceLT,Nat.reduceBEq,reduceCtorEq,Net.cells,List.length_map];exact ⟨.nil,by simp,.inl ⟨rfl,rfl⟩⟩
 · rintro k T H M hk ⟨rfl,g1,g2,g3,g14,g15,g16,h0,h1,hh,t,h2,hA⟩
   obtain ⟨l,hp⟩:∃ p,n.lines[k]? = some p:=⟨n.lines[k],by simp⟩
   have hfit:=hn.2 l (List.mem_of_getElem? hp)
   have hr:=map_at (f:=Ln.row) hp
   have hw:=wrap_succ hk hn.1
   have htk:=take_map (f:=Ln.row) hp
   simp only [Ln.row] at hr
   have b0:(0=H.n)=False:=by simp;omega
   have b1:(1=H.n)=False:=by simp;omega
   have b2:(2=H.n)=False:=by simp;omega
   have b3:(H.n=H.n+1)=False:=by simp
   have b4:(0=H.n+1)=False:=by simp
   have b5:(1=H.n+1)=False:=by simp;omega
   have b6:(2=H.n+1)=False:=by simp;omega
   simp only [go_sem,reduceIte,reduceEqDiff,reduceAdd,reduceMul,reduceSub,reduceLeDiff,reduceLT,Nat.reduceBEq,reduceCtorEq,g1,g2,g3,g14,g15,g16,h0,h1,h2,b0,b1,b2,b3,b4,b5,b6,List.length_map,hk,hr]
   refine W_for (fun k2 T' H' M=>M=[]∧getT T' 1=.ptr 0 0∧getT T' 2=.ptr 1 0∧getT T' 3=.ptr 2 0∧getT T' 14=.ps .unk (n.lines.map Ln.row)∧getT T' 15=i64 (n.lines.length:Nat)∧getT T' 16=i64 k∧getT T' 6=.ptr (H.n+1) 0∧getT T' 24=.ps .unk (l.ps.map Pc.row)∧getT T' 25=i64 (l.ps.length:Nat)∧getT T' 26=i64 k2∧H'.get 0=.cells n.cells 26∧H'.get 1=.cells [.ps .nil [],.ps .nil [],.ps .nil []] 40∧H.n+1 < H'.n∧(∃ t,H'.get 2=.cells [.ps t ((n.lines.take k).map Ln.row),.ps .nil [],.ps .nil []] 40∧App H' t ((n.lines.take k).map Ln.row) 2 196) ∧
    ∃ u,H'.get (H.n+1)=.cells [.str l.name,.ps u ((l.ps.take k2).map Pc.row)] 196∧App H' u ((l.ps.take k2).map Pc.row) 3 200) l.ps.length ?_ ?_ ?_
   · simp only [go_sem,reduceIte,reduceEqDiff,reduceAdd,reduceMul,reduceSub,reduceLeDiff,reduceLT,Nat.reduceBEq,reduceCtorEq,g1,g2,g3,g14,g15,g16,h0,h1,h2,b0,b1,b2,b3,b4,b5,b6,Net.cells,List.length_map]
     refine ⟨⟨t,rfl, ?_⟩,.nil,by simp,.inl ⟨rfl,rfl⟩⟩
     exact (hA.fresh _ _ rfl).fresh _ _ rfl
   · rintro k2 T' H' M hk2 ⟨rfl,i1,i2,i3,i14,i15,i16,i6,i24,i25,i26,j0,j1,jh,⟨t',j2,jA⟩,u,ju,jB⟩
     obtain ⟨p,hpp⟩:∃ p,l.ps[k2]? = some p:=⟨l.ps[k2],by simp⟩
     have hpr:=map_at (f:=Pc.row) hpp
     have hw2:=wrap_succ hk2 hfit
     have htk2:=take_map (f:=Pc.row) hpp
     obtain ⟨pl,pq,pb⟩:=p
     simp only [Pc.row] at hpr
     have d0:(0=H'.n)=False:=by simp;omega
     have d1:(1=H'.n)=False:=by simp;omega
     have d2:(2=H'.n)=False:=by simp;omega
     have d3:(H.n+1=H'.n)=False:=by simp;omega
     obtain ⟨u',H1,ha,hB',hn1,hc1,ho1⟩:=app_any (H:=(H'.push (.cells [.int .i64 0,.int .i64 0,.bool false] 97)).set H'.n (.cells [.int .i64 pl,.int .i64 pq,.bool pb] 97)) (jB.fresh _ _ rfl) (r:=[.int .i64 pl,.int .i64 pq,.bool pb]) (by simp;omega) rfl (by decide) (rows_all Pc.row_len _)
     have x1:=hc1 (H.n+1) [.str l.name,.ps u ((l.ps.take k2).map Pc.row)] 196 (by simp;omega) (by rw [Heap.get_set,if_neg (by omega),Heap.get_push,if_neg (by omega)];exact ju)
     have x0:=hc1 0 _ _ (by simp) (by rw [Heap.get_set,if_neg (by omega),Heap.get_push,if_neg (by omega)];exact j0)
     have x01:=hc1 1 _ _ (by simp;omega) (by rw [Heap.get_set,if_neg (by omega),Heap.get_push,if_neg (by omega)];exact j1)
     have x2:=hc1 2 _ _ (by simp;omega) (by rw [Heap.get_set,if_neg (by omega),Heap.get_push,if_neg (by omega)];exact j2)
     have xA:=ho1 _ _ 2 196 (by decide) (jA.fresh (.cells [.int .i64 0,.int .i64 0,.bool false] 97) (.cells [.int .i64 pl,.int .i64 pq,.bool pb] 97) rfl)
     simp only [Heap.n_set,Heap.n_push] at hn1
     simp only [go_sem,reduceIte,reduceEqDiff,reduceAdd,reduceMul,reduceSub,reduceLeDiff,reduceLT,Nat.reduceBEq,reduceCtorEq,i1,i2,i3,i14,i15,i16,i6,i24,i25,i26,d0,d1,d2,d3,b4,b5,b6,ju,List.length_map,hk2,hpr,hw2,appO,isIntT_slice,rowsIn,ha,x1,x0,x01,x2,strip_ps]
     rw [htk2]
     exact ⟨by omega,⟨t',rfl,xA.set _ (by rw [x1];simp)⟩,u',rfl,hB'.set _ (by rw [x1];simp)⟩
   · rintro T' H' M ⟨rfl,i1,i2,i3,i14,i15,i16,i6,i24,i25,i26,j0,j1,jh,⟨t',j2,jA⟩,u,ju,jB⟩
     rw [List.take_length] at ju jB
     obtain ⟨t2,H1,ha,hB',hn1,hc1,ho1⟩:=app_any jA (r:=[.str l.name,.ps .unk (l.ps.map Pc.row)]) (by simp;have:=hn.1;omega) rfl (by decide) (rows_all Ln.row_len _)
     have x0:=hc1 0 _ _ (by omega) j0
     have x01:=hc1 1 _ _ (by omega) j1
     have x2:=hc1 2 _ _ (by omega) j2
     simp only [go_sem,reduceIte,reduceEqDiff,reduceAdd,reduceMul,reduceSub,reduceLeDiff,reduceLT,Nat.reduceBEq,reduceCtorEq,i1,i2,i3,i14,i15,i16,i6,i24,i25,i26,ju,j2,List.length_map,Nat.lt_irrefl,appO,isIntT_slice,rowsIn,ha,x0,x01,x2,strip_ps,hw]
     rw [htk]
     exact ⟨by omega,t2,rfl,hB'.set _ (by rw [x2];simp)⟩
 rintro T H M ⟨rfl,g1,g2,g3,g14,g15,g16,h0,h1,hh,t,h2,hA⟩
 rw [List.take_length] at h2 hA
 simp only [go_sem,reduceIte,reduceEqDiff,reduceAdd,reduceMul,reduceSub,reduceLeDiff,reduceLT,Nat.reduceBEq,reduceCtorEq,g1,g2,g3,g14,g15,g16,h0,h1,h2,Net.cells,List.length_map,Nat.lt_irrefl]
 refine W_for (fun k T H M=>M=[]∧getT T 1=.ptr 0 0∧getT T 2=.ptr 1 0∧getT T 3=.ptr 2 0∧getT T 45=.ps .unk (n.sws.map Sw.row)∧getT T 46=i64 (n.sws.length:Nat)∧getT T 47=i64 k∧H.get 0=.cells n.cells 26∧H.get 1=.cells [.ps .nil [],.ps .nil [],.ps .nil []] 40∧2 < H.n ∧ ∃ u,H.get 2=.cells [.ps t (n.lines.map Ln.row),.ps u ((n.sws.take k).map Sw.row),.ps .nil []] 40∧App H u ((n.sws.take k).map Sw.row) 5 201) n.sws.length ?_ ?_ ?_
 · simp only [go_sem,reduceIte,reduceEqDiff,reduceAdd,reduceMul,reduceSub,reduceLeDiff,reduceLT,Nat.reduceBEq,reduceCtorEq,g1,g2,g3,h0,h1,h2,Net.cells,List.length_map];exact ⟨hh,.nil,by simp,.inl ⟨rfl,rfl⟩⟩
 · rintro k T H M hk ⟨rfl,g1,g2,g3,g14,g15,g16,h0,h1,hh,u,h2,hA⟩
   obtain ⟨l,hp⟩:∃ p,n.sws[k]? = some p:=⟨n.sws[k],by simp⟩
   have hr:=map_at (f:=Sw.row) hp
   have hw:=wrap_succ hk hs
   have htk:=take_map (f:=Sw.row) hp
   simp only [Sw.row] at hr
   have b0:(0=H.n)=False:=by simp;omega
   have b1:(1=H.n)=False:=by simp;omega
   have b2:(2=H.n)=False:=by simp;omega
   obtain ⟨u',H1,ha,hB',hn1,hc1,ho1⟩:=app_any (H:=(H.push (.cells [.str [],.str [],.int .i64 0,.str [],.bool false] 191)).set H.n (.cells [.str l.name,.str l.line,.int .i64 l.metre,.str l.other,.bool l.last] 191)) (hA.fresh _ _ rfl) (r:=[.str l.name,.str l.line,.int .i64 l.metre,.str l.other,.bool l.last]) (by simp;omega) rfl (by decide) (rows_all Sw.row_len _)
   have x0:=hc1 0 _ _ (by simp) (by rw [Heap.get_set,if_neg (by omega),Heap.get_push,if_neg (by omega)];exact h0)
   have x01:=hc1 1 _ _ (by simp;omega) (by rw [Heap.get_set,if_neg (by omega),Heap.get_push,if_neg (by omega)];exact h1)
   have x2:=hc1 2 _ _ (by simp;omega) (by rw [Heap.get_set,if_neg (by omega),Heap.get_push,if_neg (by omega)];exact h2)
   simp only [Heap.n_set,Heap.n_push] at hn1
   simp only [go_sem,reduceIte,reduceEqDiff,reduceAdd,reduceMul,reduceSub,reduceLeDiff,reduceLT,Nat.reduceBEq,reduceCtorEq,g1,g2,g3,g14,g15,g16,h0,h1,h2,b0,b1,b2,List.length_map,hk,hr,hw,appO,isIntT_slice,rowsIn,ha,x0,x01,x2]
   rw [htk]
   exact ⟨by omega,u',rfl,hB'.set _ (by rw [x2];simp)⟩
 rintro T H M ⟨rfl,g1,g2,g3,g14,g15,g16,h0,h1,hh,u,h2,hA⟩
 rw [List.take_length] at h2 hA
 simp only [go_sem,reduceIte,reduceEqDiff,reduceAdd,reduceMul,reduceSub,reduceLeDiff,reduceLT,Nat.reduceBEq,reduceCtorEq,g1,g2,g3,g14,g15,g16,h0,h1,h2,Net.cells,List.length_map,Nat.lt_irrefl]
 refine W_for (fun k T H M=>M=[]∧getT T 1=.ptr 0 0∧getT T 2=.ptr 1 0∧getT T 3=.ptr 2 0∧getT T 59=.ps .unk (n.sts.map Stc.row)∧getT T 60=i64 (n.sts.length:Nat)∧getT T 61=i64 k∧H.get 0=.cells n.cells 26∧H.get 1=.cells [.ps .nil [],.ps .nil [],.ps .nil []] 40∧2 < H.n ∧ ∃ v,H.get 2=.cells [.ps t (n.lines.map Ln.row),.ps u (n.sws.map Sw.row),.ps v ((n.sts.take k).map Stc.row)] 40∧App H v ((n.sts.take k).map Stc.row) 5 202) n.sts.length ?_ ?_ ?_
 · simp only [go_sem,reduceIte,reduceEqDiff,reduceAdd,reduceMul,reduceSub,reduceLeDiff,reduceLT,Nat.reduceBEq,reduceCtorEq,g1,g2,g3,h0,h1,h2,Net.cells,List.length_map];exact ⟨hh,.nil,by simp,.inl ⟨rfl,rfl⟩⟩
 · rintro k T H M hk ⟨rfl,g1,g2,g3,g14,g15,g16,h0,h1,hh,v,h2,hA⟩
   obtain ⟨l,hp⟩:∃ p,n.sts[k]? = some p:=⟨n.sts[k],by simp⟩
   have hr:=map_at (f:=Stc.row) hp
   have hw:=wrap_succ hk ht
   have htk:=take_map (f:=Stc.row) hp
   simp only [Stc.row] at hr
   have b0:(0=H.n)=False:=by simp;omega
   have b1:(1=H.n)=False:=by simp;omega
   have b2:(2=H.n)=False:=by simp;omega
   obtain ⟨u',H1,ha,hB',hn1,hc1,ho1⟩:=app_any (H:=(H.push (.cells [.str [],.str [],.str [],.int .i64 0,.int .i64 0] 193)).set H.n (.cells [.str l.name,.str l.kind,.str l.line,.int .i64 l.fr,.int .i64 l.till] 193)) (hA.fresh _ _ rfl) (r:=[.str l.name,.str l.kind,.str l.line,.int .i64 l.fr,.int .i64 l.till]) (by simp;omega) rfl (by decide) (rows_all Stc.row_len _)
   have x0:=hc1 0 _ _ (by simp) (by rw [Heap.get_set,if_neg (by omega),Heap.get_push,if_neg (by omega)];exact h0)
   have x01:=hc1 1 _ _ (by simp;omega) (by rw [Heap.get_set,if_neg (by omega),Heap.get_push,if_neg (by omega)];exact h1)
   have x2:=hc1 2 _ _ (by simp;omega) (by rw [Heap.get_set,if_neg (by omega),Heap.get_push,if_neg (by omega)];exact h2)
   simp only [Heap.n_set,Heap.n_push] at hn1
   simp only [go_sem,reduceIte,reduceEqDiff,reduceAdd,reduceMul,reduceSub,reduceLeDiff,reduceLT,Nat.reduceBEq,reduceCtorEq,g1,g2,g3,g14,g15,g16,h0,h1,h2,b0,b1,b2,List.length_map,hk,hr,hw,appO,isIntT_slice,rowsIn,ha,x0,x01,x2]
   rw [htk]
   exact ⟨by omega,u',rfl,hB'.set _ (by rw [x2];simp)⟩
 rintro T H M ⟨rfl,g1,g2,g3,g14,g15,g16,h0,h1,hh,v,h2,hA⟩
 rw [List.take_length] at h2 hA
 simp only [go_sem,reduceIte,reduceEqDiff,reduceAdd,reduceMul,reduceSub,reduceLeDiff,reduceLT,Nat.reduceBEq,reduceCtorEq,g1,g2,g3,g14,g15,g16,h0,h1,h2,Net.cells,List.length_map,Nat.lt_irrefl]
end Go.Sim

/-
Slices that are made by append, over blocks that stay.
-/
namespace Go.Sim
open Go Go.Proofs
def AppB (b:Nat) (H:Heap) (t:Tok) (rows:List (List AV)) (sz:Nat) (e:TypeId):Prop:=(t=.nil∧rows=[]) ∨ ∃ j,t=.tok j∧rows ≠ []∧b≤j∧j < H.n∧H.get j=.row [] sz e
def Old (b:Nat) (H H':Heap):Prop:=b≤H'.n ∧ ∀ i,i < b→H'.get i=H.get i
theorem Old.refl (H:Heap):Old H.n H H:=⟨Nat.le_refl _,fun _ _=>rfl⟩
theorem Old.push {b:Nat} {H H':Heap} (h:Old b H H') (x:ABlk):Old b H (H'.push x):=⟨by simp;have:=h.1;omega,fun i hi=>by rw [Heap.get_push,if_neg (by have:=h.1;omega)];exact h.2 i hi⟩
theorem Old.set {b:Nat} {H H':Heap} (h:Old b H H') {j:Nat} (hj:b≤j) (x:ABlk):Old b H (H'.set j x):=⟨by simpa using h.1,fun i hi=>by rw [Heap.get_set,if_neg (by omega)];exact h.2 i hi⟩
theorem Old.new {b:Nat} {H H':Heap} (h:Old b H H') (x y:ABlk):Old b H ((H'.push x).set H'.n y):=(h.push x).set h.1 y
theorem Old.trans {b:Nat} {H H1 H2:Heap} (h:Old b H H1) (h2:Old b H1 H2):Old b H H2:=⟨h2.1,fun i hi=>(h2.2 i hi).trans (h.2 i hi)⟩
theorem AppB.new {b:Nat} {H:Heap} {t:Tok} {rows:List (List AV)} {sz:Nat} {e:TypeId} (h:AppB b H t rows sz e) (x y:ABlk):AppB b ((H.push x).set H.n y) t rows sz e:=by
 rcases h with h | ⟨j,h1,h2,h3,h4,h5⟩
 · exact .inl h
 · exact .inr ⟨j,h1,h2,h3,by simp;omega,by rw [Heap.get_set,if_neg (by omega),Heap.get_push,if_neg (by omega)];exact h5⟩
theorem app_b {b:Nat} {H:Heap} {t:Tok} {rows:List (List AV)} {sz lo:Nat} {e:TypeId} (h:AppB b H t rows sz e) (hb:b≤H.n) (hlo:lo≤b) {r:List AV} (h1:rows.length+1≤maxRows) (h2:pureRow r=true) (h3:0 < sz) (h4:rows.all (fun r=>r.length=sz)=true) :
 ∃ t' H',appP lo H sz e (.ps t rows) [r]=some (.ps t' (rows++[r.map AV.strip0]),H')∧AppB b H' t' (rows++[r.map AV.strip0]) sz e∧H.n≤H'.n∧Old b H H'∧(∀ i c u,i < H.n→H.get i=.cells c u→H'.get i=.cells c u):=by
 rcases h with ⟨rfl,rfl⟩ | ⟨j,rfl,h6,hj,h7,h8⟩
 · refine ⟨.tok H.n,H.push (.row [] sz e),app_first (by simp) (by show 1≤1073741824;decide) (by simp [h2]) h3,.inr ⟨H.n,rfl,by simp,hb,by simp,by rw [Heap.get_push,if_pos rfl]⟩,by simp,⟨by simp;omega,fun i hi=>by rw [Heap.get_push,if_neg (by omega)]⟩,fun i c u hi hc => ?_⟩
   rw [Heap.get_push,if_neg (by omega)];exact hc
 · refine ⟨.tok H.n,(H.set j .dead).push (.row [] sz e),app_next (by simp) (by simpa using h1) (by simp [h2]) h3 h4 h8 (by omega) h6,.inr ⟨H.n,rfl,by simp,hb,by simp,by rw [Heap.get_push,if_pos (by simp)]⟩,by simp,⟨by simp;omega,fun i hi=>by rw [Heap.get_push,if_neg (by simp;omega),Heap.get_set,if_neg (by omega)]⟩,fun i c u hi hc => ?_⟩
   rw [Heap.get_push,if_neg (by simp;omega),Heap.get_set,if_neg (fun he=>by rw [he,h8] at hc;cases hc)];exact hc
end Go.Sim

/-
The plain law of short forms: pairs of places, their runs, and what the merging of two moves makes.
-/
namespace Go.Sim
open Go
structure Pr where
 a:List Nat
 i:Int
 b:List Nat
 j:Int
end Go.Sim

/-
Histories: data; the program's CheckHistory, On; moves that carry back.
-/
-- INJ Sv.row_iff svs_iff
namespace Go.Sim
open Go Go.Proofs
set_option maxRecDepth 100000
set_option maxHeartbeats 8000000
structure Sv where
 day:Int
 net:Net
 map:List Mv
def Sv.row (s:Sv):List AV:=i64 s.day::(s.net.cells++[.ps .unk (s.map.map Mv.row)])
end Go.Sim

/-
Histories: the program's Since.
-/
-- INJ Sv.row_iff svs_iff
namespace Go.Sim
open Go Go.Proofs
set_option maxRecDepth 100000
set_option maxHeartbeats 8000000
section
variable {C:Cfg} {lo:Nat} {fid:FuncId} {rnd:Bool} (T:TT AV) (H:Heap) (M:List Nat) (Q:AExit→TT AV→Heap→List Nat→Prop)
def unscope (Q:AExit→TT AV→Heap→List Nat→Prop) (e:AExit) (T:TT AV) (H:Heap) (M:List Nat) (_t:Tag Q:=⟨⟩):Prop:=match e with
 | .gto _=>False
 | e=>Q e T H M
theorem unscope_nrm:unscope Q .nrm T H M=Q .nrm T H M:=rfl
theorem unscope_ret:unscope Q .ret T H M=Q .ret T H M:=rfl
theorem unscope_ext (i:Nat):unscope Q (.ext i) T H M=Q (.ext i) T H M:=rfl
theorem W_scope (b:Code):W C lo fid rnd (.scope b) T H M Q=W C lo fid rnd b T H M (fun e T H M=>unscope Q e T H M):=by
 unfold W
 rw [R_scope]
 cases h:R C (.code lo fid rnd b ⟨T,H,M⟩) with
 | none=>rfl
 | some o=>obtain ⟨e,⟨T',H',M'⟩⟩:=o;cases e<;>rfl
end
attribute [go_sem ↓] W_scope W_label unscope_nrm unscope_ret unscope_ext
end Go.Sim

/-
The document's examples: what 'awake' returns, found by closed runs.
-/
namespace Go.Sim
open Go
def aw0:List Known:=[]
theorem awh0:∀ k ∈ aw0,∀ lo H,CallOk NC lo k.f k.args H k.v H:=fun k h=>by cases h
def ak1:Known:=⟨110,[.ps .unk [[.str [117,112],.ps .unk [[.int .i64 100,.int .i64 5000,.bool false],[.int .i64 50,.int .i64 5080,.bool false],[.int .i64 30,.int .i64 5200,.bool true]]],[.str [115,105,100,101],.ps .unk [[.int .i64 40,.int .i64 0,.bool false]]]]],.int .i64 0⟩
theorem ac1:∀ lo H,CallOk NC lo ak1.f ak1.args H ak1.v H:=known_ok saneNC awh0 (fuel:=5000) (by kernel_rfl) (by kernel_rfl) (by kernel_rfl)
def aw1:List Known:=ak1::aw0
theorem awh1:∀ k ∈ aw1,∀ lo H,CallOk NC lo k.f k.args H k.v H:=fun k h=>(List.mem_cons.1 h).elim (fun e=>e ▸ ac1) (awh0 k)
def ak2:Known:=⟨112,[.agg [.ps .unk [[.str [117,112],.ps .unk [[.int .i64 100,.int .i64 5000,.bool false],[.int .i64 50,.int .i64 5080,.bool false],[.int .i64 30,.int .i64 5200,.bool true]]],[.str [115,105,100,101],.ps .unk [[.int .i64 40,.int .i64 0,.bool false]]]],.ps .unk [[.str [119],.str [117,112],.int .i64 120,.str [115,105,100,101],.bool false]],.ps .unk [[.str [97,114,99,104],.str [98,114,105,100,103,101],.str [117,112],.int .i64 130,.int .i64 150]]]],.int .i64 0⟩
theorem ac2:∀ lo H,CallOk NC lo ak2.f ak2.args H ak2.v H:=known_ok saneNC awh1 (fuel:=5000) (by kernel_rfl) (by kernel_rfl) (by kernel_rfl)
def aw2:List Known:=ak2::aw1
theorem awh2:∀ k ∈ aw2,∀ lo H,CallOk NC lo k.f k.args H k.v H:=fun k h=>(List.mem_cons.1 h).elim (fun e=>e ▸ ac2) (awh1 k)
def ak3:Known:=⟨113,[.agg [.ps .unk [[.str [117,112],.ps .unk [[.int .i64 100,.int .i64 5000,.bool false],[.int .i64 50,.int .i64 5080,.bool false],[.int .i64 30,.int .i64 5200,.bool true]]],[.str [115,105,100,101],.ps .unk [[.int .i64 40,.int .i64 0,.bool false]]]],.ps .unk [[.str [119],.str [117,112],.int .i64 120,.str [115,105,100,101],.bool false]],.ps .unk [[.str [97,114,99,104],.str [98,114,105,100,103,101],.str [117,112],.int .i64 130,.int .i64 150]]]],.int .i64 0⟩
theorem ac3:∀ lo H,CallOk NC lo ak3.f ak3.args H ak3.v H:=known_ok saneNC awh2 (fuel:=5000) (by kernel_rfl) (by kernel_rfl) (by kernel_rfl)
def aw3:List Known:=ak3::aw2
theorem awh3:∀ k ∈ aw3,∀ lo H,CallOk NC lo k.f k.args H k.v H:=fun k h=>(List.mem_cons.1 h).elim (fun e=>e ▸ ac3) (awh2 k)
def ak4:Known:=⟨29,[.agg [.ps .unk [[.str [117,112],.ps .unk [[.int .i64 100,.int .i64 5000,.bool false],[.int .i64 50,.int .i64 5080,.bool false],[.int .i64 30,.int .i64 5200,.bool true]]],[.str [115,105,100,101],.ps .unk [[.int .i64 40,.int .i64 0,.bool false]]]],.ps .unk [[.str [119],.str [117,112],.int .i64 120,.str [115,105,100,101],.bool false]],.ps .unk [[.str [97,114,99,104],.str [98,114,105,100,103,101],.str [117,112],.int .i64 130,.int .i64 150]]]],.int .i64 0⟩
theorem ac4:∀ lo H,CallOk NC lo ak4.f ak4.args H ak4.v H:=known_ok saneNC awh3 (fuel:=5000) (by kernel_rfl) (by kernel_rfl) (by kernel_rfl)
def aw4:List Known:=ak4::aw3
theorem awh4:∀ k ∈ aw4,∀ lo H,CallOk NC lo k.f k.args H k.v H:=fun k h=>(List.mem_cons.1 h).elim (fun e=>e ▸ ac4) (awh3 k)
def ak5:Known:=⟨18,[.agg [.ps .unk [[.str [117,112],.ps .unk [[.int .i64 100,.int .i64 5000,.bool false],[.int .i64 50,.int .i64 5080,.bool false],[.int .i64 30,.int .i64 5200,.bool true]]],[.str [115,105,100,101],.ps .unk [[.int .i64 40,.int .i64 0,.bool false]]]],.ps .unk [[.str [119],.str [117,112],.int .i64 120,.str [115,105,100,101],.bool false]],.ps .unk [[.str [97,114,99,104],.str [98,114,105,100,103,101],.str [117,112],.int .i64 130,.int .i64 150]]],.str [117,112]],.tup [.int .i64 180,.int .i64 0]⟩
theorem ac5:∀ lo H,CallOk NC lo ak5.f ak5.args H ak5.v H:=known_ok saneNC awh4 (fuel:=5000) (by kernel_rfl) (by kernel_rfl) (by kernel_rfl)
def aw5:List Known:=ak5::aw4
theorem awh5:∀ k ∈ aw5,∀ lo H,CallOk NC lo k.f k.args H k.v H:=fun k h=>(List.mem_cons.1 h).elim (fun e=>e ▸ ac5) (awh4 k)
def ak6:Known:=⟨20,[.agg [.ps .unk [[.str [117,112],.ps .unk [[.int .i64 100,.int .i64 5000,.bool false],[.int .i64 50,.int .i64 5080,.bool false],[.int .i64 30,.int .i64 5200,.bool true]]],[.str [115,105,100,101],.ps .unk [[.int .i64 40,.int .i64 0,.bool false]]]],.ps .unk [[.str [119],.str [117,112],.int .i64 120,.str [115,105,100,101],.bool false]],.ps .unk [[.str [97,114,99,104],.str [98,114,105,100,103,101],.str [117,112],.int .i64 130,.int .i64 150]]],.agg [.str [117,112],.int .i64 120]],.tup [.agg [.str [117,112],.int .i64 1,.int .i64 5100],.int .i64 0]⟩
theorem ac6:∀ lo H,CallOk NC lo ak6.f ak6.args H ak6.v H:=known_ok saneNC awh5 (fuel:=5000) (by kernel_rfl) (by kernel_rfl) (by kernel_rfl)
def aw6:List Known:=ak6::aw5
theorem awh6:∀ k ∈ aw6,∀ lo H,CallOk NC lo k.f k.args H k.v H:=fun k h=>(List.mem_cons.1 h).elim (fun e=>e ▸ ac6) (awh5 k)
def ak7:Known:=⟨20,[.agg [.ps .unk [[.str [117,112],.ps .unk [[.int .i64 100,.int .i64 5000,.bool false],[.int .i64 50,.int .i64 5080,.bool false],[.int .i64 30,.int .i64 5200,.bool true]]],[.str [115,105,100,101],.ps .unk [[.int .i64 40,.int .i64 0,.bool false]]]],.ps .unk [[.str [119],.str [117,112],.int .i64 120,.str [115,105,100,101],.bool false]],.ps .unk [[.str [97,114,99,104],.str [98,114,105,100,103,101],.str [117,112],.int .i64 130,.int .i64 150]]],.agg [.str [117,112],.int .i64 179]],.tup [.agg [.str [117,112],.int .i64 2,.int .i64 5171],.int .i64 0]⟩
theorem ac7:∀ lo H,CallOk NC lo ak7.f ak7.args H ak7.v H:=known_ok saneNC awh6 (fuel:=5000) (by kernel_rfl) (by kernel_rfl) (by kernel_rfl)
def aw7:List Known:=ak7::aw6
theorem awh7:∀ k ∈ aw7,∀ lo H,CallOk NC lo k.f k.args H k.v H:=fun k h=>(List.mem_cons.1 h).elim (fun e=>e ▸ ac7) (awh6 k)
def ak8:Known:=⟨51,[.agg [.ps .unk [[.str [117,112],.ps .unk [[.int .i64 100,.int .i64 5000,.bool false],[.int .i64 50,.int .i64 5080,.bool false],[.int .i64 30,.int .i64 5200,.bool true]]],[.str [115,105,100,101],.ps .unk [[.int .i64 40,.int .i64 0,.bool false]]]],.ps .unk [[.str [119],.str [117,112],.int .i64 120,.str [115,105,100,101],.bool false]],.ps .unk [[.str [97,114,99,104],.str [98,114,105,100,103,101],.str [117,112],.int .i64 130,.int .i64 150]]],.str [117,112],.int .i64 5090],.tup [.ps .unk [[.str [117,112],.int .i64 0,.int .i64 5090],[.str [117,112],.int .i64 1,.int .i64 5090]],.int .i64 0]⟩
theorem ac8:∀ lo H,CallOk NC lo ak8.f ak8.args H ak8.v H:=known_ok saneNC awh7 (fuel:=5000) (by kernel_rfl) (by kernel_rfl) (by kernel_rfl)
def aw8:List Known:=ak8::aw7
theorem awh8:∀ k ∈ aw8,∀ lo H,CallOk NC lo k.f k.args H k.v H:=fun k h=>(List.mem_cons.1 h).elim (fun e=>e ▸ ac8) (awh7 k)
def ak9:Known:=⟨21,[.agg [.ps .unk [[.str [117,112],.ps .unk [[.int .i64 100,.int .i64 5000,.bool false],[.int .i64 50,.int .i64 5080,.bool false],[.int .i64 30,.int .i64 5200,.bool true]]],[.str [115,105,100,101],.ps .unk [[.int .i64 40,.int .i64 0,.bool false]]]],.ps .unk [[.str [119],.str [117,112],.int .i64 120,.str [115,105,100,101],.bool false]],.ps .unk [[.str [97,114,99,104],.str [98,114,105,100,103,101],.str [117,112],.int .i64 130,.int .i64 150]]],.agg [.str [117,112],.int .i64 1,.int .i64 5090]],.tup [.agg [.str [117,112],.int .i64 110],.int .i64 0]⟩
theorem ac9:∀ lo H,CallOk NC lo ak9.f ak9.args H ak9.v H:=known_ok saneNC awh8 (fuel:=5000) (by kernel_rfl) (by kernel_rfl) (by kernel_rfl)
def aw9:List Known:=ak9::aw8
theorem awh9:∀ k ∈ aw9,∀ lo H,CallOk NC lo k.f k.args H k.v H:=fun k h=>(List.mem_cons.1 h).elim (fun e=>e ▸ ac9) (awh8 k)
def ak10:Known:=⟨114,[.agg [.ps .unk [[.str [117,112],.ps .unk [[.int .i64 100,.int .i64 5000,.bool false],[.int .i64 50,.int .i64 5080,.bool false],[.int .i64 30,.int .i64 5200,.bool true]]],[.str [115,105,100,101],.ps .unk [[.int .i64 40,.int .i64 0,.bool false]]]],.ps .unk [[.str [119],.str [117,112],.int .i64 120,.str [115,105,100,101],.bool false]],.ps .unk [[.str [97,114,99,104],.str [98,114,105,100,103,101],.str [117,112],.int .i64 130,.int .i64 150]]],.ps .unk [[.str [117,112],.int .i64 100],[.str [115,105,100,101],.int .i64 10]]],.int .i64 0⟩
theorem ac10:∀ lo H,CallOk NC lo ak10.f ak10.args H ak10.v H:=known_ok saneNC awh9 (fuel:=5000) (by kernel_rfl) (by kernel_rfl) (by kernel_rfl)
def aw10:List Known:=ak10::aw9
theorem awh10:∀ k ∈ aw10,∀ lo H,CallOk NC lo k.f k.args H k.v H:=fun k h=>(List.mem_cons.1 h).elim (fun e=>e ▸ ac10) (awh9 k)
def ak11:Known:=⟨203,[.agg [.ps .unk [[.str [117,112],.ps .unk [[.int .i64 100,.int .i64 5000,.bool false],[.int .i64 50,.int .i64 5080,.bool false],[.int .i64 30,.int .i64 5200,.bool true]]],[.str [115,105,100,101],.ps .unk [[.int .i64 40,.int .i64 0,.bool false]]]],.ps .unk [[.str [119],.str [117,112],.int .i64 120,.str [115,105,100,101],.bool false]],.ps .unk [[.str [97,114,99,104],.str [98,114,105,100,103,101],.str [117,112],.int .i64 130,.int .i64 150]]],.agg [.ps .unk [[.str [117,112],.int .i64 100,.int .i64 120],[.str [115,105,100,101],.int .i64 0,.int .i64 0],[.str [117,112],.int .i64 120,.int .i64 120]],.int .i64 20],.agg [.ps .unk [[.str [117,112],.int .i64 100,.int .i64 120]],.int .i64 20]],.int .i64 1⟩
theorem ac11:∀ lo H,CallOk NC lo ak11.f ak11.args H ak11.v H:=known_ok saneNC awh10 (fuel:=5000) (by kernel_rfl) (by kernel_rfl) (by kernel_rfl)
def aw11:List Known:=ak11::aw10
theorem awh11:∀ k ∈ aw11,∀ lo H,CallOk NC lo k.f k.args H k.v H:=fun k h=>(List.mem_cons.1 h).elim (fun e=>e ▸ ac11) (awh10 k)
def ak12:Known:=⟨203,[.agg [.ps .unk [[.str [117,112],.ps .unk [[.int .i64 100,.int .i64 5000,.bool false],[.int .i64 50,.int .i64 5080,.bool false],[.int .i64 30,.int .i64 5200,.bool true]]],[.str [115,105,100,101],.ps .unk [[.int .i64 40,.int .i64 0,.bool false]]]],.ps .unk [[.str [119],.str [117,112],.int .i64 120,.str [115,105,100,101],.bool false]],.ps .unk [[.str [97,114,99,104],.str [98,114,105,100,103,101],.str [117,112],.int .i64 130,.int .i64 150]]],.agg [.ps .unk [[.str [117,112],.int .i64 100,.int .i64 120],[.str [115,105,100,101],.int .i64 0,.int .i64 0]],.int .i64 20],.agg [.ps .unk [[.str [117,112],.int .i64 100,.int .i64 120],[.str [115,105,100,101],.int .i64 0,.int .i64 0]],.int .i64 20]],.int .i64 0⟩
theorem ac12:∀ lo H,CallOk NC lo ak12.f ak12.args H ak12.v H:=known_ok saneNC awh11 (fuel:=5000) (by kernel_rfl) (by kernel_rfl) (by kernel_rfl)
def aw12:List Known:=ak12::aw11
theorem awh12:∀ k ∈ aw12,∀ lo H,CallOk NC lo k.f k.args H k.v H:=fun k h=>(List.mem_cons.1 h).elim (fun e=>e ▸ ac12) (awh11 k)
def ak13:Known:=⟨142,[.agg [.ps .unk [[.str [117,112],.ps .unk [[.int .i64 100,.int .i64 5000,.bool false],[.int .i64 50,.int .i64 5080,.bool false],[.int .i64 30,.int .i64 5200,.bool true]]],[.str [115,105,100,101],.ps .unk [[.int .i64 40,.int .i64 0,.bool false]]]],.ps .unk [[.str [119],.str [117,112],.int .i64 120,.str [115,105,100,101],.bool false]],.ps .unk [[.str [97,114,99,104],.str [98,114,105,100,103,101],.str [117,112],.int .i64 130,.int .i64 150]]],.agg [.str [117,112],.int .i64 100],.agg [.str [115,105,100,101],.int .i64 10]],.tup [.agg [.ps .unk [[.str [117,112],.int .i64 100,.int .i64 120],[.str [115,105,100,101],.int .i64 0,.int .i64 10]],.int .i64 30],.bool true]⟩
theorem ac13:∀ lo H,CallOk NC lo ak13.f ak13.args H ak13.v H:=known_ok saneNC awh12 (fuel:=5000) (by kernel_rfl) (by kernel_rfl) (by kernel_rfl)
def aw13:List Known:=ak13::aw12
theorem awh13:∀ k ∈ aw13,∀ lo H,CallOk NC lo k.f k.args H k.v H:=fun k h=>(List.mem_cons.1 h).elim (fun e=>e ▸ ac13) (awh12 k)
def ak14:Known:=⟨71,[.agg [.ps .unk [[.str [117,112],.ps .unk [[.int .i64 100,.int .i64 5000,.bool false],[.int .i64 50,.int .i64 5080,.bool false],[.int .i64 30,.int .i64 5200,.bool true]]],[.str [115,105,100,101],.ps .unk [[.int .i64 40,.int .i64 0,.bool false]]]],.ps .unk [[.str [119],.str [117,112],.int .i64 120,.str [115,105,100,101],.bool false]],.ps .unk [[.str [97,114,99,104],.str [98,114,105,100,103,101],.str [117,112],.int .i64 130,.int .i64 150]]],.agg [.str [117,112],.int .i64 100],.agg [.str [115,105,100,101],.int .i64 10]],.tup [.ps .unk [[.str [117,112],.int .i64 100,.int .i64 120],[.str [115,105,100,101],.int .i64 0,.int .i64 10]],.int .i64 30,.int .i64 0]⟩
theorem ac14:∀ lo H,CallOk NC lo ak14.f ak14.args H ak14.v H:=known_ok saneNC awh13 (fuel:=5000) (by kernel_rfl) (by kernel_rfl) (by kernel_rfl)
def aw14:List Known:=ak14::aw13
theorem awh14:∀ k ∈ aw14,∀ lo H,CallOk NC lo k.f k.args H k.v H:=fun k h=>(List.mem_cons.1 h).elim (fun e=>e ▸ ac14) (awh13 k)
def ak15:Known:=⟨114,[.agg [.ps .unk [[.str [117,112],.ps .unk [[.int .i64 100,.int .i64 5000,.bool false],[.int .i64 50,.int .i64 5080,.bool false],[.int .i64 30,.int .i64 5200,.bool true]]],[.str [115,105,100,101],.ps .unk [[.int .i64 40,.int .i64 0,.bool false]]]],.ps .unk [[.str [119],.str [117,112],.int .i64 120,.str [115,105,100,101],.bool false]],.ps .unk [[.str [97,114,99,104],.str [98,114,105,100,103,101],.str [117,112],.int .i64 130,.int .i64 150]]],.ps .unk [[.str [115,105,100,101],.int .i64 5]]],.int .i64 0⟩
theorem ac15:∀ lo H,CallOk NC lo ak15.f ak15.args H ak15.v H:=known_ok saneNC awh14 (fuel:=5000) (by kernel_rfl) (by kernel_rfl) (by kernel_rfl)
def aw15:List Known:=ak15::aw14
theorem awh15:∀ k ∈ aw15,∀ lo H,CallOk NC lo k.f k.args H k.v H:=fun k h=>(List.mem_cons.1 h).elim (fun e=>e ▸ ac15) (awh14 k)
def ak16:Known:=⟨203,[.agg [.ps .unk [[.str [117,112],.ps .unk [[.int .i64 100,.int .i64 5000,.bool false],[.int .i64 50,.int .i64 5080,.bool false],[.int .i64 30,.int .i64 5200,.bool true]]],[.str [115,105,100,101],.ps .unk [[.int .i64 40,.int .i64 0,.bool false]]]],.ps .unk [[.str [119],.str [117,112],.int .i64 120,.str [115,105,100,101],.bool false]],.ps .unk [[.str [97,114,99,104],.str [98,114,105,100,103,101],.str [117,112],.int .i64 130,.int .i64 150]]],.agg [.ps .unk [[.str [115,105,100,101],.int .i64 5,.int .i64 0],[.str [117,112],.int .i64 120,.int .i64 120],[.str [115,105,100,101],.int .i64 0,.int .i64 0]],.int .i64 5],.agg [.ps .unk [[.str [115,105,100,101],.int .i64 5,.int .i64 0]],.int .i64 5]],.int .i64 1⟩
theorem ac16:∀ lo H,CallOk NC lo ak16.f ak16.args H ak16.v H:=known_ok saneNC awh15 (fuel:=5000) (by kernel_rfl) (by kernel_rfl) (by kernel_rfl)
def aw16:List Known:=ak16::aw15
theorem awh16:∀ k ∈ aw16,∀ lo H,CallOk NC lo k.f k.args H k.v H:=fun k h=>(List.mem_cons.1 h).elim (fun e=>e ▸ ac16) (awh15 k)
def ak17:Known:=⟨203,[.agg [.ps .unk [[.str [117,112],.ps .unk [[.int .i64 100,.int .i64 5000,.bool false],[.int .i64 50,.int .i64 5080,.bool false],[.int .i64 30,.int .i64 5200,.bool true]]],[.str [115,105,100,101],.ps .unk [[.int .i64 40,.int .i64 0,.bool false]]]],.ps .unk [[.str [119],.str [117,112],.int .i64 120,.str [115,105,100,101],.bool false]],.ps .unk [[.str [97,114,99,104],.str [98,114,105,100,103,101],.str [117,112],.int .i64 130,.int .i64 150]]],.agg [.ps .unk [[.str [115,105,100,101],.int .i64 5,.int .i64 0],[.str [117,112],.int .i64 120,.int .i64 120]],.int .i64 5],.agg [.ps .unk [[.str [115,105,100,101],.int .i64 5,.int .i64 0],[.str [117,112],.int .i64 120,.int .i64 120]],.int .i64 5]],.int .i64 0⟩
theorem ac17:∀ lo H,CallOk NC lo ak17.f ak17.args H ak17.v H:=known_ok saneNC awh16 (fuel:=5000) (by kernel_rfl) (by kernel_rfl) (by kernel_rfl)
def aw17:List Known:=ak17::aw16
theorem awh17:∀ k ∈ aw17,∀ lo H,CallOk NC lo k.f k.args H k.v H:=fun k h=>(List.mem_cons.1 h).elim (fun e=>e ▸ ac17) (awh16 k)
def ak18:Known:=⟨116,[.agg [.ps .unk [[.str [117,112],.ps .unk [[.int .i64 100,.int .i64 5000,.bool false],[.int .i64 50,.int .i64 5080,.bool false],[.int .i64 30,.int .i64 5200,.bool true]]],[.str [115,105,100,101],.ps .unk [[.int .i64 40,.int .i64 0,.bool false]]]],.ps .unk [[.str [119],.str [117,112],.int .i64 120,.str [115,105,100,101],.bool false]],.ps .unk [[.str [97,114,99,104],.str [98,114,105,100,103,101],.str [117,112],.int .i64 130,.int .i64 150]]],.agg [.str [115,105,100,101],.int .i64 5]],.ps .unk [[.str [115,105,100,101],.int .i64 5,.int .i64 0],[.str [115,105,100,101],.int .i64 0,.int .i64 5],[.str [117,112],.int .i64 120,.int .i64 5]]⟩
theorem ac18:∀ lo H,CallOk NC lo ak18.f ak18.args H ak18.v H:=known_ok saneNC awh17 (fuel:=5000) (by kernel_rfl) (by kernel_rfl) (by kernel_rfl)
def aw18:List Known:=ak18::aw17
theorem awh18:∀ k ∈ aw18,∀ lo H,CallOk NC lo k.f k.args H k.v H:=fun k h=>(List.mem_cons.1 h).elim (fun e=>e ▸ ac18) (awh17 k)
def ak19:Known:=⟨33,[.agg [.ps .unk [[.str [117,112],.ps .unk [[.int .i64 100,.int .i64 5000,.bool false],[.int .i64 50,.int .i64 5080,.bool false],[.int .i64 30,.int .i64 5200,.bool true]]],[.str [115,105,100,101],.ps .unk [[.int .i64 40,.int .i64 0,.bool false]]]],.ps .unk [[.str [119],.str [117,112],.int .i64 120,.str [115,105,100,101],.bool false]],.ps .unk [[.str [97,114,99,104],.str [98,114,105,100,103,101],.str [117,112],.int .i64 130,.int .i64 150]]],.agg [.str [115,105,100,101],.int .i64 5],.str [98,114,105,100,103,101]],.tup [.str [97,114,99,104],.int .i64 15,.int .i64 0]⟩
theorem ac19:∀ lo H,CallOk NC lo ak19.f ak19.args H ak19.v H:=known_ok saneNC awh18 (fuel:=5000) (by kernel_rfl) (by kernel_rfl) (by kernel_rfl)
def aw19:List Known:=ak19::aw18
theorem awh19:∀ k ∈ aw19,∀ lo H,CallOk NC lo k.f k.args H k.v H:=fun k h=>(List.mem_cons.1 h).elim (fun e=>e ▸ ac19) (awh18 k)
def ak20:Known:=⟨127,[.agg [.str [117,112],.int .i64 0,.int .i64 100,.str [109,97,105,110],.int .i64 20,.bool false]],.int .i64 0⟩
theorem ac20:∀ lo H,CallOk NC lo ak20.f ak20.args H ak20.v H:=known_ok saneNC awh19 (fuel:=5000) (by kernel_rfl) (by kernel_rfl) (by kernel_rfl)
def aw20:List Known:=ak20::aw19
theorem awh20:∀ k ∈ aw20,∀ lo H,CallOk NC lo k.f k.args H k.v H:=fun k h=>(List.mem_cons.1 h).elim (fun e=>e ▸ ac20) (awh19 k)
def ak21:Known:=⟨127,[.agg [.str [117,112],.int .i64 100,.int .i64 50,.str [109,97,105,110],.int .i64 200,.bool true]],.int .i64 0⟩
theorem ac21:∀ lo H,CallOk NC lo ak21.f ak21.args H ak21.v H:=known_ok saneNC awh20 (fuel:=5000) (by kernel_rfl) (by kernel_rfl) (by kernel_rfl)
def aw21:List Known:=ak21::aw20
theorem awh21:∀ k ∈ aw21,∀ lo H,CallOk NC lo k.f k.args H k.v H:=fun k h=>(List.mem_cons.1 h).elim (fun e=>e ▸ ac21) (awh20 k)
def ak22:Known:=⟨49,[.ps .unk [[.str [117,112],.int .i64 0,.int .i64 100,.str [109,97,105,110],.int .i64 20,.bool false],[.str [117,112],.int .i64 100,.int .i64 50,.str [109,97,105,110],.int .i64 200,.bool true]]],.int .i64 0⟩
theorem ac22:∀ lo H,CallOk NC lo ak22.f ak22.args H ak22.v H:=known_ok saneNC awh21 (fuel:=5000) (by kernel_rfl) (by kernel_rfl) (by kernel_rfl)
def aw22:List Known:=ak22::aw21
theorem awh22:∀ k ∈ aw22,∀ lo H,CallOk NC lo k.f k.args H k.v H:=fun k h=>(List.mem_cons.1 h).elim (fun e=>e ▸ ac22) (awh21 k)
def ak23:Known:=⟨42,[.ps .unk [[.str [117,112],.int .i64 0,.int .i64 100,.str [109,97,105,110],.int .i64 20,.bool false],[.str [117,112],.int .i64 100,.int .i64 50,.str [109,97,105,110],.int .i64 200,.bool true]],.agg [.str [117,112],.int .i64 110]],.tup [.agg [.str [109,97,105,110],.int .i64 239],.int .i64 0]⟩
theorem ac23:∀ lo H,CallOk NC lo ak23.f ak23.args H ak23.v H:=known_ok saneNC awh22 (fuel:=5000) (by kernel_rfl) (by kernel_rfl) (by kernel_rfl)
def aw23:List Known:=ak23::aw22
theorem awh23:∀ k ∈ aw23,∀ lo H,CallOk NC lo k.f k.args H k.v H:=fun k h=>(List.mem_cons.1 h).elim (fun e=>e ▸ ac23) (awh22 k)
def ak24:Known:=⟨54,[.ps .unk [[.str [117,112],.int .i64 0,.int .i64 100,.str [109,97,105,110],.int .i64 20,.bool false],[.str [117,112],.int .i64 100,.int .i64 50,.str [109,97,105,110],.int .i64 200,.bool true]]],.tup [.ps .unk [[.str [109,97,105,110],.int .i64 20,.int .i64 100,.str [117,112],.int .i64 0,.bool false],[.str [109,97,105,110],.int .i64 200,.int .i64 50,.str [117,112],.int .i64 100,.bool true]],.int .i64 0]⟩
theorem ac24:∀ lo H,CallOk NC lo ak24.f ak24.args H ak24.v H:=known_ok saneNC awh23 (fuel:=5000) (by kernel_rfl) (by kernel_rfl) (by kernel_rfl)
def aw24:List Known:=ak24::aw23
theorem awh24:∀ k ∈ aw24,∀ lo H,CallOk NC lo k.f k.args H k.v H:=fun k h=>(List.mem_cons.1 h).elim (fun e=>e ▸ ac24) (awh23 k)
def ak25:Known:=⟨127,[.agg [.str [109,97,105,110],.int .i64 0,.int .i64 60,.str [111,108,100],.int .i64 500,.bool false]],.int .i64 0⟩
theorem ac25:∀ lo H,CallOk NC lo ak25.f ak25.args H ak25.v H:=known_ok saneNC awh24 (fuel:=5000) (by kernel_rfl) (by kernel_rfl) (by kernel_rfl)
def aw25:List Known:=ak25::aw24
theorem awh25:∀ k ∈ aw25,∀ lo H,CallOk NC lo k.f k.args H k.v H:=fun k h=>(List.mem_cons.1 h).elim (fun e=>e ▸ ac25) (awh24 k)
def ak26:Known:=⟨49,[.ps .unk [[.str [109,97,105,110],.int .i64 0,.int .i64 60,.str [111,108,100],.int .i64 500,.bool false]]],.int .i64 0⟩
theorem ac26:∀ lo H,CallOk NC lo ak26.f ak26.args H ak26.v H:=known_ok saneNC awh25 (fuel:=5000) (by kernel_rfl) (by kernel_rfl) (by kernel_rfl)
def aw26:List Known:=ak26::aw25
theorem awh26:∀ k ∈ aw26,∀ lo H,CallOk NC lo k.f k.args H k.v H:=fun k h=>(List.mem_cons.1 h).elim (fun e=>e ▸ ac26) (awh25 k)
def ak27:Known:=⟨55,[.ps .unk [[.str [117,112],.int .i64 0,.int .i64 100,.str [109,97,105,110],.int .i64 20,.bool false],[.str [117,112],.int .i64 100,.int .i64 50,.str [109,97,105,110],.int .i64 200,.bool true]],.ps .unk [[.str [109,97,105,110],.int .i64 0,.int .i64 60,.str [111,108,100],.int .i64 500,.bool false]]],.tup [.ps .unk [[.str [117,112],.int .i64 0,.int .i64 40,.str [111,108,100],.int .i64 520,.bool false]],.int .i64 0]⟩
theorem ac27:∀ lo H,CallOk NC lo ak27.f ak27.args H ak27.v H:=known_ok saneNC awh26 (fuel:=5000) (by kernel_rfl) (by kernel_rfl) (by kernel_rfl)
def aw27:List Known:=ak27::aw26
theorem awh27:∀ k ∈ aw27,∀ lo H,CallOk NC lo k.f k.args H k.v H:=fun k h=>(List.mem_cons.1 h).elim (fun e=>e ▸ ac27) (awh26 k)
def ak28:Known:=⟨110,[.ps .unk [[.str [109,97,105,110],.ps .unk [[.int .i64 300,.int .i64 1000,.bool false]]]]],.int .i64 0⟩
theorem ac28:∀ lo H,CallOk NC lo ak28.f ak28.args H ak28.v H:=known_ok saneNC awh27 (fuel:=5000) (by kernel_rfl) (by kernel_rfl) (by kernel_rfl)
def aw28:List Known:=ak28::aw27
theorem awh28:∀ k ∈ aw28,∀ lo H,CallOk NC lo k.f k.args H k.v H:=fun k h=>(List.mem_cons.1 h).elim (fun e=>e ▸ ac28) (awh27 k)
def ak29:Known:=⟨29,[.agg [.ps .unk [[.str [109,97,105,110],.ps .unk [[.int .i64 300,.int .i64 1000,.bool false]]]],.ps .unk [],.ps .unk []]],.int .i64 0⟩
theorem ac29:∀ lo H,CallOk NC lo ak29.f ak29.args H ak29.v H:=known_ok saneNC awh28 (fuel:=5000) (by kernel_rfl) (by kernel_rfl) (by kernel_rfl)
def aw29:List Known:=ak29::aw28
theorem awh29:∀ k ∈ aw29,∀ lo H,CallOk NC lo k.f k.args H k.v H:=fun k h=>(List.mem_cons.1 h).elim (fun e=>e ▸ ac29) (awh28 k)
def ak30:Known:=⟨133,[.agg [.ps .unk [[.str [117,112],.ps .unk [[.int .i64 100,.int .i64 5000,.bool false],[.int .i64 50,.int .i64 5080,.bool false],[.int .i64 30,.int .i64 5200,.bool true]]],[.str [115,105,100,101],.ps .unk [[.int .i64 40,.int .i64 0,.bool false]]]],.ps .unk [[.str [119],.str [117,112],.int .i64 120,.str [115,105,100,101],.bool false]],.ps .unk [[.str [97,114,99,104],.str [98,114,105,100,103,101],.str [117,112],.int .i64 130,.int .i64 150]]],.str [117,112],.agg [.int .i64 0,.int .i64 100]],.int .i64 0⟩
theorem ac30:∀ lo H,CallOk NC lo ak30.f ak30.args H ak30.v H:=known_ok saneNC awh29 (fuel:=5000) (by kernel_rfl) (by kernel_rfl) (by kernel_rfl)
def aw30:List Known:=ak30::aw29
theorem awh30:∀ k ∈ aw30,∀ lo H,CallOk NC lo k.f k.args H k.v H:=fun k h=>(List.mem_cons.1 h).elim (fun e=>e ▸ ac30) (awh29 k)
def ak31:Known:=⟨133,[.agg [.ps .unk [[.str [117,112],.ps .unk [[.int .i64 100,.int .i64 5000,.bool false],[.int .i64 50,.int .i64 5080,.bool false],[.int .i64 30,.int .i64 5200,.bool true]]],[.str [115,105,100,101],.ps .unk [[.int .i64 40,.int .i64 0,.bool false]]]],.ps .unk [[.str [119],.str [117,112],.int .i64 120,.str [115,105,100,101],.bool false]],.ps .unk [[.str [97,114,99,104],.str [98,114,105,100,103,101],.str [117,112],.int .i64 130,.int .i64 150]]],.str [117,112],.agg [.int .i64 100,.int .i64 150]],.int .i64 0⟩
theorem ac31:∀ lo H,CallOk NC lo ak31.f ak31.args H ak31.v H:=known_ok saneNC awh30 (fuel:=5000) (by kernel_rfl) (by kernel_rfl) (by kernel_rfl)
def aw31:List Known:=ak31::aw30
theorem awh31:∀ k ∈ aw31,∀ lo H,CallOk NC lo k.f k.args H k.v H:=fun k h=>(List.mem_cons.1 h).elim (fun e=>e ▸ ac31) (awh30 k)
def ak32:Known:=⟨50,[.ps .unk [[.str [117,112],.int .i64 0,.int .i64 100,.str [109,97,105,110],.int .i64 20,.bool false],[.str [117,112],.int .i64 100,.int .i64 50,.str [109,97,105,110],.int .i64 200,.bool true]],.agg [.ps .unk [[.str [117,112],.ps .unk [[.int .i64 100,.int .i64 5000,.bool false],[.int .i64 50,.int .i64 5080,.bool false],[.int .i64 30,.int .i64 5200,.bool true]]],[.str [115,105,100,101],.ps .unk [[.int .i64 40,.int .i64 0,.bool false]]]],.ps .unk [[.str [119],.str [117,112],.int .i64 120,.str [115,105,100,101],.bool false]],.ps .unk [[.str [97,114,99,104],.str [98,114,105,100,103,101],.str [117,112],.int .i64 130,.int .i64 150]]],.agg [.ps .unk [[.str [109,97,105,110],.ps .unk [[.int .i64 300,.int .i64 1000,.bool false]]]],.ps .unk [],.ps .unk []]],.int .i64 0⟩
theorem ac32:∀ lo H,CallOk NC lo ak32.f ak32.args H ak32.v H:=known_ok saneNC awh31 (fuel:=5000) (by kernel_rfl) (by kernel_rfl) (by kernel_rfl)
def aw32:List Known:=ak32::aw31
theorem awh32:∀ k ∈ aw32,∀ lo H,CallOk NC lo k.f k.args H k.v H:=fun k h=>(List.mem_cons.1 h).elim (fun e=>e ▸ ac32) (awh31 k)
def ak33:Known:=⟨69,[.ps .unk [[.int .i64 10,.ps .unk [[.str [117,112],.ps .unk [[.int .i64 100,.int .i64 5000,.bool false],[.int .i64 50,.int .i64 5080,.bool false],[.int .i64 30,.int .i64 5200,.bool true]]],[.str [115,105,100,101],.ps .unk [[.int .i64 40,.int .i64 0,.bool false]]]],.ps .unk [[.str [119],.str [117,112],.int .i64 120,.str [115,105,100,101],.bool false]],.ps .unk [[.str [97,114,99,104],.str [98,114,105,100,103,101],.str [117,112],.int .i64 130,.int .i64 150]],.ps .unk []],[.int .i64 20,.ps .unk [[.str [109,97,105,110],.ps .unk [[.int .i64 300,.int .i64 1000,.bool false]]]],.ps .unk [],.ps .unk [],.ps .unk [[.str [117,112],.int .i64 0,.int .i64 100,.str [109,97,105,110],.int .i64 20,.bool false],[.str [117,112],.int .i64 100,.int .i64 50,.str [109,97,105,110],.int .i64 200,.bool true]]]]],.int .i64 0⟩
theorem ac33:∀ lo H,CallOk NC lo ak33.f ak33.args H ak33.v H:=known_ok saneNC awh32 (fuel:=5000) (by kernel_rfl) (by kernel_rfl) (by kernel_rfl)
def aw33:List Known:=ak33::aw32
theorem awh33:∀ k ∈ aw33,∀ lo H,CallOk NC lo k.f k.args H k.v H:=fun k h=>(List.mem_cons.1 h).elim (fun e=>e ▸ ac33) (awh32 k)
def ak34:Known:=⟨65,[.ps .unk [[.int .i64 10,.ps .unk [[.str [117,112],.ps .unk [[.int .i64 100,.int .i64 5000,.bool false],[.int .i64 50,.int .i64 5080,.bool false],[.int .i64 30,.int .i64 5200,.bool true]]],[.str [115,105,100,101],.ps .unk [[.int .i64 40,.int .i64 0,.bool false]]]],.ps .unk [[.str [119],.str [117,112],.int .i64 120,.str [115,105,100,101],.bool false]],.ps .unk [[.str [97,114,99,104],.str [98,114,105,100,103,101],.str [117,112],.int .i64 130,.int .i64 150]],.ps .unk []],[.int .i64 20,.ps .unk [[.str [109,97,105,110],.ps .unk [[.int .i64 300,.int .i64 1000,.bool false]]]],.ps .unk [],.ps .unk [],.ps .unk [[.str [117,112],.int .i64 0,.int .i64 100,.str [109,97,105,110],.int .i64 20,.bool false],[.str [117,112],.int .i64 100,.int .i64 50,.str [109,97,105,110],.int .i64 200,.bool true]]]],.int .i64 15,.agg [.str [117,112],.int .i64 1,.int .i64 5090],.int .i64 25],.tup [.agg [.str [109,97,105,110],.int .i64 0,.int .i64 1239],.int .i64 0]⟩
theorem ac34:∀ lo H,CallOk NC lo ak34.f ak34.args H ak34.v H:=known_ok saneNC awh33 (fuel:=5000) (by kernel_rfl) (by kernel_rfl) (by kernel_rfl)
def aw34:List Known:=ak34::aw33
theorem awh34:∀ k ∈ aw34,∀ lo H,CallOk NC lo k.f k.args H k.v H:=fun k h=>(List.mem_cons.1 h).elim (fun e=>e ▸ ac34) (awh33 k)
def ak35:Known:=⟨65,[.ps .unk [[.int .i64 10,.ps .unk [[.str [117,112],.ps .unk [[.int .i64 100,.int .i64 5000,.bool false],[.int .i64 50,.int .i64 5080,.bool false],[.int .i64 30,.int .i64 5200,.bool true]]],[.str [115,105,100,101],.ps .unk [[.int .i64 40,.int .i64 0,.bool false]]]],.ps .unk [[.str [119],.str [117,112],.int .i64 120,.str [115,105,100,101],.bool false]],.ps .unk [[.str [97,114,99,104],.str [98,114,105,100,103,101],.str [117,112],.int .i64 130,.int .i64 150]],.ps .unk []],[.int .i64 20,.ps .unk [[.str [109,97,105,110],.ps .unk [[.int .i64 300,.int .i64 1000,.bool false]]]],.ps .unk [],.ps .unk [],.ps .unk [[.str [117,112],.int .i64 0,.int .i64 100,.str [109,97,105,110],.int .i64 20,.bool false],[.str [117,112],.int .i64 100,.int .i64 50,.str [109,97,105,110],.int .i64 200,.bool true]]]],.int .i64 25,.agg [.str [109,97,105,110],.int .i64 0,.int .i64 1239],.int .i64 10],.tup [.agg [.str [117,112],.int .i64 1,.int .i64 5090],.int .i64 0]⟩
theorem ac35:∀ lo H,CallOk NC lo ak35.f ak35.args H ak35.v H:=known_ok saneNC awh34 (fuel:=5000) (by kernel_rfl) (by kernel_rfl) (by kernel_rfl)
def aw35:List Known:=ak35::aw34
theorem awh35:∀ k ∈ aw35,∀ lo H,CallOk NC lo k.f k.args H k.v H:=fun k h=>(List.mem_cons.1 h).elim (fun e=>e ▸ ac35) (awh34 k)
def ak36:Known:=⟨102,[.agg [.ps .unk [[.str [117,112],.ps .unk [[.int .i64 100,.int .i64 5000,.bool false],[.int .i64 50,.int .i64 5080,.bool false],[.int .i64 30,.int .i64 5200,.bool true]]],[.str [115,105,100,101],.ps .unk [[.int .i64 40,.int .i64 0,.bool false]]]],.ps .unk [[.str [119],.str [117,112],.int .i64 120,.str [115,105,100,101],.bool false]],.ps .unk [[.str [97,114,99,104],.str [98,114,105,100,103,101],.str [117,112],.int .i64 130,.int .i64 150]]],.agg [.str [117,112],.int .i64 2,.int .i64 5171]],.tup [.agg [.str [117,112],.int .i64 179],.int .i64 0]⟩
theorem ac36:∀ lo H,CallOk NC lo ak36.f ak36.args H ak36.v H:=known_ok saneNC awh35 (fuel:=5000) (by kernel_rfl) (by kernel_rfl) (by kernel_rfl)
def aw36:List Known:=ak36::aw35
theorem awh36:∀ k ∈ aw36,∀ lo H,CallOk NC lo k.f k.args H k.v H:=fun k h=>(List.mem_cons.1 h).elim (fun e=>e ▸ ac36) (awh35 k)
def ak37:Known:=⟨65,[.ps .unk [[.int .i64 10,.ps .unk [[.str [117,112],.ps .unk [[.int .i64 100,.int .i64 5000,.bool false],[.int .i64 50,.int .i64 5080,.bool false],[.int .i64 30,.int .i64 5200,.bool true]]],[.str [115,105,100,101],.ps .unk [[.int .i64 40,.int .i64 0,.bool false]]]],.ps .unk [[.str [119],.str [117,112],.int .i64 120,.str [115,105,100,101],.bool false]],.ps .unk [[.str [97,114,99,104],.str [98,114,105,100,103,101],.str [117,112],.int .i64 130,.int .i64 150]],.ps .unk []],[.int .i64 20,.ps .unk [[.str [109,97,105,110],.ps .unk [[.int .i64 300,.int .i64 1000,.bool false]]]],.ps .unk [],.ps .unk [],.ps .unk [[.str [117,112],.int .i64 0,.int .i64 100,.str [109,97,105,110],.int .i64 20,.bool false],[.str [117,112],.int .i64 100,.int .i64 50,.str [109,97,105,110],.int .i64 200,.bool true]]]],.int .i64 15,.agg [.str [117,112],.int .i64 2,.int .i64 5171],.int .i64 25],.tup [.agg [.str [],.int .i64 0,.int .i64 0],.int .i64 7]⟩
theorem ac37:∀ lo H,CallOk NC lo ak37.f ak37.args H ak37.v H:=known_ok saneNC awh36 (fuel:=5000) (by kernel_rfl) (by kernel_rfl) (by kernel_rfl)
def aw37:List Known:=ak37::aw36
theorem awh37:∀ k ∈ aw37,∀ lo H,CallOk NC lo k.f k.args H k.v H:=fun k h=>(List.mem_cons.1 h).elim (fun e=>e ▸ ac37) (awh36 k)
def ak38:Known:=⟨87,[.agg [.ps .unk [[.str [117,112],.ps .unk [[.int .i64 100,.int .i64 5000,.bool false],[.int .i64 50,.int .i64 5080,.bool false],[.int .i64 30,.int .i64 5200,.bool true]]],[.str [115,105,100,101],.ps .unk [[.int .i64 40,.int .i64 0,.bool false]]]],.ps .unk [[.str [119],.str [117,112],.int .i64 120,.str [115,105,100,101],.bool false]],.ps .unk [[.str [97,114,99,104],.str [98,114,105,100,103,101],.str [117,112],.int .i64 130,.int .i64 150]]]],.tup [.str [108,105,110,101,32,117,112,10,112,105,101,99,101,32,49,48,48,32,53,48,48,48,32,117,112,10,112,105,101,99,101,32,53,48,32,53,48,56,48,32,117,112,10,112,105,101,99,101,32,51,48,32,53,50,48,48,32,100,111,119,110,10,108,105,110,101,32,115,105,100,101,10,112,105,101,99,101,32,52,48,32,48,32,117,112,10,115,119,105,116,99,104,32,119,32,117,112,32,49,50,48,32,115,105,100,101,32,102,105,114,115,116,10,115,116,114,117,99,116,117,114,101,32,97,114,99,104,32,98,114,105,100,103,101,32,117,112,32,49,51,48,32,49,53,48,10],.int .i64 0]⟩
theorem ac38:∀ lo H,CallOk NC lo ak38.f ak38.args H ak38.v H:=known_ok saneNC awh37 (fuel:=5000) (by kernel_rfl) (by kernel_rfl) (by kernel_rfl)
def aw38:List Known:=ak38::aw37
theorem awh38:∀ k ∈ aw38,∀ lo H,CallOk NC lo k.f k.args H k.v H:=fun k h=>(List.mem_cons.1 h).elim (fun e=>e ▸ ac38) (awh37 k)
def ak39:Known:=⟨16,[],.bool true⟩
theorem ac39:∀ lo H,CallOk NC lo ak39.f ak39.args H ak39.v H:=known_ok saneNC awh38 (fuel:=5000) (by kernel_rfl) (by kernel_rfl) (by kernel_rfl)
end Go.Sim

/-
The law: NetworkPlaces returns true.
-/
namespace Go.Sim
open Go Go.Proofs
set_option maxRecDepth 100000
set_option maxHeartbeats 16000000
noncomputable def p16:List AV→Option AV:=fun l=>match l with
 | []=>some (.bool true)
 | _=>none
theorem pok16:∀ args v,p16 args=some v → ∀ lo H,CallOk NC lo 16 args H v H:=by
 intro args v h
 cases args with
 | nil =>
   have:v=.bool true:=by simpa [p16] using h.symm
   subst this
   exact ac39
 | cons a r=>simp [p16] at h
theorem e16:p16 []=some (.bool true):=rfl
noncomputable def p17:List AV→Option AV:=primOf (α:=Net) (fun x=>[.agg x.cells]) (fun _=>True) (fun x=>.bool (shortN x))
theorem pok17:∀ args v,p17 args=some v → ∀ lo H,CallOk NC lo 17 args H v H:=by
 intro args v h
 obtain ⟨x,rfl,hp,rfl⟩:=primOf_inv h
 clear h
 revert x
 intro x;exact c17 x
theorem pe17 (x:Net) (hp:(fun _=>True) x):p17 ((fun x=>[.agg x.cells]) x)=some ((fun x=>.bool (shortN x)) x):=primOf_enc (by intro x y h;exact cells1_inj x y h) x hp
noncomputable def p19:List AV→Option AV:=primOf (α:=Net) (fun x=>[.agg x.cells]) (fun x=>x.fits∧x.sws.length≤maxRows∧x.sts.length≤maxRows) (fun x=>.agg x.cells)
theorem pok19:∀ args v,p19 args=some v → ∀ lo H,CallOk NC lo 19 args H v H:=by
 intro args v h
 obtain ⟨x,rfl,hp,rfl⟩:=primOf_inv h
 clear h
 revert x
 intro x hx;exact c19 x hx.1 hx.2.1 hx.2.2
theorem pe19 (x:Net) (hp:(fun x=>x.fits∧x.sws.length≤maxRows∧x.sts.length≤maxRows) x):p19 ((fun x=>[.agg x.cells]) x)=some ((fun x=>.agg x.cells) x):=primOf_enc (by intro x y h;exact cells1_inj x y h) x hp
noncomputable def p22:List AV→Option AV:=primOf (α:=Net) (fun x=>[.agg x.cells]) (fun x=>x.fits∧x.sws.length≤maxRows∧x.sts.length≤maxRows) (fun x=>i64 (netR x))
theorem pok22:∀ args v,p22 args=some v → ∀ lo H,CallOk NC lo 22 args H v H:=by
 intro args v h
 obtain ⟨x,rfl,hp,rfl⟩:=primOf_inv h
 clear h
 revert x
 intro x hx;exact c22 x hx.1 hx.2.1 hx.2.2
theorem pe22 (x:Net) (hp:(fun x=>x.fits∧x.sws.length≤maxRows∧x.sts.length≤maxRows) x):p22 ((fun x=>[.agg x.cells]) x)=some ((fun x=>i64 (netR x)) x):=primOf_enc (by intro x y h;exact cells1_inj x y h) x hp
theorem beqL_self (a:List Nat):beqL a a=true:=(beqL_iff a a).2 rfl
theorem eqI_self (a:Int):eqI a a=true:=by rw [eqI_iff];simp
theorem short_ok {n:Net} (h:shortN n=true):n.Ok:=by
 unfold shortN at h
 simp only [Bool.and_eq_true,Bool.not_eq_true',Bool.or_eq_false_iff,decide_eq_false_iff_not,List.all_eq_true] at h
 obtain ⟨⟨⟨⟨⟨h1,h2⟩,h3⟩,h4⟩,h5⟩,h6⟩:=h
 have short:∀ s:List Nat,shortB s=true→s.length≤maxRows:=by
  intro s hs
  unfold shortB at hs
  simp only [Bool.not_eq_true',decide_eq_false_iff_not] at hs
  unfold maxRows;omega
 refine ⟨by unfold maxRows;omega,fun l hl => ?_,by unfold maxRows;omega,fun s hs => ?_,by unfold maxRows;omega,fun s hs => ?_⟩
 · have:=h4 l hl
   unfold shortLn at this
   simp only [Bool.and_eq_true,Bool.not_eq_true',decide_eq_false_iff_not] at this
   exact ⟨short _ this.1,by unfold maxRows;omega⟩
 · have:=h5 s hs
   unfold shortSw at this
   simp only [Bool.and_eq_true] at this
   exact short _ this.1.1
 · have:=h6 s hs
   unfold shortSt at this
   simp only [Bool.and_eq_true] at this
   exact ⟨short _ this.1.1,short _ this.1.2⟩
end Go.Sim

/-
Further facts on the types and the regions of this program.
-/
namespace Go.Sim
open Go Go.Proofs
theorem un_376:NC.P.underlying 376=some (.int .u64):=by kernel_rfl
theorem ze_376:zeroOf NC.P 376=some (.int .u64 0):=by kernel_rfl
theorem sz_376:szOf NC.P 376=some 1:=by kernel_rfl
theorem ze_388:zeroOf NC.P 388=some (.agg [.int .u8 0,.int .u8 0,.int .u8 0,.int .u8 0,.int .u8 0,.int .u8 0,.int .u8 0,.int .u8 0,.int .u8 0,.int .u8 0,.int .u8 0,.int .u8 0,.int .u8 0,.int .u8 0,.int .u8 0,.int .u8 0,.int .u8 0,.int .u8 0,.int .u8 0,.int .u8 0,.int .u8 0,.int .u8 0,.int .u8 0,.int .u8 0]):=by kernel_rfl
theorem un_2:NC.P.underlying 2=some (.int .i64):=by kernel_rfl
theorem un_388:NC.P.underlying 388=some (.array 24 5):=by kernel_rfl
theorem ag_376:aggOf NC.P 376=some false:=by kernel_rfl
theorem pl_230_4 (P:FuncId→Option (List AV→Option AV)):(NC.withPrims P).plans 230 4=[⟨.data,0,0,[]⟩,⟨.data,0,0,[]⟩,⟨.data,0,3,[]⟩,⟨.data,0,7,[]⟩,⟨.data,0,15,[]⟩,⟨.data,0,15,[]⟩,⟨.data,0,15,[]⟩,⟨.data,0,111,[]⟩,⟨.load,0,239,[]⟩,⟨.data,0,15,[]⟩,⟨.data,0,15,[]⟩,⟨.data,0,1039,[]⟩,⟨.data,0,3599,[]⟩,⟨.load,0,7695,[]⟩,⟨.write,0,16383,[]⟩,⟨.data,1,32767,[]⟩,⟨.data,1,65535,[]⟩]:=by kernel_rfl
theorem pl_230_6 (P:FuncId→Option (List AV→Option AV)):(NC.withPrims P).plans 230 6=[⟨.data,0,0,[]⟩,⟨.data,0,0,[]⟩,⟨.data,0,0,[]⟩,⟨.data,0,0,[]⟩,⟨.data,0,8,[]⟩,⟨.data,0,0,[]⟩,⟨.data,0,0,[]⟩,⟨.data,0,64,[]⟩,⟨.data,0,224,[]⟩,⟨.load,0,480,[]⟩,⟨.data,0,0,[]⟩,⟨.data,0,0,[]⟩,⟨.data,0,3072,[]⟩,⟨.load,0,7168,[]⟩,⟨.data,0,16355,[]⟩,⟨.writeAt,0,32739,[]⟩,⟨.data,1,65535,[]⟩,⟨.writeAt,1,131071,[]⟩]:=by kernel_rfl
attribute [go_sem] un_376 ze_376 sz_376 ze_388 un_2 un_388 ag_376 pl_230_4 pl_230_6
end Go.Sim

/-
Sorting by insertion: the plain law.
-/
namespace Go.Sim
section
variable {α:Type} (lt:α→α→Bool)
def insRev (x:α):List α→List α
 | []=>[x]
 | y::r=>if lt x y then y::insRev x r else x::y::r
def isortRev:List α→List α→List α
 | acc,[]=>acc
 | acc,x::r=>isortRev (insRev lt x acc) r
def isort (l:List α):List α:=(isortRev lt [] l).reverse
theorem insRev_cons (x y:α) (r:List α):insRev lt x (y::r)=if lt x y then y::insRev lt x r else x::y::r:=rfl
theorem isortRev_append:∀ (l m acc:List α),isortRev lt acc (l++m)=isortRev lt (isortRev lt acc l) m
 | [],_,_=>rfl
 | x::r,m,acc=>by
   show isortRev lt (insRev lt x acc) (r++m)=_
   rw [isortRev_append r m];rfl
theorem insRev_perm (x:α):∀ l:List α,List.Perm (insRev lt x l) (x::l)
 | []=>List.Perm.refl _
 | y::r=>by
   unfold insRev
   split
   · exact ((insRev_perm x r).cons y).trans (List.Perm.swap x y r)
   · exact List.Perm.refl _
theorem isortRev_perm:∀ (l acc:List α),List.Perm (isortRev lt acc l) (acc++l)
 | [],acc=>by simp [isortRev]
 | x::r,acc=>by
   show List.Perm (isortRev lt (insRev lt x acc) r) _
   refine (isortRev_perm r _).trans ?_
   refine ((insRev_perm lt x acc).append_right r).trans ?_
   exact List.perm_middle.symm
theorem isort_perm (l:List α):List.Perm (isort lt l) l:=by
 unfold isort
 exact (List.reverse_perm _).trans (by simpa using isortRev_perm lt l [])
theorem isort_length (l:List α):(isort lt l).length=l.length:=(isort_perm lt l).length_eq
theorem isort_snoc (l:List α) (x:α):isort lt (l++[x])=(insRev lt x (isort lt l).reverse).reverse:=by
 unfold isort
 rw [isortRev_append,List.reverse_reverse];rfl
theorem ins_at {pre suf:List α} {x:α} (h1:∀ y ∈ suf,lt x y=true) (h2:pre=[] ∨ ∃ p y,pre=p++[y]∧lt x y=false):(insRev lt x (pre++suf).reverse).reverse=pre++x::suf:=by
 have key:∀ (s p:List α),(∀ y ∈ s,lt x y=true)→insRev lt x (s++p)=s++insRev lt x p:=by
  intro s
  induction s with
  | nil=>intro p _;rfl
  | cons y r ih =>
    intro p h
    rw [List.cons_append,insRev_cons,if_pos (h y (by simp)),ih p fun z hz=>h z (by simp [hz])];rfl
 rw [List.reverse_append,key _ _ fun y hy=>h1 y (by simpa using hy)]
 have:insRev lt x pre.reverse=x::pre.reverse:=by
  rcases h2 with rfl | ⟨p,y,rfl,hy⟩
  · rfl
  · rw [List.reverse_append]
    show insRev lt x (y::p.reverse)=_
    rw [insRev_cons,if_neg (by rw [hy];simp)];rfl
 rw [this]
 simp
variable (asym:∀ a b,lt a b=true→lt b a=false) (tr:∀ a b c,lt b a=false→lt c b=false→lt c a=false)
include asym tr
theorem insRev_sorted (x:α):∀ l:List α,l.Pairwise (fun a b=>lt a b=false)→(insRev lt x l).Pairwise (fun a b=>lt a b=false)
 | [],_=>by simp [insRev]
 | y::r,h=>by
   have hc:=List.pairwise_cons.1 h
   unfold insRev
   split
   · rename_i hxy
     rw [List.pairwise_cons]
     refine ⟨fun z hz => ?_,insRev_sorted x r hc.2⟩
     rcases List.mem_cons.1 ((insRev_perm lt x r).mem_iff.1 hz) with rfl | hz
     · exact asym _ _ hxy
     · exact hc.1 z hz
   · rename_i hxy
     have hxy:lt x y=false:=by simpa using hxy
     rw [List.pairwise_cons]
     refine ⟨fun z hz => ?_,h⟩
     rcases List.mem_cons.1 hz with rfl | hz
     · exact hxy
     · exact tr z y x (hc.1 z hz) hxy
theorem isortRev_sorted:∀ (l acc:List α),acc.Pairwise (fun a b=>lt a b=false)→(isortRev lt acc l).Pairwise (fun a b=>lt a b=false)
 | [],_,h=>h
 | x::r,acc,h=>isortRev_sorted r _ (insRev_sorted lt asym tr x acc h)
theorem isort_sorted (l:List α):(isort lt l).Pairwise (fun a b=>lt b a=false):=by
 unfold isort
 rw [List.pairwise_reverse]
 exact isortRev_sorted lt asym tr l [] List.Pairwise.nil
end
/-! ### By a key: what is alike keeps its order -/
section
variable {α:Type} (key:α→Int)
end
end Go.Sim

/-
Rows that lie one behind the other.
-/
namespace Go.Sim
open Go
/-! ### Small numbers -/
theorem wrap_in {n:Int} (h0:0≤n) (h1:n≤9223372036854775807):IntKind.wrap .i64 n=n:=by
 have:=wrapq_i64 (x:=n) (by omega) h1
 unfold IntKind.wrap
 have h64:((2:Int) ^ (IntKind.bits .i64))=18446744073709551616:=by decide
 have h63:((2:Int) ^ (IntKind.bits .i64 - 1))=9223372036854775808:=by decide
 simp only [h64,h63]
 have e:n % 18446744073709551616=n:=by omega
 rw [e]
 have:¬ (n ≥ 9223372036854775808):=by omega
 simp [this]
theorem conv_u8 {n:Int} (h0:0≤n) (h1:n≤255):aconv NC.P 5 3 (.int .u8 n)=some (.int .i64 n):=by
 have e:aconv NC.P 5 3 (.int .u8 n)=some (.int .i64 (IntKind.wrap .i64 n)):=by kernel_rfl
 rw [e,wrap_in h0 (by omega)]
theorem rem_ok {a b:Int} (h0:0≤a) (h1:0 < b):aint (pureOf (Go.binOp .rem 0 (.int .i64 a) (.int .i64 b)))=some (.int .i64 (a % b)):=by
 have e:Go.binOp .rem 0 (.int .i64 a) (.int .i64 b)=Op.intDiv .rem .i64 a b:=rfl
 have hb:¬ (b=0):=by omega
 rw [e]
 unfold Op.intDiv
 rw [if_neg hb]
 show some (AV.int .i64 (a.tmod b))=_
 rw [Int.tmod_eq_emod_of_nonneg h0]
theorem natOf_2 (lim:Nat) (k:IntKind):natOf lim (.int k 2)=if 2 < lim then some 2 else none:=rfl
theorem wl01:wrapq .i64 (Int.add 0 1)=1:=rfl
theorem wl12:wrapq .i64 (Int.add 1 1)=2:=rfl
theorem wl23:wrapq .i64 (Int.add 2 1)=3:=rfl
theorem i03:((0:Int) < 3)=True:=by simp
theorem i13:((1:Int) < 3)=True:=by simp
theorem i23:((2:Int) < 3)=True:=by simp
theorem i33:((3:Int) < 3)=False:=by simp
theorem cast1:((1:Nat):Int)=1:=rfl
theorem cast2:((2:Nat):Int)=2:=rfl
theorem i02:((0:Int) < 2)=True:=by simp
theorem i12:((1:Int) < 2)=True:=by simp
def Even (sz:Nat) (rows:List (List AV)):Prop:=∀ r ∈ rows,r.length=sz
theorem Even.map {α:Type} {sz:Nat} {f:α→List AV} (hf:∀ x,(f x).length=sz) (l:List α):Even sz (l.map f):=by
 intro r hr
 obtain ⟨x,_,rfl⟩:=List.mem_map.1 hr
 exact hf x
theorem fl_len {sz:Nat}:∀ {rows:List (List AV)},Even sz rows→rows.flatten.length=rows.length * sz
 | [],_=>by simp
 | r::rs,h=>by
   rw [List.flatten_cons,List.length_append,h r (by simp),fl_len fun x hx=>h x (by simp [hx]),List.length_cons,Nat.succ_mul,Nat.add_comm]
theorem fl_split {sz:Nat}:∀ {rows:List (List AV)} {j:Nat} {r:List AV},Even sz rows→rows[j]? = some r → ∃ a b,rows.flatten=a++r++b∧a.length=j * sz∧(∀ v,(rows.set j v).flatten=a++v++b)
 | [],j,r,_,h=>by simp at h
 | x::xs,0,r,he,h=>by
   simp at h;subst h
   exact ⟨[],xs.flatten,by simp,by simp,fun v=>by simp⟩
 | x::xs,j+1,r,he,h=>by
   have h':xs[j]? = some r:=by simpa using h
   obtain ⟨a,b,h1,h2,h3⟩:=fl_split (fun y hy=>he y (by simp [hy])) h'
   refine ⟨x++a,b,by rw [List.flatten_cons,h1];simp,by rw [List.length_append,h2,he x (by simp),Nat.succ_mul,Nat.add_comm],fun v => ?_⟩
   rw [List.set_cons_succ,List.flatten_cons,h3];simp
theorem fl_at {sz:Nat} {rows:List (List AV)} {j:Nat} {r:List AV} (he:Even sz rows) (h:rows[j]? = some r):j * sz+sz≤rows.flatten.length∧(rows.flatten.drop (j * sz)).take sz=r:=by
 obtain ⟨a,b,h1,h2,_⟩:=fl_split he h
 have hr:=he r (List.mem_of_getElem? h)
 rw [h1]
 refine ⟨by simp;omega, ?_⟩
 rw [List.append_assoc,← h2,List.drop_left,← hr,List.take_left]
theorem fl_over {sz:Nat} {rows:List (List AV)} {j:Nat} {r v:List AV} (he:Even sz rows) (h:rows[j]? = some r) (hv:v.length=sz):over rows.flatten (j * sz) v=(rows.set j v).flatten:=by
 obtain ⟨a,b,h1,h2,h3⟩:=fl_split he h
 have hr:=he r (List.mem_of_getElem? h)
 have ht:(a++r++b).take a.length=a:=by rw [List.append_assoc,List.take_left]
 have hd:(a++r++b).drop (a.length+sz)=b:=by
  have e:a.length+sz=(a++r).length:=by rw [List.length_append,hr]
  rw [e,List.drop_left]
 rw [h3 v,h1]
 unfold over
 rw [hv,← h2,ht,hd]
theorem Even.set {sz:Nat} {rows:List (List AV)} (he:Even sz rows) {j:Nat} {v:List AV} (hv:v.length=sz):Even sz (rows.set j v):=by
 intro r hr
 rcases List.mem_or_eq_of_mem_set hr with h | h
 · exact he r h
 · subst h;exact hv
theorem swap_rows {α:Type} (f:α→List AV) (p s:List α) (x y:α) :
 ((((p++y::x::s).map f).set (p.length+1) (f y)).set p.length (f x))=(p++x::y::s).map f:=by
 have key:∀ (a:List (List AV)) (u v w z:List AV) (b:List (List AV)),((a++u::v::b).set (a.length+1) w).set a.length z=a++z::w::b:=by
  intro a u v w z b
  induction a with
  | nil=>rfl
  | cons c r ih=>simp only [List.cons_append,List.length_cons,List.set_cons_succ,ih]
 have:=key (p.map f) (f y) (f x) (f y) (f x) (s.map f)
 rw [List.length_map] at this
 rw [List.map_append,List.map_cons,List.map_cons,this,List.map_append,List.map_cons,List.map_cons]
end Go.Sim

/-
Short forms: parts of moves, their order, composed moves.
-/
namespace Go.Sim
open Go Go.Proofs
set_option maxRecDepth 100000
set_option maxHeartbeats 8000000
theorem ety4:eqType NC.P 100 4=true:=by kernel_rfl
theorem aeq4 (a b:Bool):aeqT NC.P 100 4 (.bool a) (.bool b)=some (a == b):=by cases a<;>cases b<;>kernel_rfl
theorem beq_tt:(true == true)=true:=rfl
theorem beq_tf:(true == false)=false:=rfl
theorem beq_ft:(false == true)=false:=rfl
theorem beq_ff:(false == false)=true:=rfl
attribute [go_sem] ety4 aeq4 beq_tt beq_tf beq_ft beq_ff
noncomputable def PPF188:FuncId→Option (List AV→Option AV):=fun _=>none
theorem primsF188:PrimsOk NC PPF188:=primsOk_none
theorem c188 (a:Int):∀ lo H,CallOk NC lo 188 [i64 a] H (.bool false) H:=by
 refine contract saneNC primsF188 (fn:=Tryz.f188) (by kernel_rfl) Tryz.func188 rfl rfl (by rfl) (by first | rfl | (split<;>first | rfl | (split<;>rfl))) ?_
 have:(a=a)=True:=by simp
 simp only [go_sem,reduceIte,reduceEqDiff,reduceAdd,reduceMul,reduceSub,reduceLeDiff,reduceLT,Nat.reduceBEq,reduceCtorEq,this]
noncomputable def p188:List AV→Option AV:=primOf (α:=(Int)) (fun x=>[i64 x]) (fun x=>True) (fun x=>.bool false)
theorem pok188:∀ args v,p188 args=some v → ∀ lo H,CallOk NC lo 188 args H v H:=by
 intro args v h
 obtain ⟨x,rfl,hp,rfl⟩:=primOf_inv h
 exact c188 x
theorem pe188 (a:Int):p188 [.int .i64 a]=some (.bool false):=primOf_enc (α:=(Int)) (enc:=fun x=>[i64 x]) (pre:=fun x=>True) (spec:=fun x=>.bool false) (by intro x y h;(simp only [List.cons.injEq,AV.agg.injEq,AV.str.injEq,AV.int.injEq,AV.ps.injEq,AV.bool.injEq,Net.cells_iff,Ln.row_iff,Pc.row_iff,Mv.row_iff,lns_iff,pcs_iff,mvs_iff,true_and,and_true] at h;first | simpa only [Prod.ext_iff] using h | simpa only [Prod.ext_iff,and_assoc] using h)) a trivial
def cmpI (a b:Int):Int:=if a < b then -1 else if b < a then 1 else 0
noncomputable def PPF119:FuncId→Option (List AV→Option AV):=addPrim 188 p188 (fun _=>none)
theorem primsF119:PrimsOk NC PPF119:=primsOk_add (primsOk_none) (by kernel_rfl) (by kernel_rfl) pok188
theorem enF119_188:En PPF119 188 p188:=enter_prim (by rfl) (by kernel_rfl)
attribute [go_sem ↓] enF119_188
theorem c119 (a b:Int):∀ lo H,CallOk NC lo 119 [i64 a,i64 b] H (i64 (cmpI a b)) H:=by
 refine contract saneNC primsF119 (fn:=Tryz.f119) (by kernel_rfl) Tryz.func119 rfl rfl (by rfl) (by first | rfl | (split<;>first | rfl | (split<;>rfl))) ?_
 have e188:∀ a,p188 [.int .i64 a]=some (.bool false):=fun a=>pe188 a
 unfold cmpI
 rcases Classical.propComplete (a < b) with h1 | h1<;>rcases Classical.propComplete (b < a) with h2 | h2<;>simp only [go_sem,reduceIte,reduceEqDiff,reduceAdd,reduceMul,reduceSub,reduceLeDiff,reduceLT,Nat.reduceBEq,reduceCtorEq,e188,h1,h2]
noncomputable def p119:List AV→Option AV:=primOf (α:=(Int) × (Int)) (fun x=>[i64 x.1,i64 x.2]) (fun x=>True) (fun x=>i64 (cmpI x.1 x.2))
theorem pok119:∀ args v,p119 args=some v → ∀ lo H,CallOk NC lo 119 args H v H:=by
 intro args v h
 obtain ⟨x,rfl,hp,rfl⟩:=primOf_inv h
 exact c119 x.1 x.2
theorem pe119 (a b:Int):p119 [.int .i64 a,.int .i64 b]=some (.int .i64 (cmpI a b)):=primOf_enc (α:=(Int) × (Int)) (enc:=fun x=>[i64 x.1,i64 x.2]) (pre:=fun x=>True) (spec:=fun x=>i64 (cmpI x.1 x.2)) (by intro x y h;(simp only [List.cons.injEq,AV.agg.injEq,AV.str.injEq,AV.int.injEq,AV.ps.injEq,AV.bool.injEq,Net.cells_iff,Ln.row_iff,Pc.row_iff,Mv.row_iff,lns_iff,pcs_iff,mvs_iff,true_and,and_true] at h;first | simpa only [Prod.ext_iff] using h | simpa only [Prod.ext_iff,and_assoc] using h)) (a,b) trivial
end Go.Sim

/-
The plain law of ways: walks over switches, what is cut out of them, and their order.
-/
namespace Go.Sim
structure Leg where
 line:List Nat
 fr:Int
 to:Int
abbrev Pt:Type:=List Nat × Int
abbrev Stp:Type:=Nat × Bool
def dI (x y:Int):Int:=if x≤y then y - x else x - y
theorem dI_nonneg (x y:Int):0≤dI x y:=by unfold dI;split<;>omega
theorem dI_tri (x y z:Int):dI x z≤dI x y+dI y z:=by unfold dI;(repeat' split)<;>omega
theorem dI_self (x:Int):dI x x=0:=by unfold dI;split<;>omega
theorem dI_comm (x y:Int):dI x y=dI y x:=by unfold dI;(repeat' split)<;>omega
def Leg.len (l:Leg):Int:=dI l.fr l.to
def wSum:List Leg→Int
 | []=>0
 | l::r=>l.len+wSum r
theorem wSum_append:∀ a b:List Leg,wSum (a++b)=wSum a+wSum b
 | [],b=>by simp [wSum]
 | l::r,b=>by simp only [List.cons_append,wSum,wSum_append r b];omega
theorem wSum_nonneg:∀ a:List Leg,0≤wSum a
 | []=>Int.le_refl _
 | l::r=>by
   have:=wSum_nonneg r
   have:=dI_nonneg l.fr l.to
   simp only [wSum,Leg.len];omega
section
variable (E:Nat→Bool→Pt) (N:Nat)
def legsOf:Pt→List Stp→Pt→List Leg
 | a,[],b=>[⟨a.1,a.2,b.2⟩]
 | a,s::r,b=>⟨a.1,a.2,(E s.1 s.2).2⟩::legsOf (E s.1 (!s.2)) r b
def okS:Pt→List Stp→Pt→Prop
 | a,[],b=>a.1=b.1
 | a,s::r,b=>s.1 < N∧(E s.1 s.2).1=a.1∧okS (E s.1 (!s.2)) r b
def lenS (a:Pt) (σ:List Stp) (b:Pt):Int:=wSum (legsOf E a σ b)
theorem lenS_nonneg (a:Pt) (σ:List Stp) (b:Pt):0≤lenS E a σ b:=wSum_nonneg _
theorem lenS_nil (a b:Pt):lenS E a [] b=dI a.2 b.2:=by simp [lenS,legsOf,wSum,Leg.len]
theorem lenS_cons (a:Pt) (s:Stp) (r:List Stp) (b:Pt):lenS E a (s::r) b=dI a.2 (E s.1 s.2).2+lenS E (E s.1 (!s.2)) r b:=rfl
theorem legsOf_length:∀ (a:Pt) (σ:List Stp) (b:Pt),(legsOf E a σ b).length=σ.length+1
 | _,[],_=>rfl
 | a,s::r,b=>by simp only [legsOf,List.length_cons,legsOf_length _ r b]
theorem legsOf_snoc:∀ (a:Pt) (σ:List Stp) (s:Stp) (b:Pt),legsOf E a (σ++[s]) b=legsOf E a σ (E s.1 s.2)++[⟨(E s.1 (!s.2)).1,(E s.1 (!s.2)).2,b.2⟩]
 | _,[],_,_=>rfl
 | a,t::r,s,b=>by simp only [List.cons_append,legsOf,legsOf_snoc _ r s b]
theorem okS_snoc:∀ (a:Pt) (σ:List Stp) (s:Stp) (b:Pt),okS E N a (σ++[s]) b ↔ okS E N a σ (E s.1 s.2)∧s.1 < N∧(E s.1 (!s.2)).1=b.1
 | a,[],s,b=>by
   show (s.1 < N∧(E s.1 s.2).1=a.1∧(E s.1 (!s.2)).1=b.1) ↔ (a.1=(E s.1 s.2).1∧_)
   constructor
   · rintro ⟨h1,h2,h3⟩;exact ⟨h2.symm,h1,h3⟩
   · rintro ⟨h1,h2,h3⟩;exact ⟨h2,h1.symm,h3⟩
 | a,t::r,s,b=>by
   have ih:=okS_snoc (E t.1 (!t.2)) r s b
   show (t.1 < N∧_∧okS E N _ (r++[s]) b) ↔ ((t.1 < N∧_∧okS E N _ r _)∧_)
   rw [ih]
   constructor
   · rintro ⟨h1,h2,h3,h4⟩;exact ⟨⟨h1,h2,h3⟩,h4⟩
   · rintro ⟨⟨h1,h2,h3⟩,h4⟩;exact ⟨h1,h2,h3,h4⟩
theorem lenS_snoc (a:Pt) (σ:List Stp) (s:Stp) (b:Pt):lenS E a (σ++[s]) b=lenS E a σ (E s.1 s.2)+dI (E s.1 (!s.2)).2 b.2:=by
 unfold lenS
 rw [legsOf_snoc,wSum_append]
 simp [wSum,Leg.len]
theorem okS_end {b c:Pt} (h:b.1=c.1):∀ {a:Pt} {σ:List Stp},okS E N a σ b→okS E N a σ c
 | _,[],h1=>Eq.trans h1 h
 | _,_::_,h1=>⟨h1.1,h1.2.1,okS_end h h1.2.2⟩
theorem lenS_end (b c:Pt):∀ (a:Pt) (σ:List Stp),lenS E a σ c≤lenS E a σ b+dI b.2 c.2
 | a,[]=>by
   rw [lenS_nil,lenS_nil];exact dI_tri _ _ _
 | a,s::r=>by
   rw [lenS_cons,lenS_cons]
   have:=lenS_end b c (E s.1 (!s.2)) r
   omega
theorem okS_begin {a c:Pt} (h:a.1=c.1) {σ:List Stp} {b:Pt} (h1:okS E N a σ b):okS E N c σ b:=by
 cases σ with
 | nil=>exact h.symm.trans h1
 | cons s r=>exact ⟨h1.1,h1.2.1.trans h,h1.2.2⟩
theorem lenS_begin (a c:Pt) (σ:List Stp) (b:Pt):lenS E c σ b≤dI c.2 a.2+lenS E a σ b:=by
 cases σ with
 | nil=>rw [lenS_nil,lenS_nil];exact dI_tri _ _ _
 | cons s r =>
   rw [lenS_cons,lenS_cons]
   have:=dI_tri c.2 a.2 (E s.1 s.2).2
   omega
theorem okS_tail {b:Pt} {s:Stp} {γ:List Stp}:∀ {a:Pt} {β:List Stp},okS E N a (β++s::γ) b→okS E N (E s.1 (!s.2)) γ b
 | _,[],h=>h.2.2
 | _,_::_,h=>okS_tail h.2.2
theorem lenS_tail (b:Pt) (s:Stp) (γ:List Stp):∀ (a:Pt) (β:List Stp),lenS E (E s.1 (!s.2)) γ b≤lenS E a (β++s::γ) b
 | a,[]=>by
   rw [List.nil_append,lenS_cons]
   have:=dI_nonneg a.2 (E s.1 s.2).2
   omega
 | a,t::r=>by
   rw [List.cons_append,lenS_cons]
   have:=dI_nonneg a.2 (E t.1 t.2).2
   have:=lenS_tail b s γ (E t.1 (!t.2)) r
   omega
theorem cut_one {b:Pt}:∀ {a:Pt} {σ:List Stp},okS E N a σ b → ¬ (σ.map Prod.fst).Nodup → ∃ τ,okS E N a τ b∧τ.length < σ.length∧lenS E a τ b≤lenS E a σ b
 | _,[],_,h=>absurd List.nodup_nil h
 | a,s::r,h,hn=>by
   by_cases hs:s.1 ∈ r.map Prod.fst
   · obtain ⟨t,ht,he⟩:=List.mem_map.1 hs
     obtain ⟨β,γ,rfl⟩:=List.append_of_mem ht
     obtain ⟨i,k⟩:=s
     obtain ⟨j,m⟩:=t
     simp only at he
     subst he
     have h3:=okS_tail E N h.2.2
     have l3:=lenS_tail E b (j,m) γ (E j (!k)) β
     simp only at h3 l3
     by_cases hm:m=k
     · subst hm
       refine ⟨(j,m)::γ,⟨h.1,h.2.1,h3⟩,by simp;omega, ?_⟩
       rw [lenS_cons,lenS_cons]
       simp only at l3 ⊢
       omega
     · have hm:(!m)=k:=by cases m<;>cases k<;>simp at hm ⊢
       rw [hm] at h3 l3
       refine ⟨γ,okS_begin E N h.2.1 h3,by simp;omega, ?_⟩
       rw [lenS_cons]
       have:=lenS_begin E (E j k) a γ b
       simp only at l3 ⊢
       omega
   · have hr:¬ (r.map Prod.fst).Nodup:=fun c=>hn (by rw [List.map_cons,List.nodup_cons];exact ⟨hs,c⟩)
     obtain ⟨τ,t1,t2,t3⟩:=cut_one h.2.2 hr
     refine ⟨s::τ,⟨h.1,h.2.1,t1⟩,by simp only [List.length_cons];omega, ?_⟩
     rw [lenS_cons,lenS_cons];omega
theorem cut_all {a b:Pt}:∀ (n:Nat) {σ:List Stp},σ.length≤n→okS E N a σ b → ∃ τ,okS E N a τ b∧(τ.map Prod.fst).Nodup∧(τ=σ∨(τ.length < σ.length∧lenS E a τ b≤lenS E a σ b))
 | n,σ,hl,h=>by
   by_cases hn:(σ.map Prod.fst).Nodup
   · exact ⟨σ,h,hn,.inl rfl⟩
   · obtain ⟨τ,t1,t2,t3⟩:=cut_one E N h hn
     cases n with
     | zero=>omega
     | succ n =>
       obtain ⟨ρ,r1,r2,r3⟩:=cut_all n (σ:=τ) (by omega) t1
       refine ⟨ρ,r1,r2,.inr ?_⟩
       rcases r3 with rfl | ⟨r3,r4⟩
       · exact ⟨t2,t3⟩
       · exact ⟨by omega,by omega⟩
theorem okS_lt:∀ {a:Pt} {σ:List Stp} {b:Pt},okS E N a σ b → ∀ s ∈ σ,s.1 < N
 | _,[],_,_,s,hs=>by cases hs
 | _,t::r,_,h,s,hs=>by
   rcases List.mem_cons.1 hs with rfl | hs
   · exact h.1
   · exact okS_lt h.2.2 s hs
end
theorem few_nodup:∀ (N:Nat) {l:List Nat},l.Nodup→(∀ x ∈ l,x < N)→l.length≤N
 | 0,[],_,_=>Nat.le_refl _
 | 0,x::r,_,h=>absurd (h x (by simp)) (by omega)
 | N+1,l,hn,h=>by
   by_cases hN:N ∈ l
   · have h1:=few_nodup N (l:=l.erase N) (hn.erase N) fun x hx=>by
      have:=(hn.mem_erase_iff).1 hx
      have:=h x this.2
      omega
     rw [List.length_erase_of_mem hN] at h1
     have:0 < l.length:=List.length_pos_of_mem hN
     omega
   · have:=few_nodup N hn fun x hx=>by
      have:=h x hx
      have:x ≠ N:=fun e=>hN (e ▸ hx)
      omega
     omega
theorem simple_few {E:Nat→Bool→Pt} {N:Nat} {a b:Pt} {σ:List Stp} (h:okS E N a σ b) (hn:(σ.map Prod.fst).Nodup):σ.length≤N:=by
 have:=few_nodup N hn fun x hx=>by
  obtain ⟨s,hs,rfl⟩:=List.mem_map.1 hx
  exact okS_lt E N h s hs
 rwa [List.length_map] at this
/-! ### The order of ways -/
section
variable (ix:List Nat→Int)
def legLt (a b:Leg):Bool:=decide (ix a.line < ix b.line) || (decide (ix a.line=ix b.line) && (decide (a.fr < b.fr) || (decide (a.fr=b.fr) && decide (a.to < b.to))))
def legSame (a b:Leg):Bool:=decide (ix a.line=ix b.line) && (decide (a.fr=b.fr) && decide (a.to=b.to))
def lexLt:List Leg→List Leg→Bool
 | a::x,b::y=>legLt ix a b || (legSame ix a b && lexLt x y)
 | _,_=>false
def wLt (a b:List Leg):Bool:=decide (wSum a < wSum b) || (decide (wSum a=wSum b) && (decide (a.length < b.length) || (decide (a.length=b.length) && lexLt ix a b)))
theorem legLt_iff {a b:Leg}:legLt ix a b=true ↔ ix a.line < ix b.line∨(ix a.line=ix b.line∧(a.fr < b.fr∨(a.fr=b.fr∧a.to < b.to))):=by
 unfold legLt
 simp only [Bool.or_eq_true,Bool.and_eq_true,decide_eq_true_eq]
theorem legSame_iff {a b:Leg}:legSame ix a b=true ↔ ix a.line=ix b.line∧a.fr=b.fr∧a.to=b.to:=by
 unfold legSame
 simp only [Bool.and_eq_true,decide_eq_true_eq]
theorem lexLt_cons {a b:Leg} {x y:List Leg}:lexLt ix (a::x) (b::y)=true ↔ legLt ix a b=true∨(legSame ix a b=true∧lexLt ix x y=true):=by
 show (_ || (_ && _))=true ↔ _
 simp only [Bool.or_eq_true,Bool.and_eq_true]
theorem wLt_iff {a b:List Leg}:wLt ix a b=true ↔ wSum a < wSum b∨(wSum a=wSum b∧(a.length < b.length∨(a.length=b.length∧lexLt ix a b=true))):=by
 unfold wLt
 simp only [Bool.or_eq_true,Bool.and_eq_true,decide_eq_true_eq]
theorem lexLt_irrefl:∀ a:List Leg,lexLt ix a a=false
 | []=>rfl
 | a::x=>by
   cases h:lexLt ix (a::x) (a::x) with
   | false=>rfl
   | true =>
     rw [lexLt_cons,lexLt_irrefl x,legLt_iff] at h
     rcases h with h | h
     · omega
     · cases h.2
theorem wLt_irrefl (a:List Leg):wLt ix a a=false:=by
 cases h:wLt ix a a with
 | false=>rfl
 | true =>
   rw [wLt_iff,lexLt_irrefl] at h
   rcases h with h | ⟨_,h | ⟨_,h⟩⟩
   · omega
   · omega
   · cases h
theorem lexLt_trans:∀ {a b c:List Leg},lexLt ix a b=true→lexLt ix b c=true→lexLt ix a c=true
 | [],_,_,h,_=>by cases ‹List Leg› <;> cases h
 | _::_,[],_,h,_=>by cases h
 | _::_,_::_,[],_,h=>by cases h
 | a::x,b::y,c::z,h1,h2=>by
   rw [lexLt_cons] at h1 h2 ⊢
   rw [legLt_iff,legSame_iff] at *
   rcases h1 with h1 | ⟨h1,h1'⟩<;>rcases h2 with h2 | ⟨h2,h2'⟩
   · left;omega
   · left;omega
   · left;omega
   · right;exact ⟨by omega,lexLt_trans h1' h2'⟩
theorem wLt_trans {a b c:List Leg} (h1:wLt ix a b=true) (h2:wLt ix b c=true):wLt ix a c=true:=by
 rw [wLt_iff] at *
 rcases h1 with h1 | ⟨h1,h1' | ⟨h1',h1''⟩⟩<;>rcases h2 with h2 | ⟨h2,h2' | ⟨h2',h2''⟩⟩
 · left;omega
 · left;omega
 · left;omega
 · left;omega
 · right;exact ⟨by omega,.inl (by omega)⟩
 · right;exact ⟨by omega,.inl (by omega)⟩
 · left;omega
 · right;exact ⟨by omega,.inl (by omega)⟩
 · right;exact ⟨by omega,.inr ⟨by omega,lexLt_trans ix h1'' h2''⟩⟩
def knownL (S:List Nat→Prop) (w:List Leg):Prop:=∀ l ∈ w,S l.line
variable {S:List Nat→Prop} (inj:∀ s t,S s→S t→ix s=ix t→s=t)
include inj
theorem lexLt_tri:∀ {a b:List Leg},a.length=b.length→knownL S a→knownL S b→lexLt ix a b=true∨a=b∨lexLt ix b a=true
 | [],[],_,_,_=>.inr (.inl rfl)
 | [],_::_,h,_,_=>by cases h
 | _::_,[],h,_,_=>by cases h
 | a::x,b::y,h,ha,hb=>by
   have ih:=lexLt_tri (a:=x) (b:=y) (by simpa using h) (fun l hl=>ha l (by simp [hl])) (fun l hl=>hb l (by simp [hl]))
   rw [lexLt_cons,lexLt_cons,legLt_iff,legLt_iff,legSame_iff,legSame_iff]
   rcases Int.lt_trichotomy (ix a.line) (ix b.line) with h1 | h1 | h1
   · exact .inl (.inl (.inl h1))
   · rcases Int.lt_trichotomy a.fr b.fr with h2 | h2 | h2
     · exact .inl (.inl (.inr ⟨h1,.inl h2⟩))
     · rcases Int.lt_trichotomy a.to b.to with h3 | h3 | h3
       · exact .inl (.inl (.inr ⟨h1,.inr ⟨h2,h3⟩⟩))
       · rcases ih with ih | ih | ih
         · exact .inl (.inr ⟨⟨h1,h2,h3⟩,ih⟩)
         · right;left
           have:=inj _ _ (ha a (by simp)) (hb b (by simp)) h1
           obtain ⟨a1,a2,a3⟩:=a
           obtain ⟨b1,b2,b3⟩:=b
           simp only at this h2 h3
           rw [this,h2,h3,ih]
         · exact .inr (.inr (.inr ⟨⟨h1.symm,h2.symm,h3.symm⟩,ih⟩))
       · exact .inr (.inr (.inl (.inr ⟨h1.symm,.inr ⟨h2.symm,h3⟩⟩)))
     · exact .inr (.inr (.inl (.inr ⟨h1.symm,.inl h2⟩)))
   · exact .inr (.inr (.inl (.inl h1)))
theorem wLt_tri {a b:List Leg} (ha:knownL S a) (hb:knownL S b):wLt ix a b=true∨a=b∨wLt ix b a=true:=by
 rw [wLt_iff,wLt_iff]
 rcases Int.lt_trichotomy (wSum a) (wSum b) with h1 | h1 | h1
 · exact .inl (.inl h1)
 · rcases Nat.lt_trichotomy a.length b.length with h2 | h2 | h2
   · exact .inl (.inr ⟨h1,.inl h2⟩)
   · rcases lexLt_tri ix inj h2 ha hb with h3 | h3 | h3
     · exact .inl (.inr ⟨h1,.inr ⟨h2,h3⟩⟩)
     · exact .inr (.inl h3)
     · exact .inr (.inr (.inr ⟨h1.symm,.inr ⟨h2.symm,h3⟩⟩))
   · exact .inr (.inr (.inr ⟨h1.symm,.inl h2⟩))
 · exact .inr (.inr (.inl h1))
end
section
variable (ix:List Nat→Int)
theorem lexLt_snoc (l:Leg):∀ {a b:List Leg},a.length=b.length→lexLt ix (a++[l]) (b++[l])=lexLt ix a b
 | [],[],_=>by
   show lexLt ix [l] [l]=_
   rw [lexLt_irrefl];rfl
 | [],_::_,h=>by cases h
 | _::_,[],h=>by cases h
 | a::x,b::y,h=>by
   show (legLt ix a b || (legSame ix a b && lexLt ix (x++[l]) (y++[l])))=_
   rw [lexLt_snoc l (by simpa using h)];rfl
theorem wLt_snoc (l:Leg) (a b:List Leg):wLt ix (a++[l]) (b++[l])=wLt ix a b:=by
 rw [Bool.eq_iff_iff,wLt_iff,wLt_iff,wSum_append,wSum_append,List.length_append,List.length_append]
 constructor
 · rintro (h | ⟨h1,h | ⟨h2,h3⟩⟩)
   · left;omega
   · right;exact ⟨by omega,.inl (by omega)⟩
   · right
     have hl:a.length=b.length:=by omega
     rw [lexLt_snoc ix l hl] at h3
     exact ⟨by omega,.inr ⟨hl,h3⟩⟩
 · rintro (h | ⟨h1,h | ⟨h2,h3⟩⟩)
   · left;omega
   · right;exact ⟨by omega,.inl (by omega)⟩
   · right
     rw [lexLt_snoc ix l h2]
     exact ⟨by omega,.inr ⟨by omega,h3⟩⟩
def wLe (a b:List Leg):Prop:=wLt ix b a=false
theorem wLe_no {a b:List Leg} (h:wLe ix a b) (c:wLt ix b a=true):False:=by
 unfold wLe at h
 rw [h] at c;cases c
theorem wLe_refl (a:List Leg):wLe ix a a:=wLt_irrefl ix a
theorem wLt_le {a b:List Leg} (h:wLt ix a b=true):wLe ix a b:=by
 unfold wLe
 cases c:wLt ix b a with
 | false=>rfl
 | true =>
   have:=wLt_trans ix h c
   rw [wLt_irrefl] at this;cases this
theorem wLe_sum {a b:List Leg} (h:wLe ix a b):wSum a≤wSum b:=by
 by_cases c:wSum b < wSum a
 · have:wLt ix b a=true:=(wLt_iff ix).2 (.inl c)
   exact (wLe_no ix h this).elim
 · omega
theorem wLe_len {a b:List Leg} (h:wLe ix a b) (hs:wSum a=wSum b):a.length≤b.length:=by
 by_cases c:b.length < a.length
 · have:wLt ix b a=true:=(wLt_iff ix).2 (.inr ⟨hs.symm,.inl c⟩)
   exact (wLe_no ix h this).elim
 · omega
theorem wLt_short {a b:List Leg} (h1:wSum a≤wSum b) (h2:a.length < b.length):wLt ix a b=true:=by
 rw [wLt_iff]
 by_cases c:wSum a < wSum b
 · exact .inl c
 · exact .inr ⟨by omega,.inl h2⟩
variable {S:List Nat→Prop} (inj:∀ s t,S s→S t→ix s=ix t→s=t)
include inj
theorem wLe_trans {a b c:List Leg} (ha:knownL S a) (hb:knownL S b) (h1:wLe ix a b) (h2:wLe ix b c):wLe ix a c:=by
 unfold wLe
 cases k:wLt ix c a with
 | false=>rfl
 | true =>
   rcases wLt_tri ix inj ha hb with h | h | h
   · have:=wLt_trans ix k h
     exact (wLe_no ix h2 this).elim
   · subst h;exact (wLe_no ix h2 k).elim
   · exact (wLe_no ix h1 h).elim
theorem wLe_anti {a b:List Leg} (ha:knownL S a) (hb:knownL S b) (h1:wLe ix a b) (h2:wLe ix b a):a=b:=by
 rcases wLt_tri ix inj ha hb with h | h | h
 · exact (wLe_no ix h2 h).elim
 · exact h
 · exact (wLe_no ix h1 h).elim
end
end Go.Sim

/-
The plain law of ways: labels that nothing betters are the least ways; the least way, and its distance.
-/
namespace Go.Sim
section
variable (E:Nat→Bool→Pt) (N:Nat) (ix:List Nat→Int)
def isWay (a b:Pt) (w:List Leg):Prop:=∃ σ,okS E N a σ b∧w=legsOf E a σ b
structure Best (a b:Pt) (w:List Leg):Prop where
 way:isWay E N a b w
 least:∀ σ,okS E N a σ b→wLe ix w (legsOf E a σ b)
structure Lab (a:Pt) (L:Pt→Option (List Leg)):Prop where
 valid:∀ p w,L p=some w→isWay E N a p w
 first:∀ j m,j < N→(E j m).1=a.1 → ∃ w,L (E j m)=some w∧wLe ix w (legsOf E a [] (E j m))
 next:∀ i k w,i < N→L (E i k)=some w→w.length < 16 → ∀ j m,j < N→(E j m).1=(E i (!k)).1 → ∃ v,L (E j m)=some v∧wLe ix v (w++[⟨(E i (!k)).1,(E i (!k)).2,(E j m).2⟩])
variable {E N ix}
theorem legsOf_knownL {S:List Nat→Prop} (hS:∀ i k,i < N→S (E i k).1):∀ {a:Pt} {σ:List Stp} {b:Pt},S a.1→okS E N a σ b→knownL S (legsOf E a σ b)
 | a,[],b,ha,_=>by
   intro l hl
   rw [List.mem_singleton.1 hl];exact ha
 | a,s::r,b,ha,h=>by
   intro l hl
   rcases List.mem_cons.1 hl with rfl | hl
   · exact ha
   · exact legsOf_knownL hS (hS _ _ h.1) h.2.2 l hl
variable {S:List Nat→Prop} (inj:∀ s t,S s→S t→ix s=ix t→s=t) (hS:∀ i k,i < N→S (E i k).1)
include inj hS in
/-- A label is not greater than whatever way. -/
theorem Lab.least {a:Pt} {L:Pt→Option (List Leg)} (h:Lab E N ix a L) (hN:N≤14) (ha:S a.1):∀ (n:Nat) (σ:List Stp) (j:Nat) (m:Bool),j < N→okS E N a σ (E j m)→(σ.map Prod.fst).Nodup→(lenS E a σ (E j m)).toNat * 100+σ.length < n →
 ∃ w,L (E j m)=some w∧wLe ix w (legsOf E a σ (E j m)):=by
 intro n
 induction n with
 | zero=>intro σ j m _ _ _ h;omega
 | succ n ih =>
   intro σ j m hj hσ hn hm
   rcases List.eq_nil_or_concat σ with rfl | ⟨τ,s,rfl⟩
   · exact h.first j m hj hσ.symm
   · rw [List.concat_eq_append] at *
     have hk:=(okS_snoc E N a τ s (E j m)).1 hσ
     have hls:=lenS_snoc E a τ s (E j m)
     have hd:=dI_nonneg (E s.1 (!s.2)).2 (E j m).2
     have h0:=lenS_nonneg E a τ (E s.1 s.2)
     have hnt:(τ.map Prod.fst).Nodup:=by
      rw [List.map_append] at hn
      exact (List.nodup_append.1 hn).1
     have hfew:=simple_few hk.1 hnt
     simp only [List.length_append,List.length_cons,List.length_nil] at hm
     obtain ⟨w,w1,w2⟩:=ih τ s.1 s.2 hk.2.1 hk.1 hnt (by omega)
     by_cases hw:w.length < 16
     · obtain ⟨v,v1,v2⟩:=h.next s.1 s.2 w hk.2.1 w1 hw j m hj hk.2.2.symm
       refine ⟨v,v1, ?_⟩
       rw [legsOf_snoc]
       obtain ⟨ρ,r1,r2⟩:=h.valid _ _ v1
       obtain ⟨ρ',r1',r2'⟩:=h.valid _ _ w1
       have k1:knownL S v:=by rw [r2];exact legsOf_knownL hS ha r1
       have kl:∀ u,knownL S u→knownL S (u++[⟨(E s.1 (!s.2)).1,(E s.1 (!s.2)).2,(E j m).2⟩]):=by
        intro u hu l hl
        rcases List.mem_append.1 hl with hl | hl
        · exact hu l hl
        · rw [List.mem_singleton.1 hl];exact hS _ _ hk.2.1
       have k2:knownL S w:=by rw [r2'];exact legsOf_knownL hS ha r1'
       refine wLe_trans ix inj k1 (kl w k2) v2 ?_
       show wLt ix _ _=false
       rw [wLt_snoc];exact w2
     · exfalso
       obtain ⟨ρ,r1,r2⟩:=h.valid _ _ w1
       have hlen:=legsOf_length E a ρ (E s.1 s.2)
       rw [← r2] at hlen
       have hs:=wLe_sum ix w2
       have hρ:15≤ρ.length:=by omega
       obtain ⟨τ',t1,t2,t3⟩:=cut_all E N ρ.length (Nat.le_refl _) r1
       have hfew':=simple_few t1 t2
       rcases t3 with rfl | ⟨t3,t4⟩
       · omega
       · have hlt:wSum w < wSum (legsOf E a τ (E s.1 s.2)):=by
          rcases Int.lt_or_le (wSum w) (wSum (legsOf E a τ (E s.1 s.2))) with c | c
          · exact c
          · have:=wLe_len ix w2 (by omega)
            rw [legsOf_length] at this
            omega
         have e1:lenS E a ρ (E s.1 s.2)=wSum w:=by rw [r2];rfl
         have e2:lenS E a τ (E s.1 s.2)=wSum (legsOf E a τ (E s.1 s.2)):=rfl
         have h0':=lenS_nonneg E a τ' (E s.1 s.2)
         obtain ⟨u,u1,u2⟩:=ih τ' s.1 s.2 hk.2.1 t1 t2 (by omega)
         rw [w1] at u1
         cases u1
         have:wLt ix (legsOf E a τ' (E s.1 s.2)) w=true:=by
          apply wLt_short
          · rw [← e1];exact t4
          · rw [legsOf_length];omega
         exact wLe_no ix u2 this
include inj hS in
theorem Lab.best {a:Pt} {L:Pt→Option (List Leg)} (h:Lab E N ix a L) (hN:N≤14) (ha:S a.1) {σ:List Stp} {j:Nat} {m:Bool} (hj:j < N) (hσ:okS E N a σ (E j m)) :
 ∃ w,L (E j m)=some w∧Best E N ix a (E j m) w∧w.length < 16:=by
 have key:∀ σ,okS E N a σ (E j m) → ∃ w,L (E j m)=some w∧wLe ix w (legsOf E a σ (E j m)):=by
  intro σ hσ
  obtain ⟨τ,t1,t2,t3⟩:=cut_all E N σ.length (Nat.le_refl _) hσ
  obtain ⟨w,w1,w2⟩:=Lab.least inj hS h hN ha _ τ j m hj t1 t2 (Nat.lt_succ_self _)
  refine ⟨w,w1, ?_⟩
  rcases t3 with rfl | ⟨t3,t4⟩
  · exact w2
  · obtain ⟨ρ,r1,r2⟩:=h.valid _ _ w1
    refine wLe_trans ix inj (by rw [r2];exact legsOf_knownL hS ha r1) (legsOf_knownL hS ha t1) w2 (wLt_le ix ?_)
    exact wLt_short ix t4 (by rw [legsOf_length,legsOf_length];omega)
 obtain ⟨w,w1,w2⟩:=key σ hσ
 obtain ⟨ρ,r1,r2⟩:=h.valid _ _ w1
 refine ⟨w,w1,⟨⟨ρ,r1,r2⟩,fun τ hτ => ?_⟩, ?_⟩
 · obtain ⟨v,v1,v2⟩:=key τ hτ
   rw [w1] at v1;cases v1;exact v2
 · obtain ⟨τ,t1,t2,t3⟩:=cut_all E N ρ.length (Nat.le_refl _) r1
   have hfew:=simple_few t1 t2
   rcases t3 with rfl | ⟨t3,t4⟩
   · rw [r2,legsOf_length];omega
   · exfalso
     obtain ⟨v,v1,v2⟩:=key τ t1
     rw [w1] at v1;cases v1
     have:wLt ix (legsOf E a τ (E j m)) w=true:=wLt_short ix (by rw [r2];exact t4) (by rw [r2,legsOf_length,legsOf_length];omega)
     exact wLe_no ix v2 this
include inj hS in
theorem Best.uniq {a b:Pt} (ha:S a.1) {v w:List Leg} (h1:Best E N ix a b v) (h2:Best E N ix a b w):v=w:=by
 obtain ⟨σ,s1,s2⟩:=h1.way
 obtain ⟨τ,t1,t2⟩:=h2.way
 have k1:knownL S v:=by rw [s2];exact legsOf_knownL hS ha s1
 have k2:knownL S w:=by rw [t2];exact legsOf_knownL hS ha t1
 refine wLe_anti ix inj k1 k2 ?_ ?_
 · rw [t2];exact h1.least τ t1
 · rw [s2];exact h2.least σ s1
def candW (L:Pt→Option (List Leg)) (a b:Pt) (w:List Leg):Prop :=
 (a.1=b.1∧w=legsOf E a [] b) ∨ ∃ i k r,i < N∧L (E i k)=some r∧(E i (!k)).1=b.1∧r.length < 16∧w=r++[⟨(E i (!k)).1,(E i (!k)).2,b.2⟩]
theorem cand_way {a b:Pt} {L:Pt→Option (List Leg)} (h:Lab E N ix a L) {w:List Leg} (hw:candW (E:=E) (N:=N) L a b w):isWay E N a b w:=by
 rcases hw with ⟨h1,rfl⟩ | ⟨i,k,r,h1,h2,h3,_,rfl⟩
 · exact ⟨[],h1,rfl⟩
 · obtain ⟨σ,s1,rfl⟩:=h.valid _ _ h2
   exact ⟨σ++[(i,k)],(okS_snoc E N a σ (i,k) b).2 ⟨s1,h1,h3⟩,by rw [legsOf_snoc]⟩
include inj hS in
/-- A way is not less than the best of the candidates. -/
theorem cand_least {a b:Pt} {L:Pt→Option (List Leg)} (h:Lab E N ix a L) (hN:N≤14) (ha:S a.1) {σ:List Stp} (hσ:okS E N a σ b):∃ w,candW (E:=E) (N:=N) L a b w∧wLe ix w (legsOf E a σ b):=by
 rcases List.eq_nil_or_concat σ with rfl | ⟨τ,s,rfl⟩
 · exact ⟨_,.inl ⟨hσ,rfl⟩,wLe_refl ix _⟩
 · rw [List.concat_eq_append] at *
   have hk:=(okS_snoc E N a τ s b).1 hσ
   obtain ⟨w,w1,w2,w3⟩:=Lab.best inj hS h hN ha hk.2.1 hk.1
   refine ⟨_,.inr ⟨s.1,s.2,w,hk.2.1,w1,hk.2.2,w3,rfl⟩, ?_⟩
   rw [legsOf_snoc]
   show wLt ix _ _=false
   rw [wLt_snoc];exact w2.least τ hk.1
include inj hS in
theorem cand_best {a b:Pt} {L:Pt→Option (List Leg)} (h:Lab E N ix a L) (hN:N≤14) (ha:S a.1) {w:List Leg} (hw:candW (E:=E) (N:=N) L a b w) (hl:∀ v,candW (E:=E) (N:=N) L a b v→wLe ix w v):Best E N ix a b w:=by
 refine ⟨cand_way h hw,fun σ hσ => ?_⟩
 obtain ⟨v,v1,v2⟩:=cand_least inj hS h hN ha hσ
 obtain ⟨τ,t1,t2⟩:=cand_way h hw
 obtain ⟨ρ,r1,r2⟩:=cand_way h v1
 refine wLe_trans ix inj ?_ ?_ (hl v v1) v2
 · rw [t2];exact legsOf_knownL hS ha t1
 · rw [r2];exact legsOf_knownL hS ha r1
/-! ### Distances -/
structure Dist (E:Nat→Bool→Pt) (N:Nat) (a b:Pt) (d:Int):Prop where
 way:∃ σ,okS E N a σ b∧lenS E a σ b=d
 least:∀ σ,okS E N a σ b→d≤lenS E a σ b
theorem Best.dist {a b:Pt} {w:List Leg} (h:Best E N ix a b w):Dist E N a b (wSum w):=by
 obtain ⟨σ,s1,s2⟩:=h.way
 exact ⟨⟨σ,s1,by rw [s2];rfl⟩,fun τ hτ=>wLe_sum ix (h.least τ hτ)⟩
theorem Dist.uniq {a b:Pt} {d e:Int} (h1:Dist E N a b d) (h2:Dist E N a b e):d=e:=by
 obtain ⟨σ,s1,s2⟩:=h1.way
 obtain ⟨τ,t1,t2⟩:=h2.way
 have:=h1.least τ t1
 have:=h2.least σ s1
 omega
theorem Dist.nonneg {a b:Pt} {d:Int} (h:Dist E N a b d):0≤d:=by
 obtain ⟨σ,_,rfl⟩:=h.way
 exact lenS_nonneg E a σ b
theorem dist_of (E:Nat→Bool→Pt) (N:Nat) {a b:Pt}:∀ (n:Nat) (σ:List Stp),okS E N a σ b→(lenS E a σ b).toNat < n → ∃ d,Dist E N a b d
 | 0,_,_,h=>by omega
 | n+1,σ,h,hn=>by
   by_cases c:∃ τ,okS E N a τ b∧lenS E a τ b < lenS E a σ b
   · obtain ⟨τ,t1,t2⟩:=c
     have:=lenS_nonneg E a τ b
     exact dist_of E N n τ t1 (by omega)
   · refine ⟨_,⟨σ,h,rfl⟩,fun τ hτ => ?_⟩
     rcases Int.lt_or_le (lenS E a τ b) (lenS E a σ b) with k | k
     · exact absurd ⟨τ,hτ,k⟩ c
     · exact k
/-! ### Turned round -/
def revS (σ:List Stp):List Stp:=(σ.map fun s=>(s.1,!s.2)).reverse
theorem rev_ok (E:Nat→Bool→Pt) (N:Nat):∀ {a:Pt} {σ:List Stp} {b:Pt},okS E N a σ b→okS E N b (revS σ) a∧lenS E b (revS σ) a=lenS E a σ b
 | a,[],b,h=>by
   refine ⟨Eq.symm h, ?_⟩
   show lenS E b [] a=_
   rw [lenS_nil,lenS_nil,dI_comm]
 | a,s::r,b,h=>by
   obtain ⟨i1,i2⟩:=rev_ok E N h.2.2
   have e:revS (s::r)=revS r++[(s.1,!s.2)]:=by simp [revS]
   rw [e]
   constructor
   · rw [okS_snoc]
     exact ⟨i1,h.1,by simpa using h.2.1⟩
   · rw [lenS_snoc,lenS_cons]
     simp only [Bool.not_not]
     rw [i2,dI_comm];omega
theorem cat_ok (E:Nat→Bool→Pt) (N:Nat):∀ {a:Pt} {σ:List Stp} {c:Pt},okS E N a σ c → ∀ {τ:List Stp} {b:Pt},okS E N c τ b→okS E N a (σ++τ) b∧lenS E a (σ++τ) b≤lenS E a σ c+lenS E c τ b
 | a,[],c,h,τ,b,h2=>by
   refine ⟨okS_begin E N (Eq.symm h) h2, ?_⟩
   rw [lenS_nil]
   exact lenS_begin E c a τ b
 | a,s::r,c,h,τ,b,h2=>by
   obtain ⟨i1,i2⟩:=cat_ok E N h.2.2 h2
   refine ⟨⟨h.1,h.2.1,i1⟩, ?_⟩
   rw [List.cons_append,lenS_cons,lenS_cons];omega
theorem Dist.turn {a b:Pt} {d:Int} (h:Dist E N a b d):Dist E N b a d:=by
 obtain ⟨σ,s1,s2⟩:=h.way
 obtain ⟨r1,r2⟩:=rev_ok E N s1
 refine ⟨⟨revS σ,r1,by omega⟩,fun τ hτ => ?_⟩
 obtain ⟨q1,q2⟩:=rev_ok E N hτ
 have:=h.least _ q1
 omega
theorem Dist.tri {a b c:Pt} {d e f:Int} (h:Dist E N a b d) (h1:Dist E N a c e) (h2:Dist E N c b f):d≤e+f:=by
 obtain ⟨σ,s1,s2⟩:=h1.way
 obtain ⟨τ,t1,t2⟩:=h2.way
 obtain ⟨c1,c2⟩:=cat_ok E N s1 t1
 have:=h.least _ c1
 omega
end
end Go.Sim

/-
Addresses as keys of a map; the reference's Small; the program's Posts.
-/
namespace Go.Sim
open Go Go.Proofs
set_option maxRecDepth 100000
set_option maxHeartbeats 8000000
def smallN (n:Net):Bool:=shortN n && (decide (netR n=0) && !decide ((4:Int) < n.lines.length) && !decide ((4:Int) < n.sws.length) && !decide ((6:Int) < n.sts.length) && n.lines.all fun l=>!decide (120 < sumW l.ps 0))
noncomputable def PPF31:FuncId→Option (List AV→Option AV):=addPrim 26 p26 (addPrim 22 p22 (addPrim 17 p17 (fun _=>none)))
theorem primsF31:PrimsOk NC PPF31:=primsOk_add (primsOk_add (primsOk_add (primsOk_none) (by kernel_rfl) (by kernel_rfl) pok17) (by kernel_rfl) (by kernel_rfl) pok22) (by kernel_rfl) (by kernel_rfl) pok26
theorem enF31_17:En PPF31 17 p17:=enter_prim (by rfl) (by kernel_rfl)
theorem enF31_22:En PPF31 22 p22:=enter_prim (by rfl) (by kernel_rfl)
theorem enF31_26:En PPF31 26 p26:=enter_prim (by rfl) (by kernel_rfl)
attribute [go_sem ↓] enF31_17 enF31_22 enF31_26
theorem c31 (n:Net):∀ lo H,CallOk NC lo 31 [.agg n.cells] H (.bool (smallN n)) H:=by
 refine contract saneNC primsF31 (fn:=Tryz.f31) (by kernel_rfl) Tryz.func31 rfl rfl (by rfl) (by first | rfl | (split<;>first | rfl | (split<;>rfl))) ?_
 have e17:p17 [.agg n.cells]=some (.bool (shortN n)):=pe17 n trivial
 have hsm:smallN n=(shortN n && (decide (netR n=0) && !decide ((4:Int) < n.lines.length) && !decide ((4:Int) < n.sws.length) && !decide ((6:Int) < n.sts.length) && n.lines.all fun l=>!decide (120 < sumW l.ps 0))):=rfl
 rw [hsm]
 simp only [Net.cells] at e17
 cases hS:shortN n with
 | false =>
   rw [hS] at e17
   simp only [go_sem,reduceIte,reduceEqDiff,reduceAdd,reduceMul,reduceSub,reduceLeDiff,reduceLT,Nat.reduceBEq,reduceCtorEq,Net.cells,e17]
 | true =>
   rw [hS] at e17
   have hok:=short_ok hS
   have e22:p22 [.agg n.cells]=some (.int .i64 (netR n)):=pe22 n ⟨hok.fits,hok.sws,hok.sts⟩
   simp only [Net.cells] at e22
   rcases Classical.propComplete (netR n=0) with z | z
   case inr =>
    simp only [go_sem,reduceIte,reduceEqDiff,reduceAdd,reduceMul,reduceSub,reduceLeDiff,reduceLT,Nat.reduceBEq,reduceCtorEq,Net.cells,e17,e22,z]
   rcases Classical.propComplete ((4:Int) < n.lines.length) with q1 | q1
   · simp only [go_sem,reduceIte,reduceEqDiff,reduceAdd,reduceMul,reduceSub,reduceLeDiff,reduceLT,Nat.reduceBEq,reduceCtorEq,Net.cells,List.length_map,e17,e22,z,q1]
   rcases Classical.propComplete ((4:Int) < n.sws.length) with q2 | q2
   · simp only [go_sem,reduceIte,reduceEqDiff,reduceAdd,reduceMul,reduceSub,reduceLeDiff,reduceLT,Nat.reduceBEq,reduceCtorEq,Net.cells,List.length_map,e17,e22,z,q1,q2]
   rcases Classical.propComplete ((6:Int) < n.sts.length) with q3 | q3
   · simp only [go_sem,reduceIte,reduceEqDiff,reduceAdd,reduceMul,reduceSub,reduceLeDiff,reduceLT,Nat.reduceBEq,reduceCtorEq,Net.cells,List.length_map,e17,e22,z,q1,q2,q3]
   simp only [go_sem,reduceIte,reduceEqDiff,reduceAdd,reduceMul,reduceSub,reduceLeDiff,reduceLT,Nat.reduceBEq,reduceCtorEq,Net.cells,List.length_map,e17,e22,z,q1,q2,q3]
   refine W_for (fun k T H M=>M=[]∧getT T 1=.ptr 0 0∧getT T 3=i64 k∧H.get 0=.cells n.cells 26∧0 < H.n ∧ ∀ (j:Nat) x,j < k→n.lines[j]? = some x→(!decide (120 < sumW x.ps 0))=true) n.lines.length ?_ ?_ ?_
   · simp only [go_sem,reduceIte,reduceEqDiff,reduceAdd,reduceMul,reduceSub,reduceLeDiff,reduceLT,Nat.reduceBEq,reduceCtorEq,Net.cells];exact fun j x hj=>absurd hj (by omega)
   · rintro k T H M hk ⟨rfl,g1,g3,h0,hn,hall⟩
     obtain ⟨l,hp⟩:∃ p,n.lines[k]? = some p:=⟨n.lines[k],by simp⟩
     have hmem:=List.mem_of_getElem? hp
     have hr:=map_at (f:=Ln.row) hp
     have hw:=wrap_succ hk hok.lines
     have e26:p26 [.agg l.row]=some (.int .i64 (sumW l.ps 0)):=pe26 l (hok.line l hmem).2
     simp only [Ln.row,i64] at hr e26
     rcases Classical.propComplete (120 < sumW l.ps 0) with d1 | d1<;>simp only [go_sem,reduceIte,reduceEqDiff,reduceAdd,reduceMul,reduceSub,reduceLeDiff,reduceLT,Nat.reduceBEq,reduceCtorEq,g1,g3,h0,Net.cells,List.length_map,hk,hr,hw,e26,d1]
     case inr =>
      refine ⟨hn,fun j x hj hx => ?_⟩
      by_cases e:j=k
      · subst e;rw [hp] at hx;cases hx;simp [d1]
      · have:=hall j x (by omega) hx
        simpa using this
     rw [all_false hp (by simp [d1])]
     simp
   · rintro T H M ⟨rfl,g1,g3,h0,hn,hall⟩
     rw [all_true hall]
     simp only [go_sem,reduceIte,reduceEqDiff,reduceAdd,reduceMul,reduceSub,reduceLeDiff,reduceLT,Nat.reduceBEq,reduceCtorEq,g1,g3,h0,Net.cells,List.length_map,Nat.lt_irrefl]
     simp [z,q1,q2,q3]
noncomputable def p31:List AV→Option AV:=primOf (α:=(Net)) (fun x=>[.agg x.cells]) (fun x=>True) (fun x=>.bool (smallN x))
theorem pok31:∀ args v,p31 args=some v → ∀ lo H,CallOk NC lo 31 args H v H:=by
 intro args v h
 obtain ⟨x,rfl,hp,rfl⟩:=primOf_inv h
 exact c31 x
theorem pe31 (n:Net):p31 [.agg n.cells]=some (.bool (smallN n)):=primOf_enc (α:=(Net)) (enc:=fun x=>[.agg x.cells]) (pre:=fun x=>True) (spec:=fun x=>.bool (smallN x)) (by intro x y h;(simp only [List.cons.injEq,AV.agg.injEq,AV.str.injEq,AV.int.injEq,AV.ps.injEq,AV.bool.injEq,Net.cells_iff,Ln.row_iff,Pc.row_iff,Mv.row_iff,lns_iff,pcs_iff,mvs_iff,true_and,and_true] at h;first | simpa only [Prod.ext_iff] using h | simpa only [Prod.ext_iff,and_assoc] using h)) n trivial
/-! ### Posts -/
end Go.Sim

/-
The plain law: each metre of a valid line has one address, and it names this metre alone.
-/
namespace Go.Sim
open Go
theorem line_found {n:Net} (h:netR n=0) {i:Nat} {l:Ln} (hl:n.lines[i]? = some l):findL n.lines l.name=some i:=by
 have hz:=allR_zero (netR_lines h) (List.getElem?_eq_some_iff.1 hl).1
 unfold lineR at hz
 simp only [hl] at hz
 split at hz
 · rename_i he
   have hd:=firstI_zero he (whenI (decide (findI n.lines l.name < i)) 9) (by simp)
   have hlt:¬ (findI n.lines l.name < i):=by
    intro hc;rw [decide_eq_true hc] at hd;simp [whenI] at hd
   unfold findI at hlt
   cases hf:findL n.lines l.name with
   | none=>rw [hf] at hlt;exfalso;simp only at hlt;omega
   | some k =>
     rw [hf] at hlt
     simp only at hlt
     have hki:i≤k:=by omega
     unfold findL at hf
     rw [List.findIdx?_eq_some_iff_getElem] at hf
     obtain ⟨hk,_,hmin⟩:=hf
     by_cases e:k=i
     · rw [e]
     · have:=hmin i (by omega)
       rw [(List.getElem?_eq_some_iff.1 hl).2] at this
       exact absurd (beqL_self l.name) (by simpa using this)
 · rename_i he;exact absurd hz he
variable {l:Ln}
end Go.Sim

/-
Ends of switches; where a switch lies on a line.
-/
namespace Go.Sim
open Go Go.Proofs
set_option maxRecDepth 100000
set_option maxHeartbeats 8000000
theorem Sw.row_iff (a b:Sw):a.row=b.row ↔ a=b:=⟨Sw.row_inj a b,fun h=>by rw [h]⟩
-- INJ Sw.row_iff Br.row_iff
structure Br where
 sw:Sw
 at':Int
def Br.row (b:Br):List AV:=[.str b.sw.name,.str b.sw.line,i64 b.sw.metre,.str b.sw.other,.bool b.sw.last,i64 b.at']
theorem Br.row_inj (a b:Br) (h:a.row=b.row):a=b:=by
 obtain ⟨⟨a1,a2,a3,a4,a5⟩,a6⟩:=a
 obtain ⟨⟨b1,b2,b3,b4,b5⟩,b6⟩:=b
 simp only [Br.row,List.cons.injEq,AV.str.injEq,AV.int.injEq,AV.bool.injEq,true_and,and_true] at h
 obtain ⟨rfl,rfl,rfl,rfl,rfl,rfl⟩:=h;rfl
theorem Br.row_iff (a b:Br):a.row=b.row ↔ a=b:=⟨Br.row_inj a b,fun h=>by rw [h]⟩
theorem evalO_str0 {C:Cfg} {T:TT AV}:evalO C T (.const (.string { data:=#[] }))=some (.str []):=rfl
attribute [go_sem] evalO_str0
theorem ab259 (a c:List Nat) (b d:Int):abuild NC.P 259 [(0,.agg [.str a,.int .i64 b]),(1,.agg [.str c,.int .i64 d])]=some (.agg [.str a,.int .i64 b,.str c,.int .i64 d]):=by kernel_rfl
theorem ab137 (a c:List Nat) (b d:Int):abuild NC.P 137 [(0,.agg [.str a,.int .i64 b]),(1,.agg [.str c,.int .i64 d])]=some (.agg [.str a,.int .i64 b,.str c,.int .i64 d]):=by kernel_rfl
attribute [go_sem] ab259 ab137
def endM (n:Net) (s:Sw):Int:=if s.last then wrapq .i64 (Int.sub (sumW (lnOf n.lines s.other).ps 0) 1) else 0
noncomputable def PPF151:FuncId→Option (List AV→Option AV):=addPrim 99 p99 (addPrim 98 p98 (fun _=>none))
theorem primsF151:PrimsOk NC PPF151:=primsOk_add (primsOk_add (primsOk_none) (by kernel_rfl) (by kernel_rfl) pok98) (by kernel_rfl) (by kernel_rfl) pok99
theorem enF151_98:En PPF151 98 p98:=enter_prim (by rfl) (by kernel_rfl)
theorem enF151_99:En PPF151 99 p99:=enter_prim (by rfl) (by kernel_rfl)
attribute [go_sem ↓] enF151_98 enF151_99
theorem c151 (n:Net) (s:Sw) (hp:n.Ok):∀ lo H,CallOk NC lo 151 [.agg n.cells,.agg s.row] H (.agg [.str s.line,i64 s.metre,.str s.other,i64 (endM n s)]) H:=by
 refine contract saneNC primsF151 (fn:=Tryz.f151) (by kernel_rfl) Tryz.func151 rfl rfl (by rfl) rfl ?_
 have e98:p98 [.agg n.cells,.str s.other]=some (.tup [.agg (lnOf n.lines s.other).row,.bool (lnB n.lines s.other)]):=pe98 (n,s.other) hp.lines
 have e99:=pe99 (lnOf n.lines s.other) (lnOf_fits fun l hl=>(hp.line l hl).2)
 have hE:endM n s=if s.last then wrapq .i64 (Int.sub (sumW (lnOf n.lines s.other).ps 0) 1) else 0:=rfl
 rw [hE]
 simp only [Net.cells] at e98
 generalize lnOf n.lines s.other=l at e98 e99
 obtain ⟨a,b,c,d,e⟩:=s
 obtain ⟨ln,lp⟩:=l
 simp only [Ln.row] at e98 e99
 cases e<;>simp only [go_sem,reduceIte,reduceEqDiff,reduceAdd,reduceMul,reduceSub,reduceLeDiff,reduceLT,Nat.reduceBEq,reduceCtorEq,Net.cells,Sw.row,e98,e99]
noncomputable def p151:List AV→Option AV:=primOf (α:=(Net) × (Sw)) (fun x=>[.agg x.1.cells,.agg x.2.row]) (fun x=>x.1.Ok) (fun x=>.agg [.str x.2.line,i64 x.2.metre,.str x.2.other,i64 (endM x.1 x.2)])
theorem pok151:∀ args v,p151 args=some v → ∀ lo H,CallOk NC lo 151 args H v H:=by
 intro args v h
 obtain ⟨x,rfl,hp,rfl⟩:=primOf_inv h
 exact c151 x.1 x.2 hp
theorem pe151 (n:Net) (s:Sw) (hp:n.Ok):p151 [.agg n.cells,.agg s.row]=some (.agg [.str s.line,.int .i64 s.metre,.str s.other,.int .i64 (endM n s)]):=primOf_enc (α:=(Net) × (Sw)) (enc:=fun x=>[.agg x.1.cells,.agg x.2.row]) (pre:=fun x=>x.1.Ok) (spec:=fun x=>.agg [.str x.2.line,i64 x.2.metre,.str x.2.other,i64 (endM x.1 x.2)]) (by intro x y h;(simp only [List.cons.injEq,AV.agg.injEq,AV.str.injEq,AV.int.injEq,AV.ps.injEq,AV.bool.injEq,Net.cells_iff,Ln.row_iff,Pc.row_iff,Mv.row_iff,lns_iff,pcs_iff,mvs_iff,Sw.row_iff,Br.row_iff,true_and,and_true] at h;first | simpa only [Prod.ext_iff] using h | simpa only [Prod.ext_iff,and_assoc] using h)) (n,s) hp
def atS (n:Net) (s:Sw) (w:List Nat):Int:=if beqL s.line w then s.metre else if beqL s.other w then endM n s else -1
end Go.Sim

/-
Further facts on the types and the regions of this program (2).
-/
namespace Go.Sim
open Go Go.Proofs
theorem bs_26 (parts:List (Nat × AV)):abuild NC.P 26 parts=match afill (fun i=>fplace 26 i) [.ps .nil [],.ps .nil [],.ps .nil []] parts with
 | some cs=>some (.agg cs)
 | none=>none:=by kernel_rfl
theorem fp_26_0:fplace 26 0=some (0,1):=by kernel_rfl
theorem fp_26_1:fplace 26 1=some (1,1):=by kernel_rfl
theorem fp_26_2:fplace 26 2=some (2,1):=by kernel_rfl
theorem un_399:NC.P.underlying 399=some (.array 20 361):=by kernel_rfl
theorem sz_361:szOf NC.P 361=some 1:=by kernel_rfl
theorem ag_361:aggOf NC.P 361=some false:=by kernel_rfl
theorem ze_400:zeroOf NC.P 400=some (.agg [.int .u8 0,.int .u8 0,.int .u8 0,.int .u8 0,.int .u8 0,.int .u8 0,.int .u8 0,.int .u8 0,.int .u8 0,.int .u8 0,.int .u8 0,.int .u8 0,.int .u8 0,.int .u8 0,.int .u8 0,.int .u8 0,.int .u8 0,.int .u8 0,.int .u8 0,.int .u8 0,.int .u8 0,.int .u8 0,.int .u8 0,.int .u8 0,.int .u8 0,.int .u8 0,.int .u8 0,.int .u8 0,.int .u8 0,.int .u8 0,.int .u8 0,.int .u8 0,.int .u8 0,.int .u8 0,.int .u8 0,.int .u8 0,.int .u8 0,.int .u8 0,.int .u8 0,.int .u8 0,.int .u8 0,.int .u8 0,.int .u8 0,.int .u8 0,.int .u8 0,.int .u8 0,.int .u8 0,.int .u8 0,.int .u8 0,.int .u8 0,.int .u8 0,.int .u8 0,.int .u8 0,.int .u8 0,.int .u8 0,.int .u8 0,.int .u8 0,.int .u8 0,.int .u8 0,.int .u8 0,.int .u8 0,.int .u8 0,.int .u8 0,.int .u8 0,.int .u8 0]):=by kernel_rfl
theorem un_400:NC.P.underlying 400=some (.array 65 5):=by kernel_rfl
theorem un_402:NC.P.underlying 402=some (.array 256 5):=by kernel_rfl
theorem un_405:NC.P.underlying 405=some (.array 16 404):=by kernel_rfl
theorem sz_404:szOf NC.P 404=some 2:=by kernel_rfl
theorem ag_404:aggOf NC.P 404=some true:=by kernel_rfl
theorem ze_404:zeroOf NC.P 404=some (.agg [.int .u8 0,.int .u8 0]):=by kernel_rfl
theorem fa_404_0 (id off:Nat):afieldAddr NC.P 404 (.ptr id off) 0=some (.ptr id (off+0)):=by kernel_rfl
theorem fb_404_0 (cs:List AV):afieldAddr NC.P 404 (.pptr cs) 0=some (.pptr (cs.drop 0)):=by kernel_rfl
theorem fa_404_1 (id off:Nat):afieldAddr NC.P 404 (.ptr id off) 1=some (.ptr id (off+1)):=by kernel_rfl
theorem fb_404_1 (cs:List AV):afieldAddr NC.P 404 (.pptr cs) 1=some (.pptr (cs.drop 1)):=by kernel_rfl
theorem pl_244_1 (P:FuncId→Option (List AV→Option AV)):(NC.withPrims P).plans 244 1=[⟨.load,0,0,[]⟩,⟨.data,0,0,[]⟩,⟨.load,0,2,[]⟩,⟨.read,0,7,[]⟩,⟨.load,0,0,[]⟩,⟨.data,0,0,[]⟩,⟨.load,0,32,[]⟩,⟨.read,0,127,[]⟩,⟨.read,0,255,[]⟩,⟨.data,0,0,[]⟩,⟨.load,0,512,[]⟩,⟨.data,0,0,[]⟩,⟨.load,0,2048,[]⟩,⟨.read,0,8191,[]⟩,⟨.data,0,0,[]⟩,⟨.load,0,16384,[]⟩,⟨.data,0,0,[]⟩,⟨.load,0,65536,[]⟩,⟨.read,0,262143,[]⟩,⟨.data,0,524287,[]⟩,⟨.read,0,1048575,[]⟩,⟨.data,0,2097151,[]⟩]:=by kernel_rfl
attribute [go_sem] bs_26 fp_26_0 fp_26_1 fp_26_2 un_399 sz_361 ag_361 ze_400 un_400 un_402 un_405 sz_404
attribute [go_sem] ag_404 ze_404 fa_404_0 fb_404_0 fa_404_1 fb_404_1 pl_244_1
end Go.Sim

/-
Ways: data; lengths of legs; how routes compare, by the program.
-/
-- INJ Leg.row_iff lgs_iff
namespace Go.Sim
open Go Go.Proofs
set_option maxRecDepth 100000
set_option maxHeartbeats 16000000
def Leg.row (l:Leg):List AV:=[.str l.line,i64 l.fr,i64 l.to]
theorem Leg.row_len (l:Leg):l.row.length=3:=rfl
theorem Leg.row_inj (a b:Leg) (h:a.row=b.row):a=b:=by
 cases a;cases b;simp [Leg.row] at h;obtain ⟨rfl,rfl,rfl⟩:=h;rfl
theorem Leg.row_iff (a b:Leg):a.row=b.row ↔ a=b:=⟨Leg.row_inj a b,fun h=>by rw [h]⟩
theorem lgs_iff (a b:List Leg):a.map Leg.row=b.map Leg.row ↔ a=b:=⟨fun h=>map_inj Leg.row_inj h,fun h=>by rw [h]⟩
def legW (l:Leg):Int:=maxI (wrapq .i64 (Int.sub l.fr l.to)) (wrapq .i64 (Int.sub l.to l.fr))
noncomputable def PPF146:FuncId→Option (List AV→Option AV):=fun _=>none
theorem primsF146:PrimsOk NC PPF146:=primsOk_none
theorem c146 (l:Leg):∀ lo H,CallOk NC lo 146 [.agg l.row] H (i64 (legW l)) H:=by
 refine contract saneNC primsF146 (fn:=Tryz.f146) (by kernel_rfl) Tryz.func146 rfl rfl (by rfl) (by first | rfl | (split<;>first | rfl | (split<;>rfl))) ?_
 obtain ⟨a,b,c⟩:=l
 simp only [go_sem,reduceIte,reduceEqDiff,reduceAdd,reduceMul,reduceSub,reduceLeDiff,reduceLT,Nat.reduceBEq,reduceCtorEq,Leg.row]
 rfl
noncomputable def p146:List AV→Option AV:=primOf (α:=(Leg)) (fun x=>[.agg x.row]) (fun x=>True) (fun x=>i64 (legW x))
theorem pok146:∀ args v,p146 args=some v → ∀ lo H,CallOk NC lo 146 args H v H:=by
 intro args v h
 obtain ⟨x,rfl,hp,rfl⟩:=primOf_inv h
 exact c146 x
theorem pe146 (l:Leg):p146 [.agg l.row]=some (.int .i64 (legW l)):=primOf_enc (α:=(Leg)) (enc:=fun x=>[.agg x.row]) (pre:=fun x=>True) (spec:=fun x=>i64 (legW x)) (by intro x y h;(simp only [List.cons.injEq,AV.agg.injEq,AV.str.injEq,AV.int.injEq,AV.ps.injEq,AV.bool.injEq,Net.cells_iff,Ln.row_iff,Pc.row_iff,Mv.row_iff,lns_iff,pcs_iff,mvs_iff,Leg.row_iff,lgs_iff,true_and,and_true] at h;first | simpa only [Prod.ext_iff] using h | simpa only [Prod.ext_iff,and_assoc] using h)) l trivial
def orL:List Int→Int
 | []=>0
 | x::r=>if x=0 then orL r else x
theorem c241L (l:List Int) (hl:l.length≤maxRows):∀ lo H,CallOk NC lo 241 [.ps .unk (intRows l)] H (i64 (orL l)) H:=by
 refine contract saneNC primsOk_none (fn:=Tryz.f241) (by kernel_rfl) Tryz.func241 rfl rfl (by rfl) (by rfl) ?_
 simp only [go_sem,reduceIte,reduceEqDiff,reduceAdd,reduceMul,reduceSub,reduceLeDiff,reduceLT,Nat.reduceBEq,reduceCtorEq]
 refine W_for (fun k T H M=>M=[]∧getT T 3=i64 0∧getT T 6=.ps .unk (intRows l)∧getT T 7=i64 (l.length:Nat)∧getT T 8=i64 k∧orL l=orL (l.drop k)) l.length ?_ ?_ ?_
 · simp only [go_sem,reduceIte,reduceEqDiff,reduceAdd,reduceMul,reduceSub,reduceLeDiff,reduceLT,Nat.reduceBEq,reduceCtorEq,intRows_len,List.drop_zero]
 · rintro k T H M hk ⟨rfl,g3,g6,g7,g8,hf⟩
   obtain ⟨e,he⟩:∃ e,l[k]? = some e:=⟨l[k],by simp⟩
   have hr:=intRows_at he
   have hw:=wrap_succ hk hl
   rw [drop_at he] at hf
   have hor:orL (e::l.drop (k+1))=if e=0 then orL (l.drop (k+1)) else e:=rfl
   rw [hor] at hf
   rcases Classical.propComplete (e=0) with z | z
   · rw [if_pos (of_eq_true z)] at hf
     simp only [go_sem,reduceIte,reduceEqDiff,reduceAdd,reduceMul,reduceSub,reduceLeDiff,reduceLT,Nat.reduceBEq,reduceCtorEq,g3,g6,g7,g8,intRows_len,hk,hr,hw,z]
     exact hf
   · rw [if_neg (of_eq_false z)] at hf
     simp only [go_sem,reduceIte,reduceEqDiff,reduceAdd,reduceMul,reduceSub,reduceLeDiff,reduceLT,Nat.reduceBEq,reduceCtorEq,g3,g6,g7,g8,intRows_len,hk,hr,hw,z]
     rw [hf]
 · rintro T H M ⟨rfl,g3,g6,g7,g8,hf⟩
   rw [List.drop_length] at hf
   simp only [go_sem,reduceIte,reduceEqDiff,reduceAdd,reduceMul,reduceSub,reduceLeDiff,reduceLT,Nat.reduceBEq,reduceCtorEq,g3,g6,g7,g8,intRows_len,Nat.lt_irrefl]
   rw [hf];rfl
noncomputable def p241L:List AV→Option AV:=primOf (α:=List Int) (fun x=>[.ps .unk (intRows x)]) (fun x=>x.length≤maxRows) (fun x=>i64 (orL x))
theorem pok241L:∀ args v,p241L args=some v → ∀ lo H,CallOk NC lo 241 args H v H:=by
 intro args v h
 obtain ⟨x,rfl,hp,rfl⟩:=primOf_inv h
 exact c241L x hp
theorem e241L3 (a b c:Int):p241L [.ps .unk [[.int .i64 a],[.int .i64 b],[.int .i64 c]]]=some (.int .i64 (orL [a,b,c])):=primOf_enc (α:=List Int) (enc:=fun x=>[.ps .unk (intRows x)]) (pre:=fun x=>x.length≤maxRows) (spec:=fun x=>i64 (orL x)) (by intro x y h;exact intRows_inj x y h) [a,b,c] (by show 3≤1073741824;decide)
/-! ### Where a line stands -/
variable {P:FuncId→Option (List AV→Option AV)}
theorem en273 {P:FuncId→Option (List AV→Option AV)} (hP:P 273=none) {lo:Nat} {args:List AV} {H:Heap} {K:AV→Heap→Prop}:VO (aenter (NC.withPrims P) (R (NC.withPrims P)) lo 273 args H) K=AO (R (NC.withPrims P) (.call H.n 273 args H)) fun o=>o.val.strip.pure=true∧K o.val.strip H:=by
 refine enter_pure rfl ?_ (by kernel_rfl) (by kernel_rfl) (by kernel_rfl)
 show (match NC.prim 273 with | some p=>some p | none=>P 273)=none
 rw [hP];kernel_rfl
theorem en244 {P:FuncId→Option (List AV→Option AV)} (hP:P 244=none) {lo:Nat} {args:List AV} {H:Heap} {K:AV→Heap→Prop}:VO (aenter (NC.withPrims P) (R (NC.withPrims P)) lo 244 args H) K=AO (R (NC.withPrims P) (.call H.n 244 args H)) fun o=>o.val.strip.pure=true∧K o.val.strip H:=by
 refine enter_pure rfl ?_ (by kernel_rfl) (by kernel_rfl) (by kernel_rfl)
 show (match NC.prim 244 with | some p=>some p | none=>P 244)=none
 rw [hP];kernel_rfl
theorem en243 {P:FuncId→Option (List AV→Option AV)} (hP:P 243=none) {lo:Nat} {args:List AV} {H:Heap} {K:AV→Heap→Prop}:VO (aenter (NC.withPrims P) (R (NC.withPrims P)) lo 243 args H) K=AO (R (NC.withPrims P) (.call H.n 243 args H)) fun o=>o.val.strip.pure=true∧K o.val.strip H:=by
 refine enter_pure rfl ?_ (by kernel_rfl) (by kernel_rfl) (by kernel_rfl)
 show (match NC.prim 243 with | some p=>some p | none=>P 243)=none
 rw [hP];kernel_rfl
theorem r273 (lo:Nat) (l:Ln) (s:List Nat) (c:Nat) (H:Heap) (hc:c < H.n) (hs:H.get c=.cells [.str s] 9):R (NC.withPrims P) (.call lo 273 [.agg l.row,.ptr c 0] H)=some (.ofVal (.bool (beqL l.name s)) (H.push (.cells l.row 196))):=by
 have hne:(c=H.n)=False:=by simp;omega
 obtain ⟨v,H',h1,h2,h3⟩:=R_of_body (C:=NC.withPrims P) (f:=273) (lo:=lo) (args:=[.agg l.row,.ptr c 0]) (H:=H) (fn:=Tryz.f273) (Q:=fun v H'=>v=.bool (beqL l.name s)∧H'=H.push (.cells l.row 196)) (by kernel_rfl) Tryz.func273 rfl rfl (by
  obtain ⟨a,b⟩:=l
  simp only [go_sem,reduceIte,reduceEqDiff,reduceAdd,reduceMul,reduceSub,reduceLeDiff,reduceLT,Nat.reduceBEq,reduceCtorEq,Ln.row,hs,hne])
 rw [h1,h2,h3]
theorem r174x (hP:P 273=none) (lo:Nat) (ls:List Ln) (s:List Nat) (c:Nat) (H:Heap) (hl:ls.length≤maxRows) (hc:c < H.n) (hs:H.get c=.cells [.str s] 9) :
 ∃ H',R (NC.withPrims P) (.call lo 174 [.ps .unk (ls.map Ln.row),.fn 273 [] [.ptr c 0]] H)=some (.ofVal (i64 (findI ls s)) H'):=by
 obtain ⟨v,H',h1,h2⟩:=R_of_body (C:=NC.withPrims P) (f:=174) (lo:=lo) (args:=[.ps .unk (ls.map Ln.row),.fn 273 [] [.ptr c 0]]) (H:=H) (fn:=Tryz.f174) (Q:=fun v H'=>v=i64 (findI ls s)) (by kernel_rfl) Tryz.func174 rfl rfl (by
  simp only [go_sem,reduceIte,reduceEqDiff,reduceAdd,reduceMul,reduceSub,reduceLeDiff,reduceLT,Nat.reduceBEq,reduceCtorEq]
  refine W_for (fun k T H' M=>M=[]∧getT T 0=.ps .unk (ls.map Ln.row)∧getT T 1=.fn 273 [] [.ptr c 0]∧getT T 7=i64 (ls.length:Nat)∧getT T 8=i64 k∧c < H'.n∧H'.get c=.cells [.str s] 9 ∧ ∀ (j:Nat) (l:Ln),j < k→ls[j]? = some l→beqL l.name s=false) ls.length ?_ ?_ ?_
  · simp only [go_sem,reduceIte,reduceEqDiff,reduceAdd,reduceMul,reduceSub,reduceLeDiff,reduceLT,Nat.reduceBEq,reduceCtorEq,List.length_map];exact ⟨hc,hs,fun j l hj=>absurd hj (by omega)⟩
  · rintro k T H' M hk ⟨rfl,g0,g1,g7,g8,gc,gs,hf⟩
    obtain ⟨l,hp⟩:∃ p,ls[k]? = some p:=⟨ls[k],by simp⟩
    have hr:=map_at (f:=Ln.row) hp
    have hw:=wrap_succ hk hl
    have hcall:=fun lo=>r273 (P:=P) lo l s c H' gc gs
    simp only [Ln.row] at hr hcall
    cases hb:beqL l.name s with
    | true =>
      simp only [hb] at hcall
      simp only [go_sem,reduceIte,reduceEqDiff,reduceAdd,reduceMul,reduceSub,reduceLeDiff,reduceLT,Nat.reduceBEq,reduceCtorEq,g0,g1,g7,g8,List.length_map,hk,hr,hw,en273 hP,hcall,ofVal_v,ofVal_H]
      simp [findI,findL_drop hf hp hb]
    | false =>
      simp only [hb] at hcall
      simp only [go_sem,reduceIte,reduceEqDiff,reduceAdd,reduceMul,reduceSub,reduceLeDiff,reduceLT,Nat.reduceBEq,reduceCtorEq,g0,g1,g7,g8,List.length_map,hk,hr,hw,en273 hP,hcall,ofVal_v,ofVal_H]
      refine ⟨gc,gs,fun j l' hj hl' => ?_⟩
      by_cases e:j=k
      · subst e;rw [hp] at hl';cases hl';exact hb
      · exact hf j l' (by omega) hl'
  · rintro T H' M ⟨rfl,g0,g1,g7,g8,gc,gs,hf⟩
    simp only [go_sem,reduceIte,reduceEqDiff,reduceAdd,reduceMul,reduceSub,reduceLeDiff,reduceLT,Nat.reduceBEq,reduceCtorEq,g0,g1,g7,g8,List.length_map,Nat.lt_irrefl]
    simp [findI,findL_none hf])
 exact ⟨H',by rw [h1,h2]⟩
noncomputable def PPF245:FuncId→Option (List AV→Option AV):=fun _=>none
theorem primsF245:PrimsOk NC PPF245:=primsOk_none
theorem c245 (n:Net) (s:List Nat) (hp:n.lines.length≤maxRows):∀ lo H,CallOk NC lo 245 [.agg n.cells,.str s] H (i64 (findI n.lines s)) H:=by
 refine contract saneNC primsF245 (fn:=Tryz.f245) (by kernel_rfl) Tryz.func245 rfl rfl (by rfl) (by first | rfl | (split<;>first | rfl | (split<;>rfl))) ?_
 obtain ⟨H',hr⟩:=r174x (P:=PPF245) rfl 2 n.lines s 1 ((Heap.empty.push (.cells n.cells 40)).push (.cells [.str s] 9)) hp (by rw [hn_push,hn_push];exact Nat.lt_succ_self _) (by rfl)
 simp only [Net.cells] at hr
 simp only [go_sem,reduceIte,reduceEqDiff,reduceAdd,reduceMul,reduceSub,reduceLeDiff,reduceLT,Nat.reduceBEq,reduceCtorEq,Net.cells,en174 (show PPF245 174=none from rfl),hr,ofVal_v,ofVal_H]
noncomputable def p245:List AV→Option AV:=primOf (α:=(Net) × (List Nat)) (fun x=>[.agg x.1.cells,.str x.2]) (fun x=>x.1.lines.length≤maxRows) (fun x=>i64 (findI x.1.lines x.2))
theorem pok245:∀ args v,p245 args=some v → ∀ lo H,CallOk NC lo 245 args H v H:=by
 intro args v h
 obtain ⟨x,rfl,hp,rfl⟩:=primOf_inv h
 exact c245 x.1 x.2 hp
theorem pe245 (n:Net) (s:List Nat) (hp:n.lines.length≤maxRows):p245 [.agg n.cells,.str s]=some (.int .i64 (findI n.lines s)):=primOf_enc (α:=(Net) × (List Nat)) (enc:=fun x=>[.agg x.1.cells,.str x.2]) (pre:=fun x=>x.1.lines.length≤maxRows) (spec:=fun x=>i64 (findI x.1.lines x.2)) (by intro x y h;(simp only [List.cons.injEq,AV.agg.injEq,AV.str.injEq,AV.int.injEq,AV.ps.injEq,AV.bool.injEq,Net.cells_iff,Ln.row_iff,Pc.row_iff,Mv.row_iff,lns_iff,pcs_iff,mvs_iff,Leg.row_iff,lgs_iff,true_and,and_true] at h;first | simpa only [Prod.ext_iff] using h | simpa only [Prod.ext_iff,and_assoc] using h)) (n,s) hp
/-! ### Routes -/
def cmpLeg (n:Net) (x y:Leg):Int:=orL [cmpI (findI n.lines x.line) (findI n.lines y.line),cmpI x.fr y.fr,cmpI x.to y.to]
def cmpLegs (n:Net):List Leg→List Leg→Int
 | [],[]=>0
 | [],_::_=>-1
 | _::_,[]=>1
 | x::a,y::b=>if cmpLeg n x y=0 then cmpLegs n a b else cmpLeg n x y
theorem en245 (h:P 245=some p245) {lo:Nat} {rec:Rec} {args:List AV} {H:Heap} {K:AV→Heap→Prop}:VO (aenter (NC.withPrims P) rec lo 245 args H) K=AO (p245 args) fun v=>K v H:=by
 refine enter_prim (by rfl) ?_
 show (match NC.prim 245 with | some p=>some p | none=>P 245)=some p245
 have:NC.prim 245=none:=by kernel_rfl
 rw [this];exact h
theorem en119 (h:P 119=some p119) {lo:Nat} {rec:Rec} {args:List AV} {H:Heap} {K:AV→Heap→Prop}:VO (aenter (NC.withPrims P) rec lo 119 args H) K=AO (p119 args) fun v=>K v H:=by
 refine enter_prim (by rfl) ?_
 show (match NC.prim 119 with | some p=>some p | none=>P 119)=some p119
 have:NC.prim 119=none:=by kernel_rfl
 rw [this];exact h
theorem en241L (h:P 241=some p241L) {lo:Nat} {rec:Rec} {args:List AV} {H:Heap} {K:AV→Heap→Prop}:VO (aenter (NC.withPrims P) rec lo 241 args H) K=AO (p241L args) fun v=>K v H:=by
 refine enter_prim (by rfl) ?_
 show (match NC.prim 241 with | some p=>some p | none=>P 241)=some p241L
 have:NC.prim 241=none:=by kernel_rfl
 rw [this];exact h
theorem r244 (h245:P 245=some p245) (h119:P 119=some p119) (h241:P 241=some p241L) (n:Net) (hn:n.lines.length≤maxRows) (x y:Leg) (lo c:Nat) (H:Heap) (hc:c < H.n) (hs:H.get c=.cells n.cells 40) :
 ∃ H',R (NC.withPrims P) (.call lo 244 [.agg x.row,.agg y.row,.ptr c 0] H)=some (.ofVal (i64 (cmpLeg n x y)) H'):=by
 have hne:(c=H.n)=False:=by simp;omega
 have hne1:(c=H.n+1)=False:=by simp;omega
 have ex:=pe245 n x.line hn
 have ey:=pe245 n y.line hn
 have e119:∀ a b,p119 [.int .i64 a,.int .i64 b]=some (.int .i64 (cmpI a b)):=fun a b=>pe119 a b
 obtain ⟨v,H',h1,h2⟩:=R_of_body (C:=NC.withPrims P) (f:=244) (lo:=lo) (args:=[.agg x.row,.agg y.row,.ptr c 0]) (H:=H) (fn:=Tryz.f244) (Q:=fun v H'=>v=i64 (cmpLeg n x y)) (by kernel_rfl) Tryz.func244 rfl rfl (by
  unfold cmpLeg
  generalize findI n.lines x.line=X at ex ⊢
  generalize findI n.lines y.line=Y at ey ⊢
  obtain ⟨x1,x2,x3⟩:=x
  obtain ⟨y1,y2,y3⟩:=y
  simp only [Net.cells] at ex ey hs
  simp only [go_sem,reduceIte,reduceEqDiff,reduceAdd,reduceMul,reduceSub,reduceLeDiff,reduceLT,Nat.reduceBEq,reduceCtorEq,Leg.row,hs,hne,hne1,Net.cells,en245 h245,ex,ey,en119 h119,e119,en241L h241,e241L3])
 exact ⟨H',by rw [h1,h2]⟩
end Go.Sim

/-
Ways, by the reference: lengths and the order.
-/
-- INJ Leg.row_iff lgs_iff
namespace Go.Sim
open Go Go.Proofs
set_option maxRecDepth 100000
set_option maxHeartbeats 16000000
def absR (x:Int):Int:=maxI x (wrapq .i64 (Int.sub 0 x))
def sumR:List Leg→Int→Int
 | [],s=>s
 | l::r,s=>sumR r (wrapq .i64 (Int.add s (absR (wrapq .i64 (Int.sub l.to l.fr)))))
end Go.Sim

/-
The sorting of branches.
-/
-- INJ Sw.row_iff Br.row_iff
namespace Go.Sim
open Go Go.Proofs
set_option maxRecDepth 100000
set_option maxHeartbeats 16000000
variable {P:FuncId→Option (List AV→Option AV)}
theorem known {f:FuncId} {q:List AV→Option AV} (h:P f=some q) (h0:NC.prim f=none):(NC.withPrims P).prim f=some q:=by
 show (match NC.prim f with | some p=>some p | none=>P f)=_
 rw [h0,h]
theorem take_snoc {α:Type} {l:List α} {i:Nat} {x:α} (h:l[i]? = some x):l.take (i+1)=l.take i++[x]:=by rw [List.take_add_one,h];rfl
theorem drop_cons_at {α:Type} {l:List α} {i:Nat} {x:α} (h:l[i]? = some x):l.drop i=x::l.drop (i+1):=by
 obtain ⟨h1,rfl⟩:=List.getElem?_eq_some_iff.1 h
 exact List.drop_eq_getElem_cons h1
theorem mid_at {α:Type} (p:List α) (y:α) (s:List α):(p++y::s)[p.length]? = some y:=by simp
theorem mid_at1 {α:Type} (p:List α) (y x:α) (s:List α):(p++y::x::s)[p.length+1]? = some x:=by
 rw [List.getElem?_append_right (by omega)];simp
end Go.Sim

/-
The sorting of moves.
-/
namespace Go.Sim
open Go Go.Proofs
set_option maxRecDepth 100000
set_option maxHeartbeats 16000000
variable {P:FuncId→Option (List AV→Option AV)}
theorem bits_run (n:Nat) (v:Int) (h:((run (NC.withMemo (memoOf aw0)) 300 (.call 0 187 [.int .u64 (n:Int)] .empty)).map fun o=>o.val.strip.beq (.int .i64 v))=some true):∀ lo H,CallOk NC lo 187 [.int .u64 (n:Int)] H (.int .i64 v) H :=
 known_ok saneNC awh0 (k:=⟨187,[.int .u64 (n:Int)],.int .i64 v⟩) h (by rfl) (by rfl)
def bitsN:Nat→Int
 | 0=>0 | 1=>1 | 2=>2 | 3=>2 | 4=>3 | 5=>3 | 6=>3 | 7=>3 | _=>4
theorem bits_known:∀ n:Nat,n≤12 → ∀ lo H,CallOk NC lo 187 [.int .u64 (n:Int)] H (.int .i64 (bitsN n)) H
 | 0,_=>bits_run 0 0 (by kernel_rfl) | 1,_=>bits_run 1 1 (by kernel_rfl) | 2,_=>bits_run 2 2 (by kernel_rfl) | 3,_=>bits_run 3 2 (by kernel_rfl)
 | 4,_=>bits_run 4 3 (by kernel_rfl) | 5,_=>bits_run 5 3 (by kernel_rfl) | 6,_=>bits_run 6 3 (by kernel_rfl) | 7,_=>bits_run 7 3 (by kernel_rfl)
 | 8,_=>bits_run 8 4 (by kernel_rfl) | 9,_=>bits_run 9 4 (by kernel_rfl) | 10,_=>bits_run 10 4 (by kernel_rfl) | 11,_=>bits_run 11 4 (by kernel_rfl)
 | 12,_=>bits_run 12 4 (by kernel_rfl) | n+13,h=>absurd h (by omega)
noncomputable def p187:List AV→Option AV:=primOf (α:=Nat) (fun n=>[.int .u64 (n:Int)]) (fun n=>n≤12) (fun n=>.int .i64 (bitsN n))
theorem pok187:∀ args v,p187 args=some v → ∀ lo H,CallOk NC lo 187 args H v H:=by
 intro args v h
 obtain ⟨n,rfl,hp,rfl⟩:=primOf_inv h
 exact bits_known n hp
theorem pe187 (n:Nat) (h:n≤12):p187 [.int .u64 (n:Int)]=some (.int .i64 (bitsN n)):=primOf_enc (α:=Nat) (enc:=fun n=>[.int .u64 (n:Int)]) (pre:=fun n=>n≤12) (spec:=fun n=>.int .i64 (bitsN n)) (by intro x y h;simp only [List.cons.injEq,AV.int.injEq,true_and,and_true] at h;omega) n h
theorem en187 (h:P 187=some p187) {lo:Nat} {rec:Rec} {args:List AV} {H:Heap} {K:AV→Heap→Prop}:VO (aenter (NC.withPrims P) rec lo 187 args H) K=AO (p187 args) fun v=>K v H:=enter_prim (by rfl) (known h (by kernel_rfl))
theorem conv_uint {n:Nat} (h:n≤12):aconv NC.P 3 320 (.int .i64 (n:Int))=some (.int .u64 (n:Int)):=by
 have e:aconv NC.P 3 320 (.int .i64 (n:Int))=some (.int .u64 (IntKind.wrap .u64 (n:Int))):=by kernel_rfl
 rw [e]
 have h64:((2:Int) ^ (IntKind.bits .u64))=18446744073709551616:=by decide
 have hs:IntKind.signed .u64=false:=rfl
 unfold IntKind.wrap
 simp only [h64,hs,Bool.false_and,Bool.false_eq_true,if_false]
 have e2:(n:Int) % 18446744073709551616=(n:Int):=by omega
 rw [e2]
end Go.Sim

/-
The plain law of short forms: the short form of fair pairs is a valid map, and carries just these pairs.
-/
namespace Go.Sim
open Go
/-! ### The short form carries the same pairs -/
theorem firstI_all {l:List Int} (h:∀ x ∈ l,x=0):firstI l=0:=by
 induction l with
 | nil=>rfl
 | cons x r ih=>rw [firstI_cons,h x (by simp),if_pos rfl];exact ih fun y hy=>h y (by simp [hy])
theorem range_in {n a b:Int} (h0:a≤n) (h1:n≤b):rangeI n a b=0:=by
 unfold rangeI whenI
 have a:¬ (n < a):=by omega
 have b:¬ (b < n):=by omega
 simp [a,b]
end Go.Sim

/-
Ways: routes with a further leg; how routes compare, by the program.
-/
-- INJ Leg.row_iff lgs_iff
namespace Go.Sim
open Go Go.Proofs
set_option maxRecDepth 100000
set_option maxHeartbeats 16000000
variable {P:FuncId→Option (List AV→Option AV)}
theorem r243 (h245:P 245=some p245) (h119:P 119=some p119) (h241:P 241=some p241L) (h244:P 244=none) (n:Net) (hn:n.lines.length≤maxRows) (a b:List Leg) (ha:a.length≤maxRows) (hb:b.length≤maxRows) (lo c:Nat) (H:Heap) (hlo:lo≤H.n) (hc:c < H.n) (hs:H.get c=.cells n.cells 40) :
 ∃ H',R (NC.withPrims P) (.call lo 243 [.ps .unk (a.map Leg.row),.ps .unk (b.map Leg.row),.fn 244 [] [.ptr c 0]] H)=some (.ofVal (i64 (cmpLegs n a b)) H'):=by
 obtain ⟨v,H',h1,h2⟩:=R_of_body (C:=NC.withPrims P) (f:=243) (lo:=lo) (args:=[.ps .unk (a.map Leg.row),.ps .unk (b.map Leg.row),.fn 244 [] [.ptr c 0]]) (H:=H) (fn:=Tryz.f243) (Q:=fun v H'=>v=i64 (cmpLegs n a b)) (by kernel_rfl) Tryz.func243 rfl rfl (by
  simp only [go_sem,reduceIte,reduceEqDiff,reduceAdd,reduceMul,reduceSub,reduceLeDiff,reduceLT,Nat.reduceBEq,reduceCtorEq]
  refine W_for (fun k T H' M=>M=[]∧getT T 0=.ps .unk (a.map Leg.row)∧getT T 1=.ps .unk (b.map Leg.row)∧getT T 2=.fn 244 [] [.ptr c 0]∧getT T 11=.ps .unk (a.map Leg.row)∧getT T 12=i64 (a.length:Nat)∧getT T 13=i64 k∧lo≤H'.n∧c < H'.n∧H'.get c=.cells n.cells 40∧cmpLegs n a b=cmpLegs n (a.drop k) (b.drop k)) a.length ?_ ?_ ?_
  · simp only [go_sem,reduceIte,reduceEqDiff,reduceAdd,reduceMul,reduceSub,reduceLeDiff,reduceLT,Nat.reduceBEq,reduceCtorEq,List.length_map];exact ⟨hlo,hc,hs⟩
  · rintro k T H1 M hk ⟨rfl,g0,g1,g2,g11,g12,g13,gl,gc,gs,hf⟩
    have hl1:(lo≤H1.n)=True:=by simp [gl]
    have hl2:(lo≤H1.n+1)=True:=by simp only [eq_iff_iff,iff_true];omega
    obtain ⟨x,hx⟩:∃ p,a[k]? = some p:=⟨a[k],by simp⟩
    have hrx:=map_at (f:=Leg.row) hx
    have hw:=wrap_succ hk ha
    have hcn:(c=H1.n)=False:=by simp;omega
    have hcn1:(c=H1.n+1)=False:=by simp;omega
    rw [drop_at hx] at hf
    rcases Nat.lt_or_ge k b.length with hkb | hkb
    · obtain ⟨y,hy⟩:∃ p,b[k]? = some p:=⟨b[k],by simp⟩
      have hry:=map_at (f:=Leg.row) hy
      rw [drop_at hy] at hf
      obtain ⟨H2,hcall⟩:=r244 h245 h119 h241 n hn x y (((H1.push (.cells [.str [],.int .i64 0,.int .i64 0] 157)).set H1.n (.cells x.row 157)).push (.cells [.str [],.int .i64 0,.int .i64 0] 157) |>.set (H1.n+1) (.cells y.row 157)).n c (((H1.push (.cells [.str [],.int .i64 0,.int .i64 0] 157)).set H1.n (.cells x.row 157)).push (.cells [.str [],.int .i64 0,.int .i64 0] 157) |>.set (H1.n+1) (.cells y.row 157)) (by simp;omega) (by simp only [go_sem,reduceIte,reduceEqDiff,reduceAdd,reduceMul,reduceSub,reduceLeDiff,reduceLT,Nat.reduceBEq,reduceCtorEq,hcn,hcn1];exact gs)
      have hcl:cmpLegs n (x::a.drop (k+1)) (y::b.drop (k+1))=if cmpLeg n x y=0 then cmpLegs n (a.drop (k+1)) (b.drop (k+1)) else cmpLeg n x y:=rfl
      rw [hcl] at hf
      generalize cmpLeg n x y=C at hcall hf
      simp only [hn_set,hn_push] at hcall
      obtain ⟨x1,x2,x3⟩:=x
      obtain ⟨y1,y2,y3⟩:=y
      simp only [Leg.row] at hrx hry hcall
      rcases Classical.propComplete (C=0) with z | z
      · rw [if_pos (of_eq_true z)] at hf
        simp only [go_sem,reduceIte,reduceEqDiff,reduceAdd,reduceMul,reduceSub,reduceLeDiff,reduceLT,Nat.reduceBEq,reduceCtorEq,g0,g1,g2,g11,g12,g13,List.length_map,hk,hkb,hrx,hry,hw,en244 h244,hcall,ofVal_v,ofVal_H,z,hcn,hcn1,hl1,hl2]
        exact ⟨by omega,by omega,gs,hf⟩
      · rw [if_neg (of_eq_false z)] at hf
        simp only [go_sem,reduceIte,reduceEqDiff,reduceAdd,reduceMul,reduceSub,reduceLeDiff,reduceLT,Nat.reduceBEq,reduceCtorEq,g0,g1,g2,g11,g12,g13,List.length_map,hk,hkb,hrx,hry,hw,en244 h244,hcall,ofVal_v,ofVal_H,z,hcn,hcn1,hl1,hl2]
        rw [hf]
    · have hkb':(k < b.length)=False:=by simp only [eq_iff_iff,iff_false];omega
      rw [List.drop_of_length_le hkb] at hf
      have hcl:cmpLegs n (x::a.drop (k+1)) []=1:=rfl
      rw [hcl] at hf
      obtain ⟨x1,x2,x3⟩:=x
      simp only [Leg.row] at hrx
      simp only [go_sem,reduceIte,reduceEqDiff,reduceAdd,reduceMul,reduceSub,reduceLeDiff,reduceLT,Nat.reduceBEq,reduceCtorEq,g0,g1,g2,g11,g12,g13,List.length_map,hk,hkb',hrx,hf,hl1]
  · rintro T H1 M ⟨rfl,g0,g1,g2,g11,g12,g13,gl,gc,gs,hf⟩
    rw [List.drop_length] at hf
    rcases Nat.lt_or_ge a.length b.length with hab | hab
    · have:cmpLegs n [] (b.drop a.length) = -1:=by
       cases hd:b.drop a.length with
       | nil=>have:=congrArg List.length hd;simp at this;omega
       | cons y r=>rfl
      rw [this] at hf
      simp only [go_sem,reduceIte,reduceEqDiff,reduceAdd,reduceMul,reduceSub,reduceLeDiff,reduceLT,Nat.reduceBEq,reduceCtorEq,g0,g1,g2,g11,g12,g13,List.length_map,Nat.lt_irrefl,hab,hf]
    · have hab':(a.length < b.length)=False:=by simp only [eq_iff_iff,iff_false];omega
      rw [List.drop_of_length_le hab] at hf
      have:cmpLegs n [] []=0:=rfl
      rw [this] at hf
      simp only [go_sem,reduceIte,reduceEqDiff,reduceAdd,reduceMul,reduceSub,reduceLeDiff,reduceLT,Nat.reduceBEq,reduceCtorEq,g0,g1,g2,g11,g12,g13,List.length_map,Nat.lt_irrefl,hab',hf])
 exact ⟨H',by rw [h1,h2]⟩
def cmpRt (n:Net) (a:List Leg) (d:Int) (b:List Leg) (e:Int):Int:=orL [cmpI d e,cmpI (a.length:Nat) (b.length:Nat),cmpLegs n a b]
noncomputable def PPF203:FuncId→Option (List AV→Option AV):=addPrim 241 p241L (addPrim 119 p119 (addPrim 245 p245 (fun _=>none)))
theorem primsF203:PrimsOk NC PPF203:=primsOk_add (primsOk_add (primsOk_add (primsOk_none) (by kernel_rfl) (by kernel_rfl) pok245) (by kernel_rfl) (by kernel_rfl) pok119) (by kernel_rfl) (by kernel_rfl) pok241L
theorem enF203_245:En PPF203 245 p245:=enter_prim (by rfl) (by kernel_rfl)
theorem enF203_119:En PPF203 119 p119:=enter_prim (by rfl) (by kernel_rfl)
theorem enF203_241 {rec:Rec} {lo:Nat} {args:List AV} {H:Heap} {K:AV→Heap→Prop}:VO (aenter (NC.withPrims PPF203) rec lo 241 args H) K=AO (p241L args) fun v=>K v H:=enter_prim (by rfl) (by kernel_rfl)
attribute [go_sem ↓] enF203_245 enF203_119 enF203_241
theorem c203 (n:Net) (a:List Leg) (d:Int) (b:List Leg) (e:Int) (hp:n.lines.length≤maxRows∧a.length≤maxRows∧b.length≤maxRows):∀ lo H,CallOk NC lo 203 [.agg n.cells,.agg [.ps .unk (a.map Leg.row),i64 d],.agg [.ps .unk (b.map Leg.row),i64 e]] H (i64 (cmpRt n a d b e)) H:=by
 refine contract saneNC primsF203 (fn:=Tryz.f203) (by kernel_rfl) Tryz.func203 rfl rfl (by rfl) (by first | rfl | (split<;>first | rfl | (split<;>rfl))) ?_
 obtain ⟨hn,ha,hb⟩:=hp
 have e119:∀ a b,p119 [.int .i64 a,.int .i64 b]=some (.int .i64 (cmpI a b)):=fun a b=>pe119 a b
 obtain ⟨H',hr⟩:=r243 (P:=PPF203) rfl rfl rfl rfl n hn a b ha hb 3 0 (((Heap.empty.push (.cells n.cells 40)).push (.cells [.ps .unk (a.map Leg.row),.int .i64 d] 246)).push (.cells [.ps .unk (b.map Leg.row),.int .i64 e] 246)) (by rw [hn_push,hn_push,hn_push];exact Nat.le_refl 3) (by rw [hn_push,hn_push,hn_push];exact Nat.succ_pos _) (by rfl)
 unfold cmpRt
 generalize cmpLegs n a b=C at hr ⊢
 simp only [Net.cells] at hr
 simp only [go_sem,reduceIte,reduceEqDiff,reduceAdd,reduceMul,reduceSub,reduceLeDiff,reduceLT,Nat.reduceBEq,reduceCtorEq,Net.cells,List.length_map,e119,en243 (show PPF203 243=none from rfl),hr,ofVal_v,ofVal_H,e241L3]
noncomputable def p203:List AV→Option AV:=primOf (α:=(Net) × (List Leg) × (Int) × (List Leg) × (Int)) (fun x=>[.agg x.1.cells,.agg [.ps .unk (x.2.1.map Leg.row),i64 x.2.2.1],.agg [.ps .unk (x.2.2.2.1.map Leg.row),i64 x.2.2.2.2]]) (fun x=>x.1.lines.length≤maxRows∧x.2.1.length≤maxRows∧x.2.2.2.1.length≤maxRows) (fun x=>i64 (cmpRt x.1 x.2.1 x.2.2.1 x.2.2.2.1 x.2.2.2.2))
theorem pok203:∀ args v,p203 args=some v → ∀ lo H,CallOk NC lo 203 args H v H:=by
 intro args v h
 obtain ⟨x,rfl,hp,rfl⟩:=primOf_inv h
 exact c203 x.1 x.2.1 x.2.2.1 x.2.2.2.1 x.2.2.2.2 hp
theorem pe203 (n:Net) (a:List Leg) (d:Int) (b:List Leg) (e:Int) (hp:n.lines.length≤maxRows∧a.length≤maxRows∧b.length≤maxRows):p203 [.agg n.cells,.agg [.ps .unk (a.map Leg.row),.int .i64 d],.agg [.ps .unk (b.map Leg.row),.int .i64 e]]=some (.int .i64 (cmpRt n a d b e)):=primOf_enc (α:=(Net) × (List Leg) × (Int) × (List Leg) × (Int)) (enc:=fun x=>[.agg x.1.cells,.agg [.ps .unk (x.2.1.map Leg.row),i64 x.2.2.1],.agg [.ps .unk (x.2.2.2.1.map Leg.row),i64 x.2.2.2.2]]) (pre:=fun x=>x.1.lines.length≤maxRows∧x.2.1.length≤maxRows∧x.2.2.2.1.length≤maxRows) (spec:=fun x=>i64 (cmpRt x.1 x.2.1 x.2.2.1 x.2.2.2.1 x.2.2.2.2)) (by intro x y h;(simp only [List.cons.injEq,AV.agg.injEq,AV.str.injEq,AV.int.injEq,AV.ps.injEq,AV.bool.injEq,Net.cells_iff,Ln.row_iff,Pc.row_iff,Mv.row_iff,lns_iff,pcs_iff,mvs_iff,Leg.row_iff,lgs_iff,true_and,and_true] at h;first | simpa only [Prod.ext_iff] using h | simpa only [Prod.ext_iff,and_assoc] using h)) (n,a,d,b,e) hp
/-! ### A further leg -/
theorem r246 (x:Leg) (r:List Leg) (hl:(x::r).length≤maxRows) (lo:Nat) (H:Heap) :
 ∃ v H',R (NC.withPrims P) (.call lo 246 [.ps .unk ((x::r).map Leg.row)] H)=some (.ofVal v H')∧v=.ps (.tok H.n) ((x::r).map Leg.row)∧H'=H.push (.row [] 3 157):=by
 refine R_of_body (C:=NC.withPrims P) (f:=246) (lo:=lo) (args:=[.ps .unk ((x::r).map Leg.row)]) (H:=H) (fn:=Tryz.f246) (Q:=fun v H'=>v=.ps (.tok H.n) ((x::r).map Leg.row)∧H'=H.push (.row [] 3 157)) (by kernel_rfl) Tryz.func246 rfl rfl ?_
 have hap:∀ lo,appP lo H 3 157 (.ps .exact []) ((x::r).map Leg.row)=some (.ps (.tok H.n) ((x::r).map Leg.row),H.push (.row [] 3 157)):=by
  intro lo
  unfold appP
  have h1:([]:List (List AV)).length+((x::r).map Leg.row).length≤maxRows:=by simpa using hl
  have h2:((x::r).map Leg.row).all pureRow=true:=by
   rw [List.all_eq_true]
   intro w hw
   obtain ⟨q,_,rfl⟩:=List.mem_map.1 hw
   rfl
  have h4:((x::r).map Leg.row).map (List.map AV.strip0)=(x::r).map Leg.row:=by
   rw [List.map_map]
   exact List.map_congr_left fun q _=>rfl
  simp only [List.map_cons] at h1 h2 h4 ⊢
  simp only [h1,h2,h4,decide_true,Bool.and_self,Bool.true_and,if_true,List.all_nil]
  rfl
 have hri:rowsIn H 3 (.ps .unk ((x::r).map Leg.row))=some ((x::r).map Leg.row):=by
  show (if ((x::r).map Leg.row).all (fun r=>decide (r.length=3))=true then some ((x::r).map Leg.row) else none)=_
  rw [if_pos (rows_all Leg.row_len _)]
 simp only [List.map_cons] at hap hri
 have hnb:isNilB .unk (x.row::r.map Leg.row)=some false:=rfl
 have hra:=rows_all Leg.row_len (x::r)
 simp only [List.map_cons,List.all_cons] at hra
 simp only [go_sem,reduceIte,reduceEqDiff,reduceAdd,reduceMul,reduceSub,reduceLeDiff,reduceLT,Nat.reduceBEq,reduceCtorEq,hnb,appO,hra,hap,List.map_cons]
theorem en246 (hP:P 246=none) {lo:Nat} {args:List AV} {H:Heap} {K:AV→Heap→Prop} (hm:mayBeNil args=false) :
 VO (aenter (NC.withPrims P) (R (NC.withPrims P)) lo 246 args H) K=AO (R (NC.withPrims P) (.call H.n 246 args H)) fun o=>K o.val o.s.H:=by
 have h1:(NC.withPrims P).memo 246 args=none:=rfl
 have h2:(NC.withPrims P).prim 246=none:=by
  show (match NC.prim 246 with | some p=>some p | none=>P 246)=none
  rw [hP];kernel_rfl
 have h3:(NC.withPrims P).hprim 246=none:=by kernel_rfl
 have h4:(NC.withPrims P).mode 246=.fresh:=by kernel_rfl
 unfold aenter
 simp only [h1,h2,h3,h4,hm,Bool.and_false,Bool.false_eq_true,if_false]
 cases R (NC.withPrims P) (.call H.n 246 args H)<;>rfl
theorem en246n (hP:P 246=none) {lo:Nat} {H:Heap} {K:AV→Heap→Prop} :
 VO (aenter (NC.withPrims P) (R (NC.withPrims P)) lo 246 [.ps .unk []] H) K=K (.ps .exact []) H:=by
 have h1:(NC.withPrims P).memo 246 [.ps .unk []]=none:=rfl
 have h2:(NC.withPrims P).prim 246=none:=by
  show (match NC.prim 246 with | some p=>some p | none=>P 246)=none
  rw [hP];kernel_rfl
 have h3:(NC.withPrims P).hprim 246=none:=by kernel_rfl
 have h4:(NC.withPrims P).twice 246=true:=by kernel_rfl
 have h5:mayBeNil [.ps .unk []]=true:=rfl
 obtain ⟨v1,H1,r1,rfl⟩:∃ v H',R (NC.withPrims P) (.call H.n 246 [.ps .nil []] H)=some (.ofVal v H')∧v=.ps .nil []:=by
  refine R_of_body (C:=NC.withPrims P) (f:=246) (lo:=H.n) (args:=[.ps .nil []]) (H:=H) (fn:=Tryz.f246) (Q:=fun v H'=>v=.ps .nil []) (by kernel_rfl) Tryz.func246 rfl rfl ?_
  have hnb:isNilB .nil []=some true:=rfl
  simp only [go_sem,reduceIte,reduceEqDiff,reduceAdd,reduceMul,reduceSub,reduceLeDiff,reduceLT,Nat.reduceBEq,reduceCtorEq,hnb]
 obtain ⟨v2,H2,r2,rfl⟩:∃ v H',R (NC.withPrims P) (.call H.n 246 [.ps .nn []] H)=some (.ofVal v H')∧v=.ps .exact []:=by
  refine R_of_body (C:=NC.withPrims P) (f:=246) (lo:=H.n) (args:=[.ps .nn []]) (H:=H) (fn:=Tryz.f246) (Q:=fun v H'=>v=.ps .exact []) (by kernel_rfl) Tryz.func246 rfl rfl ?_
  have hnb:isNilB .nn []=some false:=rfl
  have hap:∀ lo,appP lo H 3 157 (.ps .exact []) []=some (.ps .exact [],H):=fun lo=>rfl
  simp only [go_sem,reduceIte,reduceEqDiff,reduceAdd,reduceMul,reduceSub,reduceLeDiff,reduceLT,Nat.reduceBEq,reduceCtorEq,hnb,appO,hap]
 unfold aenter
 simp only [h1,h2,h3,h4,h5,Bool.and_self,if_true,r1,r2,ofVal_v]
 rfl
noncomputable def PPF204:FuncId→Option (List AV→Option AV):=addPrim 146 p146 (fun _=>none)
theorem primsF204:PrimsOk NC PPF204:=primsOk_add (primsOk_none) (by kernel_rfl) (by kernel_rfl) pok146
theorem enF204_146:En PPF204 146 p146:=enter_prim (by rfl) (by kernel_rfl)
attribute [go_sem ↓] enF204_146
theorem c204 (w:List Leg) (d:Int) (l:Leg) (hp:w.length+1≤maxRows):∀ lo H,CallOk NC lo 204 [.agg [.ps .unk (w.map Leg.row),i64 d],.agg l.row] H (.agg [.ps .unk ((w++[l]).map Leg.row),i64 (wrapq .i64 (Int.add d (legW l)))]) H:=by
 refine contract saneNC primsF204 (fn:=Tryz.f204) (by kernel_rfl) Tryz.func204 rfl rfl (by rfl) rfl ?_
 have e146:=pe146 l
 generalize legW l=D at e146 ⊢
 cases w with
 | nil =>
   have hap:∀ H:Heap,appP 0 H 3 157 (.ps .exact []) [l.row]=some (.ps (.tok H.n) [l.row],H.push (.row [] 3 157)):=fun H=>rfl
   obtain ⟨l1,l2,l3⟩:=l
   simp only [Leg.row] at e146 hap
   simp only [go_sem,reduceIte,reduceEqDiff,reduceAdd,reduceMul,reduceSub,reduceLeDiff,reduceLT,Nat.reduceBEq,reduceCtorEq,Leg.row,en246n (show PPF204 246=none from rfl),e146,appO,hap]
 | cons x r =>
   have hap:∀ (H:Heap) (k:Nat),H.get k=.row [] 3 157→appP 0 H 3 157 (.ps (.tok k) ((x::r).map Leg.row)) [l.row]=some (.ps (.tok H.n) (((x::r)++[l]).map Leg.row),(H.set k .dead).push (.row [] 3 157)):=fun H k hk=>by
    rw [app_next (by simp) (by simpa using hp) (by rfl) (by decide) (rows_all Leg.row_len _) hk (Nat.zero_le _) (by simp)]
    rw [List.map_append];rfl
   have hm:mayBeNil [.ps .unk ((x::r).map Leg.row)]=false:=rfl
   obtain ⟨v1,H1,h1,rfl,rfl⟩:=r246 (P:=PPF204) x r (by simp at hp ⊢;omega) 3 (((Heap.empty.push (.cells [.ps .unk ((x::r).map Leg.row),.int .i64 d] 246)).push (.cells l.row 157)).push (.cells [.ps .nil [],.int .i64 0] 246))
   have hap2:=hap ((((Heap.empty.push (.cells [.ps .unk ((x::r).map Leg.row),.int .i64 d] 246)).push (.cells l.row 157)).push (.cells [.ps .nil [],.int .i64 0] 246)).push (.row [] 3 157)) 3 (by rw [Heap.get_push,if_pos (by simp only [hn_push,empty_n])])
   generalize hL:((x::r)++[l]).map Leg.row=L at hap2
   generalize (x::r).map Leg.row=W at h1 hap2 hm
   obtain ⟨l1,l2,l3⟩:=l
   simp only [Leg.row] at e146 h1 hap2
   simp only [go_sem,reduceIte,reduceEqDiff,reduceAdd,reduceMul,reduceSub,reduceLeDiff,reduceLT,Nat.reduceBEq,reduceCtorEq,Leg.row,en246 (show PPF204 246=none from rfl) hm,h1,ofVal_v,ofVal_H,e146,appO,hap2]
noncomputable def p204:List AV→Option AV:=primOf (α:=(List Leg) × (Int) × (Leg)) (fun x=>[.agg [.ps .unk (x.1.map Leg.row),i64 x.2.1],.agg x.2.2.row]) (fun x=>x.1.length+1≤maxRows) (fun x=>.agg [.ps .unk ((x.1++[x.2.2]).map Leg.row),i64 (wrapq .i64 (Int.add x.2.1 (legW x.2.2)))])
theorem pok204:∀ args v,p204 args=some v → ∀ lo H,CallOk NC lo 204 args H v H:=by
 intro args v h
 obtain ⟨x,rfl,hp,rfl⟩:=primOf_inv h
 exact c204 x.1 x.2.1 x.2.2 hp
theorem pe204 (w:List Leg) (d:Int) (l:Leg) (hp:w.length+1≤maxRows):p204 [.agg [.ps .unk (w.map Leg.row),.int .i64 d],.agg l.row]=some (.agg [.ps .unk ((w++[l]).map Leg.row),.int .i64 (wrapq .i64 (Int.add d (legW l)))]):=primOf_enc (α:=(List Leg) × (Int) × (Leg)) (enc:=fun x=>[.agg [.ps .unk (x.1.map Leg.row),i64 x.2.1],.agg x.2.2.row]) (pre:=fun x=>x.1.length+1≤maxRows) (spec:=fun x=>.agg [.ps .unk ((x.1++[x.2.2]).map Leg.row),i64 (wrapq .i64 (Int.add x.2.1 (legW x.2.2)))]) (by intro x y h;(simp only [List.cons.injEq,AV.agg.injEq,AV.str.injEq,AV.int.injEq,AV.ps.injEq,AV.bool.injEq,Net.cells_iff,Ln.row_iff,Pc.row_iff,Mv.row_iff,lns_iff,pcs_iff,mvs_iff,Leg.row_iff,lgs_iff,true_and,and_true] at h;first | simpa only [Prod.ext_iff] using h | simpa only [Prod.ext_iff,and_assoc] using h)) (w,d,l) hp
end Go.Sim

/-
The plain law of ways: labels as lists; what offering a route changes; labels get better only so often.
-/
namespace Go.Sim
abbrev Labs:Type:=List (Pt × List Leg)
def lk:Labs→Pt→Option (List Leg)
 | [],_=>none
 | x::r,p=>if x.1=p then some x.2 else lk r p
def up:Labs→Pt→List Leg→Labs
 | [],p,w=>[(p,w)]
 | x::r,p,w=>if x.1=p then (p,w)::r else x::up r p w
theorem lk_up (L:Labs) (p q:Pt) (w:List Leg):lk (up L p w) q=if p=q then some w else lk L q:=by
 induction L with
 | nil=>unfold up lk;rfl
 | cons x r ih =>
   unfold up
   by_cases h:x.1=p
   · rw [if_pos h]
     unfold lk
     by_cases h2:p=q
     · rw [if_pos h2,if_pos h2]
     · rw [if_neg h2,if_neg h2,if_neg (by rw [h];exact h2)]
   · rw [if_neg h]
     unfold lk
     rw [ih]
     by_cases h2:x.1=q
     · rw [if_pos h2,if_pos h2,if_neg (by rw [← h2];exact fun e=>h e.symm)]
     · rw [if_neg h2,if_neg h2]
section
variable (E:Nat→Bool→Pt) (N:Nat) (ix:List Nat→Int)
def offer1 (f:Pt) (w:List Leg) (p:Pt) (s:Labs × Bool):Labs × Bool :=
 if p.1=f.1 then
  match lk s.1 p with
  | none=>(up s.1 p (w++[⟨p.1,f.2,p.2⟩]),true)
  | some old=>if wLt ix (w++[⟨p.1,f.2,p.2⟩]) old then (up s.1 p (w++[⟨p.1,f.2,p.2⟩]),true) else s
 else s
def ends:Nat→List Pt
 | 0=>[]
 | n+1=>ends n++[E n false,E n true]
theorem mem_ends {n:Nat} {p:Pt}:p ∈ ends E n ↔ ∃ i k,i < n∧p=E i k:=by
 induction n with
 | zero=>simp [ends]
 | succ n ih =>
   simp only [ends,List.mem_append,ih,List.mem_cons,List.not_mem_nil,or_false]
   constructor
   · rintro (⟨i,k,h,rfl⟩ | h | h)
     · exact ⟨i,k,by omega,rfl⟩
     · exact ⟨n,false,by omega,h⟩
     · exact ⟨n,true,by omega,h⟩
   · rintro ⟨i,k,h,rfl⟩
     by_cases e:i=n
     · subst e
       cases k
       · exact .inr (.inl rfl)
       · exact .inr (.inr rfl)
     · exact .inl ⟨i,k,by omega,rfl⟩
def offers (f:Pt) (w:List Leg) (l:List Pt) (s:Labs × Bool):Labs × Bool:=l.foldl (fun s p=>offer1 ix f w p s) s
def better (L M:Labs):Prop:=∀ p w,lk L p=some w → ∃ v,lk M p=some v∧(v=w∨wLt ix v w=true)
theorem better_refl (L:Labs):better ix L L:=fun p w h=>⟨w,h,.inl rfl⟩
theorem better_trans {L M K:Labs} (h1:better ix L M) (h2:better ix M K):better ix L K:=by
 intro p w h
 obtain ⟨v,a1,a2⟩:=h1 p w h
 obtain ⟨u,b1,b2⟩:=h2 p v a1
 refine ⟨u,b1, ?_⟩
 rcases a2 with rfl | a2
 · exact b2
 · rcases b2 with rfl | b2
   · exact .inr a2
   · exact .inr (wLt_trans ix b2 a2)
theorem offer1_cases (f:Pt) (w:List Leg) (p:Pt) (s:Labs × Bool) :
 (offer1 ix f w p s=s∧(p.1=f.1 → ∃ v,lk s.1 p=some v∧wLt ix (w++[⟨p.1,f.2,p.2⟩]) v=false)) ∨
   (offer1 ix f w p s=(up s.1 p (w++[⟨p.1,f.2,p.2⟩]),true)∧p.1=f.1∧(lk s.1 p=none ∨ ∃ v,lk s.1 p=some v∧wLt ix (w++[⟨p.1,f.2,p.2⟩]) v=true)):=by
 unfold offer1
 by_cases h:p.1=f.1
 · rw [if_pos h]
   cases hl:lk s.1 p with
   | none=>exact .inr ⟨rfl,h,.inl rfl⟩
   | some v =>
     simp only []
     cases hw:wLt ix (w++[⟨p.1,f.2,p.2⟩]) v with
     | true=>exact .inr ⟨by simp,h,.inr ⟨v,rfl,hw⟩⟩
     | false=>exact .inl ⟨by simp,fun _=>⟨v,rfl,hw⟩⟩
 · rw [if_neg h]
   exact .inl ⟨rfl,fun e=>absurd e h⟩
theorem offer1_better (f:Pt) (w:List Leg) (p:Pt) (s:Labs × Bool):better ix s.1 (offer1 ix f w p s).1:=by
 rcases offer1_cases ix f w p s with ⟨h,_⟩ | ⟨h,_,h2⟩
 · rw [h];exact better_refl ix _
 · rw [h]
   intro q u hq
   rw [lk_up]
   by_cases e:p=q
   · subst e
     rw [if_pos rfl]
     refine ⟨_,rfl, ?_⟩
     rcases h2 with h2 | ⟨v,h2,h3⟩
     · rw [h2] at hq;cases hq
     · rw [h2] at hq;cases hq;exact .inr h3
   · rw [if_neg e];exact ⟨u,hq,.inl rfl⟩
theorem offers_better (f:Pt) (w:List Leg):∀ (l:List Pt) (s:Labs × Bool),better ix s.1 (offers ix f w l s).1
 | [],s=>better_refl ix _
 | p::r,s=>better_trans ix (offer1_better ix f w p s) (offers_better f w r (offer1 ix f w p s))
theorem offers_false (f:Pt) (w:List Leg):∀ (l:List Pt) (s:Labs × Bool),(offers ix f w l s).2=false→offers ix f w l s=s∧s.2=false ∧ ∀ p ∈ l,p.1=f.1 → ∃ v,lk s.1 p=some v∧wLt ix (w++[⟨p.1,f.2,p.2⟩]) v=false
 | [],s,h=>⟨rfl,h,fun p hp=>by cases hp⟩
 | p::r,s,h=>by
   obtain ⟨h1,h2,h3⟩:=offers_false f w r (offer1 ix f w p s) h
   rcases offer1_cases ix f w p s with ⟨e,e2⟩ | ⟨e,_⟩
   · rw [e] at h1 h2 h3
     refine ⟨?_,h2, ?_⟩
     · show offers ix f w r (offer1 ix f w p s)=s
       rw [e];exact h1
     · intro q hq hl
       rcases List.mem_cons.1 hq with rfl | hq
       · exact e2 hl
       · exact h3 q hq hl
   · rw [e] at h2;cases h2
theorem offers_least (f:Pt) (w:List Leg):∀ (l:List Pt) (s:Labs × Bool) (p:Pt),p ∈ l→p.1=f.1 → ∃ v,lk (offers ix f w l s).1 p=some v∧(v=w++[⟨p.1,f.2,p.2⟩]∨wLt ix v (w++[⟨p.1,f.2,p.2⟩])=true∨wLt ix (w++[⟨p.1,f.2,p.2⟩]) v=false)
 | [],s,p,hp,_=>by cases hp
 | q::r,s,p,hp,hl=>by
   rcases List.mem_cons.1 hp with rfl | hp
   · have hb:=offers_better ix f w r (offer1 ix f w p s)
     show ∃ v,lk (offers ix f w r (offer1 ix f w p s)).1 p=some v∧_
     rcases offer1_cases ix f w p s with ⟨e,e2⟩ | ⟨e,_,_⟩
     · obtain ⟨v,v1,v2⟩:=e2 hl
       rw [e] at hb ⊢
       obtain ⟨u,u1,u2⟩:=hb p v v1
       refine ⟨u,u1,.inr (.inr ?_)⟩
       rcases u2 with rfl | u2
       · exact v2
       · cases c:wLt ix (w++[⟨p.1,f.2,p.2⟩]) u with
         | false=>rfl
         | true =>
           have:=wLt_trans ix c u2
           rw [this] at v2;cases v2
     · rw [e] at hb ⊢
       obtain ⟨u,u1,u2⟩:=hb p (w++[⟨p.1,f.2,p.2⟩]) (by rw [lk_up,if_pos rfl])
       refine ⟨u,u1, ?_⟩
       rcases u2 with u2 | u2
       · exact .inl u2
       · exact .inr (.inl u2)
   · exact offers_least f w r (offer1 ix f w q s) p hp hl
end
end Go.Sim

/-
The plain law of ways: rounds of offers; they come to an end, and leave the least labels.
-/
namespace Go.Sim
/-! ### How good labels are -/
def allS (N:Nat):Nat→List (List Stp)
 | 0=>[[]]
 | n+1=>[]::(allS N n).flatMap fun σ=>(List.range N).flatMap fun i=>[(i,false)::σ,(i,true)::σ]
theorem mem_allS {N:Nat}:∀ {n:Nat} {σ:List Stp},σ.length≤n→(∀ s ∈ σ,s.1 < N)→σ ∈ allS N n
 | 0,[],_,_=>by simp [allS]
 | 0,_::_,h,_=>by simp at h
 | n+1,[],_,_=>by simp [allS]
 | n+1,(i,k)::σ,h,hs=>by
   have ih:=mem_allS (N:=N) (n:=n) (σ:=σ) (by simpa using h) fun s h=>hs s (by simp [h])
   have hi:=hs (i,k) (by simp)
   unfold allS
   refine List.mem_cons_of_mem _ (List.mem_flatMap.2 ⟨σ,ih,List.mem_flatMap.2 ⟨i,List.mem_range.2 hi, ?_⟩⟩)
   cases k<;>simp
theorem sum_lt {α : Type} {f g : α → Nat} : ∀ {l : List α}, (∀ x ∈ l, f x ≤ g x) → (∃ x ∈ l, f x < g x) → (l.map f).sum < (l.map g).sum
 | [], _, h => by obtain ⟨x, hx, _⟩ := h; cases hx
 | x :: r, h, he => by
   have hx := h x (by simp)
   have hle : (r.map f).sum ≤ (r.map g).sum := by
    have key : ∀ l : List α, (∀ x ∈ l, f x ≤ g x) → (l.map f).sum ≤ (l.map g).sum := by
     intro l
     induction l with
     | nil => intro _; simp
     | cons y s ih =>
       intro hh
       have := ih fun z hz => hh z (by simp [hz])
       have := hh y (by simp)
       simp only [List.map_cons, List.sum_cons]; omega
    exact key r fun y hy => h y (by simp [hy])
   obtain ⟨y, hy, hlt⟩ := he
   simp only [List.map_cons, List.sum_cons]
   rcases List.mem_cons.1 hy with rfl | hy
   · omega
   · have := sum_lt (l := r) (fun z hz => h z (by simp [hz])) ⟨y, hy, hlt⟩
     omega
theorem countP_lt {α:Type} {f g:α→Bool}:∀ {l:List α},(∀ x,f x=true→g x=true)→(∃ x ∈ l,f x=false∧g x=true)→l.countP f < l.countP g
 | [],_,h=>by obtain ⟨x,hx,_⟩:=h;cases hx
 | x::r,h,he=>by
   have hle:r.countP f≤r.countP g:=List.countP_mono_left fun y _=>h y
   obtain ⟨y,hy,h1,h2⟩:=he
   rw [List.countP_cons,List.countP_cons]
   rcases List.mem_cons.1 hy with rfl | hy
   · simp only [h1,h2,Bool.false_eq_true,if_false,if_true];omega
   · have:=countP_lt (l:=r) h ⟨y,hy,h1,h2⟩
     by_cases c:f x=true
     · simp only [c,h x c,if_true];omega
     · simp only [c];simp only [Bool.false_eq_true,if_false];split<;>omega
section
variable (E:Nat→Bool→Pt) (N:Nat) (ix:List Nat→Int) (a:Pt)
def cands (p:Pt):List (List Leg):=(allS N 15).map fun σ=>legsOf E a σ p
def rank (L:Labs) (p:Pt):Nat:=match lk L p with
 | none=>(cands E N a p).length+1
 | some w=>(cands E N a p).countP fun v=>wLt ix v w
def mu (L:Labs):Nat:=((ends E N).map (rank E N ix a L)).sum
def LabV (L:Labs):Prop:=∀ p w,lk L p=some w→(∃ j m,j < N∧p=E j m) ∧ ∃ σ,okS E N a σ p∧w=legsOf E a σ p∧σ.length≤15
def RtV (f:Pt) (w:List Leg):Prop:=∀ p,p.1=f.1 → ∃ σ,okS E N a σ p∧w++[⟨p.1,f.2,p.2⟩]=legsOf E a σ p∧σ.length≤15
variable {E N ix a}
theorem rt_first:RtV E N a a []:=fun p h=>⟨[],h.symm,by show [_]=[_];rw [h],by simp⟩
theorem rt_next {σ:List Stp} {i:Nat} {k:Bool} (hi:i < N) (h:okS E N a σ (E i k)) (hl:(legsOf E a σ (E i k)).length < 16):RtV E N a (E i (!k)) (legsOf E a σ (E i k)):=fun p hp=>by
 rw [legsOf_length] at hl
 refine ⟨σ++[(i,k)],(okS_snoc E N a σ (i,k) p).2 ⟨h,hi,hp.symm⟩, ?_,by rw [List.length_append];simp;omega⟩
 rw [legsOf_snoc]
 simp only [hp]
theorem offer1_valid {f:Pt} {w:List Leg} (hr:RtV E N a f w) {p:Pt} (hp:∃ j m,j < N∧p=E j m) {s:Labs × Bool} (hs:LabV E N a s.1):LabV E N a (offer1 ix f w p s).1:=by
 rcases offer1_cases ix f w p s with ⟨h,_⟩ | ⟨h,h2,_⟩
 · rw [h];exact hs
 · rw [h]
   intro q u hq
   rw [lk_up] at hq
   by_cases e:p=q
   · subst e
     rw [if_pos rfl] at hq
     cases hq
     exact ⟨hp,hr p h2⟩
   · rw [if_neg e] at hq
     exact hs q u hq
theorem offers_valid {f:Pt} {w:List Leg} (hr:RtV E N a f w):∀ (l:List Pt),(∀ p ∈ l,∃ j m,j < N∧p=E j m) → ∀ (s:Labs × Bool),LabV E N a s.1→LabV E N a (offers ix f w l s).1
 | [],_,s,hs=>hs
 | p::r,hl,s,hs=>offers_valid hr r (fun q hq=>hl q (by simp [hq])) _ (offer1_valid hr (hl p (by simp)) hs)
theorem cand_mem {p:Pt} {σ:List Stp} (h:okS E N a σ p) (hl:σ.length≤15):legsOf E a σ p ∈ cands E N a p :=
 List.mem_map.2 ⟨σ,mem_allS hl (okS_lt E N h),rfl⟩
theorem offer1_mu {f : Pt} {w : List Leg} (hr : RtV E N a f w) {p : Pt} (hp : ∃ j m, j < N ∧ p = E j m) (s : Labs × Bool) : offer1 ix f w p s = s ∨ mu E N ix a (offer1 ix f w p s).1 < mu E N ix a s.1 := by
 rcases offer1_cases ix f w p s with ⟨h, _⟩ | ⟨h, h2, h3⟩
 · exact .inl h
 · right
   rw [h]
   obtain ⟨σ, s1, s2, s3⟩ := hr p h2
   have hc := cand_mem s1 s3
   rw [← s2] at hc
   have hlt : rank E N ix a (up s.1 p (w ++ [⟨p.1, f.2, p.2⟩])) p < rank E N ix a s.1 p := by
    unfold rank
    rw [lk_up, if_pos rfl]
    rcases h3 with h3 | ⟨v, h3, h4⟩
    · rw [h3]
      have := List.countP_le_length (p := fun v => wLt ix v (w ++ [⟨p.1, f.2, p.2⟩])) (l := cands E N a p)
      show List.countP (fun v => wLt ix v (w ++ [⟨p.1, f.2, p.2⟩])) (cands E N a p) < (cands E N a p).length + 1
      omega
    · rw [h3]
      exact countP_lt (fun u hu => wLt_trans ix hu h4) ⟨_, hc, wLt_irrefl ix _, h4⟩
   refine sum_lt (fun q _ => ?_) ⟨p, (mem_ends E).2 (by obtain ⟨j, m, h1, h2⟩ := hp; exact ⟨j, m, h1, h2⟩), hlt⟩
   by_cases e : p = q
   · subst e; exact Nat.le_of_lt hlt
   · unfold rank
     rw [lk_up, if_neg e]
     exact Nat.le_refl _
theorem offers_mu {f:Pt} {w:List Leg} (hr:RtV E N a f w):∀ (l:List Pt),(∀ p ∈ l,∃ j m,j < N∧p=E j m) → ∀ (s:Labs × Bool),offers ix f w l s=s∨mu E N ix a (offers ix f w l s).1 < mu E N ix a s.1
 | [],_,s=>.inl rfl
 | p::r,hl,s=>by
   have h1:=offer1_mu (ix:=ix) hr (hl p (by simp)) s
   have h2:=offers_mu hr r (fun q hq=>hl q (by simp [hq])) (offer1 ix f w p s)
   show offers ix f w r (offer1 ix f w p s)=s∨mu E N ix a (offers ix f w r (offer1 ix f w p s)).1 < _
   rcases h1 with h1 | h1
   · rw [h1] at h2 ⊢;exact h2
   · rcases h2 with h2 | h2
     · rw [h2];exact .inr h1
     · exact .inr (by omega)
/-! ### Rounds -/
variable (E N ix)
def rstep (i:Nat) (k:Bool) (s:Labs × Bool):Labs × Bool:=match lk s.1 (E i k) with
 | none=>s
 | some r=>if r.length < 16 then ((offers ix (E i (!k)) r (ends E N) (s.1,false)).1,s.2 || (offers ix (E i (!k)) r (ends E N) (s.1,false)).2) else s
def rounds:Nat→Labs × Bool→Labs × Bool
 | 0,s=>s
 | n+1,s=>rstep E N ix n true (rstep E N ix n false (rounds n s))
variable {E N ix}
theorem ends_all:∀ p ∈ ends E N,∃ j m,j < N∧p=E j m:=fun p hp=>(mem_ends E).1 hp
structure RS (E:Nat→Bool→Pt) (N:Nat) (ix:List Nat→Int) (a:Pt) (s t:Labs × Bool):Prop where
 valid:LabV E N a t.1
 better:better ix s.1 t.1
 mono:s.2=true→t.2=true
 less:t.1=s.1∧t.2=s.2∨t.2=true∧mu E N ix a t.1 < mu E N ix a s.1
theorem RS.refl {s:Labs × Bool} (h:LabV E N a s.1):RS E N ix a s s:=⟨h,better_refl ix _,id,.inl ⟨rfl,rfl⟩⟩
theorem RS.trans {s t u:Labs × Bool} (h1:RS E N ix a s t) (h2:RS E N ix a t u):RS E N ix a s u:=by
 refine ⟨h2.valid,better_trans ix h1.better h2.better,fun h=>h2.mono (h1.mono h), ?_⟩
 rcases h1.less with ⟨a1,a2⟩ | ⟨a1,a2⟩<;>rcases h2.less with ⟨b1,b2⟩ | ⟨b1,b2⟩
 · exact .inl ⟨b1.trans a1,b2.trans a2⟩
 · exact .inr ⟨b1,by rw [← a1];exact b2⟩
 · exact .inr ⟨b2.trans a1,by rw [b1];exact a2⟩
 · exact .inr ⟨b1,by omega⟩
theorem rstep_rs {i:Nat} (hi:i < N) (k:Bool) {s:Labs × Bool} (h:LabV E N a s.1):RS E N ix a s (rstep E N ix i k s):=by
 unfold rstep
 cases hl:lk s.1 (E i k) with
 | none=>exact RS.refl h
 | some r =>
   simp only []
   by_cases hr:r.length < 16
   · rw [if_pos hr]
     obtain ⟨_,σ,s1,rfl,s3⟩:=h _ _ hl
     have hv:=rt_next hi s1 hr
     have hm:=offers_mu (ix:=ix) hv (ends E N) ends_all (s.1,false)
     refine ⟨offers_valid hv _ ends_all _ h,offers_better ix _ _ _ (s.1,false),fun hs=>by simp [hs], ?_⟩
     rcases hm with hm | hm
     · rw [hm];exact .inl ⟨rfl,by simp⟩
     · right
       refine ⟨?_,hm⟩
       cases hb:(offers ix (E i (!k)) (legsOf E a σ (E i k)) (ends E N) (s.1,false)).2 with
       | true=>simp
       | false =>
         have:=(offers_false ix _ _ _ _ hb).1
         rw [this] at hm
         exact absurd hm (Nat.lt_irrefl _)
   · rw [if_neg hr];exact RS.refl h
theorem rounds_rs:∀ {n:Nat} (_:n≤N) {s:Labs × Bool} (_:LabV E N a s.1),RS E N ix a s (rounds E N ix n s)
 | 0,_,s,h=>RS.refl h
 | n+1,hn,s,h=>by
   have h1:=rounds_rs (n:=n) (by omega) h
   have h2:=rstep_rs (ix:=ix) (i:=n) (by omega) false h1.valid
   exact (h1.trans h2).trans (rstep_rs (ix:=ix) (i:=n) (by omega) true h2.valid)
theorem rstep_false {i:Nat} {k:Bool} {s:Labs × Bool} (h:(rstep E N ix i k s).2=false):rstep E N ix i k s=s ∧ ∀ r,lk s.1 (E i k)=some r→r.length < 16 → ∀ p ∈ ends E N,p.1=(E i (!k)).1 → ∃ v,lk s.1 p=some v∧wLt ix (r++[⟨p.1,(E i (!k)).2,p.2⟩]) v=false:=by
 unfold rstep at h ⊢
 cases hl:lk s.1 (E i k) with
 | none=>exact ⟨rfl,fun r hr=>by cases hr⟩
 | some r =>
   rw [hl] at h
   simp only [] at h ⊢
   by_cases hr:r.length < 16
   · rw [if_pos hr] at h ⊢
     simp only [Bool.or_eq_false_iff] at h
     obtain ⟨h1,_,h3⟩:=offers_false ix _ _ _ _ h.2
     rw [h1]
     refine ⟨by simp,fun r' hr' _ => ?_⟩
     cases hr'
     exact h3
   · rw [if_neg hr]
     refine ⟨rfl,fun r' hr' hlt => ?_⟩
     cases hr'
     exact absurd hlt hr
theorem rounds_false:∀ {n:Nat} {s:Labs × Bool},(rounds E N ix n s).2=false→rounds E N ix n s=s ∧ ∀ i k,i < n → ∀ r,lk s.1 (E i k)=some r→r.length < 16 → ∀ p ∈ ends E N,p.1=(E i (!k)).1 → ∃ v,lk s.1 p=some v∧wLt ix (r++[⟨p.1,(E i (!k)).2,p.2⟩]) v=false
 | 0,s,_=>⟨rfl,fun i k h=>by omega⟩
 | n+1,s,h=>by
   obtain ⟨h1,h2⟩:=rstep_false (i:=n) (k:=true) (s:=rstep E N ix n false (rounds E N ix n s)) h
   have e0:rounds E N ix (n+1) s=rstep E N ix n true (rstep E N ix n false (rounds E N ix n s)):=rfl
   rw [e0] at h ⊢
   rw [h1] at h ⊢
   obtain ⟨h3,h4⟩:=rstep_false (i:=n) (k:=false) (s:=rounds E N ix n s) h
   rw [h3] at h h2 ⊢
   obtain ⟨h5,h6⟩:=rounds_false (n:=n) (s:=s) h
   rw [h5] at h2 h4 ⊢
   refine ⟨rfl,fun i k hi => ?_⟩
   by_cases e:i=n
   · subst e
     cases k
     · exact h4
     · exact h2
   · exact h6 i k (by omega)
theorem lab_of {L:Labs} (hv:LabV E N a L) (hf:∀ p ∈ ends E N,p.1=a.1 → ∃ w,lk L p=some w∧(w=legsOf E a [] p∨wLt ix w (legsOf E a [] p)=true∨wLt ix (legsOf E a [] p) w=false)) (hr:(rounds E N ix N (L,false)).2=false):Lab E N ix a (lk L) where
 valid:=fun p w h=>by
  obtain ⟨_,σ,s1,s2,_⟩:=hv p w h
  exact ⟨σ,s1,s2⟩
 first:=fun j m hj h=>by
  obtain ⟨w,w1,w2⟩:=hf _ ((mem_ends E).2 ⟨j,m,hj,rfl⟩) h
  refine ⟨w,w1, ?_⟩
  rcases w2 with rfl | w2 | w2
  · exact wLe_refl ix _
  · exact wLt_le ix w2
  · exact w2
 next:=fun i k w hi h hl j m hj hjm=>by
  obtain ⟨v,v1,v2⟩:=(rounds_false hr).2 i k hi w h hl _ ((mem_ends E).2 ⟨j,m,hj,rfl⟩) hjm
  refine ⟨v,v1, ?_⟩
  rw [hjm] at v2
  exact v2
end
end Go.Sim

/-
Ways: labels in a map; a route offered to all ends, by the program.
-/
-- INJ Leg.row_iff lgs_iff
namespace Go.Sim
open Go Go.Proofs
set_option maxRecDepth 100000
set_option maxHeartbeats 32000000
variable {P:FuncId→Option (List AV→Option AV)}
/-! ### Labels in a map -/
def ptC (p:Pt):AV:=.agg [.str p.1,.int .i64 p.2]
def rtC (w:List Leg):AV:=.agg [.ps .unk (w.map Leg.row),.int .i64 (wSum w)]
def lmap (L:Labs):List (AV × AV):=L.map fun x=>(ptC x.1,rtC x.2)
theorem aeq45p (p q:Pt):aeqT NC.P 100 45 (ptC p) (ptC q)=some (decide (p=q)):=by
 obtain ⟨a,i⟩:=p
 obtain ⟨b,j⟩:=q
 have h:aeqT NC.P 100 45 (.agg [.str a,.int .i64 i]) (.agg [.str b,.int .i64 j]) =
  (match some (beqL a b) with
  | some true=>(match some (eqI i j) with
    | some true=>some true
    | some false=>some false
    | none=>none)
  | some false=>some false
  | none=>none):=by kernel_rfl
 unfold ptC
 rw [h,eqI_iff]
 have hd:decide ((a,i)=(b,j))=(beqL a b && decide (i=j)):=by
  rw [Bool.eq_iff_iff]
  simp only [decide_eq_true_eq,Bool.and_eq_true,beqL_iff,Prod.mk.injEq]
 rw [hd]
 cases beqL a b<;>cases decide (i=j)<;>rfl
theorem ety45p:eqType NC.P 100 45=true:=by kernel_rfl
theorem keyOk45 (p:Pt):keyOk NC.P 45 (ptC p)=true:=by
 unfold keyOk
 rw [aeq45p,ety45p];simp
theorem afind45 (p:Pt):∀ (L:Labs) (i:Nat),(lk L p=none→afind NC.P 45 (ptC p) (lmap L) i=some none ∧ ∀ w,lmap L++[(ptC p,rtC w)]=lmap (up L p w)) ∧
 ∀ w,lk L p=some w → ∃ j,afind NC.P 45 (ptC p) (lmap L) i=some (some (i+j,ptC p,rtC w)) ∧ ∀ w',(lmap L).set j (ptC p,rtC w')=lmap (up L p w')
 | [],i=>⟨fun _=>⟨rfl,fun w=>rfl⟩,fun w h=>by cases h⟩
 | x::r,i=>by
   have ih:=afind45 p r (i+1)
   have hu:afind NC.P 45 (ptC p) (lmap (x::r)) i=match aeqT NC.P 100 45 (ptC p) (ptC x.1) with
    | some true=>some (some (i,ptC x.1,rtC x.2))
    | some false=>afind NC.P 45 (ptC p) (lmap r) (i+1)
    | none=>none:=rfl
   rw [hu,aeq45p]
   unfold lk up
   by_cases h:x.1=p
   · rw [if_pos h]
     have hd:decide (p=x.1)=true:=by simp [h]
     rw [hd]
     refine ⟨fun c=>(by cases c),fun w c => ?_⟩
     cases c
     refine ⟨0,by rw [h];rfl,fun w' => ?_⟩
     rw [if_pos h];rfl
   · rw [if_neg h]
     have hd:decide (p=x.1)=false:=by simp;exact fun e=>h e.symm
     rw [hd]
     refine ⟨fun c=>⟨(ih.1 c).1,fun w => ?_⟩,fun w c => ?_⟩
     · rw [if_neg h]
       show (ptC x.1,rtC x.2)::(lmap r++[(ptC p,rtC w)])=_
       rw [(ih.1 c).2 w];rfl
     · obtain ⟨j,h1,h2⟩:=ih.2 w c
       refine ⟨j+1,by rw [h1,show i+1+j=i+(j+1) from by omega],fun w' => ?_⟩
       rw [if_neg h]
       show (ptC x.1,rtC x.2)::(lmap r).set j (ptC p,rtC w')=_
       rw [h2 w'];rfl
theorem lookL {H:Heap} {id:Nat} {L:Labs} (h:H.get id=.map (lmap L)) (p:Pt):alookup NC.P H 316 (.map id) (.agg [.str p.1,.int .i64 p.2]) true=some (match lk L p with
 | some w=>.tup [rtC w,.bool true]
 | none=>.tup [.agg [.ps .nil [],.int .i64 0],.bool false]):=by
 show alookup NC.P H 316 (.map id) (ptC p) true=_
 unfold alookup
 have hu:NC.P.underlying 316=some (.map 45 246):=by kernel_rfl
 have hz:zeroOf NC.P 246=some (.agg [.ps .nil [],.int .i64 0]):=by kernel_rfl
 simp only [hu,keyOk45,if_true,hz,mapEntries,h]
 obtain ⟨h1,h2⟩:=afind45 p L 0
 cases hb:lk L p with
 | none=>rw [(h1 hb).1]
 | some w =>
   obtain ⟨j,h3,_⟩:=h2 w hb
   rw [h3]
theorem flat_pt (p:Pt):flatEq (ptC p) (ptC p)=true:=by
 show (flatEq1 (.str p.1) (.str p.1) && (flatEq1 (.int .i64 p.2) (.int .i64 p.2) && true))=true
 simp only [flatEq1,beqL_self,eqI_self,Bool.and_true,Bool.true_and]
 rfl
theorem updL {lo:Nat} {H:Heap} {id:Nat} {L:Labs} (h:H.get id=.map (lmap L)) (hlo:lo≤id) (p:Pt) (w:List Leg) {v:AV} (hv:v.strip=rtC w):amapUpdate NC.P lo H 316 (.map id) (.agg [.str p.1,.int .i64 p.2]) v=some (H.set id (.map (lmap (up L p w)))):=by
 show amapUpdate NC.P lo H 316 (.map id) (ptC p) v=_
 unfold amapUpdate
 have hu:NC.P.underlying 316=some (.map 45 246):=by kernel_rfl
 simp only [hu,keyOk45,hlo,decide_true,Bool.and_self,if_true,h]
 obtain ⟨h1,h2⟩:=afind45 p L 0
 cases hb:lk L p with
 | none =>
   obtain ⟨h3,h4⟩:=h1 hb
   rw [h3,hv]
   simp only []
   rw [h4]
 | some u =>
   obtain ⟨j,h3,h4⟩:=h2 u hb
   rw [h3,hv]
   simp only [flat_pt,if_true,Nat.zero_add]
   rw [h4]
/-! ### Which route is less -/
theorem cmpI_lt (a b:Int):(cmpI a b < 0) ↔ a < b:=by unfold cmpI;split<;>(try split)<;>omega
theorem cmpI_zero (a b:Int):(cmpI a b=0) ↔ a=b:=by unfold cmpI;split<;>(try split)<;>omega
theorem orL_lt3 (a b c:Int):orL [a,b,c] < 0 ↔ a < 0∨(a=0∧(b < 0∨(b=0∧c < 0))):=by
 unfold orL
 by_cases h1:a=0
 · rw [if_pos h1]
   unfold orL
   by_cases h2:b=0
   · rw [if_pos h2]
     unfold orL
     by_cases h3:c=0
     · rw [if_pos h3];unfold orL;omega
     · rw [if_neg h3];omega
   · rw [if_neg h2];omega
 · rw [if_neg h1];omega
theorem orL_zero3 (a b c:Int):orL [a,b,c]=0 ↔ a=0∧b=0∧c=0:=by
 unfold orL
 by_cases h1:a=0
 · rw [if_pos h1]
   unfold orL
   by_cases h2:b=0
   · rw [if_pos h2]
     unfold orL
     by_cases h3:c=0
     · rw [if_pos h3];unfold orL;omega
     · rw [if_neg h3];omega
   · rw [if_neg h2];omega
 · rw [if_neg h1];omega
theorem cmpLeg_lt (n:Net) (x y:Leg):cmpLeg n x y < 0 ↔ legLt (findI n.lines) x y=true:=by
 unfold cmpLeg
 rw [orL_lt3,legLt_iff,cmpI_lt,cmpI_zero,cmpI_lt,cmpI_zero,cmpI_lt]
theorem cmpLeg_zero (n:Net) (x y:Leg):cmpLeg n x y=0 ↔ legSame (findI n.lines) x y=true:=by
 unfold cmpLeg
 rw [orL_zero3,legSame_iff,cmpI_zero,cmpI_zero,cmpI_zero]
theorem cmpLegs_lt (n:Net):∀ {a b:List Leg},a.length=b.length→(cmpLegs n a b < 0 ↔ lexLt (findI n.lines) a b=true)
 | [],[],_=>by simp [cmpLegs,lexLt]
 | [],_::_,h=>by cases h
 | _::_,[],h=>by cases h
 | x::a,y::b,h=>by
   have ih:=cmpLegs_lt n (a:=a) (b:=b) (by simpa using h)
   rw [lexLt_cons,← cmpLeg_lt,← cmpLeg_zero,← ih]
   show (if cmpLeg n x y=0 then cmpLegs n a b else cmpLeg n x y) < 0 ↔ _
   split<;>omega
theorem cmpRt_lt (n:Net) (a b:List Leg):decide (cmpRt n a (wSum a) b (wSum b) < 0)=wLt (findI n.lines) a b:=by
 rw [Bool.eq_iff_iff,decide_eq_true_eq,wLt_iff]
 unfold cmpRt
 rw [orL_lt3,cmpI_lt,cmpI_zero,cmpI_lt,cmpI_zero]
 by_cases h:a.length=b.length
 · rw [cmpLegs_lt n h]
   constructor
   · rintro (c | ⟨c1,c2 | ⟨c2,c3⟩⟩)
     · exact .inl c
     · exact .inr ⟨c1,.inl (by omega)⟩
     · exact .inr ⟨c1,.inr ⟨h,c3⟩⟩
   · rintro (c | ⟨c1,c2 | ⟨c2,c3⟩⟩)
     · exact .inl c
     · exact .inr ⟨c1,.inl (by omega)⟩
     · exact .inr ⟨c1,.inr ⟨by omega,c3⟩⟩
 · constructor
   · rintro (c | ⟨c1,c2 | ⟨c2,c3⟩⟩)
     · exact .inl c
     · exact .inr ⟨c1,.inl (by omega)⟩
     · exact absurd (by omega) h
   · rintro (c | ⟨c1,c2 | ⟨c2,c3⟩⟩)
     · exact .inl c
     · exact .inr ⟨c1,.inl (by omega)⟩
     · exact absurd c2 h
/-! ### The ends of the switches -/
def endE (n:Net) (i:Nat) (k:Bool):Pt:=match n.sws[i]? with
 | none=>([],0)
 | some s=>if k then (s.other,endM n s) else (s.line,s.metre)
theorem en151 (h:P 151=some p151) {lo:Nat} {rec:Rec} {args:List AV} {H:Heap} {K:AV→Heap→Prop}:VO (aenter (NC.withPrims P) rec lo 151 args H) K=AO (p151 args) fun v=>K v H:=enter_prim (by rfl) (known h (by kernel_rfl))
theorem en203 (h:P 203=some p203) {lo:Nat} {rec:Rec} {args:List AV} {H:Heap} {K:AV→Heap→Prop}:VO (aenter (NC.withPrims P) rec lo 203 args H) K=AO (p203 args) fun v=>K v H:=enter_prim (by rfl) (known h (by kernel_rfl))
theorem en204 (h:P 204=some p204) {lo:Nat} {rec:Rec} {args:List AV} {H:Heap} {K:AV→Heap→Prop}:VO (aenter (NC.withPrims P) rec lo 204 args H) K=AO (p204 args) fun v=>K v H:=enter_prim (by rfl) (known h (by kernel_rfl))
theorem en229 {P:FuncId→Option (List AV→Option AV)} (hP:P 229=none) {lo:Nat} {args:List AV} {H:Heap} {K:AV→Heap→Prop}:VO (aenter (NC.withPrims P) (R (NC.withPrims P)) lo 229 args H) K=AO (R (NC.withPrims P) (.call lo 229 args H)) fun o=>K o.val o.s.H:=by
 refine enter_free rfl ?_ (by kernel_rfl) (by kernel_rfl) (by kernel_rfl)
 show (match NC.prim 229 with | some p=>some p | none=>P 229)=none
 rw [hP];kernel_rfl
end Go.Sim
