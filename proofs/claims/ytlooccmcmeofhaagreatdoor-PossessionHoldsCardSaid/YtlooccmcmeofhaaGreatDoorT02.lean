/-
Lemmas of one proof, the texts SimRun to SimRun joined.
-/
import Derived.Test.YtlooccmcmeofhaaGreatDoorT01
import Derived.Still
set_option linter.unusedSimpArgs false
set_option linter.unusedVariables false
set_option maxRecDepth 100000
set_option maxHeartbeats 32000000
noncomputable section
open Go

namespace Go.Sim
inductive Mode where
 | pure | fresh | free
 deriving DecidableEq
inductive Cls where
 | data | load | read | fresh | writeAt | write
 deriving DecidableEq
def Cls.chain:Cls->Bool
 | .fresh | .writeAt | .write=>true
 | _=>false
structure OpI where
 c:Cls
 k:Nat
 m:Nat
 conf:List Nat
abbrev PF:Type:=FuncId->Option (List AV->Option AV)
structure Cfg where
 P:Program
 good:FuncId->Bool
 mode:FuncId->Mode
 refApp:FuncId->TypeId->Bool
 frz:FuncId->TypeId->Bool
 glob:Nat->Option (List AV)
 memo:FuncId->List AV->Option AV
 prim:PF
 hprim:FuncId->Option (Nat->List AV->Heap->Option (AV × Heap))
 twice:FuncId->Bool
 plans:FuncId->Nat->List OpI
 lit:FuncId->TypeId->Bool:=fun _ _=>false
 at1:FuncId->Bool:=fun _=>false
 nilArg:FuncId->Bool:=fun _=>false
 view:FuncId->Bool:=fun _=>false
 born:FuncId->Option (List AV->Heap->Option (AV × Heap)):=fun _=>none
structure St where
 T:TT AV
 H:Heap
 M:List Nat
inductive Task where
 | call (lo:Nat) (f:FuncId) (args:List AV) (H:Heap)
 | code (lo:Nat) (fid:FuncId) (rnd:Bool) (c:Code) (s:St)
 | yield (lo:Nat) (l:Nat) (args:List AV) (H:Heap)
structure Out where
 e:AExit
 s:St
def Out.ofVal (v:AV) (H:Heap):Out:=⟨.nrm,⟨.node v .leaf .leaf,H,[]⟩⟩
def Out.val (o:Out):AV:=Z1 o.s.T 0
abbrev Rec:=Task->Option Out
def Z4 (C:Cfg) (T:TT AV):Operand->Option AV
 | .tmp t=>some (Z1 T t)
 | .const v=>ofValue v
 | .global g=>match C.glob g with
   | some cs=>some (.pptr cs)
   | none=>none
 | .func f=>some (.fn f [] [])
def Y4 (C:Cfg) (T:TT AV):List Operand->Option (List AV)
 | []=>some []
 | o::r=>match Z4 C T o with
   | some v=>match Y4 C T r with
     | some l=>some (v::l)
     | none=>none
   | none=>none
def XI (C:Cfg) (T:TT AV):Option Operand->Option (Option AV)
 | none=>some none
 | some o=>match Z4 C T o with
   | some v=>some (some v)
   | none=>none
def XP (C:Cfg) (T:TT AV):List (Nat × Operand)->Option (List (Nat × AV))
 | []=>some []
 | (i,o)::r=>match Z4 C T o with
   | some v=>match XP C T r with
     | some l=>some ((i,v)::l)
     | none=>none
   | none=>none
def same (H:Heap):Option AV->Option (AV × Heap)
 | some v=>some (v,H)
 | none=>none
def JO:Option Heap->Option (AV × Heap)
 | some H=>some (Y9,H)
 | none=>none
def GO:List AV->Bool
 | [.ps .unk []] | [.ps .exact []] | [.ps (.tok _) []]=>true
 | _=>false
def YL (d:AV->Option AV):List AV->Option (List AV)
 | []=>some []
 | v::r=>match d v with
   | some x=>match YL d r with
     | some l=>some (x::l)
     | none=>none
   | none=>none
def Ye:Nat->Heap->AV->Option AV
 | 0,_,_=>none
 | k+1,H,v=>match v with
   | .rs id off n sz _=>match YB H (.ptr id off) (n * sz) with
     | some cs=>match YL (Ye k H) cs with
       | some cs'=>match XY sz n cs' with
         | some rows=>some (.ps .unk rows)
         | none=>none
       | none=>none
     | none=>none
   | .ps _ rows=>some (.ps .unk rows)
   | .agg cs=>match YL (Ye k H) cs with
     | some l=>some (.agg l)
     | none=>none
   | .tup cs=>match YL (Ye k H) cs with
     | some l=>some (.tup l)
     | none=>none
   | .bool b=>some (.bool b)
   | .int k i=>some (.int k i)
   | .str s=>some (.str s)
   | _=>none
def AV.scal:AV->Bool
 | .bool _ | .int _ _ | .str _=>true
 | _=>false
def Qt (H:Heap) (p:List AV->Option AV) (args:List AV):Option AV:=match YL (Ye 4 H) args with
 | some a=>match p a with
   | some v=>if v.scal then some v else none
   | none=>none
 | none=>none
def Z9 (C:Cfg) (rec:Rec) (lo:Nat) (f:FuncId) (args:List AV) (H:Heap):Option (AV × Heap) :=
 match C.memo f args with
 | some v=>some (v,H)
 | none=>match C.prim f with
 | some p=>same H (if C.view f then Qt H p args else p args)
 | none=>match C.hprim f with
   | some p=>p lo args H
   | none =>
     if C.twice f && GO args then
      match rec (.call H.n f [.ps .nil []] H),rec (.call H.n f [.ps .nn []] H) with
      | some a,some b=>match a.val,b.val with
        | .ps .nil [],.ps .exact []=>some (.ps .exact [],H)
        | _,_=>none
      | _,_=>none
     else match C.mode f with
      | .pure=>match rec (.call H.n f args H) with
        | some o=>if o.val.strip.pure then some (o.val.strip,H) else none
        | none=>none
      | .fresh=>match C.born f with
        | some b=>b args H
        | none=>match rec (.call H.n f args H) with
          | some o=>some (o.val,o.s.H)
          | none=>none
      | .free=>match rec (.call lo f args H) with
        | some o=>some (o.val,o.s.H)
        | none=>none
def UD:TypeDesc->Bool
 | .int _=>true
 | _=>false
def AV.fullN:AV->AV
 | .ps t rows=>.ps (if t.full then t else .unk) rows
 | v=>v
def AV.stripN:AV->AV
 | .ps t rows=>(AV.ps t rows).fullN
 | .agg cs=>.agg (cs.map AV.fullN)
 | v=>v.strip
def stripO (C:Cfg) (o:Operand):AV->AV:=match o with
 | .func g=>if C.nilArg g then AV.stripN else AV.strip
 | _=>AV.strip
theorem Ll {C:Cfg} {g:FuncId} (h:C.nilArg g=false):stripO C (.func g)=AV.strip:=by
 unfold stripO;simp only [h];rfl
def YV (C:Cfg) (rec:Rec) (fid:FuncId) (lo:Nat) (c:Call) (T:TT AV) (H:Heap):Option (AV × Heap) :=
 match Y4 C T c.args.toList with
 | none=>none
 | some args =>
   match c.callee with
   | .value o=>match Z4 C T o with
     | some (.fn f first caps)=>Z9 C rec lo f ((first++args++caps).map (stripO C o)) H
     | some (.yld l)=>match rec (.yield lo l (args.map AV.strip) H) with
       | some o=>some (o.val,o.s.H)
       | none=>none
     | _=>none
   | .invoke _ _=>none
   | .builtin b=>match b,c.argTypes.toList,args with
     | .len,[t],[x]=>same H (YJ C.P H t x)
     | .max,_,x::r=>same H (JF (fun x y=>if y > x then y else x) x r)
     | .min,_,x::r=>same H (JF (fun x y=>if y < x then y else x) x r)
     | .append,[ts,tx],[s,x]=>match Yk C.P ts,C.P.underlying tx with
       | some e,some dx=>if UD dx then none else
         match Zf C.P e,YR C.P e,ZF C.P e with
         | some sz,some bytes,some z=>if z.cells.length=sz && decide (bytes<=4096) then
          match XZ H sz x with
          | some rx=>if C.refApp fid ts then Yv lo H sz e s rx else Xx lo H sz e s rx
          | none=>none
           else none
         | _,_,_=>none
       | _,_=>none
     | .copy,t::_,[d,s]=>Je C.P lo H t d s
     | .clear,[t],[x]=>GN C.P lo H t x
     | _,_,_=>none
def aop (C:Cfg) (rec:Rec) (fid:FuncId) (lo:Nat) (o:Oper) (T:TT AV) (H:Heap):Option (AV × Heap) :=
 match o.op with
 | .move x | .assign x=>match Z4 C T x with
   | some v=>if C.frz fid o.type then QI lo H v else some (v,H)
   | none=>none
 | .pick c a b=>match Z4 C T c with
   | some (.bool true)=>same H (Z4 C T a)
   | some (.bool false)=>same H (Z4 C T b)
   | _=>none
 | .alloc t=>match ZF C.P t with
   | some z=>some (.ptr H.n 0,H.push (.cells z.cells t))
   | none=>none
 | .box t x=>match Z4 C T x with
   | some v=>if v.cells.all AV.one then some (.ptr H.n 0,H.push (.cells v.cells t)) else none
   | none=>none
 | .build t ps=>match XP C T ps.toList with
   | some l=>same H (YC C.P t l)
   | none=>none
 | .buildSlice t len ps=>match XP C T ps.toList with
   | some l=>if C.lit fid t then GK C.P H t len l else same H (Ko C.P t len l)
   | none=>none
 | .load t a=>match Z4 C T a with
   | some v=>same H (Yl C.P H t v)
   | none=>none
 | .store t a x=>match Z4 C T a,Z4 C T x with
   | some a,some x=>JO (Q9 C.P lo H t a x)
   | _,_=>none
 | .nilCheck x=>match Z4 C T x with
   | some (.ptr id off)=>some (.ptr id off,H)
   | some (.pptr cs)=>some (.pptr cs,H)
   | some (.fn f a b)=>some (.fn f a b,H)
   | some (.yld l)=>some (.yld l,H)
   | _=>none
 | .binOp op t x y _=>match Z4 C T x,Z4 C T y with
   | some x,some y=>same H (Kl C.P op t x y)
   | _,_=>none
 | .unOp op _ x=>match Z4 C T x with
   | some x=>same H (aun op x)
   | none=>none
 | .convert s d x=>match Z4 C T x with
   | some x=>same H (UB C.P H s d x)
   | none=>none
 | .makeFunc (.func f) first caps=>match Y4 C T first.toList,Y4 C T caps.toList with
   | some a,some b=>some (.fn f a b,H)
   | _,_=>none
 | .makeMap _ none=>some (.map H.n,H.push (.map []))
 | .makeSlice t l c=>match Z4 C T l,Z4 C T c with
   | some l,some c=>Jd C.P H t l c
   | _,_=>none
 | .slice t x lo' hi mx=>match Z4 C T x,XI C T lo',XI C T hi,XI C T mx with
   | some x,some a,some b,some c=>same H (XH C.P t x a b c)
   | _,_,_,_=>none
 | .fieldAddr t x f=>match Z4 C T x with
   | some x=>same H (Jc C.P t x f)
   | none=>none
 | .field t x f=>match Z4 C T x with
   | some x=>same H (JE C.P t x f)
   | none=>none
 | .indexAddr t x i=>match Z4 C T x,Z4 C T i with
   | some x,some i=>same H (Qb C.P t x i)
   | _,_=>none
 | .index t x i=>match Z4 C T x,Z4 C T i with
   | some x,some i=>same H (Km C.P t x i)
   | _,_=>none
 | .lookup t m k ok=>match Z4 C T m,Z4 C T k with
   | some m,some k=>same H (JG C.P H t m k ok)
   | _,_=>none
 | .mapUpdate t m k x | .insert t m k x=>match Z4 C T m,Z4 C T k,Z4 C T x with
   | some m,some k,some x=>JO (Q1 C.P lo H t m k x)
   | _,_,_=>none
 | .range t x=>match Z4 C T x with
   | some x=>VE C.P H t x
   | none=>none
 | .next it isString=>match Z4 C T it with
   | some it=>VF lo H it isString
   | none=>none
 | .extract t i=>match Z4 C T t with
   | some (.tup vs)=>match vs[i]? with
     | some v=>some (v,H)
     | none=>none
   | _=>none
 | .call c=>YV C rec fid lo c T H
 | _=>none
def putT (T:TT AV) (dst:Option Tmp) (v:AV):TT AV:=match dst with
 | some d=>JD T d v
 | none=>T
def Qc:List Oper->Nat->Option Tmp
 | [],_=>none
 | o::_,0=>o.dst
 | _::r,n+1=>Qc r n
def Ya (all:List Oper) (T:TT AV) (o:Oper):Bool:=match o.guard with
 | none=>true
 | some (j,want)=>match Qc all j with
   | some d=>match Z1 T d with
     | .bool b=>b == want
     | _=>false
   | none=>false
def Ym (C:Cfg) (rec:Rec) (fid:FuncId) (lo:Nat) (all:List Oper):List Oper->TT AV->Heap->Option (TT AV × Heap)
 | [],T,H=>some (T,H)
 | o::r,T,H =>
   match Ya all T o with
   | true=>match aop C rec fid lo o T H with
     | some (v,H)=>Ym C rec fid lo all r (putT T o.dst v) H
     | none=>none
   | false=>Ym C rec fid lo all r (putT T o.dst Y9) H
inductive Acc where
 | rd (id:Nat)
 | all (n:Nat)
 | wr (id:Nat)
def Acc.apart:Acc->Acc->Bool
 | .rd i,.wr j | .wr j,.rd i=>i != j
 | .all n,.wr j | .wr j,.all n=>decide (n<=j)
 | _,_=>true
def AtOk (C:Cfg):Prop:=∀ (f:FuncId) (p:Nat->List AV->Heap->Option (AV × Heap)) (lo:Nat) (args:List AV) (H:Heap) (v:AV) (H':Heap),C.at1 f=true->C.hprim f=some p->p lo args H=some (v,H') -> ∀ id,id < H.n->(∀ off r,args ≠ .ptr id off::r)->H'.get id=H.get id
def Zr (C:Cfg) (T:TT AV) (n:Nat) (c:Cls) (o:Oper):Option Acc:=match c,o.op with
 | .load,.load _ a=>match Z4 C T a with
   | some (.ptr id _)=>some (.rd id)
   | _=>none
 | .read,_=>some (.all n)
 | .writeAt,.store _ a _=>match Z4 C T a with
   | some (.ptr id _)=>some (.wr id)
   | _=>none
 | .writeAt,.mapUpdate _ m _ _=>match Z4 C T m with
   | some (.map id)=>some (.wr id)
   | _=>none
 | .writeAt,.call c=>match c.args.toList with
   | s::_=>match Z4 C T s with
     | some (.ps (.tok k) _)=>some (.wr k)
     | some (.rs id _ _ _ _)=>some (.wr id)
     | some (.ptr id _)=>some (.wr id)
     | _=>none
   | []=>none
 | _,_=>none
def Y6 (acc:Option Acc) (conf:List Nat) (rd:List (Nat × Acc)):Bool:=match acc,conf with
 | none,_ | _,[]=>false
 | some a,conf=>rd.any fun (j,b)=>conf.contains j && !a.apart b
mutual
def AV.under (n:Nat):AV->Bool
 | .ptr id _=>Nat.blt id n
 | .rs id _ _ _ _=>Nat.blt id n
 | .map id=>Nat.blt id n
 | .yld id=>Nat.blt id n
 | .ps (.tok k) _=>Nat.blt k n
 | .fn _ first caps=>YW n first && YW n caps
 | .agg cs=>YW n cs
 | .tup vs=>YW n vs
 | _=>true
def YW (n:Nat):List AV->Bool
 | []=>true
 | v::r=>v.under n && YW n r
end
def YM (C:Cfg) (T:TT AV) (n:Nat) (c:Cls) (o:Oper):Bool:=match c with
 | .read=>o.op.operands.toList.all fun x=>match Z4 C T x with
   | some v=>v.under n
   | none=>true
 | _=>true
def YN (i:Nat) (acc:Option Acc) (rd:List (Nat × Acc)):List (Nat × Acc):=match acc with
 | none=>rd
 | some a=>(i,a)::rd
def Zt:Nat->Heap->List Heap->Heap
 | n+1,_,H::r=>Zt n H r
 | _,H,_=>H
def Zs (C:Cfg) (rec:Rec) (fid:FuncId) (lo:Nat) (all:List Oper):List Oper->List OpI->Nat->List (Nat × Acc)->TT AV->Heap->Nat->List Heap->Option (TT AV × Heap)
 | [],_,_,_,T,H,_,_=>some (T,H)
 | o::r,s::ss,i,rd,T,H,K,hs =>
   match Ya all T o with
   | true =>
     match s.c.chain with
     | true=>match Y6 (Zr C T H.n s.c o) s.conf rd with
       | true=>none
       | false=>match aop C rec fid lo o T H with
         | some (v,H')=>Zs C rec fid lo all r ss (i+1) (YN i (Zr C T H.n s.c o) rd) (putT T o.dst v) H' (K+1) (H::hs)
         | none=>none
     | false=>match s.c with
       | .data=>match aop C rec fid lo o T H with
         | some (v,_)=>Zs C rec fid lo all r ss (i+1) rd (putT T o.dst v) H K hs
         | none=>none
       | _=>match Y6 (Zr C T (Zt (K - s.k) H hs).n s.c o) s.conf rd || !YM C T (Zt (K - s.k) H hs).n s.c o with
         | true=>none
         | false=>match aop C rec fid lo o T (Zt (K - s.k) H hs) with
           | some (v,_)=>Zs C rec fid lo all r ss (i+1) (YN i (Zr C T (Zt (K - s.k) H hs).n s.c o) rd) (putT T o.dst v) H K hs
           | none=>none
   | false=>match s.c.chain with
     | true=>Zs C rec fid lo all r ss (i+1) rd (putT T o.dst Y9) H (K+1) (H::hs)
     | false=>Zs C rec fid lo all r ss (i+1) rd (putT T o.dst Y9) H K hs
 | _::_,[],_,_,_,_,_,_=>none
def AExit.code:AExit->Option Code
 | .nrm=>none
 | .ext id=>some (.exit id)
 | .gto l=>some (.goto l)
 | .ret=>some .ret
def XQ (C:Cfg) (H:Heap) (T:TT AV):List ResultVar->Option (List AV)
 | []=>some []
 | r::rs=>match (match r with
    | .tmp t=>some (Z1 T t)
    | .cell a t=>Yl C.P H t (Z1 T a)) with
   | some v=>match XQ C H T rs with
     | some l=>some (v::l)
     | none=>none
   | none=>none
def Qd:List Nat->Heap->Option Heap
 | [],H=>some H
 | d::r,H=>match H.get d with
   | .defr=>Qd r (H.set d .dead)
   | _=>none
def QV:List Tmp->List AV->TT AV->TT AV
 | p::ps,v::vs,T=>QV ps vs (JD T p v)
 | _,_,T=>T
def GP (C:Cfg):List TypeId->Bool
 | [t]=>match C.P.underlying t with
   | some .string=>true
   | some (.slice _)=>true
   | some (.array _ _)=>true
   | _=>false
 | _=>false
def XR:List AV->Nat->TT AV->TT AV
 | [],_,T=>T
 | v::r,i,T=>XR r (i+1) (JD T i v)
def XS (C:Cfg) (rec:Rec):Task->Option Out
 | .call lo f args H=>match C.good f with
   | false=>none
   | true=>match C.P.funcs[f]? with
     | some fn=>match fn.body with
       | some c=>match rec (.code lo f false c ⟨XR args 0 .leaf,H,[]⟩) with
         | some ⟨e,s⟩=>match e with
           | .nrm | .ret=>match Qd s.M s.H with
             | some H=>match XQ C H s.T fn.results.toList with
               | some [v]=>some (.ofVal v H)
               | some vs=>some (.ofVal (.tup vs) H)
               | none=>none
             | none=>none
           | _=>none
         | none=>none
       | none=>none
     | none=>none
 | .code lo fid rnd c s=>match c with
   | .skip | .label _=>some ⟨.nrm,s⟩
   | .ret=>some ⟨.ret,s⟩
   | .exit id=>some ⟨.ext id,s⟩
   | .goto l=>some ⟨.gto l,s⟩
   | .seq a b=>match rec (.code lo fid rnd a s) with
     | some ⟨.nrm,s⟩=>rec (.code lo fid rnd b s)
     | r=>r
   | .cond c a b=>match Z4 C s.T c with
     | some (.bool true)=>rec (.code lo fid rnd a s)
     | some (.bool false)=>rec (.code lo fid rnd b s)
     | _=>none
   | .block id b=>match rec (.code lo fid rnd b s) with
     | some ⟨.ext id',s⟩=>some (if id'=id then ⟨.nrm,s⟩ else ⟨.ext id',s⟩)
     | r=>r
   | .loop b=>match rec (.code lo fid rnd b s) with
     | some ⟨.nrm,s⟩=>rec (.code lo fid rnd (.loop b) s)
     | r=>r
   | .scope b=>match rec (.code lo fid rnd b s) with
     | some ⟨.gto _,_⟩=>none
     | r=>r
   | .region _ ops false=>match Ym C rec fid lo ops.toList ops.toList s.T s.H with
     | some (T,H)=>some ⟨.nrm,⟨T,H,s.M⟩⟩
     | none=>none
   | .region id ops true=>match Zs C rec fid lo ops.toList ops.toList (C.plans fid id) 0 [] s.T s.H 0 [] with
     | some (T,H)=>some ⟨.nrm,⟨T,H,s.M⟩⟩
     | none=>none
   | .rangeFunc g params assign body=>match rnd with
     | true=>none
     | false=>match Z4 C s.T g with
       | some (.fn f [] caps) =>
         match rec (.call lo f (.yld (s.H.n+1)::caps.map AV.strip) ((s.H.push .defr).push (.loop ⟨fid,s.T,params.toList,assign,body,.ready,none,s.H.n⟩))) with
         | some o=>match o.s.H.get (s.H.n+1) with
           | .loop rc=>match rc.state with
             | .busy=>none
             | _=>match rc.pending with
               | none=>some ⟨.nrm,⟨s.T,o.s.H.set (s.H.n+1) .dead,s.H.n::s.M⟩⟩
               | some e=>some ⟨e,⟨s.T,o.s.H.set (s.H.n+1) .dead,s.H.n::s.M⟩⟩
           | _=>none
         | none=>none
       | _=>none
   | _=>none
 | .yield lo l args H=>match H.get l with
   | .loop r0=>if r0.params.length=args.length && decide (lo<=l) then
    match rec (.code lo r0.fid true r0.assign ⟨QV r0.params args r0.tmps,H,[]⟩) with
    | some ⟨.nrm,s⟩=>match s.H.get l with
      | .loop rc=>match rc.state with
        | .ready=>match rec (.code lo r0.fid true r0.body ⟨s.T,s.H.set l (.loop { rc with state:=.busy }),s.M⟩) with
          | some ⟨e,s⟩=>match s.H.get l with
            | .loop rc=>match e with
              | .nrm=>some (.ofVal (.bool true) (s.H.set l (.loop { rc with state:=.ready,pending:=none })))
              | e=>some (.ofVal (.bool false) (s.H.set l (.loop { rc with state:=.done,pending:=some e })))
            | _=>none
          | none=>none
        | _=>none
      | _=>none
    | _=>none
     else none
   | _=>none
def run (C:Cfg):Nat->Task->Option Out
 | 0,_=>none
 | n+1,t=>XS C (run C n) t
def Xj (C:Cfg) (fid:FuncId) (o:Oper):Cls:=match o.op with
 | .move _ | .assign _=>if C.frz fid o.type then .write else .data
 | .buildSlice t _ _=>if C.lit fid t then .fresh else .data
 | .pick .. | .build .. | .binOp .. | .unOp .. | .makeFunc .. | .slice .. | .fieldAddr .. | .field .. | .indexAddr .. | .index .. | .extract .. | .nilCheck _=>.data
 | .convert s _ _=>if Kp (C.P.underlying s) then .read else .data
 | .load ..=>.load
 | .lookup ..=>.read
 | .alloc _ | .box .. | .makeMap .. | .makeSlice .. | .range ..=>.fresh
 | .store .. | .mapUpdate ..=>.writeAt
 | .call c=>match c.callee with
   | .builtin .max | .builtin .min=>.data
   | .builtin .len=>if GP C c.argTypes.toList then .data else .read
   | .builtin .append=>.writeAt
   | .value (.func f)=>if (C.prim f).isSome then .read else if (C.hprim f).isSome then (if C.at1 f then .writeAt else .write) else match C.mode f with
     | .pure=>.read
     | .fresh=>.fresh
     | .free=>.write
   | _=>.write
 | _=>.write
def Qu:Cls->Cls->Nat
 | .data,_ | _,.data=>0
 | .load,.load | .load,.read | .read,.load | .read,.read=>0
 | .load,.fresh | .read,.fresh | .fresh,.load | .fresh,.read=>0
 | .load,.writeAt | .read,.writeAt | .writeAt,.load | .writeAt,.read=>1
 | _,_=>2
structure Seen where
 i:Nat
 o:Oper
 s:OpI
 K:Nat
def VG:List Seen->Nat->Nat
 | [],_=>0
 | s::r,i=>cond (Nat.beq s.i i) s.s.m (VG r i)
def Kq (seen:List Seen):List Edge->Nat
 | []=>0
 | e::r=>if Region.binds .any e then 2 ^ e.on ||| VG seen e.on ||| Kq seen r else Kq seen r
def QW (o:Oper):Bool:=match o.op,o.guard with
 | .alloc _,none=>true
 | .makeSlice _ (.tmp a) (.tmp b),none=>a == b
 | _,_=>false
def UE (all:Array Oper) (o:Oper) (s:OpI):List Seen->Bool
 | []=>true
 | q::r=>(s.m.testBit q.i || (q.o.apart all o && (match Qu q.s.c s.c with
    | 0=>true
    | 1=>s.conf.contains q.i
    | _=>q.s.c.chain && QW o))) && UE all o s r
def Kr (C:Cfg) (fid:FuncId) (all:Array Oper) (o:Oper) (s:OpI) (i K:Nat) (seen:List Seen):Bool :=
 o.after.all (fun e=>!Region.binds .any e || Nat.blt e.on i) && Nat.beq (Kq seen o.after.toList) s.m && decide (Xj C fid o=s.c) && Nat.ble s.k K &&
  seen.all (fun q=>!q.s.c.chain || (s.m.testBit q.i == Nat.blt q.K s.k)) && UE all o s seen
def XT (C:Cfg) (fid:FuncId) (all:Array Oper):List Oper->List OpI->Nat->Nat->List Seen->Bool
 | [],[],_,_,_=>true
 | o::r,s::ss,i,K,seen=>Kr C fid all o s i K seen && XT C fid all r ss (i+1) (if s.c.chain then K+1 else K) (⟨i,o,s,K⟩::seen)
 | _,_,_,_,_=>false
def Zz (C:Cfg) (fid:FuncId) (n:Nat):Code->Bool
 | .region id ops draw=>ops.all (fun o=>match o.dst with | some d=>decide (d < n) | none=>true) && (!draw || XT C fid ops ops.toList (C.plans fid id) 0 0 [])
 | .seq a b=>Zz C fid n a && Zz C fid n b
 | .cond _ a b=>Zz C fid n a && Zz C fid n b
 | .block _ b=>Zz C fid n b
 | .loop b=>Zz C fid n b
 | .scope b=>Zz C fid n b
 | .rangeFunc _ ps a b=>ps.all (fun p=>decide (p < n)) && Zz C fid n a && Zz C fid n b
 | _=>true
end Go.Sim
