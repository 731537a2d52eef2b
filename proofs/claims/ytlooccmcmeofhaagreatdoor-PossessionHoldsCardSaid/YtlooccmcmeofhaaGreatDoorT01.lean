/-
Lemmas of one proof, the texts SimDefs to SimDefs joined.
-/
import GoSem.Step
set_option linter.unusedSimpArgs false
set_option linter.unusedVariables false
set_option maxRecDepth 100000
set_option maxHeartbeats 32000000
noncomputable section
open Go
variable {α:Type}

namespace Go.Sim
inductive Tok where
 | unk
 | nn
 | nil
 | exact
 | tok (k:Nat)
def Tok.full:Tok->Bool
 | .nil | .exact=>true
 | _=>false
inductive TT (α:Type) where
 | leaf
 | node (v:α) (l r:TT α)
def TT.get (d:α):TT α->Nat->α
 | .leaf,_=>d
 | .node v l r,n=>match n with
   | 0=>v
   | n+1=>cond (Nat.beq (n % 2) 0) (l.get d (n / 2)) (r.get d (n / 2))
def TT.insF {α:Type} (d:α):Nat->TT α->Nat->α->TT α
 | 0,t,_,_=>t
 | f+1,.leaf,n,x=>match n with
   | 0=>.node x .leaf .leaf
   | n+1=>cond (Nat.beq (n % 2) 0) (.node d (TT.insF d f .leaf (n / 2) x) .leaf) (.node d .leaf (TT.insF d f .leaf (n / 2) x))
 | f+1,.node v l r,n,x=>match n with
   | 0=>.node x l r
   | n+1=>cond (Nat.beq (n % 2) 0) (.node v (TT.insF d f l (n / 2) x) r) (.node v l (TT.insF d f r (n / 2) x))
def TT.ins (d:α) (t:TT α) (n:Nat) (x:α):TT α:=TT.insF d (n+1) t n x
inductive AV where
 | bool (b:Bool)
 | int (k:IntKind) (n:Int)
 | str (s:List Nat)
 | flt (k:FloatKind) (b:Nat)
 | nilp
 | ptr (id off:Nat)
 | pptr (cs:List AV)
 | ps (t:Tok) (rows:List (List AV))
 | rs (id off n sz:Nat) (cap:Option Nat)
 | nilm
 | map (id:Nat)
 | fn (f:FuncId) (first caps:List AV)
 | yld (l:Nat)
 | nilf
 | nili
 | agg (cs:List AV)
 | tup (vs:List AV)
 deriving Inhabited
inductive AExit where
 | nrm
 | ext (id:Nat)
 | gto (l:Nat)
 | ret
structure ALoop where
 fid:FuncId
 tmps:TT AV
 params:List Tmp
 assign:Code
 body:Code
 state:LoopState
 pending:Option AExit
 defers:Nat
inductive ABlk where
 | dead
 | cells (cs:List AV) (e:TypeId)
 | row (cs:List AV) (sz:Nat) (e:TypeId)
 | map (es:List (AV × AV))
 | loop (l:ALoop)
 | defr
 | sit (s:List Nat) (pos:Nat)
structure Heap where
 n:Nat
 m:TT ABlk
def Heap.get (H:Heap) (id:Nat):ABlk:=H.m.get .dead id
def Heap.set (H:Heap) (id:Nat) (b:ABlk):Heap:=⟨H.n,H.m.ins .dead id b⟩
def Heap.push (H:Heap) (b:ABlk):Heap:=⟨H.n+1,H.m.ins .dead H.n b⟩
def Heap.empty:Heap:=⟨0,.leaf⟩
def Y9:AV:=.tup []
def AV.cells:AV->List AV
 | .agg cs=>cs
 | v=>[v]
def AV.one:AV->Bool
 | .agg _ | .tup _=>false
 | _=>true
def AV.strip0:AV->AV
 | .ps _ rows=>.ps .unk rows
 | v=>v
def AV.strip:AV->AV
 | .ps _ rows=>.ps .unk rows
 | .agg cs=>.agg (cs.map AV.strip0)
 | .tup vs=>.tup (vs.map fun | .agg cs=>.agg (cs.map AV.strip0) | v=>v.strip0)
 | v=>v
mutual
def AV.pure:AV->Bool
 | .ptr _ _ | .rs .. | .map _ | .yld _=>false
 | .ps (.tok _) _=>false
 | .fn _ first caps=>YH first && YH caps
 | .agg cs=>YH cs
 | .tup vs=>YH vs
 | _=>true
def YH:List AV->Bool
 | []=>true
 | v::r=>v.pure && YH r
end
def Q7:Value->Option AV
 | .bool b=>some (.bool b)
 | .int k n=>some (.int k n)
 | .string s=>some (.str (s.data.toList.map UInt8.toNat))
 | .float k b=>some (.flt k b)
 | .pointer none=>some .nilp
 | .slice none 0 0=>some (.ps .nil [])
 | .map none=>some .nilm
 | .nilFunc=>some .nilf
 | .nilIface=>some .nili
 | _=>none
def VB:List Value->Option (List AV)
 | []=>some []
 | v::r=>match Q7 v with
   | some a=>match VB r with
     | some l=>some (a::l)
     | none=>none
   | none=>none
def ofValue:Value->Option AV
 | .agg cs=>match VB cs.toList with
   | some l=>some (.agg l)
   | none=>none
 | .tuple vs=>if vs.toList.isEmpty then some Y9 else none
 | v=>Q7 v
def Z1 (T:TT AV) (t:Nat):AV:=T.get Y9 t
def JD (T:TT AV) (t:Nat) (v:AV):TT AV:=T.ins Y9 t v
def Zf (P:Program) (t:TypeId):Option Nat:=match P.info? t with
 | some i=>some i.size
 | none=>none
def YR (P:Program) (t:TypeId):Option Nat:=match P.info? t with
 | some i=>some i.bytes
 | none=>none
def aggOf (P:Program) (t:TypeId):Option Bool:=match P.underlying t with
 | some (.struct _) | some (.array _ _)=>some true
 | some _=>some false
 | none=>none
def Yk (P:Program) (t:TypeId):Option TypeId:=match P.underlying t with
 | some (.slice e)=>some e
 | _=>none
def ZF (P:Program) (t:TypeId):Option AV:=match P.info? t with
 | some i=>match i.zero with
   | some v=>ofValue v
   | none=>none
 | none=>none
def Ja (P:Program) (t:TypeId) (f:Nat):Option Field:=match P.underlying t with
 | some (.struct fs)=>fs[f]?
 | _=>none
def ZW (cs:List AV) (off n:Nat):Option (List AV) :=
 if off+n<=cs.length then some ((cs.drop off).take n) else none
def Xw:ABlk->Option (List AV)
 | .cells cs _=>some cs
 | .row cs _ _=>some cs
 | _=>none
def YB (H:Heap) (a:AV) (n:Nat):Option (List AV) :=
 match a with
 | .ptr id off=>match Xw (H.get id) with
   | some cs=>ZW cs off n
   | none=>none
 | .pptr cs=>ZW cs 0 n
 | _=>none
def QS (agg:Bool) (cs:List AV):Option AV :=
 if agg then some (.agg cs) else match cs with
  | [v]=>some v
  | _=>none
def Yl (P:Program) (H:Heap) (t:TypeId) (a:AV):Option AV :=
 match Zf P t,aggOf P t with
 | some n,some g=>match YB H a (if g then n else 1) with
   | some cs=>QS g cs
   | none=>none
 | _,_=>none
def over (cs:List AV) (off:Nat) (vs:List AV):List AV:=cs.take off++vs++cs.drop (off+vs.length)
def Q8:ABlk->Nat->List AV->Option ABlk
 | .cells cs e,off,vs=>if off+vs.length<=cs.length then some (.cells (over cs off vs) e) else none
 | .row cs sz e,off,vs=>if off+vs.length<=cs.length then some (.row (over cs off vs) sz e) else none
 | _,_,_=>none
def Q9 (P:Program) (lo:Nat) (H:Heap) (t:TypeId) (a v:AV):Option Heap :=
 match a,Zf P t with
 | .ptr id off,some n =>
   if v.cells.length=n && v.cells.all AV.one && decide (lo<=id) then
    match Q8 (H.get id) off v.cells with
    | some b'=>some (H.set id b')
    | none=>none
   else none
 | _,_=>none
def QT:IntKind->Nat
 | .i8=>127 | .i16=>32767 | .i32=>2147483647 | .i64=>9223372036854775807
 | .u8=>255 | .u16=>65535 | .u32=>4294967295 | .u64=>18446744073709551615
def KV:IntKind->Bool
 | .i8 | .i16 | .i32 | .i64=>true
 | _=>false
def inK (k:IntKind):Int->Bool
 | .ofNat n=>Nat.ble n (QT k)
 | .negSucc n=>KV k && Nat.ble n (QT k)
def ZC (k:IntKind) (n:Int):Int:=cond (inK k n) n (k.wrap n)
def ltI:Int->Int->Bool
 | .ofNat a,.ofNat b=>Nat.blt a b
 | .ofNat _,.negSucc _=>false
 | .negSucc _,.ofNat _=>true
 | .negSucc a,.negSucc b=>Nat.blt b a
def eqI:Int->Int->Bool
 | .ofNat a,.ofNat b=>Nat.beq a b
 | .negSucc a,.negSucc b=>Nat.beq a b
 | _,_=>false
def X5:IntKind->Nat
 | .i8=>0 | .i16=>1 | .i32=>2 | .i64=>3 | .u8=>4 | .u16=>5 | .u32=>6 | .u64=>7
def Z6:List Nat->List Nat->Bool
 | [],[]=>true
 | a::x,b::y=>cond (Nat.beq a b) (Z6 x y) false
 | _,_=>false
def QU {α:Type} (f:α->Option Bool):List α->Option Bool
 | []=>some true
 | a::r=>match f a with
   | some true=>QU f r
   | some false=>some false
   | none=>none
def XG (P:Program) (t:TypeId) (cs:List AV) (off:Nat):Option AV :=
 match aggOf P t,Zf P t with
 | some true,some n=>match ZW cs off n with
   | some l=>some (.agg l)
   | none=>none
 | some false,some _=>cs[off]?
 | _,_=>none
def Y5 (P:Program):Nat->TypeId->AV->AV->Option Bool
 | 0,_,_,_=>none
 | d+1,t,x,y=>match P.underlying t,x,y with
   | some .bool,.bool a,.bool b=>some (a == b)
   | some (.int _),.int k a,.int l b=>cond (Nat.beq (X5 k) (X5 l)) (some (eqI a b)) none
   | some .string,.str a,.str b=>some (Z6 a b)
   | some (.struct fs),.agg xs,.agg ys=>cond (P.stoodInHeld t) none (QU (fun f=>if f.name ≠ "_" then (match XG P f.type xs f.offset,XG P f.type ys f.offset with
    | some a,some b=>Y5 P d f.type a b
    | _,_=>none) else none) fs.toList)
   | some (.array len e),.agg xs,.agg ys=>match Zf P e with
     | some n=>QU (fun i=>match XG P e xs (i * n),XG P e ys (i * n) with
       | some a,some b=>Y5 P d e a b
       | _,_=>none) (List.range len)
     | none=>none
   | _,_,_=>none
def Uz:AV->AV->Bool
 | .bool a,.bool b=>a == b
 | .int k a,.int l b=>Nat.beq (X5 k) (X5 l) && eqI a b
 | .str a,.str b=>Z6 a b
 | _,_=>false
def UA:List AV->List AV->Bool
 | [],[]=>true
 | a::x,b::y=>Uz a b && UA x y
 | _,_=>false
def GH:AV->AV->Bool
 | .agg x,.agg y=>UA x y
 | a,b=>Uz a b
def Qa (P:Program):Nat->TypeId->Bool
 | 0,_=>false
 | d+1,t=>match P.underlying t with
   | some .bool | some (.int _) | some .string=>true
   | some (.struct fs)=>!P.stoodInHeld t && fs.all fun f=>(f.name != "_") && Qa P d f.type
   | some (.array _ e)=>Qa P d e
   | _=>false
def QG:Sem α->Option α
 | .pure a=>some a
 | _=>none
def Jb:List Nat->List Nat->Bool
 | _,[]=>false
 | [],_::_=>true
 | a::x,b::y=>Nat.blt a b || (Nat.beq a b && Jb x y)
def QH (v:Option Value):Option AV:=match v with
 | some (.int k n)=>some (.int k n)
 | some (.bool b)=>some (.bool b)
 | some (.float k b)=>some (.flt k b)
 | _=>none
def ibin (op:BinOp) (k:IntKind) (a b:Int):Option AV:=match op with
 | .add=>some (.int k (ZC k (Int.add a b)))
 | .sub=>some (.int k (ZC k (Int.sub a b)))
 | .mul=>some (.int k (ZC k (Int.mul a b)))
 | .eql=>some (.bool (eqI a b))
 | .neq=>some (.bool (!(eqI a b)))
 | .lss=>some (.bool (ltI a b))
 | .leq=>some (.bool (!(ltI b a)))
 | .gtr=>some (.bool (ltI b a))
 | .geq=>some (.bool (!(ltI a b)))
 | op=>QH (QG (Go.binOp op 0 (.int k a) (.int k b)))
def KW:Tok->List (List AV)->Option Bool
 | .nil,_=>some true
 | .nn,_=>some false
 | _,_::_=>some false
 | _,[]=>none
def Kl (P:Program) (op:BinOp) (t:TypeId) (x y:AV):Option AV :=
 match x,y with
 | .int k a,.int l b=>cond (Nat.beq (X5 k) (X5 l)) (ibin op k a b) (QH (QG (Go.binOp op t (.int k a) (.int l b))))
 | .flt k a,.flt l b=>QH (QG (Go.binOp op t (.float k a) (.float l b)))
 | .str a,.str b=>match op with
   | .add=>if a.length+b.length<=9223372036854775807 then some (.str (a++b)) else none
   | .eql=>some (.bool (Z6 a b))
   | .neq=>some (.bool !(Z6 a b))
   | .lss=>some (.bool (Jb a b))
   | .leq=>some (.bool (Jb a b || Z6 a b))
   | .gtr=>some (.bool !(Jb a b || Z6 a b))
   | .geq=>some (.bool !(Jb a b))
   | _=>none
 | .ps tok rows,.ps .nil []=>match Yk P t with
   | some _=>match op,KW tok rows with
     | .eql,some b=>some (.bool b)
     | .neq,some b=>some (.bool (!b))
     | _,_=>none
   | none=>none
 | .ptr _ _,.nilp=>match P.underlying t with
   | some (.pointer _)=>match op with
     | .eql=>some (.bool false)
     | .neq=>some (.bool true)
     | _=>none
   | _=>none
 | x,y=>match op with
   | .eql=>if Qa P 100 t then (match Y5 P 100 t x y with | some b=>some (.bool b) | none=>none) else none
   | .neq=>if Qa P 100 t then (match Y5 P 100 t x y with | some b=>some (.bool (!b)) | none=>none) else none
   | _=>none
def aun (op:UnOp) (x:AV):Option AV :=
 match x with
 | .int k a=>QH (QG (Op.unary op (.int k a)))
 | .bool b=>QH (QG (Op.unary op (.bool b)))
 | .flt k b=>QH (QG (Op.unary op (.float k b)))
 | _=>none
def GI (P:Program) (src dst:TypeId) (x:AV):Option AV :=
 match P.underlying src,P.underlying dst,x with
 | some _,some (.int k),.int _ n=>QH (QG (Conv.intToInt k n))
 | some _,some (.float k),.int _ n=>QH (QG (Conv.intToFloat k n))
 | some _,some (.int k),.flt s b=>QH (QG (Conv.floatToInt s b k))
 | some _,some (.float k),.flt s b=>QH (QG (Conv.floatToFloat s b k))
 | some .string,some .string,.str s=>some (.str s)
 | _,_,_=>none
def JE (P:Program) (t:TypeId) (x:AV) (f:Nat):Option AV :=
 match Ja P t f,x with
 | some fd,.agg cs=>XG P fd.type cs fd.offset
 | _,_=>none
def Jc (P:Program) (t:TypeId) (x:AV) (f:Nat):Option AV :=
 match Ja P t f with
 | some fd=>match Zf P fd.type with
   | some (_+1)=>match x with
     | .ptr id off=>some (.ptr id (off+fd.offset))
     | .pptr cs=>some (.pptr (cs.drop fd.offset))
     | _=>none
   | _=>none
 | none=>none
def YI (lim:Nat) (i:AV):Option Nat:=match i with
 | .int _ (.ofNat n)=>if n < lim then some n else none
 | _=>none
def Qb (P:Program) (t:TypeId) (x i:AV):Option AV :=
 match P.underlying t with
 | some (.slice e)=>match x with
   | .ps _ rows=>match YI rows.length i with
     | some n=>match rows[n]?,Zf P e with
       | some r,some sz=>if r.length=sz then some (.pptr r) else none
       | _,_=>none
     | none=>none
   | .rs id off len sz _=>match YI len i with
     | some n=>if Zf P e=some sz then some (.ptr id (off+n * sz)) else none
     | none=>none
   | _=>none
 | some (.array len e)=>match YI len i,Zf P e with
   | some n,some sz=>match x with
     | .ptr id off=>some (.ptr id (off+n * sz))
     | .pptr cs=>some (.pptr (cs.drop (n * sz)))
     | _=>none
   | _,_=>none
 | _=>none
def Km (P:Program) (t:TypeId) (x i:AV):Option AV :=
 match P.underlying t,x with
 | some (.array len e),.agg cs=>match YI len i,Zf P e with
   | some n,some sz=>XG P e cs (n * sz)
   | _,_=>none
 | some .string,.str s=>match YI s.length i with
   | some n=>match s[n]? with
     | some b=>some (.int .u8 b)
     | none=>none
   | none=>none
 | _,_=>none
def YS (d lim:Nat) (x:Option AV):Option Nat:=match x with
 | none=>some d
 | some v=>YI (lim+1) v
def VC (n l h:Nat):Tok->Tok
 | .nil | .exact=>if h=n then .exact else .unk
 | .tok k=>if h=n && decide (l < h) then .tok k else .unk
 | _=>.unk
def GJ (tok:Tok) (rows:List (List AV)) (low high max:Option AV):Option AV :=
 match max with
 | none=>match YS rows.length rows.length high with
   | some h=>match YS 0 h low with
     | some l=>some (.ps (VC rows.length l h tok) ((rows.take h).drop l))
     | none=>none
   | none=>none
 | some m=>match YI (rows.length+1) m,high with
   | some m,some h=>match YI (m+1) h with
     | some h=>match YS 0 h low with
       | some l=>some (.ps (if h=m then .exact else .unk) ((rows.take h).drop l))
       | none=>none
     | none=>none
   | _,_=>none
def XH (P:Program) (t:TypeId) (x:AV) (low high max:Option AV):Option AV :=
 match P.underlying t,x with
 | some .string,.str s=>match max with
   | none=>match YS s.length s.length high with
     | some h=>match YS 0 h low with
       | some l=>some (.str ((s.take h).drop l))
       | none=>none
     | none=>none
   | some _=>none
 | some (.slice e),.ps tok rows=>match Zf P e with
   | some sz=>if rows.all (fun r=>r.length=sz) then GJ tok rows low high max else none
   | none=>none
 | some (.slice e),.rs id off n sz cap=>if Zf P e=some sz then match max with
   | none=>match YS n n high with
     | some h=>match YS 0 h low with
       | some l=>some (if l=h/\l ≠ 0 then .ps .unk [] else .rs id (off+l * sz) (h - l) sz (cap.map (· - l)))
       | none=>none
     | none=>none
   | some _=>none else none
 | _,_=>none
def YJ (P:Program) (H:Heap) (t:TypeId) (x:AV):Option AV :=
 match P.underlying t,x with
 | some .string,.str s=>some (.int .i64 s.length)
 | some (.array n _),_=>some (.int .i64 n)
 | some (.slice _),.ps _ rows=>some (.int .i64 rows.length)
 | some (.slice _),.rs _ _ n _ _=>some (.int .i64 n)
 | some (.map _ _),.nilm=>some (.int .i64 0)
 | some (.map _ _),.map id=>match H.get id with
   | .map es=>some (.int .i64 es.length)
   | _=>none
 | _,_=>none
def JF (f:Int->Int->Int):AV->List AV->Option AV
 | v,[]=>some v
 | .int k a,.int _ b::r=>JF f (.int k (f a b)) r
 | _,_=>none
def KX (sz:Nat):Nat->List (Nat × AV)->Option (List (List AV))
 | _,[]=>some []
 | i,(j,v)::r=>if j=i && v.cells.length=sz && v.cells.all (fun c=>c.strip0.pure && c.one) then
  match KX sz (i+1) r with
  | some l=>some (v.cells.map AV.strip0::l)
  | none=>none
   else none
def Ko (P:Program) (t:TypeId) (len:Nat) (parts:List (Nat × AV)):Option AV :=
 match Yk P t with
 | some e=>match Zf P e with
   | some sz=>if parts.length=len && decide (len * sz<=16777216) && (decide (len=0) || (decide (0 < sz) && (ZF P e).isSome)) then
    match KX sz 0 parts with
    | some rows=>some (.ps .exact rows)
    | none=>none
     else none
   | none=>none
 | none=>none
def VD (sz:Nat):Nat->List (Nat × AV)->Option (List (List AV))
 | _,[]=>some []
 | i,(j,v)::r=>if j=i && v.cells.length=sz && v.cells.all AV.one then
  match VD sz (i+1) r with
  | some l=>some (v.cells::l)
  | none=>none
   else none
def GK (P:Program) (H:Heap) (t:TypeId) (len:Nat) (parts:List (Nat × AV)):Option (AV × Heap) :=
 match Yk P t with
 | some e=>match Zf P e with
   | some sz=>if parts.length=len && decide (len * sz<=16777216) && decide (0 < len) && decide (0 < sz) && (ZF P e).isSome then
    match VD sz 0 parts with
    | some rows=>some (.rs H.n 0 len sz (some len),H.push (.cells rows.flatten e))
    | none=>none
     else none
   | none=>none
 | none=>none
def YK (place:Nat->Option (Nat × Nat)):List AV->List (Nat × AV)->Option (List AV)
 | cs,[]=>some cs
 | cs,(i,v)::r=>match place i with
   | some (off,n)=>if v.cells.length=n && decide (off+n<=cs.length) && v.cells.all AV.one then YK place (over cs off v.cells) r else none
   | none=>none
def GL (P:Program) (fs:Array Field) (i:Nat):Option (Nat × Nat):=match fs[i]? with
 | some f=>some (f.offset,(Zf P f.type).getD 0)
 | none=>none
def YC (P:Program) (t:TypeId) (parts:List (Nat × AV)):Option AV :=
 match ZF P t with
 | some z=>match P.underlying t with
   | some (.struct fs)=>if fs.all (fun f=>(Zf P f.type).isSome) then
    match YK (GL P fs) z.cells parts with
    | some cs=>some (.agg cs)
    | none=>none
     else none
   | some (.array _ e)=>match Zf P e with
     | some sz=>match YK (fun i=>some (i * sz,sz)) z.cells parts with
       | some cs=>some (.agg cs)
       | none=>none
     | none=>none
   | _=>none
 | none=>none
def XY (sz:Nat):Nat->List AV->Option (List (List AV))
 | 0,_=>some []
 | n+1,cs=>if sz<=cs.length then
    match XY sz n (cs.drop sz) with
    | some l=>some (cs.take sz::l)
    | none=>none
   else none
def XZ (H:Heap) (sz:Nat) (x:AV):Option (List (List AV)) :=
 match x with
 | .ps _ rows=>if rows.all (fun r=>r.length=sz) then some rows else none
 | .rs id off n sz' _=>if sz=sz' then match YB H (.ptr id off) (n * sz) with
  | some cs=>XY sz n cs
  | none=>none
   else none
 | .str s=>if sz=1 then some (s.map fun (b:Nat)=>[AV.int .u8 (b:Int)]) else none
 | _=>none
def Kp:Option TypeDesc->Bool
 | some (.slice _)=>true
 | _=>false
def KY:List (List AV)->Option (List Nat)
 | []=>some []
 | [.int .u8 (.ofNat n)]::r=>if n < 256 then (match KY r with
   | some l=>some (n::l)
   | none=>none) else none
 | _=>none
def GM (P:Program) (H:Heap) (s d:TypeId) (x:AV):Option AV:=match P.underlying s,P.underlying d with
 | some (.slice e),some .string=>match P.underlying e,x with
   | some (.int .u8),.str _=>none
   | some (.int .u8),x=>match XZ H 1 x with
     | some rows=>match KY rows with
       | some l=>some (.str l)
       | none=>none
     | none=>none
   | _,_=>none
 | _,_=>none
def UB (P:Program) (H:Heap) (s d:TypeId) (x:AV):Option AV:=if Kp (P.underlying s) then GM P H s d x else GI P s d x
def Q0 (r:List AV):Bool:=r.all fun c=>c.strip0.pure && c.one
def Z2:Nat:=1073741824
def Xx (lo:Nat) (H:Heap) (sz:Nat) (e:TypeId) (s:AV) (rx:List (List AV)):Option (AV × Heap) :=
 match s with
 | .ps tok rows =>
   match rx with
   | []=>some (s,H)
   | _::_ =>
     if decide (rows.length+rx.length<=Z2) && rx.all Q0 && rows.all (fun r=>r.length=sz) && decide (0 < sz) then
      match tok with
      | .unk | .nn=>none
      | .exact | .nil=>some (.ps (.tok H.n) (rows++rx.map (List.map AV.strip0)),H.push (.row [] sz e))
      | .tok k=>match H.get k with
        | .row [] sz' e'=>if decide (sz'=sz) && decide (lo<=k) && !rows.isEmpty && decide (e'=e) then some (.ps (.tok H.n) (rows++rx.map (List.map AV.strip0)),(H.set k .dead).push (.row [] sz e)) else none
        | _=>none
     else none
 | _=>none
def Yv (lo:Nat) (H:Heap) (sz:Nat) (e:TypeId) (s:AV) (rx:List (List AV)):Option (AV × Heap) :=
 match s with
 | .ps tok rows =>
   match rx with
   | []=>some (s,H)
   | _::_ =>
     if tok.full && decide (rows.length+rx.length<=Z2) && rx.all (fun r=>r.all AV.one) && rows.all (fun r=>r.length=sz) && decide (0 < sz) then
      some (.rs H.n 0 (rows.length+rx.length) sz none,H.push (.row (rows++rx).flatten sz e))
     else none
 | .rs id off n sz' cap =>
   match rx with
   | []=>some (s,H)
   | _::_ =>
     if decide (n+rx.length<=Z2) && rx.all (fun r=>r.all AV.one) && sz'=sz && decide (0 < sz) && decide (lo<=id) && cap.isNone then
      match H.get id with
      | .row cs sz2 e2=>if e2=e then
        if sz2=sz && off+n * sz=cs.length then some (.rs H.n 0 (n+rx.length) sz none,(H.set id .dead).push (.row (cs.drop off++rx.flatten) sz e))
        else if sz2=sz && decide (off+(n+rx.length) * sz<=cs.length) then some (.rs id off (n+rx.length) sz none,H.set id (.row (over cs (off+n * sz) rx.flatten) sz e))
        else none else none
      | _=>none
     else none
 | _=>none
def Jd (P:Program) (H:Heap) (t:TypeId) (len cap:AV):Option (AV × Heap) :=
 match Yk P t with
 | some e=>match Zf P e,YR P e,ZF P e,len,cap with
   | some sz,some bytes,some z,.int _ (.ofNat n),.int _ (.ofNat c) =>
     if decide (n<=c) && decide (bytes * c<=140737488355328) && decide (c<=Z2) && decide (0 < sz) && z.cells.length=sz then
      if n=c then some (.rs H.n 0 n sz (some n),H.push (.cells (List.replicate n z.cells).flatten e))
      else some (.rs H.n 0 n sz none,H.push (.row (List.replicate c z.cells).flatten sz e))
     else none
   | _,_,_,_,_=>none
 | none=>none
def GN (P:Program) (lo:Nat) (H:Heap) (t:TypeId) (x:AV):Option (AV × Heap) :=
 match Yk P t with
 | some e=>match Zf P e,ZF P e with
   | some sz,some z=>match x with
     | .rs id off n sz' _ =>
       if n=0 then some (Y9,H)
       else if sz=sz' && decide (lo<=id) && ((List.replicate n z.cells).flatten).all AV.one then
        match Q8 (H.get id) off (List.replicate n z.cells).flatten with
        | some b'=>some (Y9,H.set id b')
        | none=>none
       else none
     | .ps _ []=>some (Y9,H)
     | _=>none
   | _,_=>none
 | none=>none
def Je (P:Program) (lo:Nat) (H:Heap) (t:TypeId) (dst src:AV):Option (AV × Heap) :=
 match Yk P t with
 | some e=>match Zf P e with
   | some sz=>match XZ H sz src with
     | some rows=>match dst with
       | .rs id off n sz' _ =>
         if sz=sz' && decide (lo<=id) && decide (rows.length<=n) && rows.flatten.all AV.one then
          match Q8 (H.get id) off rows.flatten with
          | some b'=>some (.int .i64 rows.length,H.set id b')
          | none=>none
         else none
       | .ps _ []=>some (.int .i64 0,H)
       | _=>none
     | none=>none
   | none=>none
 | none=>none
def QI (lo:Nat) (H:Heap) (v:AV):Option (AV × Heap) :=
 match v with
 | .rs id off n sz _ =>
   if decide (lo<=id) then
    match YB H (.ptr id off) (n * sz) with
    | some cs=>match XY sz n cs with
      | some rows=>if rows.all Q0 then some (.ps .unk (rows.map (List.map AV.strip0)),H.set id .dead) else none
      | none=>none
    | none=>none
   else none
 | v=>some (v,H)
def Qs (s:List Nat) (i:Nat):Nat × Nat :=
 let at' (k:Nat):Nat:=s.getD (i+k) 0
 let cont (k:Nat):Bool:=decide (i+k < s.length) && at' k / 64 == 2
 let b0:=at' 0
 if b0 < 0x80 then (b0,1)
 else if b0 / 32 == 6 && cont 1 then
  let c:=(b0 % 32) * 64+at' 1 % 64
  if c >= 0x80 then (c,2) else (Utf8.runeError,1)
 else if b0 / 16 == 14 && cont 1 && cont 2 then
  let c:=(b0 % 16) * 4096+(at' 1 % 64) * 64+at' 2 % 64
  if c >= 0x800 && Utf8.valid c then (c,3) else (Utf8.runeError,1)
 else if b0 / 8 == 30 && cont 1 && cont 2 && cont 3 then
  let c:=(b0 % 8) * 262144+(at' 1 % 64) * 4096+(at' 2 % 64) * 64+at' 3 % 64
  if c >= 0x10000 && Utf8.valid c then (c,4) else (Utf8.runeError,1)
 else (Utf8.runeError,1)
def VE (P:Program) (H:Heap) (t:TypeId) (x:AV):Option (AV × Heap) :=
 match P.underlying t,x with
 | some .string,.str s=>some (.ptr H.n 0,H.push (.sit s 0))
 | _,_=>none
def VF (lo:Nat) (H:Heap) (it:AV) (isString:Bool):Option (AV × Heap) :=
 match it with
 | .ptr id 0=>match H.get id with
   | .sit s pos =>
     if isString then
      if pos < s.length then
       if lo<=id then some (.tup [.bool true,.int .i64 pos,.int .i32 (Qs s pos).1],H.set id (.sit s (pos+(Qs s pos).2))) else none
      else some (.tup [.bool false],H)
     else none
   | _=>none
 | _=>none
def X6 (P:Program) (kt:TypeId) (k:AV):List (AV × AV)->Nat->Option (Option (Nat × AV × AV))
 | [],_=>some none
 | (k',v)::r,i=>match Y5 P 100 kt k k' with
   | some true=>some (some (i,k',v))
   | some false=>X6 P kt k r (i+1)
   | none=>none
def KZ (P:Program) (kt:TypeId) (k:AV):Bool:=Qa P 100 kt && (match Y5 P 100 kt k k with | some true=>true | _=>false)
def UC (H:Heap) (m:AV):Option (List (AV × AV)):=match m with
 | .nilm=>some []
 | .map id=>match H.get id with
   | .map es=>some es
   | _=>none
 | _=>none
def JG (P:Program) (H:Heap) (t:TypeId) (m k:AV) (ok:Bool):Option AV :=
 match P.underlying t with
 | some (.map kt et) =>
   if KZ P kt k then
    match ZF P et,UC H m with
    | some z,some es=>match X6 P kt k es 0 with
      | some (some (_,_,v))=>some (if ok then .tup [v,.bool true] else v)
      | some none=>some (if ok then .tup [z,.bool false] else z)
      | none=>none
    | _,_=>none
   else none
 | _=>none
def Q1 (P:Program) (lo:Nat) (H:Heap) (t:TypeId) (m k v:AV):Option Heap :=
 match P.underlying t,m with
 | some (.map kt _),.map id =>
   if KZ P kt k && decide (lo<=id) then
    match H.get id with
    | .map es=>match X6 P kt k es 0 with
      | some (some (i,k',_))=>if GH k' k then some (H.set id (.map (es.set i (k,v.strip)))) else none
      | some none=>some (H.set id (.map (es++[(k,v.strip)])))
      | none=>none
    | _=>none
   else none
 | _,_=>none
end Go.Sim
