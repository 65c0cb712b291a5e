/- A compiler from the code of functions to trees of pure statements, and the proof that it is right. No conditions. -/
import Derived.Orders
import Ieee.Arith
import Derived.Laws.Sem
import Derived.Great.BuildSlice
import Derived.Laws.MakeOwn
import Derived.Laws.Append
set_option linter.all false
namespace Go.Proofs.YthchhkghjfendaaGreat.Dx
open Go
inductive PV where
 | v (x:Value)
 | l (xs:List PV)
 | a (xs:List PV)
 | fn (f:Nat) (caps:List PV)
instance:Inhabited PV:=⟨.l []⟩
def PV.int:PV→Int | .v (.int _ n)=>n | _=>0
def PV.bool:PV→Bool | .v (.bool b)=>b | _=>false
def PV.flt:PV→Nat | .v (.float _ b)=>b | _=>0
def PV.list:PV→List PV | .l xs=>xs | _=>[]
def PV.cells:PV→List PV | .a xs=>xs | p=>[p]
def nan0:Nat:=9221120237041090560
def isNaN (b:Nat):Bool:=match Ieee.double.read b with | .nan .. => true | _=>false
def cnF (b:Nat):Nat:=if isNaN b then nan0 else b
def cn:Value→Value
 | .float .f64 b => .float .f64 (cnF b)
 | v=>v
inductive K where
 | i (k:IntKind) | b | f
 deriving DecidableEq,Inhabited
def K.has:K→Value→Bool
 | .i k,.int k' _=>k==k'
 | .b,.bool _=>true
 | .f,.float .f64 _=>true
 | _,_=>false
def len8 (n:Int):Int:=if n≤0 then 0 else (n.toNat.log2+1:Nat)
def table8:List UInt8:=(List.range 256).map fun n=>(if n=0 then 0 else n.log2+1).toUInt8
inductive U where
 | neg (k:IntKind) | cpl (k:IntKind) | not | conv (k:IntKind) | len
 | fneg | f2b | b2f | i2f | sqrt | isnan | tab8 | fld (j:Nat) | toA | mkfn (f:Nat)
 deriving DecidableEq
inductive B where
 | add (k:IntKind) | sub (k:IntKind) | mul (k:IntKind) | quo (k:IntKind) | rem (k:IntKind)
 | and (k:IntKind) | or (k:IntKind) | xor (k:IntKind) | andNot (k:IntKind) | shl (k:IntKind) | shr (k:IntKind)
 | eq | ne | lt | le | gt | ge | beq | bne
 | fadd | fsub | fmul | fdiv | feq | fne | flt | fle | fgt | fge
 | get | app | take | drop | rep | max (k:IntKind) | min (k:IntKind) | cons | copy | seta (j:Nat)
 | iadd | isub
 deriving DecidableEq
inductive T3 where
 | ite | set | ssub | sborrow
 deriving DecidableEq
inductive Exp where
 | var (n:Nat)
 | int (k:IntKind) (n:Int)
 | bool (b:Bool)
 | flt (n:Nat)
 | nil
 | un (o:U) (x:Exp)
 | bi (o:B) (x y:Exp)
 | tri (o:T3) (x y z:Exp)
 deriving Inhabited,DecidableEq
def ordIs (x y:Nat) (o:Ordering):Bool:=Ieee.double.order x y==some o
def fv (r:Option Nat):PV := .v (.float .f64 (r.getD nan0))
def bitsOp (op:BinOp) (k:IntKind) (x y:Int):Int :=
 let a:=BitVec.ofInt k.bits x
 let b:=BitVec.ofInt k.bits y
 match op with
 | .and=>k.wrap (a &&& b).toNat
 | .or=>k.wrap (a ||| b).toNat
 | .xor=>k.wrap (a ^^^ b).toNat
 | _=>k.wrap (a &&& ~~~b).toNat
def U.den (o:U) (p:PV):PV :=
 match o with
 | .neg k => .v (.int k (k.wrap (0-p.int)))
 | .cpl k => .v (.int k (bitsOp .xor k (if k.signed then -1 else k.max) p.int))
 | .not => .v (.bool !p.bool)
 | .conv k => .v (.int k (k.wrap p.int))
 | .len => .v (.int .i64 p.list.length)
 | .fneg => .v (.float .f64 (cnF (p.flt ^^^ 2^63)))
 | .f2b => .v (.int .u64 p.flt)
 | .b2f => .v (.float .f64 (cnF p.int.toNat))
 | .i2f => .v (.float .f64 (FloatKind.f64.nearest p.int))
 | .sqrt=>fv (Ieee.double.sqrt p.flt)
 | .isnan => .v (.bool (isNaN p.flt))
 | .tab8 => .v (.int .u8 (len8 p.int))
 | .fld j=>p.cells.getD j default
 | .toA => .a p.list
 | .mkfn f => .fn f p.list
def B.den (o:B) (p q:PV):PV :=
 match o with
 | .add k => .v (.int k (k.wrap (p.int+q.int)))
 | .sub k => .v (.int k (k.wrap (p.int-q.int)))
 | .mul k => .v (.int k (k.wrap (p.int*q.int)))
 | .quo k => .v (.int k (k.wrap (p.int.tdiv q.int)))
 | .rem k => .v (.int k (p.int.tmod q.int))
 | .and k => .v (.int k (bitsOp .and k p.int q.int))
 | .or k => .v (.int k (bitsOp .or k p.int q.int))
 | .xor k => .v (.int k (bitsOp .xor k p.int q.int))
 | .andNot k => .v (.int k (bitsOp .andNot k p.int q.int))
 | .shl k => .v (.int k (k.wrap (p.int*2^(Nat.min q.int.toNat k.bits))))
 | .shr k => .v (.int k (p.int.fdiv (2^(Nat.min q.int.toNat k.bits))))
 | .eq => .v (.bool (p.int==q.int))
 | .ne => .v (.bool (p.int != q.int))
 | .lt => .v (.bool (p.int<q.int))
 | .le => .v (.bool (p.int≤q.int))
 | .gt => .v (.bool (p.int>q.int))
 | .ge => .v (.bool (p.int≥q.int))
 | .beq => .v (.bool (p.bool==q.bool))
 | .bne => .v (.bool (!(p.bool==q.bool)))
 | .fadd=>fv (Ieee.double.add p.flt q.flt)
 | .fsub=>fv (Ieee.double.sub p.flt q.flt)
 | .fmul=>fv (Ieee.double.mul p.flt q.flt)
 | .fdiv=>fv (Ieee.double.div p.flt q.flt)
 | .feq => .v (.bool (ordIs p.flt q.flt .eq))
 | .fne => .v (.bool (!(ordIs p.flt q.flt .eq)))
 | .flt => .v (.bool (ordIs p.flt q.flt .lt))
 | .fle => .v (.bool (ordIs p.flt q.flt .lt || ordIs p.flt q.flt .eq))
 | .fgt => .v (.bool (ordIs p.flt q.flt .gt))
 | .fge => .v (.bool (ordIs p.flt q.flt .gt || ordIs p.flt q.flt .eq))
 | .get=>p.list.getD q.int.toNat default
 | .app => .l (p.list++q.list)
 | .take => .l (p.list.take q.int.toNat)
 | .drop => .l (p.list.drop q.int.toNat)
 | .rep => .l (List.replicate p.int.toNat q)
 | .max k => .v (.int k (if p.int<q.int then q.int else p.int))
 | .min k => .v (.int k (if q.int<p.int then q.int else p.int))
 | .cons => .l (p::q.list)
 | .copy => .l (q.list.take p.list.length++p.list.drop q.list.length)
 | .seta j => .a (p.cells.set j q)
 | .iadd => .v (.int .i64 (p.int+q.int))
 | .isub => .v (.int .i64 (p.int-q.int))
def T3.den (o:T3) (p q r:PV):PV :=
 match o with
 | .ite=>if p.bool then q else r
 | .set => .l (p.list.set q.int.toNat r)
 | .ssub => .v (.int .u64 (Int.ofNat ((p.int.toNat+18446744073709551616-q.int.toNat-r.int.toNat)%18446744073709551616)))
 | .sborrow => .v (.int .u64 (Int.ofNat (if p.int.toNat<q.int.toNat+r.int.toNat then 1 else 0)))
def Exp.den (ρ:List PV):Exp→PV
 | .var n=>ρ.getD n default
 | .int k n => .v (.int k n)
 | .bool b => .v (.bool b)
 | .flt n => .v (.float .f64 n)
 | .nil => .l []
 | .un o x=>o.den (x.den ρ)
 | .bi o x y=>o.den (x.den ρ) (y.den ρ)
 | .tri o x y z=>o.den (x.den ρ) (y.den ρ) (z.den ρ)
def Exp.isTrue (ρ:List PV) (e:Exp):Bool:=(e.den ρ).bool
inductive Ex where
 | norm | ret | ext (id:Nat) | cont
 deriving DecidableEq
mutual
inductive TT (α:Type) where
 | leaf (x:Ex) (s:α)
 | yield (x:Ex) (xs:List Exp)
 | fail (why:Nat)
 | assert (e:Exp) (t:TT α)
 | call (g:Exp) (f:Nat) (xs:List Exp) (n:Nat) (t:TT α)
 | callv (x:Exp) (xs:List Exp) (n:Nat) (t:TT α)
 | ite (c:Exp) (a b:TT α)
 | scope (t:TT α) (ks:KS α)
 | loop (init:List Exp) (t:TT α) (ks:KS α)
inductive KS (α:Type) where
 | nil
 | cons (x:Ex) (t:TT α) (ks:KS α)
end
inductive Out (α:Type) where
 | y (x:Ex) (vs:List PV)
 | lf (x:Ex) (s:α) (ρ:List PV)
def iter {α:Type} (f:List PV→Option (Out α)):Nat→List PV→Option (Out α)
 | 0,_=>none
 | n+1,vs=>match f vs with
  | some (.y .cont vs')=>iter f n vs'
  | o=>o
section
variable {α:Type} (F:Nat→List PV→Option (List PV)) (N:Nat)
mutual
def TT.den:TT α→List PV→Option (Out α)
 | .leaf x s,ρ=>some (.lf x s ρ)
 | .yield x xs,ρ=>some (.y x (xs.map (Exp.den ρ)))
 | .fail _,_=>none
 | .assert e t,ρ=>if e.isTrue ρ then t.den ρ else none
 | .call g f xs n t,ρ =>
  if g.isTrue ρ then
   match F f (xs.map (Exp.den ρ)) with
   | some rs=>if rs.length=n then t.den (ρ++rs) else none
   | none=>none
  else t.den (ρ++List.replicate n default)
 | .callv x xs n t,ρ =>
  match x.den ρ with
  | .fn f caps =>
   match F f (xs.map (Exp.den ρ)++caps) with
   | some rs=>if rs.length=n then t.den (ρ++rs) else none
   | none=>none
  | _=>none
 | .ite c a b,ρ=>if c.isTrue ρ then a.den ρ else b.den ρ
 | .scope t ks,ρ =>
  match t.den ρ with
  | some (.y x vs)=>ks.den x vs ρ
  | _=>none
 | .loop init t ks,ρ =>
  match iter (fun vs=>t.den (ρ++vs)) N (init.map (Exp.den ρ)) with
  | some (.y x vs)=>ks.den x vs ρ
  | _=>none
def KS.den:KS α→Ex→List PV→List PV→Option (Out α)
 | .nil,_,_,_=>none
 | .cons x t ks,y,vs,ρ=>if x=y then t.den (ρ++vs) else ks.den y vs ρ
end
end
def fden (tab:Nat→Option (TT Unit)):Nat→Nat→List PV→Option (List PV)
 | 0,_,_=>none
 | k+1,f,args =>
  match tab f with
  | none=>none
  | some t=>match t.den (fden tab k) k args with
   | some (.y .ret vs)=>some vs
   | _=>none
inductive Ty where
 | sc (κ:K) | fn (n m:List K) | sl (e:Ty) | agg (ts:Ty) | nil | cons (h t:Ty)
 deriving Inhabited,DecidableEq
def Ty.toList:Ty→List Ty | .cons h t=>h::t.toList | _=>[]
def Ty.ofList:List Ty→Ty | [] => .nil | h::t => .cons h (ofList t)
def Ty.cells:Ty→List Ty | .agg ts=>ts.toList | t=>[t]
inductive SC where
 | e (x:Exp) (κ:K) | raw (x:Exp) | ro (x:Exp) (t:Ty) | nilS | own (s:Nat) | sub (s z:Nat) (off len:Exp)
 | ptr (s off:Nat) | adr (s z:Nat) (i:Exp) (j:Nat) | adrR (x:Exp) (t:Ty) (i:Exp) (j:Nat) | fnv (x:Exp) (n m:List K) | dead
 deriving Inhabited,DecidableEq
inductive SV where
 | c (x:SC) | agg (xs:List SC) | tup (xs:List (Bool × List SC)) | fn (fid:FuncId) (caps:List SC)
 deriving Inhabited,DecidableEq
inductive Obj where
 | box (cells:List SC) | rbox (cells:List SC) | row (x:Exp) (t:Ty) | rrow (x:Exp) (t:Ty) | gone
 deriving Inhabited,DecidableEq
structure Slot where
 g:List (Exp × Bool)
 v:SV
 deriving Inhabited,DecidableEq
structure Sym where
 tm:List (Option Slot)
 objs:List (Option Obj)
 nv:Nat
 deriving Inhabited,DecidableEq
inductive CS where
 | sc (κ:K) | ro (t:Ty) | own (t:Ty) | mv (t:Ty) | bx (ts:List Ty) | rbx (ts:List Ty) | fnv (n m:List K)
 deriving Inhabited,DecidableEq
inductive RS where
 | sc (κ:K) | ro (t:Ty) | own (t:Ty)
 deriving Inhabited,DecidableEq
structure Spec where
 params:List (Bool × List CS)
 results:List (Bool × List RS)
 deriving Inhabited,DecidableEq
structure Ctx where
 P:Program
 fid:FuncId→Option Nat
 spec:Nat→Option Spec
 canon:Option Nat
inductive RM (α:Type) where
 | ret (a:α) | fail | ev (t:Nat) (k:Slot→RM α) | ob (s:Nat) (k:Obj→RM α)
def RM.bind {α β:Type}:RM α→(α→RM β)→RM β
 | .ret a,f=>f a
 | .fail,_ => .fail
 | .ev t k,f => .ev t fun s=>(k s).bind f
 | .ob t k,f => .ob t fun s=>(k s).bind f
instance:Monad RM where
 pure := .ret
 bind:=RM.bind
structure Log where
 ts:List Nat
 ss:List Nat
def RM.run {α:Type} (E:Nat→Option Slot) (O:Nat→Option Obj):RM α→Option (α × Log)
 | .ret a=>some (a,⟨[],[]⟩)
 | .fail=>none
 | .ev t k=>match E t with
  | some s=>match (k s).run E O with | some (a,l)=>some (a,⟨t::l.ts,l.ss⟩) | none=>none
  | none=>none
 | .ob t k=>match O t with
  | some s=>match (k s).run E O with | some (a,l)=>some (a,⟨l.ts,t::l.ss⟩) | none=>none
  | none=>none
def guardB (b:Bool):RM Unit:=if b then .ret () else .fail
def ofOpt {α:Type}:Option α→RM α | some a => .ret a | none => .fail
def rdObj (s:Nat):RM Obj := .ob s .ret
abbrev Gd:=List (Exp × Bool)
def litSC:Value→Option SC
 | .int k n=>some (.e (.int k n) (.i k))
 | .bool b=>some (.e (.bool b) .b)
 | .float .f64 b=>if isNaN b then none else some (.e (.flt b) .f)
 | .slice none 0 0=>some .nilS
 | _=>none
def litSV:Value→Option SV
 | .agg cs=>(cs.toList.mapM litSC).map .agg
 | v=>(litSC v).map .c
def rd (cur:Gd):Operand→RM SV
 | .tmp t => .ev t fun sl=>if sl.g.all (cur.contains ·) then .ret sl.v else .fail
 | .const v=>ofOpt (litSV v)
 | .func f => .ret (.fn f [])
 | .global _ => .fail
structure Res where
 as:List Exp:=[]
 cl:Option (Option Nat × Exp × List Exp):=none
 v:SV
 news:List Obj:=[]
 upds:List (Nat × Obj):=[]
 nb:Nat:=0
def scE:SC→RM (Exp × K × List Exp)
 | .e x κ => .ret (x,κ,[])
 | .raw x => .ret (.un .f2b x,.i .u64,[.un .not (.un .isnan x)])
 | _ => .fail
def svE:SV→RM (Exp × K × List Exp)
 | .c x=>scE x
 | _ => .fail
def eOnly:SV→RM (Exp × K)
 | .c (.e x κ) => .ret (x,κ)
 | _ => .fail
def intE (v:SV):RM (Exp × List Exp):=do
 let (x,κ,as) ←svE v
 match κ with
 | .i _ => .ret (x,as)
 | _ => .fail
def eOf (κ:K) (v:SV):RM Exp:=do
 let (x,κ') ←eOnly v
 guardB (κ==κ')
 .ret x
def listE:SC→RM (Exp × Option Ty)
 | .ro x t => .ret (x,some t)
 | .nilS => .ret (.nil,none)
 | .own s => .ob s fun | .row x t | .rrow x t => .ret (x,some t) | _ => .fail
 | .sub s z off len => .ob s fun
  | .row x t | .rrow x t=>if z==t.cells.length then .ret (.bi .take (.bi .drop x off) len,some t) else .fail
  | _ => .fail
 | _ => .fail
def fits (t:Ty):Option Ty→Bool
 | none=>true
 | some t'=>t==t'
def siteOf:SC→List Nat
 | .own s | .sub s _ _ _=>[s]
 | _=>[]
def SV.cellsL:SV→Option (List SC)
 | .c x=>some [x]
 | .agg xs=>some xs
 | _=>none
def isAggT (P:Program) (t:TypeId):Bool :=
 match P.underlying t with
 | some (.struct _) | some (.array ..)=>true
 | _=>false
def sizeT (P:Program) (t:TypeId):Option Nat:=(P.info? t).map (·.size)
def hasZero (P:Program) (t:TypeId):Bool :=
 match P.info? t with
 | some i=>match i.zero with
  | some z=>z.cells.size==i.size
  | none=>false
 | none=>false
def bytesT (P:Program) (t:TypeId):Option Nat:=(P.info? t).map (·.bytes)
def isStruct (P:Program) (t:TypeId):Bool :=
 match P.underlying t with
 | some (.struct _)=>true
 | _=>false
def zeroT (P:Program) (t:TypeId):Option (List SC) :=
 match P.info? t with
 | some i=>match i.zero with
  | some z=>z.cells.toList.mapM litSC
  | none=>none
 | none=>none
def mkSV (agg:Bool) (cs:List SC):Option SV :=
 if agg then some (.agg cs) else match cs with
  | [c]=>some (.c c)
  | _=>none
def kindT (P:Program) (t:TypeId):Option K :=
 match P.underlying t with
 | some (.int k)=>some (.i k)
 | some .bool=>some .b
 | some (.float .f64)=>some .f
 | _=>none
def cty (P:Program):Nat→TypeId→Option Ty
 | 0,_=>none
 | n+1,t=>match P.underlying t with
  | some (.int k)=>some (.sc (.i k))
  | some .bool=>some (.sc .b)
  | some (.float .f64)=>some (.sc .f)
  | some (.slice e)=>(cty P n e).map .sl
  | some (.struct fs)=>(fs.toList.mapM fun f=>(cty P n f.type).map Ty.cells).map fun l => .agg (Ty.ofList l.flatten)
  | some (.array m e)=>(cty P n e).map fun t => .agg (Ty.ofList (List.replicate m t.cells).flatten)
  | some (.func ps rs _)=>(ps.toList.mapM (kindT P)).bind fun a=>(rs.toList.mapM (kindT P)).map fun b => .fn a b
  | _=>none
def depthT:Nat:=12
def cellE (p:Exp):Ty→Option SC
 | .sc κ=>some (.e p κ)
 | .sl e=>some (.ro p e)
 | .fn n m=>some (.fnv p n m)
 | _=>none
def cellsE (p:Exp) (ts:List Ty) (j n:Nat):Option (List SC) :=
 ((List.range n).mapM fun k=>(ts[j+k]?).bind fun t=>cellE (.un (.fld (j+k)) p) t)
def elemLoad (agg:Bool) (size:Nat) (p:Exp) (t:Ty) (j:Nat):Option SV :=
 match t with
 | .agg ts=>if j+size≤ts.toList.length then (cellsE p ts.toList j size).bind (mkSV agg) else none
 | t=>if agg || j != 0 then none else (cellE p t).map .c
def fillL (cs:List SC) (off:Nat) (vs:List SC):List SC:=cs.take off++vs++cs.drop (off+vs.length)
def expList:List Exp→Exp
 | [] => .nil
 | x::xs => .bi .cons x (expList xs)
def cellIn (c:SC) (t:Ty):RM (Exp × List Nat) :=
 match t with
 | .sc κ=>match c with
  | .e x κ'=>do guardB (κ==κ'); .ret (x,[])
  | _ => .fail
 | .sl e=>do
  let (x,t') ←listE c
  guardB (fits e t')
  .ret (x,siteOf c)
 | .fn n m=>match c with
  | .fnv x n' m'=>do guardB (n==n'&&m==m'); .ret (x,[])
  | _ => .fail
 | _ => .fail
def cellsIn:List SC→List Ty→RM (List Exp × List Nat)
 | [],[] => .ret ([],[])
 | c::cs,t::ts=>do
  let (x,s) ←cellIn c t
  let (xs,ss) ←cellsIn cs ts
  .ret (x::xs,s++ss)
 | _,_ => .fail
def elemIn (v:SV) (t:Ty):RM (Exp × List Nat) :=
 match t with
 | .agg ts=>match v with
  | .agg cs=>do
   let (xs,ss) ←cellsIn cs ts.toList
   .ret (.un .toA (expList xs),ss)
  | _ => .fail
 | t=>match v with
  | .c c=>cellIn c t
  | _ => .fail
def freeze:List Nat→RM (List (Nat × Obj))
 | [] => .ret []
 | s::ss => .ob s fun
  | .row x t=>do let r ←freeze ss; .ret ((s,.rrow x t)::r)
  | .rrow _ _=>freeze ss
  | _ => .fail
def conj:Gd→Exp
 | [] => .bool true
 | [(x,b)]=>if b then x else .un .not x
 | (x,b)::r => .tri .ite (if b then x else .un .not x) (conj r) (.bool false)
def eqOp:K→Option B
 | .i _=>some .eq
 | .b=>some .beq
 | .f=>none
def eqStruct (P:Program):List Field→Nat→List SC→List SC→Option Exp
 | [],_,[],[]=>some (.bool true)
 | f::fs,k,.e x κ::xs,.e y κ'::ys =>
  if f.name != "_" && f.offset==k&&κ==κ'&&kindT P f.type==some κ then
   (eqOp κ).bind fun o=>(eqStruct P fs (k+1) xs ys).map fun r => .tri .ite (.bi o x y) r (.bool false)
  else none
 | _,_,_,_=>none
def lit0:Exp := .int .i64 0
def inRange (i n:Exp):List Exp:=[.bi .le lit0 i,.bi .lt i n]
def bound:Int:=140737488355328
def foldI (o:B) (x y:Exp):Exp :=
 match x,y with
 | .int k a,.int k' b =>
  match o with
  | .add j=>if k==j&&k'==j then .int j (j.wrap (a+b)) else .bi o x y
  | .sub j=>if k==j&&k'==j then .int j (j.wrap (a-b)) else .bi o x y
  | .lt => .bool (a<b)
  | .ge => .bool (a≥b)
  | .gt => .bool (a>b)
  | .le => .bool (a≤b)
  | .eq => .bool (a==b)
  | .ne => .bool (a != b)
  | _ => .bi o x y
 | _,_ => .bi o x y
def absS (C:Ctx) (op:BinOp) (t:TypeId) (x y:SV):Option Res :=
 match op,C.P.underlying t,x,y with
 | .andNot,some (.int .u64),.c (.raw e),.c (.e (.int .u64 m) (.i .u64)) =>
  if m==9223372036854775808 then some { v := .c (.raw (.un .b2f (.bi (.andNot .u64) (.un .f2b e) (.int .u64 9223372036854775808)))) } else none
 | _,_,_,_=>none
def binS (C:Ctx) (op:BinOp) (t:TypeId) (x y:SV):RM Res :=
 match C.P.underlying t with
 | some (.int k)=>do
  let (a,κ,as) ←svE x
  let (b,κ',bs) ←svE y
  guardB (κ == .i k)
  let sh (o:B):RM Res:=match κ' with
   | .i _ => .ret { as:=as++bs++[.bi .ge b lit0],v := .c (.e (.bi o a b) (.i k)) }
   | _ => .fail
  let r (o:B) (ex:List Exp:=[]):RM Res:=do guardB (κ' == .i k); .ret { as:=as++bs++ex,v := .c (.e (foldI o a b) (.i k)) }
  let c (o:B):RM Res:=do guardB (κ' == .i k); .ret { as:=as++bs,v := .c (.e (foldI o a b) .b) }
  match op with
  | .add=>r (.add k)
  | .sub=>r (.sub k)
  | .mul=>r (.mul k)
  | .quo=>r (.quo k) [.bi .ne b (.int k 0)]
  | .rem=>r (.rem k) [.bi .ne b (.int k 0)]
  | .and=>r (.and k)
  | .or=>r (.or k)
  | .xor=>r (.xor k)
  | .andNot=>r (.andNot k)
  | .shl=>sh (.shl k)
  | .shr=>sh (.shr k)
  | .eql=>c .eq
  | .neq=>c .ne
  | .lss=>c .lt
  | .leq=>c .le
  | .gtr=>c .gt
  | .geq=>c .ge
 | some .bool=>do
  let a ←eOf .b x
  let b ←eOf .b y
  match op with
  | .eql => .ret { v := .c (.e (.bi .beq a b) .b) }
  | .neq => .ret { v := .c (.e (.bi .bne a b) .b) }
  | _ => .fail
 | some (.float .f64)=>do
  let a ←eOf .f x
  let b ←eOf .f y
  let r (o:B):RM Res := .ret { v := .c (.e (.bi o a b) .f) }
  let c (o:B):RM Res := .ret { v := .c (.e (.bi o a b) .b) }
  match op with
  | .add=>r .fadd
  | .sub=>r .fsub
  | .mul=>r .fmul
  | .quo=>r .fdiv
  | .eql=>c .feq
  | .neq=>c .fne
  | .lss=>c .flt
  | .leq=>c .fle
  | .gtr=>c .fgt
  | .geq=>c .fge
  | _ => .fail
 | some (.struct fs) =>
  match x,y with
  | .agg xs,.agg ys=>do
   guardB (!C.P.stoodInHeld t && !C.P.eqGuardType C.P.depth t)
   let e ←ofOpt (eqStruct C.P fs.toList 0 xs ys)
   match op with
   | .eql => .ret { v := .c (.e e .b) }
   | .neq => .ret { v := .c (.e (.un .not e) .b) }
   | _ => .fail
  | _,_ => .fail
 | _ => .fail
def unS (C:Ctx) (op:UnOp) (t:TypeId) (x:SV):RM Res:=do
 let (a,κ,as) ←svE x
 match C.P.underlying t,op with
 | some (.int k),.neg=>do guardB (κ == .i k); .ret { as,v := .c (.e (.un (.neg k) a) κ) }
 | some (.int k),.xor=>do guardB (κ == .i k); .ret { as,v := .c (.e (.un (.cpl k) a) κ) }
 | some .bool,.not=>do guardB (κ == .b); .ret { as,v := .c (.e (.un .not a) .b) }
 | some (.float .f64),.neg=>do guardB (κ == .f); .ret { as,v := .c (.e (.un .fneg a) .f) }
 | _,_ => .fail
def convS (C:Ctx) (src dst:TypeId) (x:SV):RM Res:=do
 let (a,κ,as) ←svE x
 match C.P.underlying src,C.P.underlying dst with
 | some (.int k'),some (.int k)=>do guardB (κ == .i k'); .ret { as,v := .c (.e (.un (.conv k) a) (.i k)) }
 | some (.int k'),some (.float .f64)=>do guardB (κ == .i k'); .ret { as,v := .c (.e (.un .i2f a) .f) }
 | some (.float .f64),some (.float .f64)=>do guardB (κ == .f); .ret { as,v := .c (.e a .f) }
 | _,_ => .fail
def cutAs (lo hi mx:Option Exp) (n:Exp):List Exp :=
 (match lo with | none=>[] | some a=>[.bi .le lit0 a,.bi .le a (hi.getD n)]) ++
 (match hi with | none=>[] | some h=>[.bi .le lit0 h,.bi .le h (mx.getD n)])++(match mx with | none=>[] | some m=>[.bi .le m n])
def cutE (lo hi:Option Exp) (l:Exp):Exp :=
 match lo with
 | none=>(match hi with | none=>l | some h => .bi .take l h)
 | some a => .bi .drop (match hi with | none=>l | some h => .bi .take l h) a
def cutLen (lo hi:Option Exp) (n:Exp):Exp :=
 match lo with
 | none=>hi.getD n
 | some a => .bi .isub (hi.getD n) a
def cutOff (off:Exp) (lo:Option Exp):Exp :=
 match lo with
 | none=>off
 | some a => .bi .iadd off a
def sliceS (sz:Option Nat) (x:SV) (lo hi mx:Option Exp):RM Res :=
 match x with
 | .c c=>do
  let (l,t) ←listE c
  let n:Exp := .un .len l
  guardB ((mx.isNone || hi.isSome)&&(match t with | some t=>sz==some t.cells.length | none=>false))
  let as:=cutAs lo hi mx n
  match c,t with
  | .ro _ _,some t => .ret { as,v := .c (.ro (cutE lo hi l) t) }
  | .own s,some t => .ret { as,v := .c (.sub s t.cells.length (lo.getD lit0) (cutLen lo hi n)) }
  | .sub s z off _,some _ => .ret { as,v := .c (.sub s z (cutOff off lo) (cutLen lo hi n)) }
  | _,_ => .fail
 | _ => .fail
def indexS (C:Ctx) (t:TypeId) (x:SV) (i:Exp) (as:List Exp):RM Res :=
 match C.P.underlying t with
 | some (.slice e)=>match x with
  | .c c=>do
   let (l,t') ←listE c
   let t' ←ofOpt t'
   guardB (sizeT C.P e==some t'.cells.length)
   match c with
   | .ro _ _ => .ret { as:=as++inRange i (.un .len l),v := .c (.adrR l t' i 0) }
   | .own s => .ret { as:=as++inRange i (.un .len l),v := .c (.adr s t'.cells.length i 0) }
   | .sub s _ off _ => .ret { as:=as++inRange i (.un .len l),v := .c (.adr s t'.cells.length (.bi .iadd off i) 0) }
   | _ => .fail
  | _ => .fail
 | some (.array n e)=>match x,i with
  | .c (.ptr s off),.int _ k=>do
   let z ←ofOpt (sizeT C.P e)
   guardB (0≤k&&k<n&&z != 0)
   .ret { as,v := .c (.ptr s (off+k.toNat*z)) }
  | _,_ => .fail
 | _ => .fail
def pickCells (i:Exp):Nat→List (List SC)→Option (List SC)
 | _,[]=>none
 | _,[l]=>some l
 | n,l::ls=>(pickCells i (n+1) ls).bind fun r =>
  if l.length==r.length then
   (List.zip l r).mapM fun xy=>match xy with
    | (.e x κ,.e y κ')=>if κ==κ' then some (.e (.tri .ite (.bi .eq i (.int .i64 n)) x y) κ) else none
    | (.ro x t,.ro y t')=>if t==t' then some (.ro (.tri .ite (.bi .eq i (.int .i64 n)) x y) t) else none
    | _=>none
  else none
def chunks (z:Nat):Nat→List SC→List (List SC)
 | 0,_=>[]
 | n+1,l=>l.take z::chunks z n (l.drop z)
def allRo:List SC→RM (List SC × List Nat)
 | [] => .ret ([],[])
 | .e x κ::r=>do let (xs,ss) ←allRo r; .ret (.e x κ::xs,ss)
 | c::r=>do
  let (x,t) ←listE c
  let t ←ofOpt t
  let (xs,ss) ←allRo r
  .ret (.ro x t::xs,siteOf c++ss)
def indexV (C:Ctx) (t:TypeId) (x:SV) (i:Exp) (as:List Exp):RM Res :=
 match C.P.underlying t,x with
 | some (.array n e),.agg cs=>do
  let z ←ofOpt (sizeT C.P e)
  guardB (z != 0&&cs.length==n*z&&n != 0&&(C.P.underlying e).isSome)
  match i with
  | .int _ k=>do
   guardB (0≤k&&k<n)
   let v ←ofOpt (mkSV (isAggT C.P e) ((cs.drop (k.toNat*z)).take z))
   .ret { as,v }
  | _=>do
   let (cs',ss) ←allRo cs
   let r ←ofOpt (pickCells i 0 (chunks z n cs'))
   let v ←ofOpt (mkSV (isAggT C.P e) r)
   let us ←freeze ss.eraseDups
   .ret { as:=as++inRange i (.int .i64 n),v,upds:=us }
 | _,_ => .fail
structure Arg where
 xs:List Exp:=[]
 as:List Exp:=[]
 loans:List (Nat × CS):=[]
 ros:List Nat:=[]
 mvs:List Nat:=[]
 bxs:List Nat:=[]
def Arg.app (a b:Arg):Arg:=⟨a.xs++b.xs,a.as++b.as,a.loans++b.loans,a.ros++b.ros,a.mvs++b.mvs,a.bxs++b.bxs⟩
def boxCells (cs:List SC) (ts:List Ty):RM (Exp × List Nat):=do
 let (xs,ss) ←cellsIn cs ts
 .ret (.un .toA (expList xs),ss)
def rboxArg (c:SC) (ts:List Ty):RM Arg :=
 match c with
 | .ptr s 0 => .ob s fun
  | .box l=>do
   let (x,ss) ←boxCells l ts
   .ret { xs:=[x],ros:=ss,bxs:=[s] }
  | .rbox l=>do
   let (x,ss) ←boxCells l ts
   .ret { xs:=[x],ros:=ss }
  | _ => .fail
 | _ => .fail
def capArgs:List SC→List CS→RM Arg
 | [],[] => .ret {}
 | c::cs,.rbx ts::ps=>do
  let a ←rboxArg c ts
  let b ←capArgs cs ps
  .ret (a.app b)
 | _,_ => .fail
def argCell (raw:Bool) (c:SC) (p:CS):RM Arg :=
 match p with
 | .sc κ=>match c with
  | .raw x=>do
   guardB (κ == .i .u64)
   if raw then .ret { xs:=[.un .f2b x] } else .ret { xs:=[.un .f2b x],as:=[.un .not (.un .isnan x)] }
  | .e x κ'=>do guardB (κ==κ'); .ret { xs:=[x] }
  | _ => .fail
 | .ro t=>do
  let (x,t') ←listE c
  guardB (fits t t')
  .ret { xs:=[x],ros:=siteOf c }
 | .own t=>match c with
  | .own s => .ob s fun
   | .row x t'=>do guardB (t==t'); .ret { xs:=[x],loans:=[(s,.own t)] }
   | _ => .fail
  | _ => .fail
 | .mv t=>match c with
  | .nilS => .ret { xs:=[.nil] }
  | .own s => .ob s fun
   | .row x t'=>do guardB (t==t'); .ret { xs:=[x],mvs:=[s] }
   | _ => .fail
  | _ => .fail
 | .bx ts=>match c with
  | .ptr s 0 => .ob s fun
   | .box l=>do
    let (x,ss) ←boxCells l ts
    guardB ss.isEmpty
    .ret { xs:=[x],loans:=[(s,.bx ts)] }
   | _ => .fail
  | _ => .fail
 | .rbx ts=>rboxArg c ts
 | .fnv n m=>match c with
  | .fnv x n' m'=>do guardB (n==n'&&m==m'); .ret { xs:=[x] }
  | _ => .fail
def argCells (raw:Bool):List SC→List CS→RM Arg
 | [],[] => .ret {}
 | c::cs,p::ps=>do
  let a ←argCell raw c p
  let b ←argCells raw cs ps
  .ret (a.app b)
 | _,_ => .fail
def scalarSpec (n m:List K) (sp:Spec):Bool :=
 sp.params.take n.length==n.map (fun κ=>(false,[.sc κ]))&&sp.results==m.map (fun κ=>(false,[.sc κ]))
def isRbx:Bool × List CS→Bool
 | (false,[.rbx _])=>true
 | _=>false
def argOf (C:Ctx) (raw:Bool) (v:SV) (p:Bool × List CS):RM Arg :=
 match v with
 | .c c=>do guardB (!p.1); argCells raw [c] p.2
 | .agg cs=>do guardB p.1; argCells raw cs p.2
 | .fn fid caps=>match p with
  | (false,[.fnv n m])=>do
   let id ←ofOpt (C.fid fid)
   let sp ←ofOpt (C.spec id)
   guardB (scalarSpec n m sp&&(sp.params.drop n.length).all isRbx)
   let a ←capArgs caps ((sp.params.drop n.length).flatMap (·.2))
   .ret { a with xs:=[.un (.mkfn id) (expList a.xs)] }
  | _ => .fail
 | _ => .fail
def argsOf (C:Ctx) (raw:Bool):List SV→List (Bool × List CS)→RM Arg
 | [],[] => .ret {}
 | v::vs,p::ps=>do
  let a ←argOf C raw v p
  let b ←argsOf C raw vs ps
  .ret (a.app b)
 | _,_ => .fail
def resCells:List RS→(k ns:Nat)→List SC × List Obj
 | [],_,_=>([],[])
 | .sc κ::r,k,ns=>let (cs,os):=resCells r (k+1) ns; (.e (.var k) κ::cs,os)
 | .ro t::r,k,ns=>let (cs,os):=resCells r (k+1) ns; (.ro (.var k) t::cs,os)
 | .own t::r,k,ns=>let (cs,os):=resCells r (k+1) (ns+1); (.own ns::cs,.row (.var k) t::os)
def resAll:List (Bool × List RS)→(k ns:Nat)→List (Bool × List SC) × List Obj
 | [],_,_=>([],[])
 | (b,l)::r,k,ns =>
  let (cs,os):=resCells l k ns
  let (rs,os'):=resAll r (k+l.length) (ns+os.length)
  ((b,cs)::rs,os++os')
def svOf:List (Bool × List SC)→Option SV
 | [(b,cs)]=>mkSV b cs
 | l=>some (.tup l)
def loanBack:List (Nat × CS)→Nat→Option (List (Nat × Obj))
 | [],_=>some []
 | (s,.own t)::r,k=>(loanBack r (k+1)).map fun l=>(s,.row (.var k) t)::l
 | (s,.bx ts)::r,k=>do
  let l ←loanBack r (k+1)
  let cs ←cellsE (.var k) ts 0 ts.length
  some ((s,.box cs)::l)
 | _,_=>none
def nRes (sp:Spec):Nat:=(sp.results.map (·.2.length)).sum
def Ty.flat:Ty→Bool
 | .sc _ | .nil=>true
 | .fn .. | .sl _=>false
 | .agg ts=>ts.flat
 | .cons h t=>h.flat&&t.flat
def hasRo (sp:Spec):Bool :=
 (sp.results.any fun r=>r.2.any fun | .ro _=>true | .own t => !t.flat | .sc _=>false) ||
 (sp.params.any fun r=>r.2.any fun | .own t => !t.flat | .bx ts=>ts.any (!·.flat) | _=>false)
def nodupB:List Nat→Bool
 | []=>true
 | x::xs => !xs.contains x&&nodupB xs
def callS (C:Ctx) (ns nv:Nat) (id:Nat) (vs:List SV):RM Res:=do
 let sp ←ofOpt (C.spec id)
 let a ←argsOf C (C.canon==some id) vs sp.params
 let ls:=a.loans.map (·.1)++a.mvs
 guardB (nodupB ls&&(a.ros++a.bxs).all (!ls.contains ·)&&(!hasRo sp || a.bxs.isEmpty))
 let (cs,os):=resAll sp.results nv ns
 let v ←ofOpt (svOf cs)
 let back ←ofOpt (loanBack a.loans (nv+nRes sp))
 let fz ←if hasRo sp then freeze a.ros.eraseDups else .ret []
 .ret { as:=a.as,cl:=some (some id,.bool true,a.xs),v,news:=os,upds:=back++a.mvs.map (fun s=>(s,.gone))++fz,nb:=nRes sp+a.loans.length }
def callV (C:Ctx) (nv:Nat) (x:Exp) (n m:List K) (vs:List SV):RM Res:=do
 let a ←argsOf C false vs (n.map fun κ=>(false,[.sc κ]))
 let v ←ofOpt (svOf (resAll (m.map fun κ=>(false,[.sc κ])) nv 0).1)
 .ret { as:=a.as,cl:=some (none,x,a.xs),v,nb:=m.length }
def extS (name:String) (vs:List SV):RM Res :=
 if name == "math.Float64bits" then match vs with
  | [v]=>do
   let x ←eOf .f v
   .ret { v := .c (.raw x) }
  | _ => .fail
 else if name == "math.Float64frombits" then match vs with
  | [.c (.raw x)] => .ret { v := .c (.e x .f) }
  | [v]=>do
   let x ←eOf (.i .u64) v
   .ret { v := .c (.e (.un .b2f x) .f) }
  | _ => .fail
 else if name == "math.sqrt" then match vs with
  | [v]=>do
   let x ←eOf .f v
   .ret { v := .c (.e (.un .sqrt x) .f) }
  | _ => .fail
 else if name == "math/bits.Sub64" then match vs with
  | [v,w,u]=>do
   let x ←eOf (.i .u64) v
   let y ←eOf (.i .u64) w
   let b ←eOf (.i .u64) u
   .ret { as:=[.bi .le b (.int .u64 1)],v := .tup [(false,[.e (.tri .ssub x y b) (.i .u64)]),(false,[.e (.tri .sborrow x y b) (.i .u64)])] }
  | _ => .fail
 else .fail
def foldMM (o:B):Exp→List Exp→Exp
 | x,[]=>x
 | x,y::ys=>foldMM o (.bi o x y) ys
def eAll (κ:K):List SV→RM (List Exp)
 | [] => .ret []
 | v::vs=>do let x ←eOf κ v; let xs ←eAll κ vs; .ret (x::xs)
def lenS (C:Ctx) (ts:List TypeId) (vs:List SV):RM Res :=
 match ts,vs with
 | [t],[.c c]=>match C.P.underlying t with
  | some (.slice _)=>do
   let (x,_) ←listE c
   .ret { v := .c (.e (match x with | .nil=>lit0 | x => .un .len x) (.i .i64)) }
  | _ => .fail
 | _,_ => .fail
def mmS (C:Ctx) (big:Bool) (ts:List TypeId) (vs:List SV):RM Res :=
 match ts with
 | t::_=>match C.P.underlying t with
  | some (.int k)=>do
   let xs ←eAll (.i k) vs
   match xs with
   | x::xs => .ret { v := .c (.e (foldMM (if big then .max k else .min k) x xs) (.i k)) }
   | [] => .fail
  | _ => .fail
 | [] => .fail
def appE (x y:Exp):Exp:=match x with | .nil=>y | x => .bi .app x y
def appS (C:Ctx) (ns:Nat) (ts:List TypeId) (vs:List SV):RM Res :=
 match ts,vs with
 | [t,t2],[.c c,.c d]=>match C.P.underlying t,C.P.underlying t2 with
  | some (.slice e),some (.slice _)=>do
   let ty ←ofOpt (cty C.P depthT e)
   let z ←ofOpt (bytesT C.P e)
   guardB (t==t2&&hasZero C.P e)
   guardB (sizeT C.P e==some ty.cells.length&&z != 0&&ty.cells.length != 0)
   let (x,t1) ←listE c
   let (y,t2) ←listE d
   guardB (fits ty t1&&fits ty t2)
   let app:Exp:=appE x y
   let as:List Exp:=[.bi .le (.un .len app) (.int .i64 (bound/z))]
   match c with
   | .nilS => .ret { as,v := .c (.own ns),news:=[.row app ty] }
   | .own s=>do
    guardB (!(siteOf d).contains s)
    .ob s fun
    | .row _ _ => .ret { as,v := .c (.own ns),news:=[.row app ty],upds:=[(s,.gone)] }
    | _ => .fail
   | _ => .fail
  | _,_ => .fail
 | _,_ => .fail
def copyS (C:Ctx) (ts:List TypeId) (vs:List SV):RM Res :=
 match ts,vs with
 | [t,t2],[.c (.own s),.c d]=>match C.P.underlying t,C.P.underlying t2 with
  | some (.slice e),some (.slice _)=>do
   let (y,t2) ←listE d
   guardB (!(siteOf d).contains s)
   .ob s fun
   | .row x ty=>do
    guardB (fits ty t2&&sizeT C.P e==some ty.cells.length)
    .ret { v := .c (.e (.bi (.min .i64) (.un .len y) (.un .len x)) (.i .i64)),upds:=[(s,.row (.bi .copy x y) ty)] }
   | _ => .fail
  | _,_ => .fail
 | _,_ => .fail
def builtinS (C:Ctx) (ns:Nat) (b:Builtin) (ts:List TypeId) (vs:List SV):RM Res :=
 match b with
 | .len=>lenS C ts vs
 | .max=>mmS C true ts vs
 | .min=>mmS C false ts vs
 | .append=>appS C ns ts vs
 | .copy=>copyS C ts vs
 | _ => .fail
def placeOf (P:Program) (t:TypeId) (i:Nat):Option (Nat × Nat) :=
 match P.underlying t with
 | some (.struct fs)=>(fs[i]?).bind fun f=>(sizeT P f.type).map fun z=>(f.offset,z)
 | some (.array _ e)=>(sizeT P e).map fun z=>(i*z,z)
 | _=>none
def buildable (P:Program) (t:TypeId):Bool :=
 match P.underlying t with
 | some (.struct fs)=>fs.toList.all fun f=>(sizeT P f.type).isSome
 | some (.array _ e)=>(sizeT P e).isSome
 | _=>false
def buildL (P:Program) (t:TypeId):List (Nat × SV)→List SC→Option (List SC)
 | [],cs=>some cs
 | (i,v)::r,cs=>do
  let (off,z) ←placeOf P t i
  let vs ←v.cellsL
  if vs.length==z&&off+z≤cs.length then buildL P t r (fillL cs off vs) else none
def rdAll (cur:Gd):List Operand→RM (List SV)
 | [] => .ret []
 | x::xs=>do let v ←rd cur x; let vs ←rdAll cur xs; .ret (v::vs)
def elemsIn:List SV→Ty→RM (List Exp × List Nat)
 | [],_ => .ret ([],[])
 | v::vs,t=>do
  let (x,s) ←elemIn v t
  let (xs,ss) ←elemsIn vs t
  .ret (x::xs,s++ss)
def cellsOk (cs:List SC):Bool:=cs.all fun | .raw _ | .dead=>false | _=>true
def optE (cur:Gd):Option Operand→RM (Option Exp × List Exp)
 | none => .ret (none,[])
 | some x=>do let v ←rd cur x; let (e,as) ←intE v; .ret (some e,as)
def sop (C:Ctx) (cur:Gd) (ns nv:Nat) (o:Oper):RM Res :=
 match o.op with
 | .move x=>do let v ←rd cur x; .ret { v }
 | .assign x=>do
  let v ←rd cur x
  match v with
  | .c (.raw x) => .ret { as:=[.un .not (.un .isnan x)],v := .c (.e (.un .f2b x) (.i .u64)) }
  | v => .ret { v }
 | .pick c a b=>do
  let vc ←rd cur c
  let ec ←eOf .b vc
  let va ←rd (cur++[(ec,true)]) a
  let (ea,κ) ←eOnly va
  let vb ←rd (cur++[(ec,false)]) b
  let eb ←eOf κ vb
  .ret { v := .c (.e (.tri .ite ec ea eb) κ) }
 | .alloc t=>do
  let cs ←ofOpt (zeroT C.P t)
  guardB (sizeT C.P t==some cs.length)
  .ret { v := .c (.ptr ns 0),news:=[.box cs] }
 | .box t x=>do
  let v ←rd cur x
  let cs ←ofOpt v.cellsL
  guardB (cellsOk cs&&sizeT C.P t==some cs.length)
  .ret { v := .c (.ptr ns 0),news:=[.box cs] }
 | .build t parts=>do
  let vs ←rdAll cur (parts.toList.map (·.2))
  let z ←ofOpt (zeroT C.P t)
  let cs ←ofOpt (buildL C.P t (List.zip (parts.toList.map (·.1)) vs) z)
  guardB (cellsOk cs&&buildable C.P t)
  .ret { v := .agg cs }
 | .buildSlice t len parts=>match C.P.underlying t with
  | some (.slice e)=>do
   let ty ←ofOpt (cty C.P depthT e)
   guardB (sizeT C.P e==some ty.cells.length&&parts.toList.map (·.1)==List.range len&&len≤64&&ty.cells.length≤64&&ty.cells.length != 0&&hasZero C.P e)
   let vs ←rdAll cur (parts.toList.map (·.2))
   let (xs,ss) ←elemsIn vs ty
   let us ←freeze ss.eraseDups
   if cur.isEmpty then .ret { v := .c (.own ns),news:=[.row (expList xs) ty],upds:=us } else .ret { v := .c (.ro (expList xs) ty),upds:=us }
  | _ => .fail
 | .load t a=>do
  let v ←rd cur a
  let z ←ofOpt (sizeT C.P t)
  guardB ((C.P.underlying t).isSome&&(isAggT C.P t || z==1))
  let agg:=isAggT C.P t
  match v with
  | .c (.ptr s off) => .ob s fun
   | .box cs | .rbox cs=>do
    guardB (off+z≤cs.length)
    let v ←ofOpt (mkSV agg ((cs.drop off).take z))
    .ret { v }
   | _ => .fail
  | .c (.adr s z' i j) => .ob s fun
   | .row x ty | .rrow x ty=>do
    guardB (z'==ty.cells.length)
    let v ←ofOpt (elemLoad agg z (.bi .get x i) ty j)
    .ret { v }
   | _ => .fail
  | .c (.adrR x ty i j)=>do
   let v ←ofOpt (elemLoad agg z (.bi .get x i) ty j)
   .ret { v }
  | _ => .fail
 | .store t a x=>do
  let v ←rd cur a
  let w ←rd cur x
  let z ←ofOpt (sizeT C.P t)
  match v with
  | .c (.ptr s off) => .ob s fun
   | .box cs=>do
    let vs ←ofOpt w.cellsL
    guardB (vs.length==z&&off+z≤cs.length&&cellsOk vs)
    .ret { v := .tup [],upds:=[(s,.box (fillL cs off vs))] }
   | _ => .fail
  | .c (.adr s z' i j) => .ob s fun
   | .row x ty=>match ty with
    | .agg ts=>match w with
     | .agg cs=>do
      guardB (z'==ts.toList.length&&j==0&&cs.length==z&&z==ts.toList.length)
      let (y,ss) ←elemIn (.agg cs) ty
      guardB (!ss.contains s)
      let us ←freeze ss.eraseDups
      .ret { v := .tup [],upds:=(s,.row (.tri .set x i y) ty)::us }
     | .c c=>do
      guardB (z'==ts.toList.length&&z==1)
      let t' ←ofOpt (ts.toList[j]?)
      let (y,ss) ←cellIn c t'
      guardB (!ss.contains s)
      let us ←freeze ss.eraseDups
      .ret { v := .tup [],upds:=(s,.row (.tri .set x i (.bi (.seta j) (.bi .get x i) y)) ty)::us }
     | _ => .fail
    | ty=>do
     guardB (z'==1&&j==0&&z==1)
     let (y,ss) ←elemIn w ty
     guardB (!ss.contains s)
     let us ←freeze ss.eraseDups
     .ret { v := .tup [],upds:=(s,.row (.tri .set x i y) ty)::us }
   | _ => .fail
  | _ => .fail
 | .nilCheck x=>do
  let v ←rd cur x
  match v with
  | .c (.ptr ..) | .c (.adr ..) | .c (.adrR ..) => .ret { v }
  | _ => .fail
 | .binOp op t x y _=>do
  let a ←rd cur x
  let b ←rd cur y
  match absS C op t a b with
  | some r => .ret r
  | none=>binS C op t a b
 | .unOp op t x=>do let a ←rd cur x; unS C op t a
 | .convert s d x=>do let a ←rd cur x; convS C s d a
 | .makeSlice t l c=>match C.P.underlying t with
  | some (.slice e)=>do
   let ty ←ofOpt (cty C.P depthT e)
   let zb ←ofOpt (bytesT C.P e)
   let zs ←ofOpt (zeroT C.P e)
   guardB (sizeT C.P e==some ty.cells.length&&zb != 0&&ty.cells.length != 0)
   let zv ←ofOpt (mkSV (isAggT C.P e) zs)
   let (z,ss) ←elemIn zv ty
   guardB ss.isEmpty
   let vl ←rd cur l
   let (a,as) ←intE vl
   let vc ←rd cur c
   let (b,bs) ←intE vc
   .ret { as:=as++bs++[.bi .le lit0 a,.bi .le a b,.bi .le b (.int .i64 (bound/zb))],v := .c (.own ns),news:=[.row (.bi .rep a z) ty] }
  | _ => .fail
 | .slice t x lo hi mx=>match C.P.underlying t with
  | some (.slice e)=>do
   let v ←rd cur x
   let (l,as) ←optE cur lo
   let (h,bs) ←optE cur hi
   let (m,cs) ←optE cur mx
   let r ←sliceS (sizeT C.P e) v l h m
   .ret { r with as:=as++bs++cs++r.as }
  | _ => .fail
 | .fieldAddr t x f=>do
  let v ←rd cur x
  let (off,z) ←ofOpt (placeOf C.P t f)
  guardB (z != 0&&isStruct C.P t)
  match v with
  | .c (.ptr s o) => .ret { v := .c (.ptr s (o+off)) }
  | .c (.adr s z' i j) => .ret { v := .c (.adr s z' i (j+off)) }
  | .c (.adrR x t i j) => .ret { v := .c (.adrR x t i (j+off)) }
  | _ => .fail
 | .field t x f=>do
  let v ←rd cur x
  let (off,z) ←ofOpt (placeOf C.P t f)
  match C.P.underlying t,v with
  | some (.struct fs),.agg cs=>do
   let ft ←ofOpt (fs[f]?)
   guardB (off+z≤cs.length&&(C.P.underlying ft.type).isSome)
   let v ←ofOpt (mkSV (isAggT C.P ft.type) ((cs.drop off).take z))
   .ret { v }
  | _,_ => .fail
 | .indexAddr t x i=>do
  let v ←rd cur x
  let vi ←rd cur i
  let (e,as) ←intE vi
  indexS C t v e as
 | .index t x i=>do
  let vi ←rd cur i
  let (e,as) ←intE vi
  match x with
  | .const (.string s)=>do
   guardB (s.data.toList==table8&&(match C.P.underlying t with | some .string=>true | _=>false))
   .ret { as:=as++inRange e (.int .i64 256),v := .c (.e (.un .tab8 e) (.i .u8)) }
  | x=>do
   let v ←rd cur x
   indexV C t v e as
 | .makeFunc fn first caps=>match fn with
  | .func f=>do
   guardB first.isEmpty
   let vs ←rdAll cur caps.toList
   let cs ←ofOpt (vs.mapM fun | .c c=>some c | _=>none)
   .ret { v := .fn f cs }
  | _ => .fail
 | .extract x i=>do
  let v ←rd cur x
  match v with
  | .tup l=>do
   let (b,cs) ←ofOpt (l[i]?)
   let v ←ofOpt (mkSV b cs)
   .ret { v }
  | _ => .fail
 | .call c=>match c.callee with
  | .builtin b=>do
   let vs ←rdAll cur c.args.toList
   builtinS C ns b c.argTypes.toList vs
  | .value f=>do
   let vf ←rd cur f
   let vs ←rdAll cur c.args.toList
   match vf with
   | .fn fid caps=>match C.P.funcs[fid]? with
    | some fn=>match fn.body with
     | none=>do guardB (fn.origin == "" && caps.isEmpty); extS fn.name vs
     | some _=>do
      let id ←ofOpt (C.fid fid)
      callS C ns nv id (vs++caps.map .c)
    | none => .fail
   | .c (.fnv x n m)=>callV C nv x n m vs
   | _ => .fail
  | _ => .fail
 | _ => .fail
def Sym.ev (σ:Sym) (t:Nat):Option Slot:=(σ.tm[t]?).join
def Sym.ob (σ:Sym) (s:Nat):Option Obj:=(σ.objs[s]?).join
inductive Eff where
 | as (e:Exp)
 | cl (g:Exp) (f:Option Nat) (x:Exp) (xs:List Exp) (n:Nat)
def Exp.closed (n:Nat):Exp→Bool
 | .var i=>i<n
 | .un _ x=>x.closed n
 | .bi _ x y=>x.closed n&&y.closed n
 | .tri _ x y z=>x.closed n&&y.closed n&&z.closed n
 | _=>true
def SC.closed (n:Nat):SC→Bool
 | .e x _ | .raw x | .ro x _ | .fnv x _ _=>x.closed n
 | .sub _ _ a b=>a.closed n&&b.closed n
 | .adr _ _ i _=>i.closed n
 | .adrR x _ i _=>x.closed n&&i.closed n
 | _=>true
def SV.closed (n:Nat):SV→Bool
 | .c x=>x.closed n
 | .agg xs | .fn _ xs=>xs.all (·.closed n)
 | .tup xs=>xs.all fun p=>p.2.all (·.closed n)
def Obj.closed (n:Nat):Obj→Bool
 | .box xs | .rbox xs=>xs.all (·.closed n)
 | .row x _ | .rrow x _=>x.closed n
 | .gone=>true
def Res.closed (n:Nat) (r:Res):Bool:=r.v.closed n&&r.news.all (·.closed n)&&r.upds.all (·.2.closed n)
def gdClosed (n:Nat) (g:Gd):Bool:=g.all (·.1.closed n)
def Slot.closed (n:Nat) (s:Slot):Bool:=gdClosed n s.g&&s.v.closed n
def Sym.closed (n:Nat) (σ:Sym):Bool :=
 (σ.tm.all fun | some s=>s.closed n | none=>true)&&(σ.objs.all fun | some o=>o.closed n | none=>true)
def Eff.closed (n:Nat):Eff→Bool
 | .as e=>e.closed n
 | .cl g _ x xs _=>g.closed n&&x.closed n&&xs.all (·.closed n)
def chkUpds:List (Nat × Obj)→RM Unit
 | [] => .ret ()
 | (s,.rrow x t)::us => .ob s fun
  | .row x' t'=>do
   guardB (x==x'&&t==t')
   chkUpds us
  | _ => .fail
 | _ => .fail
def Res.k (r:Res):Nat:=if r.cl.isSome then r.nb else 0
def guardOf (ops:Array Oper) (o:Oper):RM Gd :=
 match o.guard with
 | none => .ret []
 | some (j,want)=>match (ops[j]?).bind (·.dst) with
  | some d => .ev d fun sl=>match sl.v with
   | .c (.e x .b) => .ret (sl.g++[(x,want)])
   | _ => .fail
  | none => .fail
def opRes (C:Ctx) (ops:Array Oper) (ns nv:Nat) (o:Oper):RM (Gd × Res):=do
 let cur ←guardOf ops o
 let r ←sop C cur ns nv o
 if cur.isEmpty then .ret (cur,r) else do
  guardB r.news.isEmpty
  chkUpds r.upds
  .ret (cur,r)
def effsOf (cur:Gd) (r:Res):List Eff :=
 r.as.map (fun e => .as (if cur.isEmpty then e else .tri .ite (conj cur) e (.bool true))) ++
 (match r.cl with
  | none=>[]
  | some (f,x,xs)=>[.cl (conj cur) f x xs r.nb])
def setO (l:List (Option Obj)) (s:Nat) (o:Obj):List (Option Obj) :=
 if s<l.length then l.set s (some o) else l++List.replicate (s-l.length) none++[some o]
def putNews (l:List (Option Obj)):Nat→List Obj→List (Option Obj)
 | _,[]=>l
 | s,o::os=>putNews (setO l s o) (s+1) os
def applyR (σ:Sym) (o:Oper) (cur:Gd) (r:Res) (ns nv:Nat):Sym :=
 {tm:=match o.dst with | some d=>σ.tm.set d (some ⟨cur,r.v⟩) | none=>σ.tm
  objs:=putNews (r.upds.foldl (fun l u=>setO l u.1 u.2) σ.objs) ns r.news
  nv:=nv }
def seqR (C:Ctx) (ops:Array Oper):List Oper→Sym→Option (List Eff × Sym)
 | [],σ=>some ([],σ)
 | o::r,σ =>
  match (opRes C ops σ.objs.length σ.nv o).run σ.ev σ.ob with
  | some ((cur,res),_) =>
   if (effsOf cur res).all (·.closed σ.nv)&&res.closed (σ.nv+res.k)&&gdClosed σ.nv cur then
    match seqR C ops r (applyR σ o cur res σ.objs.length (σ.nv+res.k)) with
    | some (es,σ')=>some (effsOf cur res++es,σ')
    | none=>none
   else none
  | none=>none
def befs:List Oper→List Nat→List Nat
 | [],acc=>acc
 | o::r,acc=>befs r (acc++[o.after.toList.foldl (fun s e=>if Region.binds .any e then s ||| (1 <<< e.on) ||| (acc.getD e.on 0) else s) 0])
structure Done where
 o:Oper
 cur:Gd
 r:Res
 ns:Nat
 log:Log
def stateOf (σ:Sym) (b:Nat):Nat→List Done→Sym
 | _,[]=>σ
 | j,d::r=>stateOf (if b.testBit j then applyR σ d.o d.cur d.r d.ns σ.nv else σ) b (j+1) r
def drawGo (C:Ctx) (ops:Array Oper) (σ:Sym):List (Oper × Nat)→(ns nv:Nat)→List Done→Option (List Done × Nat)
 | [],_,nv,acc=>some (acc,nv)
 | (o,b)::r,ns,nv,acc =>
  let s:=stateOf σ b 0 acc
  match (opRes C ops ns nv o).run s.ev s.ob with
  | some ((cur,res),log) =>
   if (effsOf cur res).all (·.closed nv)&&res.closed (nv+res.k)&&gdClosed nv cur then drawGo C ops σ r (ns+res.news.length) (nv+res.k) (acc++[⟨o,cur,res,ns,log⟩]) else none
  | none=>none
def inNews (d:Done) (s:Nat):Bool:=decide (d.ns≤s)&&decide (s<d.ns+d.r.news.length)
def apartD (x y:Done):Bool :=
 (match x.o.dst with | some d => !y.log.ts.contains d&&y.o.dst != some d | none=>true) &&
 (match y.o.dst with | some d => !x.log.ts.contains d | none=>true) &&
 (x.r.upds.all fun u => !y.log.ss.contains u.1&&(y.r.upds.all fun v=>v.1 != u.1) && !inNews y u.1) &&
 (y.r.upds.all fun u => !x.log.ss.contains u.1 && !inNews x u.1) &&
 (x.log.ss.all fun s => !inNews y s)&&(y.log.ss.all fun s => !inNews x s)
def pairsOk (bs:List Nat) (ds:List Done):Bool :=
 let l:=ds.zip (bs.zipIdx)
 l.all fun (x,_,i)=>l.all fun (y,by_,j)=>i≥j || (decide (x.ns+x.r.news.length≤y.ns)&&(by_.testBit i || apartD x y))
def wfAfter (ops:List Oper):Bool :=
 ops.zipIdx.all fun (o,i)=>o.after.toList.all fun e => !Region.binds .any e || decide (e.on<i)
def drawR (C:Ctx) (ops:Array Oper) (σ:Sym):Option (List Eff × Sym) :=
 let bs:=befs ops.toList []
 match drawGo C ops σ (ops.toList.zip bs) σ.objs.length σ.nv [] with
 | some (ds,nv) =>
  if wfAfter ops.toList&&pairsOk bs ds then
   some (ds.flatMap fun d=>effsOf d.cur d.r,ds.foldl (fun s d=>applyR s d.o d.cur d.r d.ns nv) σ)
  else none
 | none=>none
def mkEffs:List Eff→TT Sym→TT Sym
 | [],t=>t
 | .as e::r,t => .assert e (mkEffs r t)
 | .cl g (some f) _ xs n::r,t => .call g f xs n (mkEffs r t)
 | .cl _ none x xs n::r,t => .callv x xs n (mkEffs r t)
def opTmp:Operand→Nat | .tmp t=>1 <<< t | _=>0
def opReads (ops:Array Oper) (o:Oper):Nat :=
 o.op.operands.toList.foldl (fun m x=>m ||| opTmp x) (match o.guard with | some (j,_)=>(((ops[j]?).bind (·.dst)).map (1 <<< ·)).getD 0 | none=>0)
def opWrites (o:Oper):Nat:=(o.dst.map (1 <<< ·)).getD 0
def sub2 (a b:Nat):Nat:=a ^^^ (a &&& b)
def codeDefs:Code→Nat
 | .region _ ops _=>ops.toList.foldl (fun m o=>if o.guard.isSome then m else m ||| opWrites o) 0
 | .seq a b=>codeDefs a ||| codeDefs b
 | .cond _ a b=>codeDefs a &&& codeDefs b
 | .scope a=>codeDefs a
 | _=>0
def codeReads:Code→Nat
 | .region _ ops _=>(ops.toList.foldl (fun (r,d) o=>(r ||| sub2 (opReads ops o) d,d ||| opWrites o)) (0,0)).1
 | .seq a b=>codeReads a ||| sub2 (codeReads b) (codeDefs a)
 | .cond c a b=>opTmp c ||| codeReads a ||| codeReads b
 | .block _ a | .loop a | .scope a=>codeReads a
 | _=>0
def codeWrites:Code→Nat
 | .region _ ops _=>ops.toList.foldl (fun m o=>m ||| opWrites o) 0
 | .seq a b=>codeWrites a ||| codeWrites b
 | .cond _ a b=>codeWrites a ||| codeWrites b
 | .block _ a | .loop a | .scope a=>codeWrites a
 | _=>0
structure GS where
 cnt:Nat
 pairs:List (Nat × Option Nat)
 news:List (Option Obj)
abbrev G:=StateM GS
def gFresh:G Exp:=fun s=>(.var s.cnt,{ s with cnt:=s.cnt+1 })
def gPair (h:Nat) (s:Option Nat):G Bool:=fun g =>
 match g.pairs.find? (·.1==h) with
 | some p=>(p.2==s,g)
 | none=>if s.isSome&&g.pairs.any (·.2==s) then (false,g) else (true,{ g with pairs:=g.pairs++[(h,s)] })
def lubE (fr:Bool) (n0:Nat) (a b:Exp):G Exp :=
 match a with
 | .var i=>if i<n0 then (if a==b then pure a else gFresh) else if fr then gFresh else pure a
 | a=>if a==b&&a.closed n0 then pure a else gFresh
def contentOf (σ:Sym):SC→Option (Exp × Ty)
 | .ro x t=>some (x,t)
 | .own s=>match σ.ob s with | some (.row x t) | some (.rrow x t)=>some (x,t) | _=>none
 | .sub s _ off len=>match σ.ob s with | some (.row x t) | some (.rrow x t)=>some (.bi .take (.bi .drop x off) len,t) | _=>none
 | _=>none
def lubC (fr:Bool) (n0:Nat) (h σ:Sym) (a b:SC):G SC :=
 match a,b with
 | .e a κ,.e b κ'=>do if κ==κ' then pure (.e (←lubE fr n0 a b) κ) else pure .dead
 | .ro a t,.nilS=>do pure (.ro (←lubE fr n0 a .nil) t)
 | .nilS,.nilS=>pure .nilS
 | .nilS,.ro _ t=>do pure (.ro (←gFresh) t)
 | .own a,.own b=>do if ←gPair a (some b) then pure (.own a) else pure .dead
 | .own a,.nilS=>do if ←gPair a none then pure (.own a) else pure .dead
 | .nilS,.own b=>match σ.ob b with
  | some (.row _ t)=>fun g=>(.own (h.objs.length+g.news.length),{ g with pairs:=g.pairs++[(h.objs.length+g.news.length,some b)],news:=g.news++[some (.row (.var g.cnt) t)],cnt:=g.cnt+1 })
  | _=>pure .dead
 | .ptr a o,.ptr b o'=>do if o==o'&&(←gPair a (some b)) then pure (.ptr a o) else pure .dead
 | .fnv a n m,.fnv b n' m'=>do if n==n'&&m==m' then pure (.fnv (←lubE fr n0 a b) n m) else pure .dead
 | .sub a z o l,.sub b z' o' l'=>do
  if z==z'&&(←gPair a (some b)) then pure (.sub a z (←lubE fr n0 o o') (←lubE fr n0 l l')) else pure .dead
 | a,b=>match contentOf h a,contentOf σ b with
  | some (x,t),some (y,t')=>if t==t' then do pure (.ro (←lubE fr n0 x y) t) else pure .dead
  | _,_=>pure .dead
def lubCs (fr:Bool) (n0:Nat) (h σ:Sym):List SC→List SC→G (List SC)
 | a::as,b::bs=>do let c ←lubC fr n0 h σ a b; let cs ←lubCs fr n0 h σ as bs; pure (c::cs)
 | _,_=>pure []
def lubV (fr:Bool) (n0:Nat) (h σ:Sym) (a b:SV):G (Option SV) :=
 match a,b with
 | .c a,.c b=>do
  let c ←lubC fr n0 h σ a b
  pure (if c == .dead then none else some (.c c))
 | .agg as,.agg bs=>do if as.length==bs.length then pure (some (.agg (←lubCs fr n0 h σ as bs))) else pure none
 | .fn f cs,.fn g ds=>do if f==g&&cs.length==ds.length then pure (some (.fn f (←lubCs fr n0 h σ cs ds))) else pure none
 | _,_=>pure none
def lubT (fr:Bool) (n0:Nat) (L:Nat) (h σ:Sym):Nat→List (Option Slot)→List (Option Slot)→G (List (Option Slot))
 | i,some a::as,some b::bs=>do
  let c ←if L.testBit i&&a.g.isEmpty&&b.g.isEmpty then lubV fr n0 h σ a.v b.v else pure none
  let cs ←lubT fr n0 L h σ (i+1) as bs
  pure (c.map (⟨[],·⟩)::cs)
 | i,_::as,_::bs=>do pure (none::(←lubT fr n0 L h σ (i+1) as bs))
 | _,_,_=>pure []
def lubO (fr:Bool) (n0:Nat) (h σ:Sym) (a:Obj) (s:Option Nat):G Obj :=
 match s with
 | none=>match a with
  | .row x t=>do pure (.row (←lubE fr n0 x .nil) t)
  | _=>pure .gone
 | some s=>match a,σ.ob s with
  | .box as,some (.box bs)=>do if as.length==bs.length then pure (.box (←lubCs fr n0 h σ as bs)) else pure .gone
  | .rbox as,some (.rbox bs)=>do if as.length==bs.length then pure (.rbox (←lubCs fr n0 h σ as bs)) else pure .gone
  | .row x t,some (.row y t')=>do if t==t' then pure (.row (←lubE fr n0 x y) t) else pure .gone
  | .rrow x t,some (.row y t') | .rrow x t,some (.rrow y t') | .row x t,some (.rrow y t')=>do if t==t' then pure (.rrow (←lubE fr n0 x y) t) else pure .gone
  | _,_=>pure .gone
def lubW (fr:Bool) (n0:Nat) (h σ:Sym):Nat→List Nat→List (Option Obj)→G (List (Option Obj))
 | 0,_,l=>pure l
 | n+1,done,l=>fun g =>
  match g.pairs.reverse.find? fun p => !done.contains p.1 with
  | none=>(l,g)
  | some (a,s) =>
   if a<h.objs.length then
    match (h.objs[a]?).join with
    | some o=>let (o',g'):=lubO fr n0 h σ o s g; lubW fr n0 h σ n (a::done) (setO l a o') g'
    | none=>lubW fr n0 h σ n (a::done) l g
   else lubW fr n0 h σ n (a::done) l g
def lubS (fr:Bool) (n0:Nat) (L:Nat) (pins:List Nat) (h σ:Sym):Sym :=
 let g0:GS:=⟨if fr then n0 else h.nv,pins.map fun i=>(i,some i),[]⟩
 let (tm,g1):=lubT fr n0 L h σ 0 h.tm σ.tm g0
 let (os,g2):=lubW fr n0 h σ 200 [] (List.replicate h.objs.length none) g1
 { tm,objs:=os++g2.news,nv:=g2.cnt }
structure MS where
 args:List Exp
 sites:List (Nat × Option Nat)
 frz:List Nat
def MS.site (m:MS) (h:Nat):Option (Option Nat):=(m.sites.find? (·.1==h)).map (·.2)
def chkE (n0:Nat) (m:MS) (a b:Exp):Bool :=
 match a with
 | .var i=>if i<n0 then a==b else m.args[i-n0]? == some b
 | a=>a==b&&a.closed n0
def chkC (n0:Nat) (m:MS) (σ:Sym) (a b:SC):Bool :=
 match a,b with
 | .dead,_=>true
 | .e a κ,.e b κ'=>κ==κ'&&chkE n0 m a b
 | .ro a _,.nilS=>chkE n0 m a .nil
 | .ro a t,.ro b t'=>t==t'&&chkE n0 m a b
 | .ro a t,.own s=>match σ.ob s with
  | some (.row x t')=>t==t'&&chkE n0 m a x&&m.frz.contains s
  | some (.rrow x t')=>t==t'&&chkE n0 m a x
  | _=>false
 | .ro a t,.sub s z off len=>match σ.ob s with
  | some (.row x t')=>t==t'&&z==t'.cells.length&&chkE n0 m a (.bi .take (.bi .drop x off) len)&&m.frz.contains s
  | some (.rrow x t')=>t==t'&&z==t'.cells.length&&chkE n0 m a (.bi .take (.bi .drop x off) len)
  | _=>false
 | .nilS,.nilS=>true
 | .own a,.own b=>m.site a==some (some b)
 | .own a,.nilS=>m.site a==some none
 | .ptr a o,.ptr b o'=>o==o'&&m.site a==some (some b)
 | .sub a z o l,.sub b z' o' l'=>z==z'&&m.site a==some (some b)&&chkE n0 m o o'&&chkE n0 m l l'
 | .fnv a n k,.fnv b n' k'=>n==n'&&k==k'&&chkE n0 m a b
 | _,_=>false
def chkCs (n0:Nat) (m:MS) (σ:Sym):List SC→List SC→Bool
 | [],[]=>true
 | a::as,b::bs=>chkC n0 m σ a b&&chkCs n0 m σ as bs
 | _,_=>false
def chkV (n0:Nat) (m:MS) (σ:Sym) (a b:SV):Bool :=
 match a,b with
 | .c a,.c b=>chkC n0 m σ a b
 | .agg as,.agg bs=>chkCs n0 m σ as bs
 | .fn f cs,.fn g ds=>f==g&&chkCs n0 m σ cs ds
 | _,_=>false
def chkT (n0:Nat) (m:MS) (σ:Sym):List (Option Slot)→List (Option Slot)→Bool
 | [],[]=>true
 | none::as,_::bs=>chkT n0 m σ as bs
 | some a::as,some b::bs=>a.g.isEmpty&&b.g.isEmpty&&chkV n0 m σ a.v b.v&&chkT n0 m σ as bs
 | _,_=>false
def chkO (n0:Nat) (m:MS) (σ:Sym) (a:Obj) (s:Option Nat):Bool :=
 match a with
 | .gone=>true
 | .row x _=>match s with
  | none=>chkE n0 m x .nil
  | some s=>match σ.ob s with
   | some (.row y t')=>(match a with | .row _ t=>t==t' | _=>false)&&chkE n0 m x y && !m.frz.contains s
   | _=>false
 | .rrow x t=>match s with
  | none=>false
  | some s=>match σ.ob s with
   | some (.row y t')=>t==t'&&chkE n0 m x y&&m.frz.contains s
   | some (.rrow y t')=>t==t'&&chkE n0 m x y
   | _=>false
 | .box as=>match s with
  | none=>false
  | some s=>match σ.ob s with
   | some (.box bs)=>chkCs n0 m σ as bs && !m.frz.contains s
   | _=>false
 | .rbox as=>match s with
  | none=>false
  | some s=>match σ.ob s with
   | some (.rbox bs)=>chkCs n0 m σ as bs
   | _=>false
def chkOs (n0:Nat) (m:MS) (σ:Sym):Nat→List (Option Obj)→Bool
 | _,[]=>true
 | i,none::os=>chkOs n0 m σ (i+1) os
 | i,some o::os=>(match m.site i with | some s=>chkO n0 m σ o s | none=>false)&&chkOs n0 m σ (i+1) os
def chkS (n0:Nat) (pins:List Nat) (m:MS) (σ h:Sym):Bool :=
 h.nv==n0+m.args.length&&chkT n0 m σ h.tm σ.tm&&chkOs n0 m σ 0 h.objs &&
 nodupB (m.sites.filterMap (·.2))&&nodupB (m.sites.map (·.1)) &&
 (pins.all fun i=>m.site i==some (some i))&&(m.sites.all fun p=>decide (p.1<h.objs.length))
structure IS where
 args:List (Nat × Exp)
 sites:List (Nat × Option Nat)
 frz:List Nat
abbrev I:=StateM IS
def iE (n0:Nat) (a b:Exp):I Unit:=fun s =>
 match a with
 | .var i=>((),if i<n0 || s.args.any (·.1==i-n0) then s else { s with args:=s.args++[(i-n0,b)] })
 | _=>((),s)
def iSite (h:Nat) (b:Option Nat):I Unit:=fun s =>
 ((),if s.sites.any (·.1==h) then s else { s with sites:=s.sites++[(h,b)] })
def iFrz (σ:Sym) (b:Nat):I Unit:=fun s =>
 match σ.ob b with
 | some (.row ..)=>((),if s.frz.contains b then s else { s with frz:=s.frz++[b] })
 | _=>((),s)
def iC (n0:Nat) (σ:Sym) (a b:SC):I Unit :=
 match a,b with
 | .e a _,.e b _=>iE n0 a b
 | .ro a _,.nilS=>iE n0 a .nil
 | .ro a _,.ro b _=>iE n0 a b
 | .ro a _,.own s=>do (match contentOf σ (.own s) with | some (x,_)=>iE n0 a x | none=>pure ()); iFrz σ s
 | .ro a _,.sub s z o l=>do (match contentOf σ (.sub s z o l) with | some (x,_)=>iE n0 a x | none=>pure ()); iFrz σ s
 | .own a,.own b=>iSite a (some b)
 | .own a,.nilS=>iSite a none
 | .ptr a _,.ptr b _=>iSite a (some b)
 | .sub a _ o l,.sub b _ o' l'=>do iSite a (some b); iE n0 o o'; iE n0 l l'
 | .fnv a _ _,.fnv b _ _=>iE n0 a b
 | _,_=>pure ()
def iCs (n0:Nat) (σ:Sym):List SC→List SC→I Unit
 | a::as,b::bs=>do iC n0 σ a b; iCs n0 σ as bs
 | _,_=>pure ()
def iV (n0:Nat) (σ:Sym) (a b:SV):I Unit :=
 match a,b with
 | .c a,.c b=>iC n0 σ a b
 | .agg as,.agg bs=>iCs n0 σ as bs
 | .fn _ cs,.fn _ ds=>iCs n0 σ cs ds
 | _,_=>pure ()
def iT (n0:Nat) (σ:Sym):List (Option Slot)→List (Option Slot)→I Unit
 | some a::as,some b::bs=>do iV n0 σ a.v b.v; iT n0 σ as bs
 | _::as,_::bs=>iT n0 σ as bs
 | _,_=>pure ()
def iO (n0:Nat) (σ:Sym) (a:Obj) (s:Option Nat):I Unit :=
 match s with
 | none=>match a with
  | .row x _=>iE n0 x .nil
  | _=>pure ()
 | some s=>match a,σ.ob s with
  | .row x _,some (.row y _)=>iE n0 x y
  | .rrow x _,some (.row y _)=>do iE n0 x y; iFrz σ s
  | .rrow x _,some (.rrow y _)=>iE n0 x y
  | .box as,some (.box bs) | .rbox as,some (.rbox bs)=>iCs n0 σ as bs
  | _,_=>pure ()
def iW (n0:Nat) (σ h:Sym):Nat→Nat→I Unit
 | 0,_=>pure ()
 | n+1,k=>fun s =>
  match s.sites[k]? with
  | none=>((),s)
  | some (a,b)=>match h.ob a with
   | some o=>iW n0 σ h n (k+1) (iO n0 σ o b s).2
   | none=>iW n0 σ h n (k+1) s
def matchM (n0:Nat) (pins:List Nat) (σ h:Sym):MS :=
 let s0:IS:=⟨[],pins.map fun i=>(i,some i),[]⟩
 let s1:=(iT n0 σ h.tm σ.tm s0).2
 let s2:=(iW n0 σ h 200 0 s1).2
 ⟨(List.range (h.nv-n0)).map fun i=>((s2.args.find? (·.1==i)).map (·.2)).getD .nil,s2.sites,s2.frz⟩
def matchS (n0:Nat) (pins:List Nat) (σ h:Sym):Option (List Exp) :=
 let m:=matchM n0 pins σ h
 if chkS n0 pins m σ h&&h.closed h.nv&&m.args.all (·.closed σ.nv)&&n0≤σ.nv then some m.args else none
mutual
def TT.leaves {α:Type}:TT α→List (Ex × α)
 | .leaf x s=>[(x,s)]
 | .assert _ t | .call _ _ _ _ t | .callv _ _ _ t=>t.leaves
 | .ite _ a b=>a.leaves++b.leaves
 | .scope _ ks | .loop _ _ ks=>ks.leaves
 | _=>[]
def KS.leaves {α:Type}:KS α→List (Ex × α)
 | .nil=>[]
 | .cons _ t ks=>t.leaves++ks.leaves
end
mutual
def TT.mapL {α β:Type} (f:Ex→α→Option (TT β)):TT α→Option (TT β)
 | .leaf x s=>f x s
 | .yield x xs=>some (.yield x xs)
 | .fail n=>some (.fail n)
 | .assert e t=>(t.mapL f).map (.assert e)
 | .call g h xs n t=>(t.mapL f).map (.call g h xs n)
 | .callv x xs n t=>(t.mapL f).map (.callv x xs n)
 | .ite c a b=>(a.mapL f).bind fun a=>(b.mapL f).map fun b => .ite c a b
 | .scope t ks=>(t.mapL fun _ _=>none).bind fun t=>(ks.mapL f).map fun ks => .scope t ks
 | .loop i t ks=>(t.mapL fun _ _=>none).bind fun t=>(ks.mapL f).map fun ks => .loop i t ks
def KS.mapL {α β:Type} (f:Ex→α→Option (TT β)):KS α→Option (KS β)
 | .nil=>some .nil
 | .cons x t ks=>(t.mapL f).bind fun t=>(ks.mapL f).map fun ks => .cons x t ks
end
def kindsOf (l:List (Ex × Sym)):List Ex:=(l.map (·.1)).eraseDups
def headOf (n0 L:Nat) (pins:List Nat) (l:List (Ex × Sym)) (x:Ex):Option Sym :=
 match (l.filter (·.1==x)).map (·.2) with
 | []=>none
 | s::ss=>some (ss.foldl (lubS false n0 L pins) (lubS true n0 L pins { s with nv:=n0 } s))
def findH (hs:List (Ex × Sym)) (x:Ex):Option Sym:=(hs.find? (·.1==x)).map (·.2)
def closeT (n0:Nat) (pins:List Nat) (hs:List (Ex × Sym)) (t:TT Sym):Option (TT Sym) :=
 t.mapL fun x s=>(findH hs x).bind fun h=>(matchS n0 pins s h).map (.yield x)
def headsOf (n0 L:Nat) (pins:List Nat) (l:List (Ex × Sym)):Option (List (Ex × Sym)) :=
 (kindsOf l).mapM fun x=>(headOf n0 L pins l x).map fun h=>(x,h)
def ksOf (f:Ex→Sym→Option (TT Sym)):List (Ex × Sym)→Option (KS Sym)
 | []=>some .nil
 | (x,h)::r=>(f x h).bind fun t=>(ksOf f r).map fun ks => .cons x t ks
def thenT (n0 L:Nat) (pins:List Nat) (t:TT Sym) (x:Ex) (f:Sym→Option (TT Sym)):Option (TT Sym) :=
 let g:Ex→Sym→Option (TT Sym):=fun y s=>if y=x then f s else some (.leaf y s)
 if (t.leaves.filter (·.1==x)).length≤1 then t.mapL g else
 (headsOf n0 L pins t.leaves).bind fun hs =>
 (closeT n0 pins hs t).bind fun t' =>
 (ksOf g hs).map fun ks => .scope t' ks
def genMods (W L:Nat):Nat→List (Option Slot)→Nat→List (Option Slot) × Nat
 | _,[],n=>([],n)
 | i,a::as,n =>
  let (b,n'):Option Slot × Nat :=
   if !L.testBit i then (none,n) else
   match a with
   | some ⟨[],.c (.e x κ)⟩=>if W.testBit i then (some ⟨[],.c (.e (.var n) κ)⟩,n+1) else (some ⟨[],.c (.e x κ)⟩,n)
   | some ⟨[],.c (.ro x t)⟩=>if W.testBit i then (some ⟨[],.c (.ro (.var n) t)⟩,n+1) else (some ⟨[],.c (.ro x t)⟩,n)
   | some ⟨[],v⟩=>(some ⟨[],v⟩,n)
   | _=>(none,n)
  let (bs,n''):=genMods W L (i+1) as n'
  (b::bs,n'')
def inferLoop (f:Sym→Option (TT Sym)) (n0 L:Nat) (pins:List Nat):Nat→Sym→Option Sym
 | 0,h=>some h
 | n+1,h=>(f h).bind fun t =>
  let h':=((t.leaves.filter (·.1 == .norm)).map (·.2)).foldl (lubS false n0 L pins) h
  if h'==h then some h else inferLoop f n0 L pins n h'
def nLeaves (t:TT Sym) (p:Ex→Bool):Nat:=(t.leaves.filter fun l=>p l.1).length
def unroll (f:Sym→Option (TT Sym)):Nat→Sym→Option (TT Sym)
 | 0,_=>none
 | n+1,σ=>(f σ).bind fun t =>
  match nLeaves t (· = .norm) with
  | 0=>some t
  | 1=>if nLeaves t (fun x=>match x with | .ext _=>true | _=>false)=0 then t.mapL fun x s=>if x = .norm then unroll f n s else some (.leaf x s) else none
  | _=>none
def symC (C:Ctx) (pins:List Nat):Code→Nat→Sym→Option (TT Sym)
 | .skip,_,σ=>some (.leaf .norm σ)
 | .label _,_,σ=>some (.leaf .norm σ)
 | .region id ops draw,_,σ =>
  match (if draw then drawR C ops σ else seqR C ops ops.toList σ) with
  | some (es,σ')=>some (mkEffs es (.leaf .norm σ'))
  | none=>some (.fail id)
 | .seq a b,L,σ=>(symC C pins a (codeReads b ||| L) σ).bind fun t=>thenT σ.nv (codeReads b ||| L) pins t .norm (symC C pins b L)
 | .cond c a b,L,σ =>
  match (match c with | .tmp t=>σ.ev t | .const (.bool b)=>some ⟨[],.c (.e (.bool b) .b)⟩ | _=>none) with
  | some ⟨[],.c (.e (.bool true) .b)⟩=>symC C pins a L σ
  | some ⟨[],.c (.e (.bool false) .b)⟩=>symC C pins b L σ
  | some ⟨[],.c (.e x .b)⟩=>(symC C pins a L σ).bind fun ta=>(symC C pins b L σ).map fun tb => .ite x ta tb
  | _=>some (.fail 1000)
 | .block id c,L,σ=>(symC C pins c L σ).bind fun t=>t.mapL fun x s=>some (.leaf (if x = .ext id then .norm else x) s)
 | .scope c,L,σ=>symC C pins c L σ
 | .loop c,L,σ =>
  let L':=codeReads c ||| L
  match unroll (symC C pins c L') 5 σ with
  | some t=>some t
  | none =>
  let (tm,nv):=genMods (codeWrites c) L' 0 σ.tm σ.nv
  let h0:=lubS false σ.nv L' pins { tm,objs:=σ.objs,nv } σ
  (inferLoop (symC C pins c L') σ.nv L' pins 8 h0).bind fun h =>
  (symC C pins c L' h).bind fun t =>
  (matchS σ.nv pins σ h).bind fun init =>
  (headsOf σ.nv L pins (t.leaves.filter (·.1 != .norm))).bind fun hs =>
  (t.mapL fun x s=>if x = .norm then (matchS σ.nv pins s h).map (.yield .cont) else (findH hs x).bind fun h'=>(matchS σ.nv pins s h').map (.yield x)).bind fun t' =>
  (ksOf (fun x s=>some (.leaf x s)) hs).map fun ks => .loop init t' ks
 | .exit id,_,σ=>some (.leaf (.ext id) σ)
 | .ret,_,σ=>some (.leaf .ret σ)
 | _,_,_=>some (.fail 2000)
def initCells:List CS→(k ns:Nat)→Option (List SC × List Obj)
 | [],_,_=>some ([],[])
 | .sc κ::r,k,ns=>(initCells r (k+1) ns).map fun (cs,os)=>(.e (.var k) κ::cs,os)
 | .ro t::r,k,ns=>(initCells r (k+1) ns).map fun (cs,os)=>(.ro (.var k) t::cs,os)
 | .fnv n m::r,k,ns=>(initCells r (k+1) ns).map fun (cs,os)=>(.fnv (.var k) n m::cs,os)
 | .own t::r,k,ns | .mv t::r,k,ns=>(initCells r (k+1) (ns+1)).map fun (cs,os)=>(.own ns::cs,.row (.var k) t::os)
 | .bx ts::r,k,ns=>(initCells r (k+1) (ns+1)).bind fun (cs,os)=>(cellsE (.var k) ts 0 ts.length).map fun l=>(.ptr ns 0::cs,.box l::os)
 | .rbx ts::r,k,ns=>(initCells r (k+1) (ns+1)).bind fun (cs,os)=>(cellsE (.var k) ts 0 ts.length).map fun l=>(.ptr ns 0::cs,.rbox l::os)
def initAll:List (Bool × List CS)→(k ns:Nat)→Option (List SV × List Obj)
 | [],_,_=>some ([],[])
 | (b,l)::r,k,ns=>do
  let (cs,os) ←initCells l k ns
  let v ←mkSV b cs
  let (vs,os') ←initAll r (k+l.length) (ns+os.length)
  some (v::vs,os++os')
def nPar (sp:Spec):Nat:=(sp.params.map (·.2.length)).sum
def lentOf:List CS→Nat→List (Nat × CS)
 | [],_=>[]
 | .own t::r,ns=>(ns,.own t)::lentOf r (ns+1)
 | .bx ts::r,ns=>(ns,.bx ts)::lentOf r (ns+1)
 | .rbx _::r,ns | .mv _::r,ns=>lentOf r (ns+1)
 | _::r,ns=>lentOf r ns
def pinsOf:List CS→Nat→List Nat
 | [],_=>[]
 | .own _::r,ns | .bx _::r,ns | .rbx _::r,ns=>ns::pinsOf r (ns+1)
 | .mv _::r,ns=>pinsOf r (ns+1)
 | _::r,ns=>pinsOf r ns
def resOf (P:Program) (σ:Sym) (r:ResultVar) (agg:Bool) (n:Nat):Option SV :=
 match r with
 | .tmp t=>match σ.ev t with
  | some ⟨[],v⟩=>some v
  | _=>none
 | .cell a ty=>match σ.ev a with
  | some ⟨[],.c (.ptr s 0)⟩=>match σ.ob s with
   | some (.box cs)=>if n==cs.length&&sizeT P ty==some n&&(P.underlying ty).isSome&&isAggT P ty==agg then mkSV agg cs else none
   | _=>none
  | _=>none
def outC (σ:Sym) (c:SC) (r:RS):Option (Exp × List Nat × List Nat) :=
 match r with
 | .sc κ=>match c with
  | .e x κ'=>if κ==κ' then some (x,[],[]) else none
  | _=>none
 | .ro t=>match c with
  | .ro x t'=>if t==t' then some (x,[],[]) else none
  | .nilS=>some (.nil,[],[])
  | .own s=>match σ.ob s with
   | some (.row x t')=>if t==t' then some (x,[s],[]) else none
   | some (.rrow x t')=>if t==t' then some (x,[],[]) else none
   | _=>none
  | .sub s z off len=>match σ.ob s with
   | some (.row x t')=>if t==t'&&z==t'.cells.length then some (.bi .take (.bi .drop x off) len,[s],[]) else none
   | some (.rrow x t')=>if t==t'&&z==t'.cells.length then some (.bi .take (.bi .drop x off) len,[],[]) else none
   | _=>none
  | _=>none
 | .own t=>match c with
  | .nilS=>some (.nil,[],[])
  | .own s=>match σ.ob s with
   | some (.row x t')=>if t==t' then some (x,[],[s]) else none
   | _=>none
  | .sub s z (.int .i64 0) len=>match σ.ob s with
   | some (.row x t')=>if t==t'&&z==t'.cells.length then some (.bi .take (.bi .drop x lit0) len,[],[s]) else none
   | _=>none
  | _=>none
def outCs (σ:Sym):List SC→List RS→Option (List Exp × List Nat × List Nat)
 | [],[]=>some ([],[],[])
 | c::cs,r::rs=>do
  let (x,f,o) ←outC σ c r
  let (xs,fs,os) ←outCs σ cs rs
  some (x::xs,f++fs,o++os)
 | _,_=>none
def outAll (P:Program) (σ:Sym):List ResultVar→List (Bool × List RS)→Option (List Exp × List Nat × List Nat)
 | [],[]=>some ([],[],[])
 | v::vs,(b,l)::r=>do
  let sv ←resOf P σ v b l.length
  let cs ←sv.cellsL
  if (match sv with | .agg _=>true | _=>false) != b then none
  let (x,f,o) ←outCs σ cs l
  let (xs,fs,os) ←outAll P σ vs r
  some (x++xs,f++fs,o++os)
 | _,_=>none
def outLent (σ:Sym):List (Nat × CS)→Option (List Exp)
 | []=>some []
 | (s,.own t)::r=>match σ.ob s with
  | some (.row x t')=>if t==t' then (outLent σ r).map (x :: ·) else none
  | _=>none
 | (s,.bx ts)::r=>match σ.ob s with
  | some (.box cs) =>
   match (List.zip cs ts).mapM fun ct=>match ct with
    | (.e x κ,.sc κ')=>if κ==κ' then some x else none
    | (.ro x t,.sl t')=>if t==t' then some x else none
    | _=>none
   with
   | some xs=>if cs.length==ts.length then (outLent σ r).map (.un .toA (expList xs) :: ·) else none
   | none=>none
  | _=>none
 | _=>none
def outS (P:Program) (fn:Func) (sp:Spec) (σ:Sym):Option (List Exp):=do
 let (xs,fs,os) ←outAll P σ fn.results.toList sp.results
 let lent:=lentOf (sp.params.flatMap (·.2)) 0
 let ys ←outLent σ lent
 if nodupB os&&(os.all fun s => !fs.contains s && !(lent.map (·.1)).contains s)&&(fs.all fun s => !(lent.map (·.1)).contains s)&&(xs++ys).all (·.closed σ.nv) then some (xs++ys) else none
def resMask (fn:Func):Nat:=fn.results.toList.foldl (fun m r=>m ||| 1 <<< (match r with | .tmp t=>t | .cell a _=>a)) 0
def symFun (C:Ctx) (fn:Func) (sp:Spec):Option (TT Unit):=do
 let c ←fn.body
 let (vs,os) ←initAll sp.params 0 0
 if vs.length != fn.params.size+fn.nfree then none
 let σ:Sym:={ tm:=vs.map (fun v=>some ⟨[],v⟩)++List.replicate (fn.ntmps-vs.length) none,objs:=os.map some,nv:=nPar sp }
 let t ←symC C (pinsOf (sp.params.flatMap (·.2)) 0) c (resMask fn) σ
 t.mapL fun x s=>if x = .ret || x = .norm then (outS C.P fn sp s).map (.yield .ret) else none
def All2 {α β:Type} (R:α→β→Prop):List α→List β→Prop
 | [],[]=>True
 | a::as,b::bs=>R a b∧All2 R as bs
 | _,_=>False
section
variable {α β:Type} {R R':α→β→Prop}
theorem All2.imp (h:∀a b,R a b→R' a b):∀{as:List α} {bs:List β},All2 R as bs→All2 R' as bs
 | [],[],_=>trivial
 | _::_,_::_,⟨x,y⟩=>⟨h _ _ x,All2.imp h y⟩
 | [],_::_,x=>x.elim
 | _::_,[],x=>x.elim
theorem All2.length:∀{as:List α} {bs:List β},All2 R as bs→as.length=bs.length
 | [],[],_=>rfl
 | _::_,_::_,⟨_,y⟩=>by simp [All2.length y]
 | [],_::_,x=>x.elim
 | _::_,[],x=>x.elim
theorem All2.get:∀{as:List α} {bs:List β},All2 R as bs→∀{i:Nat} {a:α},as[i]? = some a→∃b,bs[i]? = some b∧R a b
 | [],[],_,i,a,h=>by simp at h
 | x::xs,y::ys,⟨p,q⟩,0,a,h=>by simp at h; subst h; exact ⟨y,rfl,p⟩
 | x::xs,y::ys,⟨p,q⟩,i+1,a,h=>by simp at h; simpa using All2.get q h
 | [],_::_,x,_,_,_=>x.elim
 | _::_,[],x,_,_,_=>x.elim
theorem All2.get':∀{as:List α} {bs:List β},All2 R as bs→∀{i:Nat} {b:β},bs[i]? = some b→∃a,as[i]? = some a∧R a b
 | [],[],_,i,a,h=>by simp at h
 | x::xs,y::ys,⟨p,q⟩,0,a,h=>by simp at h; subst h; exact ⟨x,rfl,p⟩
 | x::xs,y::ys,⟨p,q⟩,i+1,a,h=>by simp at h; simpa using All2.get' q h
 | [],_::_,x,_,_,_=>x.elim
 | _::_,[],x,_,_,_=>x.elim
theorem All2.append:∀{as:List α} {bs:List β} {cs:List α} {ds:List β},All2 R as bs→All2 R cs ds→All2 R (as++cs) (bs++ds)
 | [],[],_,_,_,h=>h
 | _::_,_::_,_,_,⟨x,y⟩,h=>⟨x,All2.append y h⟩
 | [],_::_,_,_,x,_=>x.elim
 | _::_,[],_,_,x,_=>x.elim
theorem All2.take:∀(n:Nat) {as:List α} {bs:List β},All2 R as bs→All2 R (as.take n) (bs.take n)
 | 0,_,_,_=>by simp [All2]
 | n+1,[],[],_=>by simp [All2]
 | n+1,_::_,_::_,⟨x,y⟩=>⟨x,All2.take n y⟩
 | _+1,[],_::_,x=>x.elim
 | _+1,_::_,[],x=>x.elim
theorem All2.drop:∀(n:Nat) {as:List α} {bs:List β},All2 R as bs→All2 R (as.drop n) (bs.drop n)
 | 0,_,_,h=>h
 | n+1,[],[],_=>by simp [All2]
 | n+1,_::_,_::_,⟨_,y⟩=>All2.drop n y
 | _+1,[],_::_,x=>x.elim
 | _+1,_::_,[],x=>x.elim
theorem All2.of_get:∀{as:List α} {bs:List β},as.length=bs.length→(∀(i:Nat) (a:α) (b:β),as[i]? = some a→bs[i]? = some b→R a b)→All2 R as bs
 | [],[],_,_=>trivial
 | a::as,b::bs,hl,h=>⟨h 0 a b rfl rfl,All2.of_get (by simpa using hl) fun i x y hx hy=>h (i+1) x y (by simpa using hx) (by simpa using hy)⟩
 | [],_::_,hl,_=>by simp at hl
 | _::_,[],hl,_=>by simp at hl
end
def ElemP (e:Ty) (p:PV) (c:Nat→PV):Prop :=
 match e with
 | .agg ts=>p = .a ((List.range ts.toList.length).map c)
 | _=>p=c 0
inductive RepC (C:Ctx) (S:Nat→Prop) (w:World):Ty→Value→PV→Prop
 | sc {κ:K} {v:Value} (h:κ.has v=true):RepC C S w (.sc κ) v (.v (cn v))
 | nil {e:Ty}:RepC C S w (.sl e) (.slice none 0 0) (.l [])
 | sl {e:Ty} {b o len cap:Nat} {xs:List PV} (cv:Nat→Nat→Value) (cp:Nat→Nat→PV) (hS:S b) (hl:xs.length=len) (hc:len≤cap)
   (hw:∀i j,i<len→j<e.cells.length→w.cell? ⟨b,o+i*e.cells.length+j,none⟩=some (cv i j))
   (he:∀i p,xs[i]? = some p→ElemP e p (cp i))
   (hr:∀i j t,i<len→e.cells[j]? = some t→RepC C S w t (cv i j) (cp i j)) :
   RepC C S w (.sl e) (.slice (some ⟨b,o,none⟩) len cap) (.l xs)
 | fn {n m:List K} {fid:FuncId} {id:Nat} {sp:Spec} {caps:Array Value} (k:Nat) (b:Nat→Nat) (ts:Nat→List Ty)
   (cv:Nat→Nat→Value) (cp:Nat→Nat→PV)
   (hid:C.fid fid=some id) (hsp:C.spec id=some sp) (hsc:scalarSpec n m sp=true)
   (hd:sp.params.drop n.length=(List.range k).map fun i=>(false,[CS.rbx (ts i)]))
   (hbody:(C.P.funcs[fid]?).any (·.body.isSome)=true)
   (hcaps:caps.toList=(List.range k).map fun i=>Value.pointer (some ⟨b i,0,none⟩))
   (hS:∀i,i<k→S (b i))
   (hbox:∀i,i<k→∃arr e fz,w.heap[b i]? = some (.cells arr e fz)∧arr.size=(ts i).length∧∀j,j<(ts i).length→arr[j]? = some (cv i j))
   (hr:∀i j t,i<k→(ts i)[j]? = some t→RepC C S w t (cv i j) (cp i j)) :
   RepC C S w (.fn n m) (.func (.func fid) #[] caps) (.fn id ((List.range k).map fun i => .a ((List.range (ts i).length).map (cp i))))
theorem cell_congr {w w':World} {b:Nat} (h:w'.heap[b]? = w.heap[b]?) (o:Nat) (s:Option Nat):w'.cell? ⟨b,o,s⟩=w.cell? ⟨b,o,s⟩:=by
 simp [World.cell?,h]
theorem RepC.stable {C:Ctx} {S S':Nat→Prop} {w w':World} {t:Ty} {v:Value} {p:PV} (h:RepC C S w t v p)
  (hs:∀b,S b→S' b) (hw:∀b,S b→w'.heap[b]? = w.heap[b]?):RepC C S' w' t v p:=by
 induction h with
 | sc h=>exact .sc h
 | nil=>exact .nil
 | sl cv cp hS hl hc h1 he _ ih =>
  exact .sl cv cp (hs _ hS) hl hc (fun i j hi hj=>by rw [cell_congr (hw _ hS)]; exact h1 i j hi hj) he ih
 | fn k b ts cv cp hid hsp hsc hd hbd hcaps hS hbox _ ih =>
  refine .fn k b ts cv cp hid hsp hsc hd hbd hcaps (fun i hi=>hs _ (hS i hi)) (fun i hi => ?_) ih
  rw [hw _ (hS i hi)]
  exact hbox i hi
theorem K.has_one {κ:K} {v:Value} (h:κ.has v=true):v.oneCell'=true:=by
 cases v<;>cases κ<;>simp_all [K.has,Value.oneCell']
theorem RepC.one {C:Ctx} {S:Nat→Prop} {w:World} {t:Ty} {v:Value} {p:PV} (h:RepC C S w t v p):v.oneCell'=true:=by
 cases h with
 | sc h=>exact K.has_one h
 | _=>rfl
abbrev Hdr:=Nat→Option Value
def SCRel (C:Ctx) (ρ:List PV) (hdr:Hdr) (S:Nat→Prop) (w:World) (c:SC) (v:Value):Prop :=
 match c with
 | .e x κ=>κ.has v=true∧x.den ρ = .v (cn v)
 | .raw x=>∃n:Nat,v = .int .u64 n∧x.den ρ = .v (.float .f64 (cnF n))
 | .ro x t=>RepC C S w (.sl t) v (x.den ρ)
 | .nilS=>v = .slice none 0 0
 | .own s=>hdr s=some v∧v.oneCell'=true
 | .sub s z off len=>∃l:Nat,(len.den ρ).int=l∧0≤(off.den ρ).int ∧
   ((hdr s=some (.slice none 0 0)∧v = .slice none 0 0∧l=0∧(off.den ρ).int=0) ∨
    ∃b n cap q cap',hdr s=some (.slice (some ⟨b,0,none⟩) n cap)∧v = .slice (some ⟨b,q,none⟩) l cap' ∧
    (q=(off.den ρ).int.toNat*z∨cap'=0∧((off.den ρ).int=0→q=0))∧(off.den ρ).int.toNat+l≤n∧l≤cap'∧(off.den ρ).int.toNat+cap'≤cap)
 | .ptr s off=>∃b,hdr s=some (.pointer (some ⟨b,0,none⟩))∧v = .pointer (some ⟨b,off,none⟩)
 | .adr s z i j=>∃b n cap,hdr s=some (.slice (some ⟨b,0,none⟩) n cap)∧0≤(i.den ρ).int∧(i.den ρ).int<n ∧
   v = .pointer (some ⟨b,(i.den ρ).int.toNat*z+j,none⟩)
 | .adrR x t i j=>∃b o n cap,RepC C S w (.sl t) (.slice (some ⟨b,o,none⟩) n cap) (x.den ρ)∧0≤(i.den ρ).int∧(i.den ρ).int<n ∧
   v = .pointer (some ⟨b,o+(i.den ρ).int.toNat*t.cells.length+j,none⟩)
 | .fnv x n m=>RepC C S w (.fn n m) v (x.den ρ)
 | .dead=>v.oneCell'=true
def PartRel (C:Ctx) (ρ:List PV) (hdr:Hdr) (S:Nat→Prop) (w:World) (p:Bool × List SC) (v:Value):Prop :=
 match p with
 | (true,cs)=>∃arr,v = .agg arr∧All2 (SCRel C ρ hdr S w) cs arr.toList
 | (false,cs)=>∃c,cs=[c]∧SCRel C ρ hdr S w c v
def SVRel (C:Ctx) (ρ:List PV) (hdr:Hdr) (S:Nat→Prop) (w:World) (x:SV) (v:Value):Prop :=
 match x with
 | .c c=>SCRel C ρ hdr S w c v
 | .agg cs=>∃arr,v = .agg arr∧All2 (SCRel C ρ hdr S w) cs arr.toList
 | .tup ps=>∃arr,v = .tuple arr∧All2 (PartRel C ρ hdr S w) ps arr.toList
 | .fn fid cs=>∃arr,v = .func (.func fid) #[] arr∧All2 (SCRel C ρ hdr S w) cs arr.toList
def gdHolds (ρ:List PV) (g:Gd):Prop:=∀p∈g,(p.1.den ρ).bool=p.2
def SlotR (C:Ctx) (ρ:List PV) (hdr:Hdr) (S:Nat→Prop) (w:World) (s:Slot) (v:Value):Prop :=
 (gdHolds ρ s.g→SVRel C ρ hdr S w s.v v)∧(¬gdHolds ρ s.g→v=undef)
def Obj.live:Obj→Bool
 | .box _ | .row .. => true
 | _=>false
def blk (hdr:Hdr) (s:Nat):Option Nat :=
 match hdr s with
 | some (.pointer (some a))=>some a.block
 | some (.slice (some a) _ _)=>some a.block
 | _=>none
def RowR (C:Ctx) (S Wr:Nat→Prop) (w:World) (hd:Value) (p:PV) (t:Ty):Prop :=
 (hd = .slice none 0 0∧p = .l []) ∨
 ∃(b n cap:Nat) (arr:Array Value) (e:TypeId) (xs:List PV) (cp:Nat→Nat→PV),hd = .slice (some ⟨b,0,none⟩) n cap∧w.heap[b]? = some (.cells arr e (0,0))∧¬S b∧Wr b∧p = .l xs∧xs.length=n∧n≤cap ∧
  cap*t.cells.length≤arr.size∧(∀i p,xs[i]? = some p→ElemP t p (cp i)) ∧
  (∀i j t',i<n→t.cells[j]? = some t'→∃v,arr[i*t.cells.length+j]? = some v∧RepC C S w t' v (cp i j))
def hd0 (hd:Value):Prop:=∀a n cap,hd = .slice (some a) n cap→a=⟨a.block,0,none⟩
def ObjR (C:Ctx) (ρ:List PV) (hdr:Hdr) (S Wr:Nat→Prop) (w:World) (s:Nat) (o:Obj):Prop :=
 match o with
 | .box cs=>∃b arr e,hdr s=some (.pointer (some ⟨b,0,none⟩))∧w.heap[b]? = some (.cells arr e (0,0)) ∧
   All2 (SCRel C ρ hdr S w) cs arr.toList∧(∀v∈arr.toList,v.oneCell'=true)∧¬S b∧Wr b
 | .rbox cs=>∃b arr e fz,hdr s=some (.pointer (some ⟨b,0,none⟩))∧w.heap[b]? = some (.cells arr e fz) ∧
   All2 (SCRel C ρ hdr S w) cs arr.toList∧(∀v∈arr.toList,v.oneCell'=true)∧S b
 | .row x t=>∃hd,hdr s=some hd∧RowR C S Wr w hd (x.den ρ) t
 | .rrow x t=>∃hd,hdr s=some hd∧RepC C S w (.sl t) hd (x.den ρ)∧hd0 hd
 | .gone=>True
structure St (C:Ctx) (ρ:List PV) (hdr:Hdr) (S Wr:Nat→Prop) (σ:Sym) (a:Act) (w:World):Prop where
 len:σ.tm.length=a.tmps.size
 sl:∀t s,σ.ev t=some s→SlotR C ρ hdr S w s (a.tmps.getD t undef)
 ob:∀s o,σ.ob s=some o→ObjR C ρ hdr S Wr w s o
 dj:∀s s' o o',σ.ob s=some o→σ.ob s'=some o'→o.live=true→o'.live=true→s≠s'→∀b,blk hdr s=some b→blk hdr s'≠some b
 sb:∀b,S b→b<w.heap.size
 cl:σ.closed ρ.length=true
 he:∀s v,hdr s=some v→v.oneCell'=true
structure OutEq (w w':World):Prop where
 os:w'.os=w.os
 out:w'.output=w.output
 fz:∀a,w'.frozen? a=w.frozen? a
theorem OutEq.refl (w:World):OutEq w w:=⟨rfl,rfl,fun _=>rfl⟩
theorem OutEq.trans {w w' w'':World} (h:OutEq w w') (h':OutEq w' w''):OutEq w w'':=⟨h'.os.trans h.os,h'.out.trans h.out,fun a=>(h'.fz a).trans (h.fz a)⟩
theorem OutEq.of_heap {w w':World} (h:(w'.heap,w'.os,w'.output)=(w.heap,w.os,w.output)):OutEq w w':=by
 simp only [Prod.mk.injEq] at h
 exact ⟨h.2.1,h.2.2,fun a=>by simp [World.frozen?,h.1]⟩
theorem OutEq.push {w w':World} {arr:Array Value} {e:TypeId} (h:(w'.heap,w'.os,w'.output)=(w.heap.push (.cells arr e (0,0)),w.os,w.output)):OutEq w w':=by
 simp only [Prod.mk.injEq] at h
 refine ⟨h.2.1,h.2.2,fun a => ?_⟩
 simp only [World.frozen?,h.1,Array.getElem?_push]
 by_cases e:a.block=w.heap.size
 ·rw [if_pos e,Array.getElem?_eq_none (by omega)]; simp
 ·rw [if_neg e]
theorem OutEq.setCell {w:World} {a:Addr} {v:Value}:OutEq w (w.setCell a v):=by
 refine ⟨rfl,rfl,fun b => ?_⟩
 simp only [World.frozen?,World.setCell,Array.getElem?_modify]
 by_cases e:a.block=b.block
 ·rw [if_pos e]
  cases w.heap[b.block]? with
  | none=>rfl
  | some o=>cases o<;>rfl
 ·rw [if_neg e]
def Keep (Wr:Nat→Prop) (w w':World):Prop:=w.heap.size≤w'.heap.size∧(∀b,¬Wr b→b<w.heap.size→w'.heap[b]? = w.heap[b]?)∧OutEq w w'
theorem Keep.refl (Wr:Nat→Prop) (w:World):Keep Wr w w:=⟨Nat.le_refl _,fun _ _ _=>rfl,.refl w⟩
theorem Keep.trans {Wr:Nat→Prop} {w w' w'':World} (h:Keep Wr w w') (h':Keep Wr w' w''):Keep Wr w w'' :=
 ⟨Nat.le_trans h.1 h'.1,fun b hb hlt=>by rw [h'.2.1 b hb (Nat.lt_of_lt_of_le hlt h.1),h.2.1 b hb hlt],h.2.2.trans h'.2.2⟩
section
variable {C:Ctx} {ρ:List PV} {hdr hdr':Hdr} {S S' Wr:Nat→Prop} {w w':World}
theorem SCRel.mono {c:SC} {v:Value} (h:SCRel C ρ hdr S w c v) (hh:∀s v,hdr s=some v→hdr' s=some v)
  (hs:∀b,S b→S' b) (hw:∀b,S b→w'.heap[b]? = w.heap[b]?):SCRel C ρ hdr' S' w' c v:=by
 cases c with
 | e x κ=>exact h
 | raw x=>exact h
 | ro x t=>exact RepC.stable h hs hw
 | nilS=>exact h
 | own s=>exact ⟨hh _ _ h.1,h.2⟩
 | sub s z off len =>
  obtain ⟨l,h1,h2,h3⟩:=h
  refine ⟨l,h1,h2,?_⟩
  rcases h3 with ⟨h4,h5⟩ | ⟨b,n,cap,q,cap',h4,h5⟩
  ·exact .inl ⟨hh _ _ h4,h5⟩
  ·exact .inr ⟨b,n,cap,q,cap',hh _ _ h4,h5⟩
 | ptr s off=>obtain ⟨b,h1,h2⟩:=h; exact ⟨b,hh _ _ h1,h2⟩
 | adr s z i j=>obtain ⟨b,n,cap,h1,h2⟩:=h; exact ⟨b,n,cap,hh _ _ h1,h2⟩
 | adrR x t i j=>obtain ⟨b,o,n,cap,h1,h2⟩:=h; exact ⟨b,o,n,cap,RepC.stable h1 hs hw,h2⟩
 | fnv x n m=>exact RepC.stable h hs hw
 | dead=>exact h
theorem SVRel.mono {x:SV} {v:Value} (h:SVRel C ρ hdr S w x v) (hh:∀s v,hdr s=some v→hdr' s=some v)
  (hs:∀b,S b→S' b) (hw:∀b,S b→w'.heap[b]? = w.heap[b]?):SVRel C ρ hdr' S' w' x v:=by
 have hc:∀c v,SCRel C ρ hdr S w c v→SCRel C ρ hdr' S' w' c v:=fun c v h=>h.mono hh hs hw
 cases x with
 | c c=>exact hc _ _ h
 | agg cs=>obtain ⟨arr,h1,h2⟩:=h; exact ⟨arr,h1,h2.imp hc⟩
 | tup ps =>
  obtain ⟨arr,h1,h2⟩:=h
  refine ⟨arr,h1,h2.imp fun p v hp => ?_⟩
  obtain ⟨b,cs⟩:=p
  cases b
  ·obtain ⟨c,h3,h4⟩:=hp; exact ⟨c,h3,hc _ _ h4⟩
  ·obtain ⟨arr,h3,h4⟩:=hp; exact ⟨arr,h3,h4.imp hc⟩
 | fn fid cs=>obtain ⟨arr,h1,h2⟩:=h; exact ⟨arr,h1,h2.imp hc⟩
theorem SlotR.mono {x:Slot} {v:Value} (h:SlotR C ρ hdr S w x v) (hh:∀s v,hdr s=some v→hdr' s=some v)
  (hs:∀b,S b→S' b) (hw:∀b,S b→w'.heap[b]? = w.heap[b]?):SlotR C ρ hdr' S' w' x v :=
 ⟨fun g=>(h.1 g).mono hh hs hw,h.2⟩
theorem RowR.mono {hd:Value} {p:PV} {t:Ty} (h:RowR C S Wr w hd p t) (hs:∀b,S b→S' b) (hw:∀b,S b→w'.heap[b]? = w.heap[b]?)
  (hb:∀b n cap,hd = .slice (some ⟨b,0,none⟩) n cap→w'.heap[b]? = w.heap[b]? ∧ ¬S' b):RowR C S' Wr w' hd p t:=by
 rcases h with h | ⟨b,n,cap,arr,e,xs,cp,h1,h2,h3,h4,h5,h6,h7,h8,h9,h10⟩
 ·exact .inl h
 ·refine .inr ⟨b,n,cap,arr,e,xs,cp,h1,?_,(hb _ _ _ h1).2,h4,h5,h6,h7,h8,h9,fun i j t' hi hj => ?_⟩
  ·rw [(hb _ _ _ h1).1]; exact h2
  ·obtain ⟨v,hv,hr⟩:=h10 i j t' hi hj
   exact ⟨v,hv,hr.stable hs hw⟩
theorem ObjR.mono {s:Nat} {o:Obj} (h:ObjR C ρ hdr S Wr w s o) (hh:∀s v,hdr s=some v→hdr' s=some v) (hs:∀b,S b→S' b)
  (hw:∀b,S b→w'.heap[b]? = w.heap[b]?) (hb:o.live=true→∀b,blk hdr s=some b→w'.heap[b]? = w.heap[b]? ∧ ¬S' b):ObjR C ρ hdr' S' Wr w' s o:=by
 have hc:∀c v,SCRel C ρ hdr S w c v→SCRel C ρ hdr' S' w' c v:=fun c v h=>h.mono hh hs hw
 cases o with
 | box cs =>
  obtain ⟨b,arr,e,h1,h2,h3,h4,h5,h6⟩:=h
  have:=hb rfl b (by simp [blk,h1])
  exact ⟨b,arr,e,hh _ _ h1,by rw [this.1]; exact h2,h3.imp hc,h4,this.2,h6⟩
 | rbox cs =>
  obtain ⟨b,arr,e,fz,h1,h2,h3,h4,h5⟩:=h
  exact ⟨b,arr,e,fz,hh _ _ h1,by rw [hw _ h5]; exact h2,h3.imp hc,h4,hs _ h5⟩
 | row x t =>
  obtain ⟨hd,h1,h2⟩:=h
  exact ⟨hd,hh _ _ h1,h2.mono hs hw fun b n cap e=>hb rfl b (by simp [blk,h1,e])⟩
 | rrow x t=>obtain ⟨hd,h1,h2,h3⟩:=h; exact ⟨hd,hh _ _ h1,h2.stable hs hw,h3⟩
 | gone=>trivial
end
theorem den_ext {e:Exp} {ρ ext:List PV} (h:e.closed ρ.length=true):e.den (ρ++ext)=e.den ρ:=by
 induction e with
 | var n =>
  simp only [Exp.closed,decide_eq_true_eq] at h
  simp [Exp.den,List.getElem?_append_left h]
 | int=>rfl
 | bool=>rfl
 | flt=>rfl
 | nil=>rfl
 | un o x ih=>simp only [Exp.closed] at h; simp [Exp.den,ih h]
 | bi o x y ih1 ih2=>simp only [Exp.closed,Bool.and_eq_true] at h; simp [Exp.den,ih1 h.1,ih2 h.2]
 | tri o x y z ih1 ih2 ih3=>simp only [Exp.closed,Bool.and_eq_true] at h; simp [Exp.den,ih1 h.1.1,ih2 h.1.2,ih3 h.2]
theorem closed_mono {e:Exp} {n m:Nat} (h:e.closed n=true) (hm:n≤m):e.closed m=true:=by
 induction e with
 | var i=>simp only [Exp.closed,decide_eq_true_eq] at *; omega
 | int=>rfl
 | bool=>rfl
 | flt=>rfl
 | nil=>rfl
 | un o x ih=>exact ih h
 | bi o x y ih1 ih2=>simp only [Exp.closed,Bool.and_eq_true] at *; exact ⟨ih1 h.1,ih2 h.2⟩
 | tri o x y z ih1 ih2 ih3=>simp only [Exp.closed,Bool.and_eq_true] at *; exact ⟨⟨ih1 h.1.1,ih2 h.1.2⟩,ih3 h.2⟩
theorem SC.closed_mono {c:SC} {n m:Nat} (h:c.closed n=true) (hm:n≤m):c.closed m=true:=by
 cases c<;>simp only [SC.closed,Bool.and_eq_true] at * <;> first | exact Dx.closed_mono h hm | exact ⟨Dx.closed_mono h.1 hm,Dx.closed_mono h.2 hm⟩
theorem all_mono {α:Type} {p q:α→Bool} {l:List α} (h:l.all p=true) (hpq:∀a,p a=true→q a=true):l.all q=true:=by
 simp only [List.all_eq_true] at *; exact fun a ha=>hpq a (h a ha)
theorem SV.closed_mono {x:SV} {n m:Nat} (h:x.closed n=true) (hm:n≤m):x.closed m=true:=by
 cases x with
 | c c=>exact SC.closed_mono h hm
 | agg xs=>exact all_mono h fun _ h=>SC.closed_mono h hm
 | fn f xs=>exact all_mono h fun _ h=>SC.closed_mono h hm
 | tup xs=>exact all_mono h fun _ h=>all_mono h fun _ h=>SC.closed_mono h hm
theorem Obj.closed_mono {x:Obj} {n m:Nat} (h:x.closed n=true) (hm:n≤m):x.closed m=true:=by
 cases x with
 | box xs=>exact all_mono h fun _ h=>SC.closed_mono h hm
 | rbox xs=>exact all_mono h fun _ h=>SC.closed_mono h hm
 | row x t=>exact Dx.closed_mono h hm
 | rrow x t=>exact Dx.closed_mono h hm
 | gone=>rfl
theorem Slot.closed_mono {x:Slot} {n m:Nat} (h:x.closed n=true) (hm:n≤m):x.closed m=true:=by
 simp only [Slot.closed,Bool.and_eq_true] at *
 exact ⟨all_mono h.1 fun _ h=>Dx.closed_mono h hm,SV.closed_mono h.2 hm⟩
theorem Sym.closed_mono {σ:Sym} {n m:Nat} (h:σ.closed n=true) (hm:n≤m):σ.closed m=true:=by
 simp only [Sym.closed,Bool.and_eq_true] at *
 refine ⟨all_mono h.1 fun a h => ?_,all_mono h.2 fun a h => ?_⟩
 ·cases a with
  | none=>rfl
  | some s=>exact Slot.closed_mono h hm
 ·cases a with
  | none=>rfl
  | some s=>exact Obj.closed_mono h hm
theorem Sym.ev_closed {σ:Sym} {n t:Nat} {s:Slot} (h:σ.closed n=true) (he:σ.ev t=some s):s.closed n=true:=by
 simp only [Sym.closed,Bool.and_eq_true,List.all_eq_true] at h
 unfold Sym.ev at he
 cases hx:σ.tm[t]? with
 | none=>simp [hx] at he
 | some o =>
  simp [hx] at he
  subst he
  exact h.1 _ (List.mem_of_getElem? hx)
theorem Sym.ob_closed {σ:Sym} {n t:Nat} {s:Obj} (h:σ.closed n=true) (he:σ.ob t=some s):s.closed n=true:=by
 simp only [Sym.closed,Bool.and_eq_true,List.all_eq_true] at h
 unfold Sym.ob at he
 cases hx:σ.objs[t]? with
 | none=>simp [hx] at he
 | some o =>
  simp [hx] at he
  subst he
  exact h.2 _ (List.mem_of_getElem? hx)
theorem Sym.closed_of {σ:Sym} {n:Nat} (h1:∀t s,σ.ev t=some s→s.closed n=true) (h2:∀t s,σ.ob t=some s→s.closed n=true):σ.closed n=true:=by
 simp only [Sym.closed,Bool.and_eq_true,List.all_eq_true]
 refine ⟨fun a ha => ?_,fun a ha => ?_⟩
 ·cases a with
  | none=>rfl
  | some s =>
   obtain ⟨t,ht⟩:=List.mem_iff_getElem?.1 ha
   exact h1 t s (by simp [Sym.ev,ht])
 ·cases a with
  | none=>rfl
  | some s =>
   obtain ⟨t,ht⟩:=List.mem_iff_getElem?.1 ha
   exact h2 t s (by simp [Sym.ob,ht])
section
variable {C:Ctx} {ρ:List PV} {hdr hdr':Hdr} {S S' Wr:Nat→Prop} {w w':World} (xt:List PV)
theorem SCRel.ext {c:SC} {v:Value} (h:SCRel C ρ hdr S w c v) (hc:c.closed ρ.length=true):SCRel C (ρ++xt) hdr S w c v:=by
 cases c<;>simp only [SC.closed,Bool.and_eq_true] at hc<;>simp only [SCRel] at h ⊢ <;>
  first
   | exact h
   | (rw [den_ext hc]; exact h)
   | (rw [den_ext hc.1,den_ext hc.2]; exact h)
   | (simp only [den_ext hc]; exact h)
   | (simp only [den_ext hc.1,den_ext hc.2]; exact h)
theorem CellsRel.ext:∀{cs:List SC} {vs:List Value},All2 (SCRel C ρ hdr S w) cs vs→cs.all (·.closed ρ.length)=true→All2 (SCRel C (ρ++xt) hdr S w) cs vs
 | [],[],_,_=>trivial
 | c::cs,v::vs,⟨h1,h2⟩,h=>by
  simp only [List.all_cons,Bool.and_eq_true] at h
  exact ⟨h1.ext xt h.1,CellsRel.ext h2 h.2⟩
 | [],_::_,x,_=>x.elim
 | _::_,[],x,_=>x.elim
theorem SVRel.ext {x:SV} {v:Value} (h:SVRel C ρ hdr S w x v) (hc:x.closed ρ.length=true):SVRel C (ρ++xt) hdr S w x v:=by
 cases x with
 | c c=>exact SCRel.ext xt h hc
 | agg cs=>obtain ⟨arr,h1,h2⟩:=h; exact ⟨arr,h1,CellsRel.ext xt h2 hc⟩
 | fn f cs=>obtain ⟨arr,h1,h2⟩:=h; exact ⟨arr,h1,CellsRel.ext xt h2 hc⟩
 | tup ps =>
  obtain ⟨arr,h1,h2⟩:=h
  refine ⟨arr,h1,?_⟩
  simp only [SV.closed] at hc
  generalize arr.toList=vs at h2
  clear h1
  induction ps generalizing vs with
  | nil=>cases vs<;>simp_all [All2]
  | cons p ps ih =>
   cases vs with
   | nil=>exact h2.elim
   | cons v vs =>
    obtain ⟨h3,h4⟩:=h2
    simp only [List.all_cons,Bool.and_eq_true] at hc
    refine ⟨?_,ih hc.2 _ h4⟩
    obtain ⟨b,cs⟩:=p
    cases b
    ·obtain ⟨c,h5,h6⟩:=h3
     subst h5
     simp only [List.all_cons,List.all_nil,Bool.and_true] at hc
     exact ⟨c,rfl,h6.ext xt hc.1⟩
    ·obtain ⟨arr,h5,h6⟩:=h3; exact ⟨arr,h5,CellsRel.ext xt h6 hc.1⟩
theorem gdHolds_ext {g:Gd} (hc:gdClosed ρ.length g=true):gdHolds (ρ++xt) g↔gdHolds ρ g:=by
 simp only [gdClosed,List.all_eq_true] at hc
 unfold gdHolds
 constructor
 ·intro h p hp; rw [←den_ext (hc p hp)]; exact h p hp
 ·intro h p hp; rw [den_ext (hc p hp)]; exact h p hp
theorem SlotR.ext {x:Slot} {v:Value} (h:SlotR C ρ hdr S w x v) (hc:x.closed ρ.length=true):SlotR C (ρ++xt) hdr S w x v:=by
 simp only [Slot.closed,Bool.and_eq_true] at hc
 have hg:=gdHolds_ext (ρ:=ρ) xt hc.1
 exact ⟨fun g=>(h.1 (hg.1 g)).ext xt hc.2,fun g=>h.2 (fun g'=>g (hg.2 g'))⟩
theorem ObjR.ext {s:Nat} {o:Obj} (h:ObjR C ρ hdr S Wr w s o) (hc:o.closed ρ.length=true):ObjR C (ρ++xt) hdr S Wr w s o:=by
 cases o with
 | box cs=>obtain ⟨b,arr,e,h1,h2,h3,h4⟩:=h; exact ⟨b,arr,e,h1,h2,CellsRel.ext xt h3 hc,h4⟩
 | rbox cs=>obtain ⟨b,arr,e,fz,h1,h2,h3,h4⟩:=h; exact ⟨b,arr,e,fz,h1,h2,CellsRel.ext xt h3 hc,h4⟩
 | row x t=>obtain ⟨hd,h1,h2⟩:=h; refine ⟨hd,h1,?_⟩; rw [den_ext hc]; exact h2
 | rrow x t=>obtain ⟨hd,h1,h2,h3⟩:=h; refine ⟨hd,h1,?_,h3⟩; rw [den_ext hc]; exact h2
 | gone=>trivial
theorem St.ext {σ:Sym} {a:Act} (st:St C ρ hdr S Wr σ a w):St C (ρ++xt) hdr S Wr σ a w where
 len:=st.len
 sl t s h:=(st.sl t s h).ext xt (Sym.ev_closed st.cl h)
 ob t s h:=(st.ob t s h).ext xt (Sym.ob_closed st.cl h)
 dj:=st.dj
 sb:=st.sb
 cl:=Sym.closed_mono st.cl (by simp)
 he:=st.he
end
section
variable {α β:Type} (E:Nat→Option Slot) (O:Nat→Option Obj)
def RM.val (m:RM α):Option α:=(m.run E O).map (·.1)
@[simp] theorem RM.val_ret (a:α):(RM.ret a).val E O=some a:=rfl
@[simp] theorem RM.val_pure (a:α):(pure a:RM α).val E O=some a:=rfl
@[simp] theorem RM.val_fail:(RM.fail:RM α).val E O=none:=rfl
@[simp] theorem RM.val_ev (t:Nat) (k:Slot→RM α):(RM.ev t k).val E O=(E t).bind fun s=>(k s).val E O:=by
 simp only [RM.val,RM.run]
 cases E t with
 | none=>rfl
 | some s=>cases h:(k s).run E O<;>simp [h]
@[simp] theorem RM.val_ob (t:Nat) (k:Obj→RM α):(RM.ob t k).val E O=(O t).bind fun s=>(k s).val E O:=by
 simp only [RM.val,RM.run]
 cases O t with
 | none=>rfl
 | some s=>cases h:(k s).run E O<;>simp [h]
@[simp] theorem RM.val_bind (m:RM α) (f:α→RM β):(m >>= f).val E O=(m.val E O).bind fun a=>(f a).val E O:=by
 show (m.bind f).val E O=_
 induction m with
 | ret a=>rfl
 | fail=>rfl
 | ev t k ih=>simp only [RM.bind,RM.val_ev,ih]; cases E t<;>rfl
 | ob t k ih=>simp only [RM.bind,RM.val_ob,ih]; cases O t<;>rfl
@[simp] theorem RM.val_guard (b:Bool):(guardB b).val E O=if b=true then some () else none:=by
 unfold guardB; split<;>rfl
@[simp] theorem RM.val_ofOpt (o:Option α):(ofOpt o).val E O=o:=by cases o<;>rfl
theorem RM.val_of_run {m:RM α} {a:α} {l:Log} (h:m.run E O=some (a,l)):m.val E O=some a:=by simp [RM.val,h]
theorem guard_some {b:Bool} {u:Unit} (h:(if b=true then some () else none)=some u):b=true:=by
 cases b<;>simp_all
end
section
variable {C:Ctx} {ρ:List PV} {hdr hdr':Hdr} {S S' Wr:Nat→Prop} {σ:Sym} {a:Act} {w w':World}
theorem litSC_ok {v:Value} {c:SC} (h:litSC v=some c):SCRel C ρ hdr S w c v∧c.closed ρ.length=true:=by
 unfold litSC at h
 split at h
 ·cases h; exact ⟨⟨by simp [K.has],rfl⟩,rfl⟩
 ·cases h; exact ⟨⟨rfl,rfl⟩,rfl⟩
 ·split at h
  ·cases h
  ·rename_i b hb
   cases h
   exact ⟨⟨rfl,by simp [Exp.den,cn,cnF,hb]⟩,rfl⟩
 ·cases h; exact ⟨rfl,rfl⟩
 ·cases h
theorem litCells_ok:∀{vs:List Value} {cs:List SC},vs.mapM litSC=some cs→All2 (SCRel C ρ hdr S w) cs vs∧cs.all (·.closed ρ.length)=true
 | [],cs,h=>by simp at h; subst h; exact ⟨trivial,rfl⟩
 | v::vs,cs,h=>by
  rw [List.mapM_cons] at h
  simp only [Option.pure_def,Option.bind_eq_bind,Option.bind_eq_some_iff,Option.some.injEq] at h
  obtain ⟨c,h1,ds,h2,rfl⟩:=h
  have h3:=litSC_ok (C:=C) (ρ:=ρ) (hdr:=hdr) (S:=S) (w:=w) h1
  have h4:=litCells_ok h2
  exact ⟨⟨h3.1,h4.1⟩,by simp only [List.all_cons,h3.2,h4.2,Bool.and_self]⟩
theorem litSV_ok {v:Value} {x:SV} (h:litSV v=some x):SVRel C ρ hdr S w x v∧x.closed ρ.length=true:=by
 unfold litSV at h
 split at h
 ·rename_i cs
  cases hm:cs.toList.mapM litSC with
  | none=>rw [hm] at h; simp at h
  | some ds =>
   rw [hm] at h; simp at h; subst h
   have:=litCells_ok (C:=C) (ρ:=ρ) (hdr:=hdr) (S:=S) (w:=w) hm
   exact ⟨⟨cs,rfl,this.1⟩,this.2⟩
 ·simp only [Option.map_eq_some_iff] at h
  obtain ⟨c,hm,rfl⟩:=h
  exact litSC_ok hm
theorem rd_ok (st:St C ρ hdr S Wr σ a w) {cur:Gd} (hcur:gdHolds ρ cur) {x:Operand} {v:SV} (h:(rd cur x).val σ.ev σ.ob=some v) :
  SVRel C ρ hdr S w v (a.eval x)∧v.closed ρ.length=true:=by
 cases x with
 | tmp t =>
  simp only [rd,RM.val_ev,Option.bind_eq_some_iff] at h
  obtain ⟨s,h1,h2⟩:=h
  split at h2
  ·rename_i hg
   simp at h2
   subst h2
   have hs:=st.sl t s h1
   have hc:=Sym.ev_closed st.cl h1
   simp only [Slot.closed,Bool.and_eq_true] at hc
   refine ⟨hs.1 fun p hp => ?_,hc.2⟩
   simp only [List.all_eq_true] at hg
   have:=hg p hp
   exact hcur p (List.contains_iff_mem.1 this)
  ·simp at h2
 | const v'=>simp only [rd,RM.val_ofOpt] at h; exact litSV_ok h
 | func f=>simp only [rd,RM.val_ret,Option.some.injEq] at h; subst h; exact ⟨⟨#[],rfl,trivial⟩,rfl⟩
 | global g=>simp [rd] at h
theorem St.frame (st:St C ρ hdr S Wr σ a w) (hh:∀s v,hdr s=some v→hdr' s=some v) (hs:∀b,S b→S' b)
  (hsb:∀b,S' b→b<w'.heap.size) (hw:∀b,S b→w'.heap[b]? = w.heap[b]?)
  (hl:∀s o,σ.ob s=some o→o.live=true→∀b,blk hdr s=some b→w'.heap[b]? = w.heap[b]? ∧ ¬S' b)
  (he:∀s v,hdr' s=some v→v.oneCell'=true):St C ρ hdr' S' Wr σ a w' where
 len:=st.len
 sl t s h:=(st.sl t s h).mono hh hs hw
 ob s o h:=(st.ob s o h).mono hh hs hw (hl s o h)
 dj s s' o o' h1 h2 h3 h4 hne b hb:=by
  have key:∀s o,σ.ob s=some o→o.live=true→blk hdr' s=blk hdr s:=by
   intro s o ho hlv
   have:=st.ob s o ho
   cases o with
   | box cs=>obtain ⟨b,_,_,h,_⟩:=this; simp [blk,h,hh _ _ h]
   | row x t=>obtain ⟨hd,h,_⟩:=this; simp [blk,h,hh _ _ h]
   | _=>simp [Obj.live] at hlv
  rw [key s o h1 h3] at hb
  rw [key s' o' h2 h4]
  exact st.dj s s' o o' h1 h2 h3 h4 hne b hb
 sb:=hsb
 cl:=st.cl
 he:=he
theorem St.same (st:St C ρ hdr S Wr σ a w) (h:w'.heap=w.heap):St C ρ hdr S Wr σ a w' :=
 st.frame (fun _ _ h=>h) (fun _ h=>h) (fun b hb=>by rw [h]; exact st.sb b hb) (fun b _=>by rw [h]) (fun s o ho hl b hb=>by
  refine ⟨by rw [h],?_⟩
  have:=st.ob s o ho
  cases o with
  | box cs=>obtain ⟨b',_,_,h1,_,_,_,h2,_⟩:=this; simp [blk,h1] at hb; subst hb; exact h2
  | row x t =>
   obtain ⟨hd,h1,h2⟩:=this
   rcases h2 with ⟨h3,_⟩ | ⟨b',n,cap,arr,e,xs,cp,h3,h4,h5,_⟩
   ·simp [blk,h1,h3] at hb
   ·simp [blk,h1,h3] at hb; subst hb; exact h5
  | _=>simp [Obj.live] at hl) st.he
theorem St.live_not (st:St C ρ hdr S Wr σ a w) {s:Nat} {o:Obj} (ho:σ.ob s=some o) (hl:o.live=true) {b:Nat} (hb:blk hdr s=some b) :
  ¬S b∧b<w.heap.size∧Wr b:=by
 have:=st.ob s o ho
 have lt:∀{b:Nat} {x:Go.Obj},w.heap[b]? = some x→b<w.heap.size:=fun h=>by
  rcases Nat.lt_or_ge _ w.heap.size with hlt | hge
  ·exact hlt
  ·simp [Array.getElem?_eq_none hge] at h
 cases o with
 | box cs=>obtain ⟨b',_,_,h1,h0,_,_,h2,h3⟩:=this; simp [blk,h1] at hb; subst hb; exact ⟨h2,lt h0,h3⟩
 | row x t =>
  obtain ⟨hd,h1,h2⟩:=this
  rcases h2 with ⟨h3,_⟩ | ⟨b',n,cap,arr,e,xs,cp,h3,h4,h5,h6,_⟩
  ·simp [blk,h1,h3] at hb
  ·simp [blk,h1,h3] at hb; subst hb; exact ⟨h5,lt h4,h6⟩
 | _=>simp [Obj.live] at hl
def setTm (σ:Sym) (d:Option Nat) (s:Slot):Sym:={ σ with tm:=match d with | some d=>σ.tm.set d (some s) | none=>σ.tm }
theorem St.put (st:St C ρ hdr S Wr σ a w) (d:Option Nat) {s:Slot} {v:Value} (h:SlotR C ρ hdr S w s v) (hc:s.closed ρ.length=true) :
  St C ρ hdr S Wr (setTm σ d s) (a.put d v) w:=by
 cases d with
 | none=>exact ⟨st.len,st.sl,st.ob,st.dj,st.sb,st.cl,st.he⟩
 | some d =>
  have hev:∀t x,(setTm σ (some d) s).ev t=some x→(t=d∧d<σ.tm.length∧x=s)∨(t≠d∧σ.ev t=some x):=by
   intro t x hx
   by_cases htd:t=d
   ·subst htd
    left
    by_cases hlt:t<σ.tm.length
    ·simp [setTm,Sym.ev,hlt] at hx
     exact ⟨rfl,hlt,hx.symm⟩
    ·simp [setTm,Sym.ev,hlt] at hx
   ·right
    refine ⟨htd,?_⟩
    have:(σ.tm.set d (some s))[t]? = σ.tm[t]? := by simp [List.getElem?_set,Ne.symm htd]
    simp only [setTm,Sym.ev,this] at hx
    exact hx
  refine ⟨by simp [setTm,Act.put,st.len],fun t x hx => ?_,st.ob,st.dj,st.sb,?_,st.he⟩
  ·rcases hev t x hx with ⟨rfl,hlt,rfl⟩ | ⟨hne,hx⟩
   ·have:(a.put (some t) v).tmps.getD t undef=v:=by
     have hlt':t<a.tmps.size:=st.len ▸ hlt
     simp [Act.put,Array.getD_eq_getD_getElem?,hlt']
    rw [this]; exact h
   ·have:(a.put (some d) v).tmps.getD t undef=a.tmps.getD t undef:=by
     simp [Act.put,Array.getD_eq_getD_getElem?,Array.getElem?_setIfInBounds_ne (Ne.symm hne)]
    rw [this]; exact st.sl t x hx
  ·refine Sym.closed_of (fun t x hx => ?_) (fun t x hx=>Sym.ob_closed (σ:=σ) st.cl hx)
   rcases hev t x hx with ⟨_,_,rfl⟩ | ⟨_,hx⟩
   ·exact hc
   ·exact Sym.ev_closed st.cl hx
end
theorem ob_setO (l:List (Option Obj)) (s:Nat) (o:Obj) (t:Nat):((setO l s o)[t]?).join=if t=s then some o else (l[t]?).join:=by
 unfold setO
 split
 ·rename_i h
  by_cases e:t=s
  ·subst e; simp [h]
  ·simp [List.getElem?_set,Ne.symm e,e]
 ·rename_i h
  by_cases e:t=s
  ·subst e
   rw [List.getElem?_append_right (by simp; omega)]
   simp
   rw [show t-(l.length+(t-l.length))=0 by omega]
   simp
  ·simp only [e,if_false]
   by_cases h1:t<l.length
   ·rw [List.append_assoc,List.getElem?_append_left h1]
   ·rw [List.getElem?_eq_none (l:=l) (by omega)]
    by_cases h2:t<s
    ·rw [List.getElem?_append_left (by simp; omega),List.getElem?_append_right (by omega)]
     simp [List.getElem?_replicate]
     split<;>rfl
    ·rw [List.getElem?_eq_none (by simp; omega)]
theorem ob_putNews:∀(os:List Obj) (l:List (Option Obj)) (ns t:Nat),((putNews l ns os)[t]?).join=if ns≤t∧t<ns+os.length then os[t-ns]? else (l[t]?).join
 | [],l,ns,t=>by simp [putNews]; intro h1 h2; omega
 | o::os,l,ns,t=>by
  rw [putNews,ob_putNews os,ob_setO]
  by_cases h:t=ns
  ·subst h
   rw [if_neg (by omega),if_pos rfl,if_pos (by simp)]
   simp
  ·simp only [h,if_false,List.length_cons]
   by_cases h2:ns+1≤t∧t<ns+1+os.length
   ·rw [if_pos h2,if_pos (by omega)]
    rw [show t-ns=(t-(ns+1))+1 by omega]
    simp
   ·rw [if_neg h2,if_neg (by omega)]
def setOb (σ:Sym) (s:Nat) (o:Obj):Sym:={ σ with objs:=setO σ.objs s o }
theorem setOb_ob (σ:Sym) (s:Nat) (o:Obj) (t:Nat):(setOb σ s o).ob t=if t=s then some o else σ.ob t:=ob_setO _ _ _ _
theorem setOb_ev (σ:Sym) (s:Nat) (o:Obj) (t:Nat):(setOb σ s o).ev t=σ.ev t:=rfl
structure Ev (Wr:Nat→Prop) (ns k:Nat) (hdr:Hdr) (S:Nat→Prop) (w:World) (hdr':Hdr) (S':Nat→Prop) (w':World):Prop where
 kp:Keep Wr w w'
 hh:∀s v,hdr s=some v→hdr' s=some v
 hn:∀s,hdr s=none→¬(ns≤s∧s<ns+k)→hdr' s=none
 ss:∀b,S b→S' b
 sw:∀b,S' b→S b∨Wr b
 sk:∀b,S b→w'.heap[b]? = w.heap[b]?
section
variable {C:Ctx} {ρ:List PV} {hdr hdr' hdr'':Hdr} {S S' S'' Wr:Nat→Prop} {σ σ':Sym} {a a':Act} {w w' w'':World} {ns k:Nat}
theorem Ev.refl:Ev Wr ns k hdr S w hdr S w:=⟨Keep.refl _ _,fun _ _ h=>h,fun _ h _=>h,fun _ h=>h,fun _ h => .inl h,fun _ _=>rfl⟩
theorem Ev.trans (h:Ev Wr ns k hdr S w hdr' S' w') (h':Ev Wr ns k hdr' S' w' hdr'' S'' w''):Ev Wr ns k hdr S w hdr'' S'' w'' where
 kp:=h.kp.trans h'.kp
 hh s v hv:=h'.hh s v (h.hh s v hv)
 hn s hs hr:=h'.hn s (h.hn s hs hr) hr
 ss b hb:=h'.ss b (h.ss b hb)
 sw b hb:=by
  rcases h'.sw b hb with hb | hb
  ·exact h.sw b hb
  ·exact .inr hb
 sk b hb:=by rw [h'.sk b (h.ss b hb),h.sk b hb]
theorem Ev.widen {ns' k':Nat} (h:Ev Wr ns k hdr S w hdr' S' w') (h1:ns'≤ns) (h2:ns+k≤ns'+k'):Ev Wr ns' k' hdr S w hdr' S' w' :=
 ⟨h.kp,h.hh,fun s hs hr=>h.hn s hs (by omega),h.ss,h.sw,h.sk⟩
theorem Ev.heap (h0:(w'.heap,w'.os,w'.output)=(w.heap,w.os,w.output)):Ev Wr ns k hdr S w hdr S w':=by
 have h:w'.heap=w.heap:=(Prod.mk.inj h0).1
 exact ⟨⟨by rw [h]; exact Nat.le_refl _,fun _ _ _=>by rw [h],.of_heap h0⟩,fun _ _ h=>h,fun _ h _=>h,fun _ h=>h,fun _ h => .inl h,fun _ _=>by rw [h]⟩
theorem St.setOb (st:St C ρ hdr S Wr σ a w) (s:Nat) (o:Obj) (ho:ObjR C ρ hdr S Wr w s o) (hc:o.closed ρ.length=true)
  (hd:o.live=true→∀s' o',s'≠s→σ.ob s'=some o'→o'.live=true→∀b,blk hdr s=some b→blk hdr s'≠some b) :
  St C ρ hdr S Wr (setOb σ s o) a w where
 len:=st.len
 sl:=st.sl
 ob t x h:=by
  rw [setOb_ob] at h
  split at h
  ·rename_i e; subst e; cases h; exact ho
  ·exact st.ob t x h
 dj t t' x x' h1 h2 h3 h4 hne b hb:=by
  rw [setOb_ob] at h1 h2
  split at h1
  ·rename_i e; subst e; cases h1
   rw [if_neg (Ne.symm hne)] at h2
   exact hd h3 t' x' (Ne.symm hne) h2 h4 b hb
  ·split at h2
   ·rename_i e1 e; subst e; cases h2
    intro hb'
    exact hd h4 t x hne h1 h3 b hb' hb
   ·exact st.dj t t' x x' h1 h2 h3 h4 hne b hb
 sb:=st.sb
 cl:=Sym.closed_of (fun t x h=>Sym.ev_closed (σ:=σ) st.cl h) fun t x h=>by
  rw [setOb_ob] at h
  split at h
  ·cases h; exact hc
  ·exact Sym.ob_closed st.cl h
 he:=st.he
theorem St.gone (st:St C ρ hdr S Wr σ a w) (s:Nat):St C ρ hdr S Wr (Dx.setOb σ s .gone) a w :=
 st.setOb s .gone trivial rfl fun h=>by simp [Obj.live] at h
theorem RowR.toRep {hd:Value} {p:PV} {t:Ty} (h:RowR C S Wr w hd p t) :
  RepC C (fun b=>S b∨∃n cap,hd = .slice (some ⟨b,0,none⟩) n cap) w (.sl t) hd p:=by
 rcases h with ⟨h1,h2⟩ | ⟨b,n,cap,arr,e,xs,cp,h1,h2,h3,h4,h5,h6,h7,h8,h9,h10⟩
 ·subst h1 h2; exact .nil
 ·subst h1 h5
  have key:∀i j,∃v,i<n→j<t.cells.length→arr[i*t.cells.length+j]? = some v∧∀t',t.cells[j]? = some t'→RepC C S w t' v (cp i j):=by
   intro i j
   by_cases hi:i<n
   ·by_cases hj:j<t.cells.length
    ·obtain ⟨v,hv,hr⟩:=h10 i j _ hi (List.getElem?_eq_getElem hj)
     refine ⟨v,fun _ _=>⟨hv,fun t' ht' => ?_⟩⟩
     rw [List.getElem?_eq_getElem hj] at ht'
     cases ht'; exact hr
    ·exact ⟨undef,fun _ h=>absurd h hj⟩
   ·exact ⟨undef,fun h=>absurd h hi⟩
  refine .sl (fun i j=>Classical.choose (key i j)) cp (.inr ⟨n,cap,rfl⟩) h6 h7 (fun i j hi hj => ?_) h9 (fun i j t' hi ht' => ?_)
  ·have:=(Classical.choose_spec (key i j) hi hj).1
   simp only [World.cell?,h2,Nat.zero_add,Option.isSome_none,Bool.false_eq_true,if_false]
   exact this
  ·have hj:j<t.cells.length:=by
    rcases Nat.lt_or_ge j t.cells.length with h | h
    ·exact h
    ·simp [List.getElem?_eq_none h] at ht'
   exact ((Classical.choose_spec (key i j) hi hj).2 t' ht').stable (fun _ h => .inl h) (fun _ _=>rfl)
theorem RowR.hd0 {hd:Value} {p:PV} {t:Ty} (h:RowR C S Wr w hd p t):Dx.hd0 hd:=by
 rcases h with ⟨rfl,_⟩ | ⟨b,n,cap,arr,e,xs,cp,rfl,_⟩
 ·intro a n cap h; cases h
 ·intro a n' cap' h; cases h; rfl
theorem St.freeze1 (st:St C ρ hdr S Wr σ a w) {s:Nat} {x:Exp} {t:Ty} (h:σ.ob s=some (.row x t)) :
  ∃S',St C ρ hdr S' Wr (Dx.setOb σ s (.rrow x t)) a w∧Ev Wr ns k hdr S w hdr S' w:=by
 obtain ⟨hd,h1,h2⟩:=st.ob s _ h
 have hS':∀b,(∃n cap,hd = .slice (some ⟨b,0,none⟩) n cap)→blk hdr s=some b:=by
  rintro b ⟨n,cap,rfl⟩; simp [blk,h1]
 refine ⟨fun b=>S b∨∃n cap,hd = .slice (some ⟨b,0,none⟩) n cap,?_,⟨Keep.refl _ _,fun _ _ h=>h,fun _ h _=>h,fun _ h => .inl h,fun b hb => ?_,fun _ _=>rfl⟩⟩
 ·have st1:=(st.gone s).frame (S':=fun b=>S b∨∃n cap,hd = .slice (some ⟨b,0,none⟩) n cap) (w':=w) (hdr':=hdr) (fun _ _ h=>h) (fun _ h => .inl h)
   (fun b hb => ?_) (fun _ _=>rfl) (fun s' o' ho' hl b hb=>⟨rfl,?_⟩) st.he
  ·have st2:=st1.setOb s (.rrow x t) ⟨hd,h1,h2.toRep,h2.hd0⟩ (show x.closed ρ.length=true from Sym.ob_closed (s := .row x t) st.cl h) fun h=>by simp [Obj.live] at h
   have:Dx.setOb (Dx.setOb σ s .gone) s (.rrow x t)=Dx.setOb σ s (.rrow x t):=by
    unfold Dx.setOb setO
    congr 1
    by_cases hlt:s<σ.objs.length
    ·simp [hlt]
    ·have:=h; simp [Sym.ob,List.getElem?_eq_none (Nat.le_of_not_lt hlt)] at this
   rw [this] at st2; exact st2
  ·rcases hb with hb | hb
   ·exact st.sb b hb
   ·exact (st.live_not h rfl (hS' b hb)).2.1
  ·rw [setOb_ob] at ho'
   split at ho'
   ·cases ho'; simp [Obj.live] at hl
   ·rename_i hne
    rintro (hb' | hb')
    ·exact (st.live_not ho' hl hb).1 hb'
    ·exact st.dj s s' _ o' h ho' rfl hl (Ne.symm hne) b (hS' b hb') hb
 ·rcases hb with hb | hb
  ·exact .inl hb
  ·exact .inr (st.live_not h rfl (hS' b hb)).2.2
theorem St.push (st:St C ρ hdr S Wr σ a w) (x:Go.Obj) {s:Nat} (hs:hdr s=none) (v:Value) (hv:v.oneCell'=true) :
  St C ρ (fun t=>if t=s then some v else hdr t) S Wr σ a { w with heap:=w.heap.push x }:=by
 have hold:∀b,b<w.heap.size→(w.heap.push x)[b]? = w.heap[b]? := fun b hb=>by
  rw [Array.getElem?_push,if_neg (by omega)]
 refine st.frame (fun t u h => ?_) (fun _ h=>h) (fun b hb => ?_) (fun b hb=>hold b (st.sb b hb)) (fun t o ho hl b hb => ?_) (fun t u h => ?_)
 ·by_cases e:t=s
  ·subst e; rw [hs] at h; cases h
  ·simp [e,h]
 ·simp; have:=st.sb b hb; omega
 ·have:=st.live_not ho hl hb
  exact ⟨hold b this.2.1,this.1⟩
 ·by_cases e:t=s
  ·simp [e] at h; subst h; exact hv
  ·simp [e] at h; exact st.he t u h
theorem Ev.push {x:Go.Obj} (hx:∃arr e,x = .cells arr e (0,0)) {s:Nat} (hs:hdr s=none) (v:Value) (h1:ns≤s) (h2:s<ns+k) (hsb:∀b,S b→b<w.heap.size) :
  Ev Wr ns k hdr S w (fun t=>if t=s then some v else hdr t) S { w with heap:=w.heap.push x }:=by
 have hold:∀b,b<w.heap.size→(w.heap.push x)[b]? = w.heap[b]? := fun b hb=>by
  rw [Array.getElem?_push,if_neg (by omega)]
 obtain ⟨arr,ty,rfl⟩:=hx
 refine ⟨⟨by simp,fun b _ hb=>hold b hb,.push rfl⟩,fun t u h => ?_,fun t h hr => ?_,fun _ h=>h,fun _ h => .inl h,fun b hb=>hold b (hsb b hb)⟩
 ·by_cases e:t=s
  ·subst e; rw [hs] at h; cases h
  ·simp [e,h]
 ·have e:t≠s:=by rintro rfl; exact hr ⟨h1,h2⟩
  simp [e,h]
theorem St.newObj (st:St C ρ hdr S Wr σ a w) (x:Go.Obj) {s:Nat} (hs:hdr s=none) (v:Value) (hv:v.oneCell'=true) (o:Obj)
  (hb:∀b,blk (fun t=>if t=s then some v else hdr t) s=some b→b=w.heap.size)
  (ho:ObjR C ρ (fun t=>if t=s then some v else hdr t) S Wr { w with heap:=w.heap.push x } s o) (hc:o.closed ρ.length=true) :
  St C ρ (fun t=>if t=s then some v else hdr t) S Wr (Dx.setOb σ s o) a { w with heap:=w.heap.push x } :=
 (st.push x hs v hv).setOb s o ho hc fun _ t o' hne ho' hl b hbb hb'=>by
  have e:=hb b hbb
  subst e
  have:blk hdr t=some w.heap.size:=by simpa [blk,hne] using hb'
  have:=(st.live_not ho' hl this).2.1
  omega
end
section
variable {C:Ctx} {ρ:List PV} {hdr:Hdr} {S Wr:Nat→Prop} {a:Act} {w:World} {ns k:Nat}
def setObs (σ:Sym) (us:List (Nat × Obj)):Sym:={ σ with objs:=us.foldl (fun l u=>setO l u.1 u.2) σ.objs }
theorem setObs_nil (σ:Sym):setObs σ []=σ:=rfl
theorem setObs_cons (σ:Sym) (u:Nat × Obj) (us:List (Nat × Obj)):setObs σ (u::us)=setObs (setOb σ u.1 u.2) us:=rfl
theorem setObs_append (σ:Sym) (us vs:List (Nat × Obj)):setObs σ (us++vs)=setObs (setObs σ us) vs:=by
 simp [setObs]
theorem freeze_ob {σ:Sym}:∀{ss:List Nat} {us:List (Nat × Obj)},(freeze ss).val σ.ev σ.ob=some us →
  (∀u∈us,∃x t,u.2 = .rrow x t∧σ.ob u.1=some (.row x t)∧u.1∈ss) ∧
  (∀s∈ss,(∃x t,σ.ob s=some (.rrow x t))∨∃x t,σ.ob s=some (.row x t)∧(s,Obj.rrow x t)∈us)
 | [],us,h=>by simp [freeze] at h; subst h; simp
 | s::ss,us,h=>by
  simp only [freeze,RM.val_ob,Option.bind_eq_some_iff] at h
  obtain ⟨o,ho,h⟩:=h
  split at h
  ·rename_i x t
   simp only [RM.val_bind,RM.val_ret,Option.bind_eq_some_iff,Option.some.injEq] at h
   obtain ⟨vs,h1,rfl⟩:=h
   obtain ⟨i1,i2⟩:=freeze_ob h1
   refine ⟨fun u hu => ?_,fun s' hs' => ?_⟩
   ·rcases List.mem_cons.1 hu with rfl | hu
    ·exact ⟨x,t,rfl,ho,by simp⟩
    ·obtain ⟨y,t',e1,e2,e3⟩:=i1 u hu; exact ⟨y,t',e1,e2,by simp [e3]⟩
   ·rcases List.mem_cons.1 hs' with rfl | hs'
    ·exact .inr ⟨x,t,ho,by simp⟩
    ·rcases i2 s' hs' with h | ⟨y,t',e1,e2⟩
     ·exact .inl h
     ·exact .inr ⟨y,t',e1,by simp [e2]⟩
  ·rename_i x t
   obtain ⟨i1,i2⟩:=freeze_ob h
   refine ⟨fun u hu => ?_,fun s' hs' => ?_⟩
   ·obtain ⟨y,t',e1,e2,e3⟩:=i1 u hu; exact ⟨y,t',e1,e2,by simp [e3]⟩
   ·rcases List.mem_cons.1 hs' with rfl | hs'
    ·exact .inl ⟨x,t,ho⟩
    ·exact i2 s' hs'
  ·simp at h
theorem St.freezes:∀{us:List (Nat × Obj)} {S:Nat→Prop} {σ':Sym},St C ρ hdr S Wr σ' a w →
  (∀u∈us,∃x t,u.2 = .rrow x t∧(σ'.ob u.1=some (.row x t)∨σ'.ob u.1=some (.rrow x t))) →
  ∃S',St C ρ hdr S' Wr (setObs σ' us) a w∧Ev Wr ns k hdr S w hdr S' w
 | [],S,σ',st,_=>⟨S,st,Ev.refl⟩
 | (s,o)::us,S,σ',st,h=>by
  obtain ⟨x,t,e1,e2⟩:=h (s,o) (List.mem_cons_self ..)
  dsimp only at e1 e2
  subst e1
  have rest:∀{S1},St C ρ hdr S1 Wr (Dx.setOb σ' s (.rrow x t)) a w →
    ∃S',St C ρ hdr S' Wr (setObs (Dx.setOb σ' s (.rrow x t)) us) a w∧Ev Wr ns k hdr S1 w hdr S' w:=fun {S1} st1=>by
   refine St.freezes st1 fun u hu => ?_
   obtain ⟨y,t',f1,f2⟩:=h u (List.mem_cons_of_mem _ hu)
   refine ⟨y,t',f1,?_⟩
   rw [setOb_ob]
   split
   ·rename_i e
    rw [e] at f2
    right
    rcases e2 with e2 | e2<;>rcases f2 with f2 | f2<;>rw [e2] at f2<;>cases f2<;>rfl
   ·exact f2
  rcases e2 with e2 | e2
  ·obtain ⟨S1,st1,ev1⟩:=st.freeze1 (ns:=ns) (k:=k) e2
   obtain ⟨S',st',ev'⟩:=rest st1
   exact ⟨S',st',ev1.trans ev'⟩
  ·have st1:St C ρ hdr S Wr (Dx.setOb σ' s (.rrow x t)) a w:=st.setOb s (.rrow x t) (st.ob s _ e2) (Sym.ob_closed st.cl e2) fun h=>by simp [Obj.live] at h
   exact rest st1
end
theorem wp_val {P:Program} {o:Oper} {a:Act} {w w':World} {Kc:Act→World→Prop} {Q:Exit→Act→World→Prop} {v:Value}
  (h:(execOp a.eval o).run P w = .ok (.value v) w') (hk:Kc (a.put o.dst v) w'):o.wp P a w Kc Q:=by
 unfold Oper.wp; rw [h]; exact hk
theorem wp_skp {P:Program} {o:Oper} {a:Act} {w w':World} {Kc:Act→World→Prop} {Q:Exit→Act→World→Prop}
  (h:(execOp a.eval o).run P w = .ok .skip w') (hk:Kc (a.put o.dst undef) w'):o.wp P a w Kc Q:=by
 unfold Oper.wp; rw [h]; exact hk
def setNews (σ:Sym) (ns:Nat) (os:List Obj):Sym:={ σ with objs:=putNews σ.objs ns os }
def Post (C:Ctx) (ρ:List PV) (hdr:Hdr) (S Wr:Nat→Prop) (σ:Sym) (a:Act) (w:World) (o:Oper) (cur:Gd) (r:Res) (ns:Nat) (a':Act) (w':World):Prop :=
 a'.defers=a.defers∧∃hdr' S',St C ρ hdr' S' Wr (setTm (setNews (setObs σ r.upds) ns r.news) o.dst ⟨cur,r.v⟩) a' w'∧Ev Wr ns r.news.length hdr S w hdr' S' w'
structure Sit (C:Ctx) (F:Nat→List PV→Option (List PV)) (ρ:List PV) (hdr:Hdr) (S Wr:Nat→Prop) (σ:Sym) (a:Act) (w:World) (cur:Gd) (ns nv:Nat) (r:Res):Prop where
 st:St C ρ hdr S Wr σ a w
 hcur:gdHolds ρ cur
 hg:gdClosed ρ.length cur=true
 has:∀e∈r.as,e.isTrue ρ=true
 hcl:r.closed ρ.length=true
 hW:∀b,w.heap.size≤b→Wr b
 hf:∀s,ns≤s→s<ns+r.news.length→hdr s=none
section
variable {C:Ctx} {F:Nat→List PV→Option (List PV)} {ρ:List PV} {hdr hdr':Hdr} {S S' Wr:Nat→Prop} {σ:Sym} {a:Act} {w w':World} {cur:Gd} {ns nv:Nat} {r:Res} {o:Oper} {Kc:Act→World→Prop} {Q:Exit→Act→World→Prop}
theorem SCRel.one {c:SC} {v:Value} (h:SCRel C ρ hdr S w c v):v.oneCell'=true:=by
 cases c with
 | e x κ=>exact K.has_one h.1
 | raw x=>obtain ⟨n,rfl,_⟩:=h; rfl
 | ro x t=>exact RepC.one h
 | nilS=>cases h; rfl
 | own s=>exact h.2
 | sub s z off len=>obtain ⟨l,_,_,⟨_,rfl,_⟩ | ⟨_,_,_,_,_,_,rfl,_⟩⟩:=h<;>rfl
 | ptr s off=>obtain ⟨b,_,rfl⟩:=h; rfl
 | adr s z i j=>obtain ⟨_,_,_,_,_,_,rfl⟩:=h; rfl
 | adrR x t i j=>obtain ⟨_,_,_,_,_,_,_,rfl⟩:=h; rfl
 | fnv x n m=>exact RepC.one h
 | dead=>exact h
theorem cells_one {v:Value} (h:v.oneCell'=true):v.cells = #[v]:=by cases v<;>simp_all [Value.cells,Value.oneCell']
theorem cellsL_ok {x:SV} {v:Value} {cs:List SC} (h:SVRel C ρ hdr S w x v) (hc:x.cellsL=some cs):All2 (SCRel C ρ hdr S w) cs v.cells.toList:=by
 cases x with
 | c c=>simp [SV.cellsL] at hc; subst hc; rw [cells_one (SCRel.one h)]; exact ⟨h,trivial⟩
 | agg xs=>simp [SV.cellsL] at hc; subst hc; obtain ⟨arr,rfl,h2⟩:=h; exact h2
 | tup xs=>simp [SV.cellsL] at hc
 | fn f xs=>simp [SV.cellsL] at hc
theorem cellsL_closed {x:SV} {cs:List SC} {n:Nat} (h:x.closed n=true) (hc:x.cellsL=some cs):cs.all (·.closed n)=true:=by
 cases x<;>simp [SV.cellsL] at hc<;>subst hc
 ·simpa [SV.closed] using h
 ·simpa [SV.closed] using h
theorem mkSV_ok {agg:Bool} {cs:List SC} {x:SV} {vs:List Value} (h:mkSV agg cs=some x) (hv:All2 (SCRel C ρ hdr S w) cs vs) :
  SVRel C ρ hdr S w x (if agg then .agg vs.toArray else vs.headD undef):=by
 unfold mkSV at h
 cases agg
 ·simp only [Bool.false_eq_true,if_false] at h ⊢
  split at h
  ·simp at h; subst h
   cases vs with
   | nil=>exact hv.elim
   | cons v vs=>exact hv.1
  ·simp at h
 ·simp at h; subst h; exact ⟨vs.toArray,by simp,by simpa using hv⟩
theorem mkSV_closed {agg:Bool} {cs:List SC} {x:SV} {n:Nat} (h:mkSV agg cs=some x) (hc:cs.all (·.closed n)=true):x.closed n=true:=by
 unfold mkSV at h
 cases agg
 ·simp only [Bool.false_eq_true,if_false] at h
  split at h
  ·simp at h; subst h; simpa [SV.closed] using hc
  ·simp at h
 ·simp at h; subst h; simpa [SV.closed] using hc
theorem slot_cur {x:SV} {v:Value} (hcur:gdHolds ρ cur) (h:SVRel C ρ hdr S w x v):SlotR C ρ hdr S w ⟨cur,x⟩ v :=
 ⟨fun _=>h,fun hn=>absurd hcur hn⟩
theorem setNews_nil (σ:Sym) (ns:Nat):setNews σ ns []=σ:=rfl
theorem setNews_one (σ:Sym) (ns:Nat) (x:Obj):setNews σ ns [x]=setOb σ ns x:=rfl
theorem pure_ok (sit:Sit C F ρ hdr S Wr σ a w cur ns nv r) (hn:r.news=[]) (hu:r.upds=[]) {v:Value}
  (hr:(execOp a.eval o).run C.P w = .ok (.value v) w') (h0:(w'.heap,w'.os,w'.output)=(w.heap,w.os,w.output)) (hv:SVRel C ρ hdr S w r.v v)
  (hK:∀a' w',Post C ρ hdr S Wr σ a w o cur r ns a' w'→Kc a' w'):o.wp C.P a w Kc Q:=by
 have hh:w'.heap=w.heap:=(Prod.mk.inj h0).1
 refine wp_val hr (hK _ _ ⟨by cases o.dst<;>rfl,hdr,S,?_,?_⟩)
 ·rw [hn,hu,setNews_nil,setObs_nil]
  have hcl:=sit.hcl
  simp only [Res.closed,Bool.and_eq_true] at hcl
  refine (sit.st.same hh).put o.dst (slot_cur sit.hcur (hv.mono (fun _ _ h=>h) (fun _ h=>h) (fun _ _=>by rw [hh]))) ?_
  simp [Slot.closed,sit.hg,hcl.1.1]
 ·exact Ev.heap h0
theorem new_ok (sit:Sit C F ρ hdr S Wr σ a w cur ns nv r) {x:Go.Obj} {ob:Obj} {σ1:Sym} {S1:Nat→Prop} (hn:r.news=[ob]) (hσ:setObs σ r.upds=σ1)
  (st1:St C ρ hdr S1 Wr σ1 a w) (ev1:Ev Wr ns r.news.length hdr S w hdr S1 w) {v hv:Value} (hone:hv.oneCell'=true)
  (hr:(execOp a.eval o).run C.P w = .ok (.value v) w') (hw0:(w'.heap,w'.os,w'.output)=(w.heap.push x,w.os,w.output))
  (hb:∀b,blk (fun t=>if t=ns then some hv else hdr t) ns=some b→b=w.heap.size)
  (ho:ObjR C ρ (fun t=>if t=ns then some hv else hdr t) S1 Wr { w with heap:=w.heap.push x } ns ob)
  (hval:SVRel C ρ (fun t=>if t=ns then some hv else hdr t) S1 { w with heap:=w.heap.push x } r.v v)
  (hK:∀a' w',Post C ρ hdr S Wr σ a w o cur r ns a' w'→Kc a' w') (hx:∃arr e,x = .cells arr e (0,0):=by exact ⟨_,_,rfl⟩):o.wp C.P a w Kc Q:=by
 have hw':w'.heap=w.heap.push x:=(Prod.mk.inj hw0).1
 have hfr:=sit.hf ns (Nat.le_refl _) (by simp [hn])
 have hcl:=sit.hcl
 simp only [Res.closed,Bool.and_eq_true,hn,List.all_cons,List.all_nil,Bool.and_true] at hcl
 refine wp_val hr (hK _ _ ⟨by cases o.dst<;>rfl,fun t=>if t=ns then some hv else hdr t,S1,?_,?_⟩)
 ·rw [hn,hσ,setNews_one]
  have st2:=st1.newObj x hfr hv hone ob hb ho hcl.1.2
  have st3:St C ρ (fun t=>if t=ns then some hv else hdr t) S1 Wr (setOb σ1 ns ob) a w':=st2.same hw'
  refine st3.put o.dst (slot_cur sit.hcur (hval.mono (fun _ _ h=>h) (fun _ h=>h) (fun _ _=>by rw [hw']))) ?_
  simp [Slot.closed,sit.hg,hcl.1.1]
 ·refine ev1.trans ((Ev.push hx hfr hv (Nat.le_refl _) (by simp [hn]) st1.sb).trans (Ev.heap hw0))
theorem run_zeroValue {P:Program} {t:TypeId} {i:TypeInfo} {z:Value} (hi:P.info? t=some i) (hz:i.zero=some z) (w:World) :
  (zeroValue t).run P w = .ok z w:=by
 simp [zeroValue,typeInfo,hi,hz]
theorem run_sizeOf {P:Program} {t:TypeId} {n:Nat} (h:sizeT P t=some n) (w:World):(sizeOf t).run P w = .ok n w:=by
 unfold sizeT at h
 cases hi:P.info? t with
 | none=>simp [hi] at h
 | some i=>simp [hi] at h; simp [sizeOf,typeInfo,hi,h]
theorem run_underlying' {P:Program} {t:TypeId} {d:TypeDesc} (h:P.underlying t=some d) (w:World):(underlying t).run P w = .ok d w:=by
 simp [underlying,h]
theorem run_isAgg {P:Program} {t:TypeId} (h:(P.underlying t).isSome=true) (w:World):(isAgg t).run P w = .ok (isAggT P t) w:=by
 unfold isAgg isAggT
 cases hu:P.underlying t with
 | none=>simp [hu] at h
 | some d=>simp only [Sem.run_bind,run_underlying' hu,Result.andThen_ok]; cases d<;>rfl
theorem info_under {P:Program} {t:TypeId} {n:Nat} (h:(P.underlying t).isSome=true):sizeT P t≠none∨n=n := .inr rfl
theorem box_ok {b:Nat} {cs:List SC} {arr:Array Value} {t:TypeId} (hb:b=w.heap.size) (hc:All2 (SCRel C ρ hdr S w) cs arr.toList) (hW:Wr b)
  (hsb:∀b,S b→b<w.heap.size) (hns:hdr ns=none) :
  ObjR C ρ (fun s=>if s=ns then some (.pointer (some ⟨b,0,none⟩)) else hdr s) S Wr { w with heap:=w.heap.push (.cells arr t (0,0)) } ns (.box cs):=by
 subst hb
 refine ⟨w.heap.size,arr,t,by simp,by simp,?_,?_,fun h=>by have:=hsb _ h; omega,hW⟩
 ·refine hc.imp fun c v h=>h.mono (fun s v hs => ?_) (fun _ h=>h) (fun b hb => ?_)
  ·by_cases e:s=ns
   ·subst e; rw [hns] at hs; cases hs
   ·simp [e,hs]
  ·show (w.heap.push _)[b]? = _
   rw [Array.getElem?_push,if_neg (by have:=hsb _ hb; omega)]
 ·intro v hv
  obtain ⟨i,hi⟩:=List.mem_iff_getElem?.1 hv
  obtain ⟨c,_,h⟩:=hc.get' hi
  exact h.one
theorem sop_move {x:Operand} (ho:o.op = .move x) (h:(sop C cur ns nv o).val σ.ev σ.ob=some r) (sit:Sit C F ρ hdr S Wr σ a w cur ns nv r)
  (hK:∀a' w',Post C ρ hdr S Wr σ a w o cur r ns a' w'→Kc a' w'):o.wp C.P a w Kc Q:=by
 simp only [sop,ho,RM.val_bind,RM.val_ret,Option.bind_eq_some_iff,Option.some.injEq] at h
 obtain ⟨v,h1,rfl⟩:=h
 exact pure_ok sit rfl rfl (by simp [execOp,ho]) rfl (rd_ok sit.st sit.hcur h1).1 hK
theorem not_nan {x:Exp} {m:Nat} (hx:x.den ρ = .v (.float .f64 (cnF m))) (h:(Exp.un .not (.un .isnan x)).isTrue ρ=true):isNaN m=false:=by
 simp only [Exp.isTrue,Exp.den,hx,U.den,PV.flt,PV.bool] at h
 unfold cnF at h
 split at h
 ·simp [show isNaN nan0=true by decide +kernel] at h
 ·rename_i hn; simpa using hn
theorem raw_e {x:Exp} {v:Value} (h:SCRel C ρ hdr S w (.raw x) v) (ht:(Exp.un .not (.un .isnan x)).isTrue ρ=true) :
  SCRel C ρ hdr S w (.e (.un .f2b x) (.i .u64)) v:=by
 obtain ⟨n,rfl,hx⟩:=h
 refine ⟨by simp [K.has],?_⟩
 simp [Exp.den,hx,U.den,PV.flt,cn,cnF,not_nan hx ht]
theorem sop_assign {x:Operand} (ho:o.op = .assign x) (h:(sop C cur ns nv o).val σ.ev σ.ob=some r) (sit:Sit C F ρ hdr S Wr σ a w cur ns nv r)
  (hK:∀a' w',Post C ρ hdr S Wr σ a w o cur r ns a' w'→Kc a' w'):o.wp C.P a w Kc Q:=by
 simp only [sop,ho,RM.val_bind,Option.bind_eq_some_iff] at h
 obtain ⟨v,h1,h2⟩:=h
 have hv:=(rd_ok sit.st sit.hcur h1).1
 split at h2
 ·simp only [RM.val_ret,Option.some.injEq] at h2
  subst h2
  exact pure_ok sit rfl rfl (by simp [execOp,ho]) rfl (raw_e (C:=C) (hdr:=hdr) (S:=S) (w:=w) hv (sit.has _ (by simp))) hK
 ·simp only [RM.val_ret,Option.some.injEq] at h2
  subst h2
  exact pure_ok sit rfl rfl (by simp [execOp,ho]) rfl hv hK
theorem eOnly_ok {x:SV} {e:Exp} {κ:K} (h:(eOnly x).val σ.ev σ.ob=some (e,κ)):x = .c (.e e κ):=by
 unfold eOnly at h
 split at h
 ·simp at h; obtain ⟨rfl,rfl⟩:=h; rfl
 ·simp at h
theorem eOf_ok {x:SV} {e:Exp} {κ:K} (h:(eOf κ x).val σ.ev σ.ob=some e):x = .c (.e e κ):=by
 simp only [eOf,RM.val_bind,Option.bind_eq_some_iff,RM.val_guard,RM.val_ret] at h
 obtain ⟨⟨e',κ'⟩,h1,_,h2,h3⟩:=h
 have:=guard_some h2
 simp at this h3
 subst this h3
 exact eOnly_ok h1
theorem has_bool {v:Value} (h:K.b.has v=true):∃b,v = .bool b:=by cases v<;>simp_all [K.has]
theorem sop_pick {c x y:Operand} (ho:o.op = .pick c x y) (h:(sop C cur ns nv o).val σ.ev σ.ob=some r) (sit:Sit C F ρ hdr S Wr σ a w cur ns nv r)
  (hK:∀a' w',Post C ρ hdr S Wr σ a w o cur r ns a' w'→Kc a' w'):o.wp C.P a w Kc Q:=by
 simp only [sop,ho,RM.val_bind,RM.val_ret,Option.bind_eq_some_iff,Option.some.injEq] at h
 obtain ⟨vc,h1,ec,h2,va,h3,⟨ea,κ⟩,h4,vb,h5,eb,h6,rfl⟩:=h
 have hc:=(rd_ok sit.st sit.hcur h1).1
 obtain rfl:=eOf_ok h2
 obtain ⟨hk,hd⟩:=hc
 obtain ⟨b,hb⟩:=has_bool hk
 rw [hb] at hd
 simp only [cn] at hd
 have hcur':∀b',b=b'→gdHolds ρ (cur++[(ec,b')]):=by
  rintro b' rfl p hp
  rcases List.mem_append.1 hp with hp | hp
  ·exact sit.hcur p hp
  ·simp at hp; subst hp; show (ec.den ρ).bool=_; rw [hd]; rfl
 refine pure_ok sit rfl rfl (v:=if b then a.eval x else a.eval y) (by simp [execOp,ho,hb,asBool]) rfl ?_ hK
 cases b
 ·have:=(rd_ok sit.st (hcur' false rfl) h5).1
  obtain rfl:=eOf_ok h6
  obtain ⟨h7,h8⟩:=this
  exact ⟨h7,by simp [Exp.den,T3.den,hd,PV.bool,h8]⟩
 ·have:=(rd_ok sit.st (hcur' true rfl) h3).1
  obtain rfl:=eOnly_ok h4
  obtain ⟨h7,h8⟩:=this
  exact ⟨h7,by simp [Exp.den,T3.den,hd,PV.bool,h8]⟩
theorem sop_alloc {t:TypeId} (ho:o.op = .alloc t) (h:(sop C cur ns nv o).val σ.ev σ.ob=some r) (sit:Sit C F ρ hdr S Wr σ a w cur ns nv r)
  (hK:∀a' w',Post C ρ hdr S Wr σ a w o cur r ns a' w'→Kc a' w'):o.wp C.P a w Kc Q:=by
 simp only [sop,ho,RM.val_bind,RM.val_ret,RM.val_ofOpt,RM.val_guard,Option.bind_eq_some_iff,Option.some.injEq] at h
 obtain ⟨cs,h1,_,_,rfl⟩:=h
 unfold zeroT at h1
 cases hi:C.P.info? t with
 | none=>simp [hi] at h1
 | some i =>
  cases hz:i.zero with
  | none=>simp [hi,hz] at h1
  | some z =>
   simp only [hi,hz] at h1
   have hc:=litCells_ok (C:=C) (ρ:=ρ) (hdr:=hdr) (S:=S) (w:=w) h1
   refine new_ok sit (x := .cells z.cells t (0,0)) (w':={ w with heap:=w.heap.push (.cells z.cells t (0,0)) }) (hv := .pointer (some ⟨w.heap.size,0,none⟩)) (v := .pointer (some ⟨w.heap.size,0,none⟩)) rfl rfl sit.st Ev.refl rfl
    (by simp [execOp,ho,Instr.alloc,run_zeroValue hi hz,newVar,newRow]) rfl
    (fun b hb=>by simp [blk] at hb; exact hb.symm) (box_ok rfl hc.1 (sit.hW _ (Nat.le_refl _)) sit.st.sb (sit.hf ns (Nat.le_refl _) (by simp))) ?_ hK
   exact ⟨w.heap.size,by simp,rfl⟩
theorem sop_box {t:TypeId} {x:Operand} (ho:o.op = .box t x) (h:(sop C cur ns nv o).val σ.ev σ.ob=some r) (sit:Sit C F ρ hdr S Wr σ a w cur ns nv r)
  (hK:∀a' w',Post C ρ hdr S Wr σ a w o cur r ns a' w'→Kc a' w'):o.wp C.P a w Kc Q:=by
 simp only [sop,ho,RM.val_bind,RM.val_ret,RM.val_ofOpt,RM.val_guard,Option.bind_eq_some_iff,Option.some.injEq] at h
 obtain ⟨v,h1,cs,h2,_,_,rfl⟩:=h
 have hv:=(rd_ok sit.st sit.hcur h1).1
 have hc:=cellsL_ok hv h2
 refine new_ok sit (x := .cells (a.eval x).cells t (0,0)) (w':={ w with heap:=w.heap.push (.cells (a.eval x).cells t (0,0)) }) (hv := .pointer (some ⟨w.heap.size,0,none⟩)) (v := .pointer (some ⟨w.heap.size,0,none⟩)) rfl rfl sit.st Ev.refl rfl
  (by simp [execOp,ho,Instr.box,newVar,newRow]) rfl
  (fun b hb=>by simp [blk] at hb; exact hb.symm) (box_ok rfl hc (sit.hW _ (Nat.le_refl _)) sit.st.sb (sit.hf ns (Nat.le_refl _) (by simp))) ?_ hK
 exact ⟨w.heap.size,by simp,rfl⟩
theorem sop_nilCheck {x:Operand} (ho:o.op = .nilCheck x) (h:(sop C cur ns nv o).val σ.ev σ.ob=some r) (sit:Sit C F ρ hdr S Wr σ a w cur ns nv r)
  (hK:∀a' w',Post C ρ hdr S Wr σ a w o cur r ns a' w'→Kc a' w'):o.wp C.P a w Kc Q:=by
 simp only [sop,ho,RM.val_bind,Option.bind_eq_some_iff] at h
 obtain ⟨v,h1,h2⟩:=h
 have hv:=(rd_ok sit.st sit.hcur h1).1
 have fin:∀{b:Addr},a.eval x = .pointer (some b)→(execOp a.eval o).run C.P w = .ok (.value (a.eval x)) w:=fun e=>by
  simp [execOp,ho,e]
 split at h2
 ·simp only [RM.val_ret,Option.some.injEq] at h2; subst h2
  obtain ⟨b,h3,h4⟩:=hv
  exact pure_ok sit rfl rfl (fin h4) rfl (rd_ok sit.st sit.hcur h1).1 hK
 ·simp only [RM.val_ret,Option.some.injEq] at h2; subst h2
  obtain ⟨b,n,cap,h3,_,_,h4⟩:=hv
  exact pure_ok sit rfl rfl (fin h4) rfl (rd_ok sit.st sit.hcur h1).1 hK
 ·simp only [RM.val_ret,Option.some.injEq] at h2; subst h2
  obtain ⟨b,o',n,cap,h3,_,_,h4⟩:=hv
  exact pure_ok sit rfl rfl (fin h4) rfl (rd_ok sit.st sit.hcur h1).1 hK
 ·simp at h2
theorem sop_extract {x:Operand} {i:Nat} (ho:o.op = .extract x i) (h:(sop C cur ns nv o).val σ.ev σ.ob=some r) (sit:Sit C F ρ hdr S Wr σ a w cur ns nv r)
  (hK:∀a' w',Post C ρ hdr S Wr σ a w o cur r ns a' w'→Kc a' w'):o.wp C.P a w Kc Q:=by
 simp only [sop,ho,RM.val_bind,Option.bind_eq_some_iff] at h
 obtain ⟨v,h1,h2⟩:=h
 have hv:=(rd_ok sit.st sit.hcur h1).1
 split at h2
 ·simp only [RM.val_bind,RM.val_ofOpt,RM.val_ret,Option.bind_eq_some_iff,Option.some.injEq] at h2
  obtain ⟨⟨b,cs⟩,h3,v',h4,rfl⟩:=h2
  obtain ⟨arr,h5,h6⟩:=hv
  obtain ⟨u,h7,h8⟩:=h6.get h3
  have h7':arr[i]? = some u:=by simpa using h7
  refine pure_ok sit rfl rfl (v:=u) (by simp [execOp,ho,Instr.extract,h5,h7']) rfl ?_ hK
  cases b
  ·obtain ⟨c,h9,h10⟩:=h8
   subst h9
   simp [mkSV] at h4; subst h4; exact h10
  ·obtain ⟨arr',h9,h10⟩:=h8
   simp [mkSV] at h4; subst h4; exact ⟨arr',h9,h10⟩
 ·simp at h2
end
theorem isNaN_eq (b:Nat):isNaN b=decide (Ieee.double.infRung<b%2^63):=by
 have h0:Ieee.double.signWeight=2^63:=by decide
 unfold isNaN Ieee.Format.read
 simp only [h0]
 have h1:Ieee.double.binade≤Ieee.double.infRung:=by decide
 by_cases c1:b%2^63<Ieee.double.binade
 ·simp only [c1,if_true]; symm; simp; omega
 ·simp only [c1,if_false]
  by_cases c2:b%2^63<Ieee.double.infRung
  ·simp only [c2,if_true]; symm; simp; omega
  ·simp only [c2,if_false]
   by_cases c3:b%2^63=Ieee.double.infRung
   ·simp only [c3,if_true]; symm; simp
   ·simp only [c3,if_false]; symm; simp; omega
theorem word_num (neg:Bool) {rung:Nat} (h:rung≤Ieee.double.infRung):isNaN (Ieee.double.word neg rung)=false:=by
 have h0:Ieee.double.signWeight=2^63:=by decide
 have h1:Ieee.double.infRung<2^63:=by decide
 rw [isNaN_eq]
 unfold Ieee.Format.word
 rw [h0]
 cases neg
 ·simp only [Bool.false_eq_true,if_false]; rw [Nat.mod_eq_of_lt (by omega)]; simp; omega
 ·simp only [if_true]; rw [Nat.add_mod_left,Nat.mod_eq_of_lt (by omega)]; simp; omega
theorem nearest_num (neg:Bool) (m:Nat) (p:Int):isNaN (Ieee.double.nearest neg m p)=false:=by
 unfold Ieee.Format.nearest
 split
 ·exact word_num _ (by decide)
 ·exact word_num _ (Nat.min_le_right _ _)
theorem write_num {d:Ieee.Datum} (h:d.isNaN=false):isNaN (Ieee.double.write d)=false:=by
 cases d with
 | number s m p=>exact nearest_num s m p
 | infinity s=>exact word_num _ (Nat.le_refl _)
 | nan s f=>cases h
theorem isNaN_xor (b:Nat):isNaN (b ^^^ 2^63)=isNaN b:=by
 rw [isNaN_eq,isNaN_eq,Nat.xor_mod_two_pow]; simp
theorem isNaN_nan0:isNaN nan0=true:=by decide +kernel
theorem cnF_nan {b:Nat} (h:isNaN b=true):cnF b=nan0:=by simp [cnF,h]
theorem cnF_num {b:Nat} (h:isNaN b=false):cnF b=b:=by simp [cnF,h]
theorem cnF_neg (b:Nat):cnF (cnF b ^^^ 2^63)=cnF (b ^^^ 2^63):=by
 cases h:isNaN b
 ·rw [cnF_num h]
 ·rw [cnF_nan h,cnF_nan (by rw [isNaN_xor]; exact isNaN_nan0),cnF_nan (by rw [isNaN_xor]; exact h)]
theorem read_nan {b:Nat} (h:isNaN b=true):∃s f,Ieee.double.read b = .nan s f:=by
 unfold isNaN at h
 cases hr:Ieee.double.read b<;>simp [hr] at h
 exact ⟨_,_,rfl⟩
theorem add_cn (x y:Nat):Ieee.double.add (cnF x) (cnF y)=Ieee.double.add x y:=by
 obtain ⟨s0,f0,h0⟩:=read_nan isNaN_nan0
 cases hx:isNaN x
 ·rw [cnF_num hx]
  cases hy:isNaN y
  ·rw [cnF_num hy]
  ·obtain ⟨s,f,h⟩:=read_nan hy
   rw [cnF_nan hy]; unfold Ieee.Format.add; rw [h0,h]; cases Ieee.double.read x<;>rfl
 ·obtain ⟨s,f,h⟩:=read_nan hx
  rw [cnF_nan hx]; unfold Ieee.Format.add; rw [h0,h]; rfl
theorem sub_cn (x y:Nat):Ieee.double.sub (cnF x) (cnF y)=Ieee.double.sub x y:=by
 obtain ⟨s0,f0,h0⟩:=read_nan isNaN_nan0
 cases hx:isNaN x
 ·rw [cnF_num hx]
  cases hy:isNaN y
  ·rw [cnF_num hy]
  ·obtain ⟨s,f,h⟩:=read_nan hy
   rw [cnF_nan hy]; unfold Ieee.Format.sub; rw [h0,h]; cases Ieee.double.read x<;>rfl
 ·obtain ⟨s,f,h⟩:=read_nan hx
  rw [cnF_nan hx]; unfold Ieee.Format.sub; rw [h0,h]; rfl
theorem mul_cn (x y:Nat):Ieee.double.mul (cnF x) (cnF y)=Ieee.double.mul x y:=by
 obtain ⟨s0,f0,h0⟩:=read_nan isNaN_nan0
 cases hx:isNaN x
 ·rw [cnF_num hx]
  cases hy:isNaN y
  ·rw [cnF_num hy]
  ·obtain ⟨s,f,h⟩:=read_nan hy
   rw [cnF_nan hy]; unfold Ieee.Format.mul; rw [h0,h]; cases Ieee.double.read x<;>rfl
 ·obtain ⟨s,f,h⟩:=read_nan hx
  rw [cnF_nan hx]; unfold Ieee.Format.mul; rw [h0,h]; rfl
theorem div_cn (x y:Nat):Ieee.double.div (cnF x) (cnF y)=Ieee.double.div x y:=by
 obtain ⟨s0,f0,h0⟩:=read_nan isNaN_nan0
 cases hx:isNaN x
 ·rw [cnF_num hx]
  cases hy:isNaN y
  ·rw [cnF_num hy]
  ·obtain ⟨s,f,h⟩:=read_nan hy
   rw [cnF_nan hy]; unfold Ieee.Format.div; rw [h0,h]; cases Ieee.double.read x<;>rfl
 ·obtain ⟨s,f,h⟩:=read_nan hx
  rw [cnF_nan hx]; unfold Ieee.Format.div; rw [h0,h]; rfl
theorem add_num {x y r:Nat} (h:Ieee.double.add x y=some r):isNaN r=false:=by
 unfold Ieee.Format.add at h
 obtain ⟨d,hd,rfl⟩:=Option.map_eq_some_iff.1 h
 refine write_num ?_
 cases hx:Ieee.double.read x<;>cases hy:Ieee.double.read y<;>simp only [hx,hy,Ieee.Datum.sum] at hd <;>
  first | (cases hd; done) | (cases hd; rfl) | (split at hd<;>first | (cases hd; done) | (cases hd; rfl))
theorem sub_num {x y r:Nat} (h:Ieee.double.sub x y=some r):isNaN r=false:=by
 unfold Ieee.Format.sub at h
 obtain ⟨d,hd,rfl⟩:=Option.map_eq_some_iff.1 h
 refine write_num ?_
 cases hx:Ieee.double.read x<;>cases hy:Ieee.double.read y<;>simp only [hx,hy,Ieee.Datum.sum,Ieee.Datum.opposite] at hd <;>
  first | (cases hd; done) | (cases hd; rfl) | (split at hd<;>first | (cases hd; done) | (cases hd; rfl))
theorem mul_num {x y r:Nat} (h:Ieee.double.mul x y=some r):isNaN r=false:=by
 unfold Ieee.Format.mul at h
 obtain ⟨d,hd,rfl⟩:=Option.map_eq_some_iff.1 h
 refine write_num ?_
 cases hx:Ieee.double.read x<;>cases hy:Ieee.double.read y<;>simp only [hx,hy,Ieee.Datum.product] at hd <;>
  first | (cases hd; done) | (cases hd; rfl) | (split at hd<;>first | (cases hd; done) | (cases hd; rfl))
theorem div_num {x y r:Nat} (h:Ieee.double.div x y=some r):isNaN r=false:=by
 unfold Ieee.Format.div at h
 obtain ⟨d,hd,rfl⟩:=Option.map_eq_some_iff.1 h
 refine write_num ?_
 cases hx:Ieee.double.read x<;>cases hy:Ieee.double.read y<;>simp only [hx,hy,Ieee.Datum.quotient] at hd <;>
  first | (cases hd; done) | (cases hd; rfl) | (split at hd<;>first | (cases hd; done) | (cases hd; rfl) | (split at hd<;>first | (cases hd; done) | (cases hd; rfl)))
theorem sqrt_num {x r:Nat} (h:Ieee.double.sqrt x=some r):isNaN r=false:=by
 unfold Ieee.Format.sqrt at h
 obtain ⟨d,hd,rfl⟩:=Option.map_eq_some_iff.1 h
 refine write_num ?_
 cases hx:Ieee.double.read x<;>simp only [hx,Ieee.Datum.root] at hd <;>
  first | (cases hd; done) | (cases hd; rfl) | (split at hd<;>first | (cases hd; done) | (cases hd; rfl) | (split at hd<;>first | (cases hd; done) | (cases hd; rfl)))
theorem sqrt_cn (x:Nat):Ieee.double.sqrt (cnF x)=Ieee.double.sqrt x:=by
 obtain ⟨s0,f0,h0⟩:=read_nan isNaN_nan0
 cases hx:isNaN x
 ·rw [cnF_num hx]
 ·obtain ⟨s,f,h⟩:=read_nan hx
  rw [cnF_nan hx]; unfold Ieee.Format.sqrt; rw [h0,h]; rfl
theorem order_cn (x y:Nat):Ieee.double.order (cnF x) (cnF y)=Ieee.double.order x y:=by
 obtain ⟨s0,f0,h0⟩:=read_nan isNaN_nan0
 cases hx:isNaN x
 ·rw [cnF_num hx]
  cases hy:isNaN y
  ·rw [cnF_num hy]
  ·obtain ⟨s,f,h⟩:=read_nan hy
   rw [cnF_nan hy]; unfold Ieee.Format.order; rw [h0,h]; cases Ieee.double.read x<;>rfl
 ·obtain ⟨s,f,h⟩:=read_nan hx
  rw [cnF_nan hx]; unfold Ieee.Format.order; rw [h0,h]; rfl
theorem isNaN_cn (x:Nat):isNaN (cnF x)=isNaN x:=by
 cases h:isNaN x
 ·rw [cnF_num h]; exact h
 ·rw [cnF_nan h]; exact isNaN_nan0
section
variable {C:Ctx} {F:Nat→List PV→Option (List PV)} {ρ:List PV} {hdr hdr':Hdr} {S S' Wr:Nat→Prop} {σ:Sym} {a:Act} {w w':World} {cur:Gd} {ns nv:Nat} {r:Res} {o:Oper} {Kc:Act→World→Prop} {Q:Exit→Act→World→Prop}
theorem svE_ok {x:SV} {v:Value} {e:Exp} {κ:K} {as:List Exp} (h:(svE x).val σ.ev σ.ob=some (e,κ,as)) (hv:SVRel C ρ hdr S w x v)
  (ha:∀e∈as,e.isTrue ρ=true):SCRel C ρ hdr S w (.e e κ) v:=by
 unfold svE at h
 split at h
 ·rename_i c
  unfold scE at h
  split at h
  ·simp at h; obtain ⟨rfl,rfl,rfl⟩:=h; exact hv
  ·simp at h; obtain ⟨rfl,rfl,rfl⟩:=h; exact raw_e (C:=C) (hdr:=hdr) (S:=S) (w:=w) hv (ha _ (by simp))
  ·simp at h
 ·simp at h
theorem intE_ok {x:SV} {v:Value} {e:Exp} {as:List Exp} (h:(intE x).val σ.ev σ.ob=some (e,as)) (hv:SVRel C ρ hdr S w x v)
  (ha:∀e∈as,e.isTrue ρ=true):∃k n,v = .int k n∧e.den ρ = .v (.int k n):=by
 simp only [intE,RM.val_bind,Option.bind_eq_some_iff] at h
 obtain ⟨⟨e',κ,as'⟩,h1,h2⟩:=h
 dsimp only at h2
 split at h2
 ·simp at h2; obtain ⟨rfl,rfl⟩:=h2
  obtain ⟨h3,h4⟩:=svE_ok h1 hv ha
  cases v<;>simp [K.has] at h3
  exact ⟨_,_,rfl,h4⟩
 ·simp at h2
theorem has_int {k:IntKind} {v:Value} (h:(K.i k).has v=true):∃n,v = .int k n:=by
 cases v<;>simp_all [K.has]
theorem has_flt {v:Value} (h:K.f.has v=true):∃n,v = .float .f64 n:=by
 cases v with
 | float k n=>cases k<;>simp_all [K.has]
 | _=>simp [K.has] at h
theorem sop_unOp {op:UnOp} {t:TypeId} {x:Operand} (ho:o.op = .unOp op t x) (h:(sop C cur ns nv o).val σ.ev σ.ob=some r) (sit:Sit C F ρ hdr S Wr σ a w cur ns nv r)
  (hK:∀a' w',Post C ρ hdr S Wr σ a w o cur r ns a' w'→Kc a' w'):o.wp C.P a w Kc Q:=by
 simp only [sop,ho,unS,RM.val_bind,Option.bind_eq_some_iff] at h
 obtain ⟨v,h1,⟨e,κ,as⟩,h2,h3⟩:=h
 have hv:=(rd_ok sit.st sit.hcur h1).1
 dsimp only at h3
 split at h3
 ·simp only [RM.val_bind,RM.val_guard,RM.val_ret,Option.bind_eq_some_iff,Option.some.injEq] at h3
  obtain ⟨_,hg,rfl⟩:=h3
  have:=guard_some hg; simp at this; subst this
  obtain ⟨h4,h5⟩:=svE_ok h2 hv sit.has
  obtain ⟨n,hn⟩:=has_int h4
  rename_i k _ _
  refine pure_ok sit rfl rfl (v := .int k (k.wrap (0-n))) (by simp [execOp,ho,Op.unary,Op.intArith,hn]) rfl ⟨by simp [K.has],?_⟩ hK
  simp [Exp.den,U.den,h5,hn,cn,PV.int]
 ·simp only [RM.val_bind,RM.val_guard,RM.val_ret,Option.bind_eq_some_iff,Option.some.injEq] at h3
  obtain ⟨_,hg,rfl⟩:=h3
  have:=guard_some hg; simp at this; subst this
  obtain ⟨h4,h5⟩:=svE_ok h2 hv sit.has
  obtain ⟨n,hn⟩:=has_int h4
  rename_i k _ _
  refine pure_ok sit rfl rfl (v := .int k (bitsOp .xor k (if k.signed then -1 else k.max) n)) (by simp [execOp,ho,Op.unary,Op.intBits,bitsOp,hn]) rfl ⟨by simp [K.has],?_⟩ hK
  simp [Exp.den,U.den,h5,hn,cn,PV.int]
 ·simp only [RM.val_bind,RM.val_guard,RM.val_ret,Option.bind_eq_some_iff,Option.some.injEq] at h3
  obtain ⟨_,hg,rfl⟩:=h3
  have:=guard_some hg; simp at this; subst this
  obtain ⟨h4,h5⟩:=svE_ok h2 hv sit.has
  obtain ⟨b,hn⟩:=has_bool h4
  refine pure_ok sit rfl rfl (v := .bool !b) (by simp [execOp,ho,Op.unary,hn]) rfl ⟨by simp [K.has],?_⟩ hK
  simp [Exp.den,U.den,h5,hn,cn,PV.bool]
 ·simp only [RM.val_bind,RM.val_guard,RM.val_ret,Option.bind_eq_some_iff,Option.some.injEq] at h3
  obtain ⟨_,hg,rfl⟩:=h3
  have:=guard_some hg; simp at this; subst this
  obtain ⟨h4,h5⟩:=svE_ok h2 hv sit.has
  obtain ⟨b,hn⟩:=has_flt h4
  refine pure_ok sit rfl rfl (v := .float .f64 (b ^^^ 2^63)) (by simp [execOp,ho,Op.unary,Op.negFloat,hn]; rfl) rfl ⟨by simp [K.has],?_⟩ hK
  simp only [Exp.den,U.den,h5,hn,cn,PV.flt,cnF_neg]
 ·simp at h3
theorem sop_convert {s d:TypeId} {x:Operand} (ho:o.op = .convert s d x) (h:(sop C cur ns nv o).val σ.ev σ.ob=some r) (sit:Sit C F ρ hdr S Wr σ a w cur ns nv r)
  (hK:∀a' w',Post C ρ hdr S Wr σ a w o cur r ns a' w'→Kc a' w'):o.wp C.P a w Kc Q:=by
 simp only [sop,ho,convS,RM.val_bind,Option.bind_eq_some_iff] at h
 obtain ⟨v,h1,⟨e,κ,as⟩,h2,h3⟩:=h
 have hv:=(rd_ok sit.st sit.hcur h1).1
 dsimp only at h3
 split at h3
 ·rename_i k' k hs hd
  simp only [RM.val_bind,RM.val_guard,RM.val_ret,Option.bind_eq_some_iff,Option.some.injEq] at h3
  obtain ⟨_,hg,rfl⟩:=h3
  have:=guard_some hg; simp at this; subst this
  obtain ⟨h4,h5⟩:=svE_ok h2 hv sit.has
  obtain ⟨n,hn⟩:=has_int h4
  refine pure_ok sit rfl rfl (v := .int k (k.wrap n)) (by simp [execOp,ho,convert,run_underlying' hs,run_underlying' hd,hn,Conv.intToInt]) rfl ⟨by simp [K.has],?_⟩ hK
  simp [Exp.den,U.den,h5,hn,cn,PV.int]
 ·rename_i k' hs hd
  simp only [RM.val_bind,RM.val_guard,RM.val_ret,Option.bind_eq_some_iff,Option.some.injEq] at h3
  obtain ⟨_,hg,rfl⟩:=h3
  have:=guard_some hg; simp at this; subst this
  obtain ⟨h4,h5⟩:=svE_ok h2 hv sit.has
  obtain ⟨n,hn⟩:=has_int h4
  refine pure_ok sit rfl rfl (v := .float .f64 (FloatKind.f64.nearest n)) (by simp [execOp,ho,convert,run_underlying' hs,run_underlying' hd,hn,Conv.intToFloat]) rfl ⟨by simp [K.has],?_⟩ hK
  have:cnF (FloatKind.f64.nearest n)=FloatKind.f64.nearest n:=cnF_num (nearest_num _ _ _)
  simp only [Exp.den,U.den,h5,hn,cn,PV.int,this]
 ·rename_i hs hd
  simp only [RM.val_bind,RM.val_guard,RM.val_ret,Option.bind_eq_some_iff,Option.some.injEq] at h3
  obtain ⟨_,hg,rfl⟩:=h3
  have:=guard_some hg; simp at this; subst this
  obtain ⟨h4,h5⟩:=svE_ok h2 hv sit.has
  obtain ⟨n,hn⟩:=has_flt h4
  refine pure_ok sit rfl rfl (v := .float .f64 n) (by simp [execOp,ho,convert,run_underlying' hs,run_underlying' hd,hn,Conv.floatToFloat]) rfl ⟨by simp [K.has],?_⟩ hK
  simp [h5,hn]
 ·simp at h3
theorem drawn_nan (x y t:Nat):isNaN ((Question.nanBits .f64 x y).cut t)=true:=by
 have h1:Ieee.double.infRung=0x7ff0000000000000:=by decide
 rw [isNaN_eq,h1]
 refine decide_eq_true ?_
 show _<(t%2*2^63+0x7ff0000000000000+1+t/2%(2^52-1))%2^63
 have h2:t/2%(2^52-1)<2^52-1:=Nat.mod_lt _ (by decide)
 have h3:t%2<2:=Nat.mod_lt _ (by decide)
 have:(t%2*2^63+0x7ff0000000000000+1+t/2%(2^52-1))%2^63=0x7ff0000000000000+1+t/2%(2^52-1):=by omega
 rw [this]
 omega
def fltRes (q:Option Nat) (x y:Nat):Sem Value :=
 match q with
 | some r=>pure (.float .f64 r)
 | none=>do pure (.float .f64 (←choose (.nanBits .f64 x y)))
theorem flt_ok {q:Option Nat} {x y:Nat} (hq:∀r,q=some r→isNaN r=false) (w:World) :
  ∃b w',(fltRes q x y).run C.P w = .ok (.float .f64 b) w'∧(w'.heap,w'.os,w'.output)=(w.heap,w.os,w.output)∧PV.v (cn (.float .f64 b))=fv q:=by
 cases q with
 | some r=>exact ⟨r,w,by simp [fltRes],rfl,by simp [cn,fv,cnF_num (hq r rfl)]⟩
 | none =>
  refine ⟨(Question.nanBits .f64 x y).cut (w.tape w.drawn (.nanBits .f64 x y)),{ w with drawn:=w.drawn+1 },by simp [fltRes,Question.forced],rfl,?_⟩
  simp [cn,fv,cnF_nan (drawn_nan _ _ _)]
theorem foldI_ok {o:B} {x y:Exp} (h:∀j,o = .add j∨o = .sub j→True):(foldI o x y).den ρ=(Exp.bi o x y).den ρ:=by
 unfold foldI
 split
 ·split<;>first
   | rfl
   | (split<;>first | (rename_i hj; simp at hj; obtain ⟨rfl,rfl⟩:=hj; simp [Exp.den,B.den,PV.int]; done) | rfl)
   | simp [Exp.den,B.den,PV.int]
 ·rfl
theorem run_eql_bool {P:Program} {t:TypeId} (h:P.underlying t=some .bool) (x y:Bool) (w:World):(Op.equal t (.bool x) (.bool y)).run P w = .ok (x==y) w:=by
 show (Op.equalIn (9999+1) t (.bool x) (.bool y)).run P w=_
 unfold Op.equalIn
 simp only [Sem.run_bind,run_underlying' h,Result.andThen_ok,Sem.run_pure]
end
section
variable {C:Ctx} {F:Nat→List PV→Option (List PV)} {ρ:List PV} {hdr hdr':Hdr} {S S' Wr:Nat→Prop} {σ:Sym} {a:Act} {w w':World} {cur:Gd} {ns nv:Nat} {r:Res} {o:Oper} {Kc:Act→World→Prop} {Q:Exit→Act→World→Prop}
theorem eqGuard_scalar {P:Program} {op:BinOp} {t:TypeId} {x y:Operand} {u v:Value} (hu:∀c,u ≠ .agg c) (hn:u ≠ .nilIface) (w:World) :
  (eqGuard op t x y u v).run P w = .ok () w:=by
 unfold eqGuard
 cases op<;>simp<;>(cases u<;>first | rfl | (exact absurd rfl hn) | (exact absurd rfl (hu _)))
theorem exec_bin {op:BinOp} {t t':TypeId} {x y:Operand} {v:Value} {w':World} (ho:o.op = .binOp op t x y t') (hu:∀c,a.eval x ≠ .agg c) (hn:a.eval x ≠ .nilIface)
  (h:(binOp op t (a.eval x) (a.eval y)).run C.P w = .ok v w'):(execOp a.eval o).run C.P w = .ok (.value v) w':=by
 simp [execOp,ho,eqGuard_scalar hu hn,h]
theorem bin_int {op:BinOp} {t t':TypeId} {x y:Operand} {k:IntKind} {n res:Int} {e:Exp} (sit:Sit C F ρ hdr S Wr σ a w cur ns nv r)
  (ho:o.op = .binOp op t x y t') (hx:a.eval x = .int k n) (h:(binOp op t (a.eval x) (a.eval y)).run C.P w = .ok (.int k res) w)
  (hr1:r.news=[]) (hr2:r.upds=[]) (hr:r.v = .c (.e e (.i k))) (hd:e.den ρ = .v (.int k res))
  (hK:∀a' w',Post C ρ hdr S Wr σ a w o cur r ns a' w'→Kc a' w'):o.wp C.P a w Kc Q:=by
 refine pure_ok sit hr1 hr2 (exec_bin ho (by simp [hx]) (by simp [hx]) h) rfl ?_ hK
 rw [hr]
 exact ⟨by simp [K.has],by simp [hd,cn]⟩
theorem bin_bool {op:BinOp} {t t':TypeId} {x y:Operand} {res:Bool} {e:Exp} (sit:Sit C F ρ hdr S Wr σ a w cur ns nv r)
  (ho:o.op = .binOp op t x y t') (hx1:∀c,a.eval x ≠ .agg c) (hx2:a.eval x ≠ .nilIface) (h:(binOp op t (a.eval x) (a.eval y)).run C.P w = .ok (.bool res) w)
  (hr1:r.news=[]) (hr2:r.upds=[]) (hr:r.v = .c (.e e .b)) (hd:e.den ρ = .v (.bool res))
  (hK:∀a' w',Post C ρ hdr S Wr σ a w o cur r ns a' w'→Kc a' w'):o.wp C.P a w Kc Q:=by
 refine pure_ok sit hr1 hr2 (exec_bin ho hx1 hx2 h) rfl ?_ hK
 rw [hr]
 exact ⟨rfl,by simp [hd,cn]⟩
theorem bin_flt {op:BinOp} {t t':TypeId} {x y:Operand} {q:Option Nat} {n m:Nat} {e:Exp} (sit:Sit C F ρ hdr S Wr σ a w cur ns nv r)
  (ho:o.op = .binOp op t x y t') (hx:a.eval x = .float .f64 n) (hq:∀r,q=some r→isNaN r=false)
  (h:(binOp op t (a.eval x) (a.eval y)).run C.P w=(fltRes q n m).run C.P w)
  (hr1:r.news=[]) (hr2:r.upds=[]) (hr:r.v = .c (.e e .f)) (hd:e.den ρ=fv q)
  (hK:∀a' w',Post C ρ hdr S Wr σ a w o cur r ns a' w'→Kc a' w'):o.wp C.P a w Kc Q:=by
 obtain ⟨b,w',h1,h2,h3⟩:=flt_ok (C:=C) (x:=n) (y:=m) hq w
 rw [h1] at h
 refine pure_ok sit hr1 hr2 (exec_bin ho (by simp [hx]) (by simp [hx]) h) h2 ?_ hK
 rw [hr]
 exact ⟨rfl,by rw [hd,h3]⟩
def binR (C:Ctx) (cur:Gd) (op:BinOp) (t:TypeId) (x y:Operand):RM Res:=do
 let a ←rd cur x
 let b ←rd cur y
 binS C op t a b
theorem sop_bin_int {op:BinOp} {t t':TypeId} {x y:Operand} {k:IntKind} (ht:C.P.underlying t=some (.int k)) (ho:o.op = .binOp op t x y t')
  (h:(binR C cur op t x y).val σ.ev σ.ob=some r) (sit:Sit C F ρ hdr S Wr σ a w cur ns nv r)
  (hK:∀a' w',Post C ρ hdr S Wr σ a w o cur r ns a' w'→Kc a' w'):o.wp C.P a w Kc Q:=by
 simp only [binR,binS,ht,RM.val_bind,Option.bind_eq_some_iff] at h
 obtain ⟨vx,h1,vy,h2,⟨ea,κ,as⟩,h3,⟨eb,κ',bs⟩,h4,_,h5,h6⟩:=h
 simp only [RM.val_guard] at h5
 have hκ:=guard_some h5
 simp at hκ; subst hκ
 dsimp only at h6
 have hvx:=(rd_ok sit.st sit.hcur h1).1
 have hvy:=(rd_ok sit.st sit.hcur h2).1
 have key:(∀e∈as++bs,e.isTrue ρ=true)→∃n,a.eval x = .int k n∧ea.den ρ = .v (.int k n)∧SCRel C ρ hdr S w (.e eb κ') (a.eval y):=fun ha=>by
  obtain ⟨h7,h8⟩:=svE_ok h3 hvx fun e he=>ha e (by simp [he])
  obtain ⟨n,hn⟩:=has_int h7
  exact ⟨n,hn,by rw [h8,hn]; rfl,svE_ok h4 hvy fun e he=>ha e (by simp [he])⟩
 have two:∀{p:Exp→Prop},(∀e∈as++bs,e.isTrue ρ=true)→κ' = .i k→∃n m,a.eval x = .int k n∧a.eval y = .int k m∧ea.den ρ = .v (.int k n)∧eb.den ρ = .v (.int k m):=fun {p} ha hk=>by
  obtain ⟨n,hn,h7,h8,h9⟩:=key ha
  subst hk
  obtain ⟨m,hm⟩:=has_int h8
  exact ⟨n,m,hn,hm,h7,by rw [h9,hm]; rfl⟩
 cases op
 case shl =>
  dsimp only at h6
  split at h6
  ·simp only [RM.val_ret,Option.some.injEq] at h6; subst h6
   obtain ⟨n,hn,hd,h8,h9⟩:=key fun e he=>sit.has e (by simp only [List.append_assoc] at *; rcases List.mem_append.1 he with h | h<;>simp [h])
   obtain ⟨m,hm⟩:=has_int h8
   rw [hm] at h9; simp only [cn] at h9
   have hge:=sit.has (.bi .ge eb lit0) (by simp)
   simp [Exp.isTrue,Exp.den,B.den,h9,lit0,PV.int,PV.bool] at hge
   refine bin_int sit ho hn (res:=k.wrap (n*2^(Nat.min m.toNat k.bits))) ?_ rfl rfl rfl ?_ hK
   ·simp [hn,hm,binOp,Op.shift,show ¬m<0 by omega]
   ·simp [Exp.den,B.den,hd,h9,PV.int]
  ·simp at h6
 case shr =>
  dsimp only at h6
  split at h6
  ·simp only [RM.val_ret,Option.some.injEq] at h6; subst h6
   obtain ⟨n,hn,hd,h8,h9⟩:=key fun e he=>sit.has e (by simp only [List.append_assoc] at *; rcases List.mem_append.1 he with h | h<;>simp [h])
   obtain ⟨m,hm⟩:=has_int h8
   rw [hm] at h9; simp only [cn] at h9
   have hge:=sit.has (.bi .ge eb lit0) (by simp)
   simp [Exp.isTrue,Exp.den,B.den,h9,lit0,PV.int,PV.bool] at hge
   refine bin_int sit ho hn (res:=n.fdiv (2^(Nat.min m.toNat k.bits))) ?_ rfl rfl rfl ?_ hK
   ·simp [hn,hm,binOp,Op.shift,show ¬m<0 by omega]
   ·simp [Exp.den,B.den,hd,h9,PV.int]
  ·simp at h6
 case quo =>
  simp only [RM.val_bind,RM.val_guard,RM.val_ret,Option.bind_eq_some_iff,Option.some.injEq] at h6
  obtain ⟨_,hg,rfl⟩:=h6
  have hg:=guard_some hg; simp at hg
  obtain ⟨n,m,hn,hm,hd,he⟩:=two (p:=fun _=>True) (fun e he=>sit.has e (by simp only [List.append_assoc] at *; rcases List.mem_append.1 he with h | h<;>simp [h])) hg
  have hne:=sit.has (.bi .ne eb (.int k 0)) (by simp)
  simp [Exp.isTrue,Exp.den,B.den,he,PV.int,PV.bool] at hne
  exact bin_int sit ho hn (res:=k.wrap (n.tdiv m)) (by simp [hn,hm,binOp,Op.intDiv,hne]) rfl rfl rfl (by rw [foldI_ok (fun _ _=>trivial)]; simp [Exp.den,B.den,hd,he,PV.int]) hK
 case rem =>
  simp only [RM.val_bind,RM.val_guard,RM.val_ret,Option.bind_eq_some_iff,Option.some.injEq] at h6
  obtain ⟨_,hg,rfl⟩:=h6
  have hg:=guard_some hg; simp at hg
  obtain ⟨n,m,hn,hm,hd,he⟩:=two (p:=fun _=>True) (fun e he=>sit.has e (by simp only [List.append_assoc] at *; rcases List.mem_append.1 he with h | h<;>simp [h])) hg
  have hne:=sit.has (.bi .ne eb (.int k 0)) (by simp)
  simp [Exp.isTrue,Exp.den,B.den,he,PV.int,PV.bool] at hne
  exact bin_int sit ho hn (res:=n.tmod m) (by simp [hn,hm,binOp,Op.intDiv,hne]) rfl rfl rfl (by rw [foldI_ok (fun _ _=>trivial)]; simp [Exp.den,B.den,hd,he,PV.int]) hK
 case eql | neq | lss | leq | gtr | geq =>
  simp only [RM.val_bind,RM.val_guard,RM.val_ret,Option.bind_eq_some_iff,Option.some.injEq] at h6
  obtain ⟨_,hg,rfl⟩:=h6
  have hg:=guard_some hg; simp at hg
  obtain ⟨n,m,hn,hm,hd,he⟩:=two (p:=fun _=>True) (fun e he=>sit.has e he) hg
  refine bin_bool sit ho (by simp [hn]) (by simp [hn]) (by simp [hn,hm,binOp,Op.intCmp]; rfl) rfl rfl rfl ?_ hK
  rw [foldI_ok (fun _ _=>trivial)]
  simp [Exp.den,B.den,hd,he,PV.int]
 case add | sub | mul | and | or | xor | andNot =>
  simp only [RM.val_bind,RM.val_guard,RM.val_ret,Option.bind_eq_some_iff,Option.some.injEq] at h6
  obtain ⟨_,hg,rfl⟩:=h6
  have hg:=guard_some hg; simp at hg
  obtain ⟨n,m,hn,hm,hd,he⟩:=two (p:=fun _=>True) (fun e he=>sit.has e (by simpa using he)) hg
  refine bin_int sit ho hn (by simp [hn,hm,binOp,Op.intArith,Op.intBits]; rfl) rfl rfl rfl ?_ hK
  rw [foldI_ok (fun _ _=>trivial)]
  simp [Exp.den,B.den,hd,he,PV.int,bitsOp]
theorem bits_abs (n:Nat):bitsOp .andNot .u64 (n:Int) 9223372036854775808=((n%2^63:Nat):Int):=by
 have h1 : ~~~(BitVec.ofInt 64 9223372036854775808)=BitVec.ofNat 64 (2^63-1):=by decide
 have h2:((BitVec.ofNat 64 n) &&& BitVec.ofNat 64 (2^63-1)).toNat=n%2^63:=by
  rw [BitVec.toNat_and,BitVec.toNat_ofNat,BitVec.toNat_ofNat,Nat.mod_eq_of_lt (show 2^63-1<2^64 by decide),Nat.and_two_pow_sub_one_eq_mod]
  exact Nat.mod_mod_of_dvd _ ⟨2,rfl⟩
 show IntKind.u64.wrap (((BitVec.ofInt 64 (n:Int) &&& ~~~(BitVec.ofInt 64 9223372036854775808)).toNat:Nat):Int)=_
 rw [h1,BitVec.ofInt_natCast,h2]
 have:=Nat.mod_lt n (show 0<2^63 by decide)
 generalize n%2^63=m at *
 simp [IntKind.wrap,IntKind.bits]
 omega
theorem cnF_abs (n:Nat):cnF (cnF n%2^63)=cnF (n%2^63):=by
 cases h:isNaN n
 ·rw [cnF_num h]
 ·have h1:∀m,isNaN m=true→isNaN (m%2^63)=true:=fun m hm=>by rw [isNaN_eq] at hm ⊢; simpa using hm
  rw [cnF_nan h,cnF_nan (h1 _ isNaN_nan0),cnF_nan (h1 _ h)]
theorem sop_abs {op:BinOp} {t t':TypeId} {x y:Operand} {vx vy:SV} (ho:o.op = .binOp op t x y t') (h1:(rd cur x).val σ.ev σ.ob=some vx) (h2:(rd cur y).val σ.ev σ.ob=some vy)
  (h:absS C op t vx vy=some r) (sit:Sit C F ρ hdr S Wr σ a w cur ns nv r)
  (hK:∀a' w',Post C ρ hdr S Wr σ a w o cur r ns a' w'→Kc a' w'):o.wp C.P a w Kc Q:=by
 unfold absS at h
 split at h
 ·rename_i e m hu
  split at h
  ·rename_i hm
   simp only [beq_iff_eq] at hm
   simp only [Option.some.injEq] at h
   subst h hm
   obtain ⟨n,hn,h8⟩:=(rd_ok sit.st sit.hcur h1).1
   obtain ⟨h9,h10⟩:=(rd_ok sit.st sit.hcur h2).1
   obtain ⟨m,hm⟩:=has_int h9
   rw [hm] at h10
   simp only [cn,Exp.den,PV.v.injEq,Value.int.injEq,true_and] at h10
   subst h10
   refine pure_ok sit rfl rfl (exec_bin ho (by simp [hn]) (by simp [hn]) (v := .int .u64 ((n%2^63:Nat):Int)) (w':=w) ?_) rfl ⟨n%2^63,rfl,?_⟩ hK
   ·rw [hn,hm,←bits_abs]; rfl
   ·simp only [Exp.den,U.den,B.den,h8,PV.int,PV.flt]
    rw [bits_abs,Int.toNat_natCast,cnF_abs]
  ·simp at h
 ·simp at h
theorem run_binop_flt {op:BinOp} {t:TypeId} {n m:Nat} (w:World) :
  (op = .add→(binOp op t (.float .f64 n) (.float .f64 m)).run C.P w=(fltRes (Ieee.double.add n m) n m).run C.P w) ∧
  (op = .sub→(binOp op t (.float .f64 n) (.float .f64 m)).run C.P w=(fltRes (Ieee.double.sub n m) n m).run C.P w) ∧
  (op = .mul→(binOp op t (.float .f64 n) (.float .f64 m)).run C.P w=(fltRes (Ieee.double.mul n m) n m).run C.P w) ∧
  (op = .quo→(binOp op t (.float .f64 n) (.float .f64 m)).run C.P w=(fltRes (Ieee.double.div n m) n m).run C.P w):=by
 refine ⟨?_,?_,?_,?_⟩<;>rintro rfl<;>simp only [binOp,Op.floatArith,FloatKind.format,ne_eq,not_true_eq_false,if_false,pure_bind]<;>unfold fltRes<;>split<;>simp_all
theorem sop_bin_flt {op:BinOp} {t t':TypeId} {x y:Operand} (ht:C.P.underlying t=some (.float .f64)) (ho:o.op = .binOp op t x y t')
  (h:(binR C cur op t x y).val σ.ev σ.ob=some r) (sit:Sit C F ρ hdr S Wr σ a w cur ns nv r)
  (hK:∀a' w',Post C ρ hdr S Wr σ a w o cur r ns a' w'→Kc a' w'):o.wp C.P a w Kc Q:=by
 simp only [binR,binS,ht,RM.val_bind,Option.bind_eq_some_iff] at h
 obtain ⟨vx,h1,vy,h2,ea,h3,eb,h4,h6⟩:=h
 obtain rfl:=eOf_ok h3
 obtain rfl:=eOf_ok h4
 obtain ⟨h7,h8⟩:=(rd_ok sit.st sit.hcur h1).1
 obtain ⟨h9,h10⟩:=(rd_ok sit.st sit.hcur h2).1
 obtain ⟨n,hn⟩:=has_flt h7
 obtain ⟨m,hm⟩:=has_flt h9
 rw [hn] at h8; rw [hm] at h10
 simp only [cn] at h8 h10
 cases op
 case add =>
  simp only [RM.val_ret,Option.some.injEq] at h6; subst h6
  exact bin_flt sit ho hn (q:=Ieee.double.add n m) (fun _ h=>add_num h) (by rw [hn,hm]; exact (run_binop_flt w).1 rfl) rfl rfl rfl (by simp [Exp.den,B.den,h8,h10,PV.flt,add_cn]) hK
 case sub =>
  simp only [RM.val_ret,Option.some.injEq] at h6; subst h6
  exact bin_flt sit ho hn (q:=Ieee.double.sub n m) (fun _ h=>sub_num h) (by rw [hn,hm]; exact (run_binop_flt w).2.1 rfl) rfl rfl rfl (by simp [Exp.den,B.den,h8,h10,PV.flt,sub_cn]) hK
 case mul =>
  simp only [RM.val_ret,Option.some.injEq] at h6; subst h6
  exact bin_flt sit ho hn (q:=Ieee.double.mul n m) (fun _ h=>mul_num h) (by rw [hn,hm]; exact (run_binop_flt w).2.2.1 rfl) rfl rfl rfl (by simp [Exp.den,B.den,h8,h10,PV.flt,mul_cn]) hK
 case quo =>
  simp only [RM.val_ret,Option.some.injEq] at h6; subst h6
  exact bin_flt sit ho hn (q:=Ieee.double.div n m) (fun _ h=>div_num h) (by rw [hn,hm]; exact (run_binop_flt w).2.2.2 rfl) rfl rfl rfl (by simp [Exp.den,B.den,h8,h10,PV.flt,div_cn]) hK
 case eql | neq | lss | leq | gtr | geq =>
  simp only [RM.val_ret,Option.some.injEq] at h6; subst h6
  refine bin_bool sit ho (by simp [hn]) (by simp [hn]) (by rw [hn,hm]; simp only [binOp,Op.floatCmp,FloatKind.format,ne_eq,not_true_eq_false,if_false,Sem.run_pure]; rfl) rfl rfl rfl ?_ hK
  simp [Exp.den,B.den,h8,h10,PV.flt,ordIs,order_cn,bne]
 all_goals simp at h6
theorem sop_bin_bool {op:BinOp} {t t':TypeId} {x y:Operand} (ht:C.P.underlying t=some .bool) (ho:o.op = .binOp op t x y t')
  (h:(binR C cur op t x y).val σ.ev σ.ob=some r) (sit:Sit C F ρ hdr S Wr σ a w cur ns nv r)
  (hK:∀a' w',Post C ρ hdr S Wr σ a w o cur r ns a' w'→Kc a' w'):o.wp C.P a w Kc Q:=by
 simp only [binR,binS,ht,RM.val_bind,Option.bind_eq_some_iff] at h
 obtain ⟨vx,h1,vy,h2,ea,h3,eb,h4,h6⟩:=h
 obtain rfl:=eOf_ok h3
 obtain rfl:=eOf_ok h4
 obtain ⟨h7,h8⟩:=(rd_ok sit.st sit.hcur h1).1
 obtain ⟨h9,h10⟩:=(rd_ok sit.st sit.hcur h2).1
 obtain ⟨n,hn⟩:=has_bool h7
 obtain ⟨m,hm⟩:=has_bool h9
 rw [hn] at h8; rw [hm] at h10
 simp only [cn] at h8 h10
 cases op
 case eql =>
  simp only [RM.val_ret,Option.some.injEq] at h6; subst h6
  exact bin_bool sit ho (res:=n==m) (by simp [hn]) (by simp [hn]) (by rw [hn,hm]; simp only [binOp,Sem.run_bind,run_eql_bool ht,Result.andThen_ok,Sem.run_pure]) rfl rfl rfl (by simp [Exp.den,B.den,h8,h10,PV.bool]) hK
 case neq =>
  simp only [RM.val_ret,Option.some.injEq] at h6; subst h6
  exact bin_bool sit ho (res := !(n==m)) (by simp [hn]) (by simp [hn]) (by rw [hn,hm]; simp only [binOp,Sem.run_bind,run_eql_bool ht,Result.andThen_ok,Sem.run_pure]) rfl rfl rfl (by simp [Exp.den,B.den,h8,h10,PV.bool]) hK
 all_goals simp at h6
end
section
variable {C:Ctx} {F:Nat→List PV→Option (List PV)} {ρ:List PV} {hdr hdr':Hdr} {S S' Wr:Nat→Prop} {σ:Sym} {a:Act} {w w':World} {cur:Gd} {ns nv:Nat} {r:Res} {o:Oper} {Kc:Act→World→Prop} {Q:Exit→Act→World→Prop}
theorem addr_add (b o n:Nat):Addr.add ⟨b,o,none⟩ n=⟨b,o+n,none⟩:=by
 unfold Addr.add; split
 ·rename_i h; subst h; rfl
 ·rfl
theorem run_loadCellsFrom {P:Program} (b o:Nat):∀(n i:Nat) (acc:Array Value) (vs:List Value),vs.length=n →
  (∀j v,vs[j]? = some v→w.cell? ⟨b,o+(i+j),none⟩=some v)→(loadCellsFrom ⟨b,o,none⟩ i n acc).run P w = .ok (acc++vs.toArray) w
 | 0,i,acc,vs,hl,_=>by
  have:vs=[]:=by simpa using hl
  subst this; simp [loadCellsFrom]
 | n+1,i,acc,vs,hl,h=>by
  cases vs with
  | nil=>simp at hl
  | cons v vs =>
   have h0:=h 0 v (by simp)
   simp only [loadCellsFrom,Sem.run_bind,run_load,addr_add]
   rw [show o+(i+0)=o+i by omega] at h0
   simp only [h0,Result.andThen_ok]
   rw [run_loadCellsFrom b o n (i+1) (acc.push v) vs (by simpa using hl) fun j u hu=>by
    rw [show o+(i+1+j)=o+(i+(j+1)) by omega]
    exact h (j+1) u (by simpa using hu)]
   simp
theorem run_loadVar {P:Program} {t:TypeId} {b o n:Nat} {vs:List Value} (hu:(P.underlying t).isSome=true) (hs:sizeT P t=some n) (hl:vs.length=n)
  (h1:isAggT P t=false→n=1) (h:∀j v,vs[j]? = some v→w.cell? ⟨b,o+j,none⟩=some v) :
  (loadVar t ⟨b,o,none⟩).run P w = .ok (if isAggT P t then .agg vs.toArray else vs.headD undef) w:=by
 unfold loadVar
 simp only [Sem.run_bind,run_isAgg hu,Result.andThen_ok]
 cases hag:isAggT P t
 ·simp only [Bool.false_eq_true,if_false]
  have:=h1 hag
  subst this
  cases vs with
  | nil=>simp at hl
  | cons v vs =>
   have h0:=h 0 v (by simp)
   simp only [Nat.add_zero] at h0
   simp [h0]
 ·simp only [if_true,Sem.run_bind,run_sizeOf hs,Result.andThen_ok,loadCells]
  rw [run_loadCellsFrom b o n 0 #[] vs hl fun j v hv=>by rw [Nat.zero_add]; exact h j v hv]
  simp
theorem sizeT_under {P:Program} {t:TypeId} {n:Nat} (h:isAggT P t=true):(P.underlying t).isSome=true:=by
 unfold isAggT at h; cases hu:P.underlying t<;>simp_all
theorem rep_elem {e:Ty} {b o0 len cap:Nat} {p:PV} (h:RepC C S w (.sl e) (.slice (some ⟨b,o0,none⟩) len cap) p) {i:Nat} (hi:i<len) :
  ∃(cv:Nat→Value) (cp:Nat→PV),(∀j,j<e.cells.length→w.cell? ⟨b,o0+i*e.cells.length+j,none⟩=some (cv j)) ∧
   ElemP e (p.list.getD i default) cp∧(∀j t,e.cells[j]? = some t→RepC C S w t (cv j) (cp j)):=by
 cases h with
 | sl cv cp hS hl hc hw he hr =>
  rename_i xs
  refine ⟨cv i,cp i,fun j hj=>hw i j hi hj,?_,fun j t ht=>hr i j t hi ht⟩
  have hlt:i<xs.length:=by omega
  refine he i _ ?_
  simp [PV.list,List.getD,hlt]
theorem row_elem {e:Ty} {p:PV} {b n cap:Nat} (h:RowR C S Wr w (.slice (some ⟨b,0,none⟩) n cap) p e) {i:Nat} (hi:i<n) :
  ∃(cv:Nat→Value) (cp:Nat→PV),(∀j,j<e.cells.length→w.cell? ⟨b,i*e.cells.length+j,none⟩=some (cv j)) ∧
   ElemP e (p.list.getD i default) cp∧(∀j t,e.cells[j]? = some t→RepC C S w t (cv j) (cp j)):=by
 rcases h with ⟨h,_⟩ | ⟨b',n',cap',arr,et,xs,cp,h1,h2,h3,h4,h5,h6,h7,h8,h9,h10⟩
 ·cases h
 ·cases h1
  have key:∀j,∃v,j<e.cells.length→arr[i*e.cells.length+j]? = some v∧∀t,e.cells[j]? = some t→RepC C S w t v (cp i j):=fun j=>by
   by_cases hj:j<e.cells.length
   ·obtain ⟨v,hv,hr⟩:=h10 i j _ hi (List.getElem?_eq_getElem hj)
    exact ⟨v,fun _=>⟨hv,fun t ht=>by rw [List.getElem?_eq_getElem hj] at ht; cases ht; exact hr⟩⟩
   ·exact ⟨undef,fun h=>absurd h hj⟩
  refine ⟨fun j=>Classical.choose (key j),cp i,fun j hj => ?_,?_,fun j t ht => ?_⟩
  ·have:=(Classical.choose_spec (key j) hj).1
   simp only [World.cell?,h2,Option.isSome_none,Bool.false_eq_true,if_false]
   exact this
  ·refine h9 i _ ?_
   have hlt:i<xs.length:=by omega
   simp [h5,PV.list,List.getD,hlt]
  ·have hj:j<e.cells.length:=by
    rcases Nat.lt_or_ge j e.cells.length with h | h
    ·exact h
    ·simp [List.getElem?_eq_none h] at ht
   exact (Classical.choose_spec (key j) hj).2 t ht
theorem cellE_ok {p:Exp} {t:Ty} {c:SC} {v:Value} {q:PV} (h:cellE p t=some c) (hp:p.den ρ=q) (hr:RepC C S w t v q):SCRel C ρ hdr S w c v:=by
 subst hp
 cases t<;>simp [cellE] at h<;>subst h
 ·generalize hq:p.den ρ=q at hr
  cases hr with
  | sc h=>exact ⟨h,hq⟩
 ·exact hr
 ·exact hr
theorem cellE_closed {p:Exp} {t:Ty} {c:SC} {n:Nat} (h:cellE p t=some c) (hc:p.closed n=true):c.closed n=true:=by
 cases t<;>simp [cellE] at h<;>subst h<;>exact hc
theorem mapM_all2 {α β:Type} {f:α→Option β} {R:β→Value→Prop}:∀{l:List α} {cs:List β} {vs:List Value},l.mapM f=some cs→vs.length=l.length →
  (∀(k:Nat) (x:α) (c:β) (v:Value),l[k]? = some x→f x=some c→vs[k]? = some v→R c v)→All2 R cs vs
 | [],cs,vs,h,hl,_=>by
  simp at h; subst h
  have:vs=[]:=by simpa using hl
  subst this; trivial
 | x::l,cs,vs,h,hl,hr=>by
  rw [List.mapM_cons] at h
  simp only [Option.pure_def,Option.bind_eq_bind,Option.bind_eq_some_iff,Option.some.injEq] at h
  obtain ⟨c,h1,ds,h2,rfl⟩:=h
  cases vs with
  | nil=>simp at hl
  | cons v vs =>
   exact ⟨hr 0 x c v rfl h1 rfl,mapM_all2 h2 (by simpa using hl) fun k y d u hy hd hu=>hr (k+1) y d u (by simpa using hy) hd (by simpa using hu)⟩
theorem cellsE_ok {p:Exp} {ts:List Ty} {j n:Nat} {cs:List SC} {cv:Nat→Value} {cp:Nat→PV} {q:List PV} (h:cellsE p ts j n=some cs) (hp:p.den ρ = .a q)
  (hq:∀k,k<ts.length→q[k]? = some (cp k)) (hr:∀j t,ts[j]? = some t→RepC C S w t (cv j) (cp j)) :
  All2 (SCRel C ρ hdr S w) cs ((List.range n).map fun k=>cv (j+k)):=by
 unfold cellsE at h
 refine mapM_all2 h (by simp) fun k x c v hx hc hv => ?_
 have hk:k<n:=by
  rcases Nat.lt_or_ge k n with h | h
  ·exact h
  ·simp [List.getElem?_eq_none (l:=List.range n) (i:=k) (by simpa using h)] at hx
 simp [hk] at hx hv
 subst hx hv
 simp only [Option.bind_eq_some_iff] at hc
 obtain ⟨t,ht,hc⟩:=hc
 refine cellE_ok hc (q:=cp (j+k)) ?_ (hr _ _ ht)
 have hlt:j+k<ts.length:=by
  rcases Nat.lt_or_ge (j+k) ts.length with h | h
  ·exact h
  ·simp [List.getElem?_eq_none h] at ht
 simp [Exp.den,U.den,hp,PV.cells,List.getD,hq _ hlt]
theorem cellsE_closed {p:Exp} {ts:List Ty} {j n m:Nat} {cs:List SC} (h:cellsE p ts j n=some cs) (hc:p.closed m=true):cs.all (·.closed m)=true:=by
 unfold cellsE at h
 generalize List.range n=l at h
 induction l generalizing cs with
 | nil=>simp at h; subst h; rfl
 | cons x l ih =>
  rw [List.mapM_cons] at h
  simp only [Option.pure_def,Option.bind_eq_bind,Option.bind_eq_some_iff,Option.some.injEq] at h
  obtain ⟨c,⟨t,_,h1⟩,ds,h2,rfl⟩:=h
  simp only [List.all_cons,ih h2,Bool.and_true]
  exact cellE_closed h1 hc
theorem elemLoad_ok {agg:Bool} {z j:Nat} {p:Exp} {e:Ty} {x:SV} {cv:Nat→Value} {cp:Nat→PV} (h:elemLoad agg z p e j=some x)
  (hp:ElemP e (p.den ρ) cp) (hr:∀j t,e.cells[j]? = some t→RepC C S w t (cv j) (cp j)) (hz:agg=false→z=1) :
  j+z≤e.cells.length∧SVRel C ρ hdr S w x (if agg then .agg ((List.range z).map fun k=>cv (j+k)).toArray else ((List.range z).map fun k=>cv (j+k)).headD undef):=by
 unfold elemLoad at h
 split at h
 ·rename_i ts
  split at h
  ·rename_i hle
   simp only [Option.bind_eq_some_iff] at h
   obtain ⟨cs,h1,h2⟩:=h
   refine ⟨hle,mkSV_ok h2 (cellsE_ok h1 hp (fun k hk => ?_) hr)⟩
   simp [hk]
  ·simp at h
 ·split at h
  ·simp at h
  ·rename_i hne hag
   simp only [Bool.or_eq_true,bne_iff_ne,ne_eq,not_or,Decidable.not_not,Bool.not_eq_true] at hag
   obtain ⟨rfl,rfl⟩:=hag
   obtain rfl:=hz rfl
   simp only [Option.map_eq_some_iff] at h
   obtain ⟨c,h1,rfl⟩:=h
   have hcells:e.cells=[e]:=by
    cases e<;>first | rfl | (exact absurd rfl (hne _))
   have hp':p.den ρ=cp 0:=by
    unfold ElemP at hp
    cases e<;>first | exact hp | (exact absurd rfl (hne _))
   refine ⟨by simp [hcells],?_⟩
   exact cellE_ok h1 hp' (hr 0 e (by simp [hcells]))
theorem sop_load {t:TypeId} {x:Operand} (ho:o.op = .load t x) (h:(sop C cur ns nv o).val σ.ev σ.ob=some r) (sit:Sit C F ρ hdr S Wr σ a w cur ns nv r)
  (hK:∀a' w',Post C ρ hdr S Wr σ a w o cur r ns a' w'→Kc a' w'):o.wp C.P a w Kc Q:=by
 simp only [sop,ho,RM.val_bind,RM.val_ofOpt,RM.val_guard,Option.bind_eq_some_iff] at h
 obtain ⟨v,h1,z,h2,_,h3,h4⟩:=h
 have hg:=guard_some h3
 simp only [Bool.and_eq_true,Bool.or_eq_true,beq_iff_eq] at hg
 obtain ⟨hu,hz⟩:=hg
 have hz':isAggT C.P t=false→z=1:=fun e=>by simpa [e] using hz
 have hv:=(rd_ok sit.st sit.hcur h1).1
 have fin:∀{b off:Nat} {vs:List Value},a.eval x = .pointer (some ⟨b,off,none⟩)→vs.length=z→(∀j u,vs[j]? = some u→w.cell? ⟨b,off+j,none⟩=some u) →
   (execOp a.eval o).run C.P w = .ok (.value (if isAggT C.P t then .agg vs.toArray else vs.headD undef)) w:=fun e hl hc=>by
  simp only [execOp,ho,Instr.loadAt,e,Instr.sureAddr,Sem.run_bind,Sem.run_pure,Result.andThen_ok,run_loadVar hu h2 hl hz' hc]
 split at h4
 ·rename_i s off
  simp only [RM.val_ob,Option.bind_eq_some_iff] at h4
  obtain ⟨ob,h5,h6⟩:=h4
  obtain ⟨b,hb1,hb2⟩:=hv
  have key:∀{cs:List SC} {arr:Array Value} {e:TypeId} {fz:Nat × Nat},w.heap[b]? = some (.cells arr e fz)→All2 (SCRel C ρ hdr S w) cs arr.toList →
    (do guardB (off+z≤cs.length); let v ←ofOpt (mkSV (isAggT C.P t) ((cs.drop off).take z)); RM.ret ({ v }:Res):RM Res).val σ.ev σ.ob=some r→o.wp C.P a w Kc Q:=fun hh hc h7=>by
   rename_i cs arr e fz
   simp only [RM.val_bind,RM.val_ofOpt,RM.val_guard,RM.val_ret,Option.bind_eq_some_iff,Option.some.injEq] at h7
   obtain ⟨_,h8,v',h9,rfl⟩:=h7
   have hle:=guard_some h8
   simp only [decide_eq_true_eq] at hle
   have hlen:=hc.length
   have hv':=mkSV_ok h9 ((hc.drop off).take z)
   refine pure_ok sit rfl rfl (fin hb2 (vs:=(arr.toList.drop off).take z) (by simp; simp at hlen; omega) fun j u hj => ?_) rfl hv' hK
   have hj1:j<z:=by
    rcases Nat.lt_or_ge j z with h | h
    ·exact h
    ·simp [List.getElem?_take,Nat.not_lt.2 h] at hj
   simp only [List.getElem?_take,hj1,if_true,List.getElem?_drop] at hj
   simp only [World.cell?,hh,Option.isSome_none,Bool.false_eq_true,if_false]
   simpa using hj
  split at h6
  ·obtain ⟨b',arr,e,k1,k2,k3,_⟩:=sit.st.ob _ _ h5
   rw [hb1] at k1; cases k1
   exact key k2 k3 h6
  ·obtain ⟨b',arr,e,fz,k1,k2,k3,_⟩:=sit.st.ob _ _ h5
   rw [hb1] at k1; cases k1
   exact key k2 k3 h6
  ·simp at h6
 ·rename_i s z' i j
  simp only [RM.val_ob,Option.bind_eq_some_iff] at h4
  obtain ⟨ob,h5,h6⟩:=h4
  obtain ⟨b,n,cap,hb1,hi0,hi1,hb2⟩:=hv
  have key:∀{x':Exp} {ty:Ty} {cv:Nat→Value} {cp:Nat→PV},(∀j,j<ty.cells.length→w.cell? ⟨b,(i.den ρ).int.toNat*ty.cells.length+j,none⟩=some (cv j)) →
    ElemP ty ((x'.den ρ).list.getD (i.den ρ).int.toNat default) cp→(∀j t,ty.cells[j]? = some t→RepC C S w t (cv j) (cp j)) →
    (do guardB (z'==ty.cells.length); let v ←ofOpt (elemLoad (isAggT C.P t) z (.bi .get x' i) ty j); RM.ret ({ v }:Res):RM Res).val σ.ev σ.ob=some r→o.wp C.P a w Kc Q:=fun hc he hr h7=>by
   rename_i x' ty cv cp
   simp only [RM.val_bind,RM.val_ofOpt,RM.val_guard,RM.val_ret,Option.bind_eq_some_iff,Option.some.injEq] at h7
   obtain ⟨_,h8,v',h9,rfl⟩:=h7
   have hzz:=guard_some h8
   simp only [beq_iff_eq] at hzz
   subst hzz
   obtain ⟨hle,hv'⟩:=elemLoad_ok (ρ:=ρ) (hdr:=hdr) h9 (cv:=cv) (cp:=cp) (by simpa [Exp.den,B.den] using he) hr hz'
   refine pure_ok sit rfl rfl (fin hb2 (vs:=(List.range z).map fun k=>cv (j+k)) (by simp) fun k u hk => ?_) rfl hv' hK
   have hk1:k<z:=by
    rcases Nat.lt_or_ge k z with h | h
    ·exact h
    ·rw [List.getElem?_eq_none (by simpa using h)] at hk; simp at hk
   simp [hk1] at hk
   subst hk
   rw [Nat.add_assoc]
   exact hc (j+k) (by omega)
  have hlt:(i.den ρ).int.toNat<n:=by omega
  split at h6
  ·obtain ⟨hd,k1,k2⟩:=sit.st.ob _ _ h5
   rw [hb1] at k1; cases k1
   obtain ⟨cv,cp,hc,he,hr⟩:=row_elem k2 hlt
   exact key hc he hr h6
  ·obtain ⟨hd,k1,k2,_⟩:=sit.st.ob _ _ h5
   rw [hb1] at k1; cases k1
   obtain ⟨cv,cp,hc,he,hr⟩:=rep_elem k2 hlt
   exact key (fun j hj=>by simpa using hc j hj) he hr h6
  ·simp at h6
 ·rename_i x' ty i j
  obtain ⟨b,off,n,cap,hb1,hi0,hi1,hb2⟩:=hv
  have hlt:(i.den ρ).int.toNat<n:=by omega
  obtain ⟨cv,cp,hc,he,hr⟩:=rep_elem hb1 hlt
  simp only [RM.val_bind,RM.val_ofOpt,RM.val_ret,Option.bind_eq_some_iff,Option.some.injEq] at h4
  obtain ⟨v',h9,rfl⟩:=h4
  obtain ⟨hle,hv'⟩:=elemLoad_ok (ρ:=ρ) (hdr:=hdr) h9 (cv:=cv) (cp:=cp) (by simpa [Exp.den,B.den] using he) hr hz'
  refine pure_ok sit rfl rfl (fin hb2 (vs:=(List.range z).map fun k=>cv (j+k)) (by simp) fun k u hk => ?_) rfl hv' hK
  have hk1:k<z:=by
   rcases Nat.lt_or_ge k z with h | h
   ·exact h
   ·rw [List.getElem?_eq_none (by simpa using h)] at hk; simp at hk
  simp [hk1] at hk
  subst hk
  rw [Nat.add_assoc (off+_)]
  exact hc (j+k) (by omega)
 ·simp at h4
end
theorem expList_den (ρ:List PV):∀(xs:List Exp),(expList xs).den ρ = .l (xs.map (Exp.den ρ))
 | []=>rfl
 | x::xs=>by simp [expList,Exp.den,B.den,expList_den ρ xs,PV.list]
section
variable {C:Ctx} {F:Nat→List PV→Option (List PV)} {ρ:List PV} {hdr hdr':Hdr} {S S1 S' Wr:Nat→Prop} {σ σ1:Sym} {a a1:Act} {w w1 w':World} {cur:Gd} {ns nv:Nat} {r:Res} {o:Oper} {Kc:Act→World→Prop} {Q:Exit→Act→World→Prop}
theorem RepC.sub {e:Ty} {b n cap q l cap' i:Nat} {p:PV} (h:RepC C S w (.sl e) (.slice (some ⟨b,0,none⟩) n cap) p)
  (hq:q=i*e.cells.length∨cap'=0) (hl:i+l≤n) (hc:l≤cap') :
  RepC C S w (.sl e) (.slice (some ⟨b,q,none⟩) l cap') (.l ((p.list.drop i).take l)):=by
 cases h with
 | sl cv cp hS hlen hcap hw he hr =>
  rename_i xs
  simp only [PV.list]
  refine .sl (fun k j=>cv (i+k) j) (fun k j=>cp (i+k) j) hS (by simp; omega) hc (fun k j hk hj => ?_) (fun k p hp => ?_) (fun k j t hk ht=>hr _ j t (by omega) ht)
  ·rcases hq with rfl | h0
   ·have:=hw (i+k) j (by omega) hj
    rw [Nat.zero_add,Nat.add_mul] at this
    exact this
   ·omega
  ·have hk:k<l:=by
    rcases Nat.lt_or_ge k l with h | h
    ·exact h
    ·simp [List.getElem?_take,Nat.not_lt.2 h] at hp
   simp only [List.getElem?_take,hk,if_true,List.getElem?_drop] at hp
   exact he _ p hp
def Frozen (σ σ1:Sym) (ss:List Nat):Prop:=∀s∈ss,∀y t,(σ.ob s=some (.row y t)∨σ.ob s=some (.rrow y t))→σ1.ob s=some (.rrow y t)
theorem listE_rep (st1:St C ρ hdr' S1 Wr σ1 a1 w1) {c:SC} {v:Value} {x:Exp} {t':Option Ty} {e:Ty} (h:(listE c).val σ.ev σ.ob=some (x,t'))
  (hv:SCRel C ρ hdr' S1 w1 c v) (hf:Frozen σ σ1 (siteOf c)) (hfit:fits e t'=true):RepC C S1 w1 (.sl e) v (x.den ρ):=by
 unfold listE at h
 split at h
 ·simp at h; obtain ⟨rfl,rfl⟩:=h
  simp [fits] at hfit; subst hfit; exact hv
 ·simp at h; obtain ⟨rfl,rfl⟩:=h
  cases hv; exact .nil
 ·rename_i s
  simp only [RM.val_ob,Option.bind_eq_some_iff] at h
  obtain ⟨ob,h1,h2⟩:=h
  have key:∀y t,(σ.ob s=some (.row y t)∨σ.ob s=some (.rrow y t))→(x,t')=(y,some t)→RepC C S1 w1 (.sl e) v (x.den ρ):=fun y t hy he=>by
   simp at he; obtain ⟨rfl,rfl⟩:=he
   simp [fits] at hfit; subst hfit
   obtain ⟨hd,k1,k2,_⟩:=st1.ob _ _ (hf s (by simp [siteOf]) _ _ hy)
   have:=hv.1; rw [k1] at this; cases this; exact k2
  split at h2
  ·simp at h2; exact key _ _ (.inl h1) (by rw [←h2.1,←h2.2])
  ·simp at h2; exact key _ _ (.inr h1) (by rw [←h2.1,←h2.2])
  ·simp at h2
 ·rename_i s z off len
  simp only [RM.val_ob,Option.bind_eq_some_iff] at h
  obtain ⟨ob,h1,h2⟩:=h
  have key:∀y t,(σ.ob s=some (.row y t)∨σ.ob s=some (.rrow y t))→z=t.cells.length→(x,t')=(.bi .take (.bi .drop y off) len,some t)→RepC C S1 w1 (.sl e) v (x.den ρ):=fun y t hy hz he=>by
   simp at he; obtain ⟨rfl,rfl⟩:=he
   simp [fits] at hfit; subst hfit
   obtain ⟨hd,k1,k2,_⟩:=st1.ob _ _ (hf s (by simp [siteOf]) _ _ hy)
   obtain ⟨l,hl,hoff,h3⟩:=hv
   simp only [Exp.den,B.den,hl,PV.list,Int.toNat_natCast]
   rcases h3 with ⟨h4,h5,h6,h7⟩ | ⟨b,n,cap,q,cap',h4,h5,h6,h7,h8,h9⟩
   ·subst h5 h6; rw [List.take_zero]; exact .nil
   ·rw [h4] at k1; cases k1
    rw [h5]
    subst hz
    exact k2.sub (h6.imp id fun h=>h.1) h7 h8
  split at h2
  ·split at h2
   ·rename_i hz; simp at hz; simp at h2; exact key _ _ (.inl h1) hz (by rw [←h2.1,←h2.2])
   ·simp at h2
  ·split at h2
   ·rename_i hz; simp at hz; simp at h2; exact key _ _ (.inr h1) hz (by rw [←h2.1,←h2.2])
   ·simp at h2
  ·simp at h2
 ·simp at h
theorem cellIn_ok (st1:St C ρ hdr' S1 Wr σ1 a1 w1) {c:SC} {t:Ty} {v:Value} {x:Exp} {ss:List Nat} (h:(cellIn c t).val σ.ev σ.ob=some (x,ss))
  (hv:SCRel C ρ hdr' S1 w1 c v) (hf:Frozen σ σ1 ss):RepC C S1 w1 t v (x.den ρ):=by
 unfold cellIn at h
 split at h
 ·split at h
  ·simp only [RM.val_bind,RM.val_guard,RM.val_ret,Option.bind_eq_some_iff,Option.some.injEq,Prod.mk.injEq] at h
   obtain ⟨_,h1,rfl,rfl⟩:=h
   have:=guard_some h1; simp at this; subst this
   obtain ⟨h2,h3⟩:=hv
   rw [h3]; exact .sc h2
  ·simp at h
 ·simp only [RM.val_bind,RM.val_guard,RM.val_ret,Option.bind_eq_some_iff,Option.some.injEq,Prod.mk.injEq] at h
  obtain ⟨⟨x',t'⟩,h1,_,h2,rfl,rfl⟩:=h
  exact listE_rep st1 h1 hv hf (guard_some h2)
 ·split at h
  ·simp only [RM.val_bind,RM.val_guard,RM.val_ret,Option.bind_eq_some_iff,Option.some.injEq,Prod.mk.injEq] at h
   obtain ⟨_,h1,rfl,rfl⟩:=h
   have:=guard_some h1; simp at this; obtain ⟨rfl,rfl⟩:=this
   exact hv
  ·simp at h
 ·simp at h
theorem cellsIn_ok (st1:St C ρ hdr' S1 Wr σ1 a1 w1):∀{cs:List SC} {ts:List Ty} {vs:List Value} {xs:List Exp} {ss:List Nat},(cellsIn cs ts).val σ.ev σ.ob=some (xs,ss) →
  All2 (SCRel C ρ hdr' S1 w1) cs vs→Frozen σ σ1 ss→xs.length=ts.length∧vs.length=ts.length ∧
   ∀(j:Nat) (t:Ty),ts[j]? = some t→∃v x,vs[j]? = some v∧xs[j]? = some x∧RepC C S1 w1 t v (x.den ρ)
 | [],[],vs,xs,ss,h,hv,hf=>by
  simp [cellsIn] at h; obtain ⟨rfl,rfl⟩:=h
  have:=hv.length
  exact ⟨rfl,by simpa using this.symm,fun j t h=>by simp at h⟩
 | c::cs,t::ts,vs,xs,ss,h,hv,hf=>by
  simp only [cellsIn,RM.val_bind,RM.val_ret,Option.bind_eq_some_iff,Option.some.injEq,Prod.mk.injEq] at h
  obtain ⟨⟨x,s⟩,h1,⟨xs',ss'⟩,h2,rfl,rfl⟩:=h
  cases vs with
  | nil=>exact hv.elim
  | cons v vs =>
   obtain ⟨h3,h4⟩:=hv
   obtain ⟨k1,k2,k3⟩:=cellsIn_ok st1 h2 h4 fun s hs=>hf s (by simp [hs])
   refine ⟨by simp [k1],by simp [k2],fun j t' ht => ?_⟩
   cases j with
   | zero=>simp at ht; subst ht; exact ⟨v,x,rfl,rfl,cellIn_ok st1 h1 h3 fun s hs=>hf s (by simp [hs])⟩
   | succ j=>simpa using k3 j t' (by simpa using ht)
 | [],_::_,_,_,_,h,_,_=>by simp [cellsIn] at h
 | _::_,[],_,_,_,h,_,_=>by simp [cellsIn] at h
theorem elemIn_ok (st1:St C ρ hdr' S1 Wr σ1 a1 w1) {x:SV} {e:Ty} {v:Value} {y:Exp} {ss:List Nat} (h:(elemIn x e).val σ.ev σ.ob=some (y,ss))
  (hv:SVRel C ρ hdr' S1 w1 x v) (hf:Frozen σ σ1 ss):v.cells.size=e.cells.length ∧
   ∃cp:Nat→PV,ElemP e (y.den ρ) cp∧∀(j:Nat) (t:Ty),e.cells[j]? = some t→∃u,v.cells[j]? = some u∧RepC C S1 w1 t u (cp j):=by
 have single:∀{c:SC},e.cells=[e]→(∀p cp,ElemP e p cp=(p=cp 0))→(cellIn c e).val σ.ev σ.ob=some (y,ss)→SCRel C ρ hdr' S1 w1 c v→v.cells.size=e.cells.length ∧
   ∃cp:Nat→PV,ElemP e (y.den ρ) cp∧∀(j:Nat) (t:Ty),e.cells[j]? = some t→∃u,v.cells[j]? = some u∧RepC C S1 w1 t u (cp j):=fun hc he h1 h2=>by
  have hone:=cells_one h2.one
  rw [hone,hc]
  refine ⟨rfl,fun _=>y.den ρ,by rw [he],fun j t ht => ?_⟩
  cases j with
  | zero=>simp at ht; subst ht; exact ⟨v,rfl,cellIn_ok st1 h1 h2 hf⟩
  | succ j=>simp at ht
 unfold elemIn at h
 split at h
 ·rename_i ts
  split at h
  ·rename_i cs
   simp only [RM.val_bind,RM.val_ret,Option.bind_eq_some_iff,Option.some.injEq,Prod.mk.injEq] at h
   obtain ⟨⟨xs,ss'⟩,h1,rfl,rfl⟩:=h
   obtain ⟨arr,rfl,h2⟩:=hv
   obtain ⟨k1,k2,k3⟩:=cellsIn_ok st1 h1 h2 hf
   refine ⟨by simpa [Value.cells,Ty.cells] using k2,fun j=>(xs.getD j default).den ρ,?_,fun j t ht => ?_⟩
   ·simp only [ElemP,Exp.den,U.den,expList_den,PV.list,PV.a.injEq]
    refine List.ext_getElem? fun j => ?_
    by_cases hj:j<ts.toList.length
    ·have hj':j<xs.length:=by omega
     simp [hj,hj',List.getD]
    ·simp [List.getElem?_eq_none (l:=xs) (i:=j) (by omega),List.getElem?_eq_none (l:=List.range ts.toList.length) (i:=j) (by simp; omega)]
   ·obtain ⟨u,x,h3,h4,h5⟩:=k3 j t ht
    refine ⟨u,by simpa [Value.cells] using h3,?_⟩
    simpa [List.getD,h4] using h5
  ·simp at h
 ·rename_i hne
  split at h
  ·refine single ?_ ?_ h hv
   ·cases e<;>first | rfl | (exact absurd rfl (hne _))
   ·intro p cp; cases e<;>first | rfl | (exact absurd rfl (hne _))
  ·simp at h
end
section
variable {C:Ctx} {F:Nat→List PV→Option (List PV)} {ρ:List PV} {hdr hdr':Hdr} {S S1 S' Wr:Nat→Prop} {σ σ1:Sym} {a a1:Act} {w w1 w':World} {cur:Gd} {ns nv:Nat} {r:Res} {o:Oper} {Kc:Act→World→Prop} {Q:Exit→Act→World→Prop}
theorem setOb_setOb (σ:Sym) (s:Nat) (o o':Obj) (h:s<σ.objs.length):setOb (setOb σ s o) s o'=setOb σ s o':=by
 unfold setOb setO; simp [h]
theorem ob_lt {σ:Sym} {s:Nat} {o:Obj} (h:σ.ob s=some o):s<σ.objs.length:=by
 rcases Nat.lt_or_ge s σ.objs.length with hlt | hge
 ·exact hlt
 ·simp [Sym.ob,List.getElem?_eq_none hge] at h
theorem St.write (st:St C ρ hdr S Wr σ a w) {s b:Nat} {o o':Obj} (hs:σ.ob s=some o) (hl:o.live=true) (hb:blk hdr s=some b)
  (hw:∀b',b'≠b→w'.heap[b']? = w.heap[b']?) (hsz:w'.heap.size=w.heap.size) (ho':ObjR C ρ hdr S Wr w' s o') (hc:o'.closed ρ.length=true) :
  St C ρ hdr S Wr (Dx.setOb σ s o') a w':=by
 have hnb:=st.live_not hs hl hb
 have st1:=(st.gone s).frame (w':=w') (hdr':=hdr) (S':=S) (fun _ _ h=>h) (fun _ h=>h) (fun b hb=>by rw [hsz]; exact st.sb b hb)
  (fun b' hb'=>hw b' (fun e=>hnb.1 (e ▸ hb'))) (fun s' o1 ho1 hl1 b1 hb1 => ?_) st.he
 ·have st2:=st1.setOb s o' ho' hc fun _ s' o1 hne ho1 hl1 b1 hb1=>by
   rw [setOb_ob,if_neg hne] at ho1
   rw [hb] at hb1; cases hb1
   exact st.dj s s' o o1 hs ho1 hl hl1 (Ne.symm hne) b hb
  rwa [setOb_setOb _ _ _ _ (ob_lt hs)] at st2
 ·rw [setOb_ob] at ho1
  split at ho1
  ·cases ho1; simp [Obj.live] at hl1
  ·rename_i hne
   have:=st.dj s s' o o1 hs ho1 hl hl1 (Ne.symm hne) b hb
   exact ⟨hw b1 fun e=>this (e ▸ hb1),(st.live_not ho1 hl1 hb1).1⟩
def SzEq (w w':World):Prop:=w'.heap.size=w.heap.size∧OutEq w w'
theorem Ev.write {b:Nat} (hb:Wr b) (hnS:¬S b) (hw:∀b',b'≠b→w'.heap[b']? = w.heap[b']?) (hsz:SzEq w w'):Ev Wr ns 0 hdr S w hdr S w' :=
 ⟨⟨by rw [hsz.1]; exact Nat.le_refl _,fun b' hb' _=>hw b' fun e=>hb' (e ▸ hb),hsz.2⟩,fun _ _ h=>h,fun _ h _=>h,fun _ h=>h,fun _ h => .inl h,fun b' hb'=>hw b' fun e=>hnS (e ▸ hb')⟩
theorem run_storeCells {P:Program} {b off:Nat} {e:TypeId}:∀(vs:List Value) (i:Nat) (w:World) (arr:Array Value),w.heap[b]? = some (.cells arr e (0,0)) →
  off+i+vs.length≤arr.size→(∀v∈vs,v.oneCell'=true) →
  ∃w' arr',(storeCells ⟨b,off,none⟩ vs i).run P w = .ok () w'∧w'.heap[b]? = some (.cells arr' e (0,0)) ∧
   arr'.toList=arr.toList.take (off+i)++vs++arr.toList.drop (off+i+vs.length)∧(∀b',b'≠b→w'.heap[b']? = w.heap[b']?)∧SzEq w w'
 | [],i,w,arr,h,hle,_=>⟨w,arr,by simp [storeCells],h,by simp,fun _ _=>rfl,rfl,.refl w⟩
 | v::vs,i,w,arr,h,hle,h1=>by
  simp only [List.length_cons] at hle
  have hc:w.cell? ⟨b,off+i,none⟩=some arr[off+i]:=by
   simp only [World.cell?,h,Option.isSome_none,Bool.false_eq_true,if_false]
   exact Array.getElem?_eq_getElem (by omega)
  have hf:w.frozen? ⟨b,off+i,none⟩=false:=by simp [World.frozen?,h]
  have hlt:b<w.heap.size:=by
   rcases Nat.lt_or_ge b w.heap.size with hlt | hge
   ·exact hlt
   ·simp [Array.getElem?_eq_none hge] at h
  have hset:(w.setCell ⟨b,off+i,none⟩ v).heap[b]? = some (.cells (arr.setIfInBounds (off+i) v) e (0,0)):=by
   simp only [World.setCell,Array.getElem?_modify,if_pos rfl,h]; simp
  have hoth:∀b',b'≠b→(w.setCell ⟨b,off+i,none⟩ v).heap[b']? = w.heap[b']? := fun b' hb'=>by
   simp only [World.setCell,Array.getElem?_modify,if_neg (Ne.symm hb')]
  obtain ⟨w',arr',k1,k2,k3,k4,k5⟩:=run_storeCells (P:=P) (off:=off) vs (i+1) (w.setCell ⟨b,off+i,none⟩ v) (arr.setIfInBounds (off+i) v) hset (by rw [Array.size_setIfInBounds]; omega) fun u hu=>h1 u (by simp [hu])
  refine ⟨w',arr',?_,k2,?_,fun b' hb'=>by rw [k4 b' hb',hoth b' hb'],by rw [k5.1]; simp [World.setCell],OutEq.setCell.trans k5.2⟩
  ·simp only [storeCells,Sem.run_bind,addr_add]
   rw [run_store P w _ v _ (h1 v (by simp))]
   simp only [hc,hf,Bool.false_eq_true,if_false,Result.andThen_ok,k1]
  ·rw [k3]
   have hlt':off+i<arr.toList.length:=by simp; omega
   simp only [Array.toList_setIfInBounds]
   rw [show off+(i+1)=off+i+1 by omega]
   rw [List.take_succ_eq_append_getElem (by simpa using hlt')]
   simp only [List.getElem_set_self,List.take_set_of_le (Nat.le_refl _),List.length_cons,List.append_assoc,List.cons_append,List.nil_append]
   rw [List.drop_set_of_lt (by omega)]
   rw [show off+i+1+vs.length=off+i+(vs.length+1) by omega]
theorem run_storeAt {P:Program} {t:TypeId} {b off n:Nat} {v:Value} {e:TypeId} {arr:Array Value} {x:Value} (hs:sizeT P t=some n) (hx:x = .pointer (some ⟨b,off,none⟩))
  (hl:v.cells.size=n) (hh:w.heap[b]? = some (.cells arr e (0,0))) (hle:off+n≤arr.size) (h1:∀u∈v.cells.toList,u.oneCell'=true) :
  ∃w' arr',(Instr.storeAt t x v).run P w = .ok () w'∧w'.heap[b]? = some (.cells arr' e (0,0)) ∧
   arr'.toList=arr.toList.take off++v.cells.toList++arr.toList.drop (off+n)∧(∀b',b'≠b→w'.heap[b']? = w.heap[b']?)∧SzEq w w':=by
 obtain ⟨w',arr',k1,k2,k3,k4,k5⟩:=run_storeCells (P:=P) (b:=b) (off:=off) v.cells.toList 0 w arr hh (by simp; omega) h1
 refine ⟨w',arr',?_,k2,by simpa [hl] using k3,k4,k5⟩
 subst hx
 simp only [Instr.storeAt,Instr.sureAddr,storeVar,Sem.run_bind,Sem.run_pure,Result.andThen_ok,run_sizeOf hs,hl,ne_eq,not_true_eq_false,if_false,k1]
theorem All2.fill {α β:Type} {R:α→β→Prop} {as:List α} {bs:List β} {cs:List α} {ds:List β} (h:All2 R as bs) (h':All2 R cs ds) (off:Nat) :
  All2 R (as.take off++cs++as.drop (off+cs.length)) (bs.take off++ds++bs.drop (off+ds.length)):=by
 rw [h'.length]
 exact ((h.take off).append h').append (h.drop _)
theorem post_skip (hcur:gdHolds ρ cur) (hg:gdClosed ρ.length cur=true) (hv:r.v = .tup []) {σ':Sym} (hσ:setNews (setObs σ r.upds) ns r.news=σ')
  (st1:St C ρ hdr' S' Wr σ' a w') (ev:Ev Wr ns r.news.length hdr S w hdr' S' w'):Post C ρ hdr S Wr σ a w o cur r ns (a.put o.dst undef) w':=by
 refine ⟨by cases o.dst<;>rfl,hdr',S',?_,ev⟩
 rw [hσ]
 refine st1.put o.dst (slot_cur hcur ?_) (by simp [Slot.closed,hg,hv,SV.closed])
 rw [hv]; exact ⟨#[],rfl,trivial⟩
theorem sop_store_box {t:TypeId} {x y:Operand} {s off:Nat} (ho:o.op = .store t x y) (h1:(rd cur x).val σ.ev σ.ob=some (.c (.ptr s off))) {wv:SV} (h2:(rd cur y).val σ.ev σ.ob=some wv)
  {z:Nat} (h3:sizeT C.P t=some z) {cs vs:List SC} (h5:σ.ob s=some (.box cs)) (h6:wv.cellsL=some vs) (hg:vs.length=z∧off+z≤cs.length)
  (hr:r={ v := .tup [],upds:=[(s,.box (fillL cs off vs))] }) (sit:Sit C F ρ hdr S Wr σ a w cur ns nv r)
  (hK:∀a' w',Post C ρ hdr S Wr σ a w o cur r ns a' w'→Kc a' w'):o.wp C.P a w Kc Q:=by
 subst hr
 obtain ⟨hlen,hle⟩:=hg
 obtain ⟨b,hb1,hb2⟩:=(rd_ok sit.st sit.hcur h1).1
 have hv:=(rd_ok sit.st sit.hcur h2)
 have hvs:=cellsL_ok hv.1 h6
 obtain ⟨b',arr,e,k1,k2,k3,k4,k5,k6⟩:=sit.st.ob _ _ h5
 rw [hb1] at k1; cases k1
 have hsz:(a.eval y).cells.size=z:=by have:=hvs.length; simp at this; omega
 have hone:∀u∈(a.eval y).cells.toList,u.oneCell'=true:=fun u hu=>by
  obtain ⟨i,hi⟩:=List.mem_iff_getElem?.1 hu
  obtain ⟨c,_,hc⟩:=hvs.get' hi
  exact hc.one
 obtain ⟨w',arr',q1,q2,q3,q4,q5⟩:=run_storeAt (P:=C.P) h3 hb2 hsz k2 (by have:=k3.length; simp at this; omega) hone
 have hsame:∀b',S b'→w'.heap[b']? = w.heap[b']? := fun b' hb'=>q4 b' fun e=>k5 (e ▸ hb')
 have hmono:∀c v,SCRel C ρ hdr S w c v→SCRel C ρ hdr S w' c v:=fun c v h=>h.mono (fun _ _ h=>h) (fun _ h=>h) hsame
 refine wp_skp (w':=w') (by simp [execOp,ho,q1]) (hK _ _ (post_skip sit.hcur sit.hg rfl (σ':=setOb σ s (.box (fillL cs off vs))) rfl ?_ ((Ev.write k6 k5 q4 q5).widen (Nat.le_refl _) (by simp))))
 have hcl:=sit.hcl
 simp only [Res.closed,Bool.and_eq_true,List.all_cons,List.all_nil,Bool.and_true] at hcl
 refine sit.st.write h5 rfl (by simp [blk,hb1]) q4 q5.1 ⟨b,arr',e,hb1,q2,?_,?_,k5,k6⟩ hcl.2
 ·rw [q3]
  have:=(k3.fill hvs off).imp hmono
  rwa [show (a.eval y).cells.toList.length=z by simpa using hsz] at this
 ·intro u hu
  rw [q3] at hu
  simp only [List.mem_append] at hu
  rcases hu with (hu | hu) | hu
  ·exact k4 u (List.mem_of_mem_take hu)
  ·exact hone u hu
  ·exact k4 u (List.mem_of_mem_drop hu)
theorem setObs_ob_none:∀(us:List (Nat × Obj)) (σ:Sym) (t:Nat),(∀u∈us,u.1≠t)→(setObs σ us).ob t=σ.ob t
 | [],_,_,_=>rfl
 | u::us,σ,t,h=>by
  rw [setObs_cons,setObs_ob_none us _ t fun v hv=>h v (by simp [hv]),setOb_ob,if_neg (Ne.symm (h u (by simp)))]
theorem setObs_ob_some:∀(us:List (Nat × Obj)) (σ:Sym) (t:Nat) (x:Obj),(∀u∈us,u.1=t→u.2=x)→((∃u∈us,u.1=t)∨σ.ob t=some x)→(setObs σ us).ob t=some x
 | [],σ,t,x,_,h=>by
  rcases h with ⟨u,hu,_⟩ | h
  ·simp at hu
  ·exact h
 | u::us,σ,t,x,h1,h2=>by
  rw [setObs_cons]
  refine setObs_ob_some us _ t x (fun v hv=>h1 v (by simp [hv])) ?_
  by_cases e:u.1=t
  ·right; rw [setOb_ob,if_pos e.symm,h1 u (by simp) e]
  ·rcases h2 with ⟨v,hv,hv'⟩ | h2
   ·rcases List.mem_cons.1 hv with rfl | hv
    ·exact absurd hv' e
    ·exact .inl ⟨v,hv,hv'⟩
   ·right; rw [setOb_ob,if_neg (Ne.symm e)]; exact h2
theorem freeze_ok (st:St C ρ hdr S Wr σ a w) {ss:List Nat} {us:List (Nat × Obj)} (h:(freeze ss.eraseDups).val σ.ev σ.ob=some us) :
  ∃S1,St C ρ hdr S1 Wr (setObs σ us) a w∧Ev Wr ns 0 hdr S w hdr S1 w∧Frozen σ (setObs σ us) ss∧(∀t,t ∉ ss→(setObs σ us).ob t=σ.ob t)∧(∀u∈us,u.1∈ss):=by
 obtain ⟨h1,h2⟩:=freeze_ob h
 obtain ⟨S1,st1,ev1⟩:=st.freezes (us:=us) (ns:=ns) (k:=0) fun u hu=>by
  obtain ⟨x,t,e1,e2,_⟩:=h1 u hu; exact ⟨x,t,e1,.inl e2⟩
 refine ⟨S1,st1,ev1,fun s hs y t hy => ?_,fun t ht => ?_,fun u hu => ?_⟩
 ·refine setObs_ob_some us σ s _ (fun u hu e => ?_) ?_
  ·obtain ⟨x,t',e1,e2,_⟩:=h1 u hu
   rw [e] at e2
   rcases hy with hy | hy<;>rw [hy] at e2<;>cases e2
   exact e1
  ·rcases h2 s (by simpa using hs) with ⟨x,t',e⟩ | ⟨x,t',e,hu⟩
   ·rcases hy with hy | hy<;>rw [hy] at e<;>cases e
    exact .inr hy
   ·exact .inl ⟨_,hu,rfl⟩
 ·refine setObs_ob_none us σ t fun u hu e=>ht ?_
  obtain ⟨_,_,_,_,e3⟩:=h1 u hu
  rw [←e]; simpa using e3
 ·obtain ⟨_,_,_,_,e3⟩:=h1 u hu
  simpa using e3
theorem row_write {b n cap i j0 m:Nat} {p q:PV} {t:Ty} {e:TypeId} {arr arr':Array Value} {vs:List Value} {cp':Nat→PV}
  (h:RowR C S Wr w (.slice (some ⟨b,0,none⟩) n cap) p t) (hh:w.heap[b]? = some (.cells arr e (0,0))) (hi:i<n)
  (hh':w'.heap[b]? = some (.cells arr' e (0,0))) (hS:∀b,S b→w'.heap[b]? = w.heap[b]?)
  (ha:arr'.toList=arr.toList.take (i*t.cells.length+j0)++vs++arr.toList.drop (i*t.cells.length+j0+m)) (hm:vs.length=m) (hj:j0+m≤t.cells.length)
  (he:ElemP t q cp') (hr:∀(k:Nat) (t':Ty),t.cells[k]? = some t'→(j0≤k∧k<j0+m→∃u,vs[k-j0]? = some u∧RepC C S w' t' u (cp' k)) ∧
   (¬(j0≤k∧k<j0+m)→∀cp,ElemP t (p.list.getD i default) cp→(∀j,j<t.cells.length→True)→∃cp0,ElemP t (p.list.getD i default) cp0∧cp' k=cp0 k∧cp0 k=cp k)) :
  RowR C S Wr w' (.slice (some ⟨b,0,none⟩) n cap) (.l (p.list.set i q)) t:=by
 rcases h with ⟨h,_⟩ | ⟨b',n',cap',arr0,et,xs,cp,h1,h2,h3,h4,h5,h6,h7,h8,h9,h10⟩
 ·cases h
 ·cases h1
  rw [hh] at h2; cases h2
  subst h5
  have hix:i<xs.length:=by omega
  have hsz:arr'.size=arr.size:=by
   have:=congrArg List.length ha
   simp at this
   have hb:i*t.cells.length+t.cells.length≤cap*t.cells.length:=by
    rw [←Nat.succ_mul]; exact Nat.mul_le_mul_right _ (by omega)
   omega
  refine .inr ⟨b,n,cap,arr',e,xs.set i q,fun k=>if k=i then cp' else cp k,rfl,hh',h3,h4,rfl,by simpa using h6,h7,by rw [hsz]; exact h8,fun k p hp => ?_,fun k j t' hk hj' => ?_⟩
  ·by_cases e1:k=i
   ·subst e1
    simp [hix] at hp; subst hp
    simpa using he
   ·rw [List.getElem?_set,if_neg (Ne.symm e1)] at hp
    simpa [e1] using h9 k p hp
  ·have hjl:j<t.cells.length:=by
    rcases Nat.lt_or_ge j t.cells.length with h | h
    ·exact h
    ·simp [List.getElem?_eq_none h] at hj'
   obtain ⟨v0,hv0,hr0⟩:=h10 k j t' hk hj'
   have hlt0:k*t.cells.length+j<arr.size:=by
    rcases Nat.lt_or_ge (k*t.cells.length+j) arr.size with h | h
    ·exact h
    ·simp [Array.getElem?_eq_none h] at hv0
   have hle0:i*t.cells.length+j0≤arr.toList.length:=by
    have hb:i*t.cells.length+t.cells.length≤cap*t.cells.length:=by
     rw [←Nat.succ_mul]; exact Nat.mul_le_mul_right _ (by omega)
    simp; omega
   have get:∀idx:Nat,arr'[idx]? = if idx<i*t.cells.length+j0 then arr[idx]? else if idx<i*t.cells.length+j0+m then vs[idx-(i*t.cells.length+j0)]? else arr[idx]? := fun idx=>by
    rw [←Array.getElem?_toList,ha,←Array.getElem?_toList]
    have hl1:(arr.toList.take (i*t.cells.length+j0)).length=i*t.cells.length+j0:=by rw [List.length_take]; omega
    by_cases c1:idx<i*t.cells.length+j0
    ·rw [if_pos c1,List.append_assoc,List.getElem?_append_left (by omega),List.getElem?_take,if_pos c1]
    ·rw [if_neg c1]
     by_cases c2:idx<i*t.cells.length+j0+m
     ·rw [if_pos c2,List.append_assoc,List.getElem?_append_right (by omega),hl1,List.getElem?_append_left (by omega)]
     ·rw [if_neg c2,List.getElem?_append_right (by simp only [List.length_append]; omega),List.getElem?_drop]
      congr 1
      simp only [List.length_append]
      omega
   by_cases e1:k=i
   ·subst e1
    simp only [if_true]
    obtain ⟨r1,r2⟩:=hr j t' hj'
    by_cases hin:j0≤j∧j<j0+m
    ·obtain ⟨u,hu,hru⟩:=r1 hin
     refine ⟨u,?_,hru⟩
     rw [get,if_neg (by omega),if_pos (by omega),←hu]
     congr 1; omega
    ·obtain ⟨cp0,_,e2,e3⟩:=r2 hin (cp k) (by
      have:=h9 k (xs[k]) (List.getElem?_eq_getElem hix)
      simpa [PV.list,List.getD,hix] using this) (fun _ _=>trivial)
     refine ⟨v0,?_,by rw [e2,e3]; exact hr0.stable (fun _ h=>h) hS⟩
     rw [get,←hv0]
     split
     ·rfl
     ·rw [if_neg (by omega)]
   ·simp only [e1,if_false]
    refine ⟨v0,?_,hr0.stable (fun _ h=>h) hS⟩
    rw [get,←hv0]
    split
    ·rfl
    ·rw [if_neg ?_]
     rename_i hge
     intro hlt
     rcases Nat.lt_or_gt_of_ne e1 with hlt' | hgt'
     ·have:(k+1)*t.cells.length≤i*t.cells.length:=Nat.mul_le_mul_right _ (by omega)
      rw [Nat.succ_mul] at this
      omega
     ·have:(i+1)*t.cells.length≤k*t.cells.length:=Nat.mul_le_mul_right _ (by omega)
      rw [Nat.succ_mul] at this
      omega
end
section
variable {C:Ctx} {F:Nat→List PV→Option (List PV)} {ρ:List PV} {hdr hdr':Hdr} {S S1 S' Wr:Nat→Prop} {σ σ1:Sym} {a a1:Act} {w w1 w':World} {cur:Gd} {ns nv:Nat} {r:Res} {o:Oper} {Kc:Act→World→Prop} {Q:Exit→Act→World→Prop}
theorem setObs_append1 (σ:Sym) (u:Nat × Obj) (us:List (Nat × Obj)) (h:∀v∈us,v.1≠u.1) (t:Nat):(setObs σ (u::us)).ob t=(setOb (setObs σ us) u.1 u.2).ob t:=by
 rw [setOb_ob]
 split
 ·rename_i e; subst e
  rw [setObs_cons,setObs_ob_none us _ _ h,setOb_ob,if_pos rfl]
 ·rename_i e
  rw [setObs_cons]
  by_cases hx:∃v∈us,v.1=t
  ·clear h
   induction us generalizing σ with
   | nil=>simp at hx
   | cons v us ih =>
    rw [setObs_cons,setObs_cons]
    by_cases hx':∃v∈us,v.1=t
    ·have h1:=ih (setOb σ v.1 v.2) hx'
     rw [←h1]
     have comm:∀(us:List (Nat × Obj)) (σ1 σ2:Sym),(∀t,t≠u.1→σ1.ob t=σ2.ob t)→∀t,t≠u.1→(setObs σ1 us).ob t=(setObs σ2 us).ob t:=by
      intro us
      induction us with
      | nil=>intro σ1 σ2 h t ht; exact h t ht
      | cons w ws ih=>intro σ1 σ2 h t ht; rw [setObs_cons,setObs_cons]; exact ih _ _ (fun s hs=>by rw [setOb_ob,setOb_ob,h s hs]) t ht
     exact comm us _ _ (fun s hs=>by simp only [setOb_ob,if_neg hs]) t e
    ·have hno:∀x∈us,x.1≠t:=fun x hx1 e1=>hx' ⟨x,hx1,e1⟩
     rw [setObs_ob_none us _ t hno,setObs_ob_none us _ t hno,setOb_ob,setOb_ob,setOb_ob,if_neg e]
  ·have hno:∀x∈us,x.1≠t:=fun x hx1 e1=>hx ⟨x,hx1,e1⟩
   rw [setObs_ob_none us _ t hno,setObs_ob_none us _ t hno,setOb_ob,if_neg e]
theorem St.sameOb (st:St C ρ hdr S Wr σ a w) {σ':Sym} (h:∀t,σ'.ob t=σ.ob t) (ht:σ'.tm=σ.tm):St C ρ hdr S Wr σ' a w where
 len:=by rw [ht]; exact st.len
 sl t s hs:=st.sl t s (by simpa [Sym.ev,ht] using hs)
 ob t s hs:=st.ob t s (by rw [←h]; exact hs)
 dj s s' o o' h1 h2:=st.dj s s' o o' (by rw [←h]; exact h1) (by rw [←h]; exact h2)
 sb:=st.sb
 cl:=Sym.closed_of (fun t s hs=>Sym.ev_closed (σ:=σ) st.cl (by simpa [Sym.ev,ht] using hs)) fun t s hs=>Sym.ob_closed (σ:=σ) st.cl (by rw [←h]; exact hs)
 he:=st.he
theorem store_row {t:TypeId} {x y:Operand} {s z' j z:Nat} {i:Exp} {wv:SV} {X Y:Exp} {ty:Ty} {ss:List Nat} {us:List (Nat × Obj)} (ho:o.op = .store t x y)
  (h1:(rd cur x).val σ.ev σ.ob=some (.c (.adr s z' i j))) (h2:(rd cur y).val σ.ev σ.ob=some wv) (h3:sizeT C.P t=some z)
  (h5:σ.ob s=some (.row X ty)) (hz':z'=ty.cells.length) (hss:s ∉ ss) (hfz:(freeze ss.eraseDups).val σ.ev σ.ob=some us) (hjz:j+z≤ty.cells.length)
  (hr:r={ v := .tup [],upds:=(s,.row (.tri .set X i Y) ty)::us }) (sit:Sit C F ρ hdr S Wr σ a w cur ns nv r)
  (hel:∀S1,St C ρ hdr S1 Wr (setObs σ us) a w→SVRel C ρ hdr S1 w wv (a.eval y)→Frozen σ (setObs σ us) ss→(a.eval y).cells.size=z ∧
   (∀u∈(a.eval y).cells.toList,u.oneCell'=true) ∧
   ∀cp0,ElemP ty ((X.den ρ).list.getD (i.den ρ).int.toNat default) cp0→∃cp':Nat→PV,ElemP ty (Y.den ρ) cp'∧∀(k:Nat) (t':Ty),ty.cells[k]? = some t' →
    (j≤k∧k<j+z→∃u,(a.eval y).cells[k-j]? = some u∧RepC C S1 w t' u (cp' k))∧(¬(j≤k∧k<j+z)→cp' k=cp0 k))
  (hK:∀a' w',Post C ρ hdr S Wr σ a w o cur r ns a' w'→Kc a' w'):o.wp C.P a w Kc Q:=by
 subst hr hz'
 obtain ⟨b,n,cap,hb1,hi0,hi1,hb2⟩:=(rd_ok sit.st sit.hcur h1).1
 have hv:=(rd_ok sit.st sit.hcur h2).1
 obtain ⟨S1,st1,ev1,hf,hno,hin⟩:=freeze_ok (ns:=ns) sit.st hfz
 have hlt:(i.den ρ).int.toNat<n:=by omega
 obtain ⟨hsz,hone,hcp⟩:=hel S1 st1 (hv.mono (fun _ _ h=>h) ev1.ss ev1.sk) hf
 have hs1:(setObs σ us).ob s=some (.row X ty):=by rw [hno s hss]; exact h5
 obtain ⟨hd,k1,k2⟩:=st1.ob _ _ hs1
 rw [hb1] at k1; cases k1
 obtain ⟨cv,cp,hc,he,hrr⟩:=row_elem k2 hlt
 obtain ⟨cp',he',hr'⟩:=hcp cp he
 have k2':=k2
 rcases k2 with ⟨k3,_⟩ | ⟨b',n',cap',arr,e,xs,cp1,k3,k4,k5,k6,k7,k8,k9,k10,k11,k12⟩
 ·cases k3
 cases k3
 have hfit:(i.den ρ).int.toNat*ty.cells.length+j+z≤arr.size:=by
  have hb:(i.den ρ).int.toNat*ty.cells.length+ty.cells.length≤cap*ty.cells.length:=by
   rw [←Nat.succ_mul]; exact Nat.mul_le_mul_right _ (by omega)
  omega
 obtain ⟨w',arr',q1,q2,q3,q4,q5⟩:=run_storeAt (P:=C.P) h3 hb2 hsz k4 hfit hone
 have hsame:∀b',S1 b'→w'.heap[b']? = w.heap[b']? := fun b' hb'=>q4 b' fun e=>k5 (e ▸ hb')
 have hblk:blk hdr s=some b:=by simp [blk,hb1]
 have hcl:=sit.hcl
 simp only [Res.closed,Bool.and_eq_true,List.all_cons] at hcl
 have hrow:RowR C S1 Wr w' (.slice (some ⟨b,0,none⟩) n cap) (.l ((X.den ρ).list.set (i.den ρ).int.toNat (Y.den ρ))) ty:=by
  refine row_write k2' k4 hlt q2 hsame q3 (by simpa using hsz) hjz he' fun k t' ht'=>⟨fun hin => ?_,fun hout cpx hcpx _ => ?_⟩
  ·obtain ⟨u,hu,hru⟩:=(hr' k t' ht').1 hin
   exact ⟨u,by simpa using hu,hru.stable (fun _ h=>h) hsame⟩
  ·refine ⟨cpx,hcpx,?_,rfl⟩
   rw [(hr' k t' ht').2 hout]
   have hk:k<ty.cells.length:=by
    rcases Nat.lt_or_ge k ty.cells.length with h | h
    ·exact h
    ·simp [List.getElem?_eq_none h] at ht'
   unfold ElemP at he hcpx
   cases ty with
   | agg ts =>
    simp only at he hcpx
    rw [he] at hcpx
    injection hcpx with hcpx
    have:=congrArg (fun l:List PV=>l[k]?) hcpx
    simp only [Ty.cells] at hk
    simpa [hk] using this
   | _ =>
    simp only [Ty.cells,List.length_singleton] at hk
    obtain rfl:k=0:=by omega
    simp only at he hcpx
    rw [←he,←hcpx]
 have st2:St C ρ hdr S1 Wr (setOb (setObs σ us) s (.row (.tri .set X i Y) ty)) a w' :=
  st1.write hs1 rfl hblk q4 q5.1 ⟨_,hb1,by simpa [Exp.den,T3.den] using hrow⟩ hcl.2.1
 refine wp_skp (w':=w') (by simp [execOp,ho,q1]) (hK _ _ (post_skip sit.hcur sit.hg rfl rfl (st2.sameOb (fun t => ?_) ?_) (ev1.trans ((Ev.write (ns:=ns) k6 k5 q4 q5)))))
 ·exact setObs_append1 σ (s,.row (.tri .set X i Y) ty) us (fun v hv e=>hss (by have:=hin v hv; rw [e] at this; exact this)) t
 ·rfl
theorem sop_store {t:TypeId} {x y:Operand} (ho:o.op = .store t x y) (h:(sop C cur ns nv o).val σ.ev σ.ob=some r) (sit:Sit C F ρ hdr S Wr σ a w cur ns nv r)
  (hK:∀a' w',Post C ρ hdr S Wr σ a w o cur r ns a' w'→Kc a' w'):o.wp C.P a w Kc Q:=by
 simp only [sop,ho,RM.val_bind,RM.val_ofOpt,Option.bind_eq_some_iff] at h
 obtain ⟨v,h1,wv,h2,z,h3,h4⟩:=h
 split at h4
 ·simp only [RM.val_ob,Option.bind_eq_some_iff] at h4
  obtain ⟨ob,h5,h6⟩:=h4
  split at h6
  ·simp only [RM.val_bind,RM.val_ofOpt,RM.val_guard,RM.val_ret,Option.bind_eq_some_iff,Option.some.injEq] at h6
   obtain ⟨vs,h7,_,h8,rfl⟩:=h6
   have hg:=guard_some h8
   simp only [Bool.and_eq_true,beq_iff_eq,decide_eq_true_eq] at hg
   exact sop_store_box ho h1 h2 h3 h5 h7 hg.1 rfl sit hK
  ·simp at h6
 ·rename_i s z' i j
  simp only [RM.val_ob,Option.bind_eq_some_iff] at h4
  obtain ⟨ob,h5,h6⟩:=h4
  split at h6
  ·rename_i X ty
   split at h6
   ·rename_i ts
    split at h6
    ·rename_i cs
     simp only [RM.val_bind,RM.val_guard,RM.val_ret,Option.bind_eq_some_iff,Option.some.injEq] at h6
     obtain ⟨_,h7,⟨Y,ss⟩,h8,_,h9,us,h10,rfl⟩:=h6
     have hg:=guard_some h7
     have hg2:=guard_some h9
     simp at hg hg2
     obtain ⟨⟨⟨hz',rfl⟩,hcl⟩,hzt⟩:=hg
     refine store_row ho h1 h2 h3 h5 (by simpa [Ty.cells] using hz') (by simpa using hg2) h10 (by simp [Ty.cells,hzt]) rfl sit (fun S1 st1 hv hf => ?_) hK
     obtain ⟨k1,cp',k2,k3⟩:=elemIn_ok st1 h8 hv hf
     refine ⟨by rw [k1,hzt]; rfl,fun u hu => ?_,fun cp0 _=>⟨cp',k2,fun k t' ht'=>⟨fun _=>by simpa using k3 k t' ht',fun hn => ?_⟩⟩⟩
     ·obtain ⟨arr,e1,e2⟩:=hv
      rw [e1] at hu
      obtain ⟨q,hq⟩:=List.mem_iff_getElem?.1 hu
      obtain ⟨c,_,hc⟩:=e2.get' hq
      exact hc.one
     ·exfalso; apply hn
      refine ⟨Nat.zero_le _,?_⟩
      rcases Nat.lt_or_ge k (Ty.agg ts).cells.length with h | h
      ·simp only [Ty.cells] at h; omega
      ·simp [List.getElem?_eq_none h] at ht'
    ·rename_i c
     simp only [RM.val_bind,RM.val_ofOpt,RM.val_guard,RM.val_ret,Option.bind_eq_some_iff,Option.some.injEq] at h6
     obtain ⟨_,h7,t',h11,⟨Y,ss⟩,h8,_,h9,us,h10,rfl⟩:=h6
     have hg:=guard_some h7
     have hg2:=guard_some h9
     simp at hg hg2
     obtain ⟨hz',rfl⟩:=hg
     have hjl:j<ts.toList.length:=by
      rcases Nat.lt_or_ge j ts.toList.length with h | h
      ·exact h
      ·simp [List.getElem?_eq_none h] at h11
     refine store_row ho h1 h2 h3 h5 (by simpa [Ty.cells] using hz') (by simpa using hg2) h10 (by simp [Ty.cells]; omega) rfl sit (fun S1 st1 hv hf => ?_) hK
     have hrep:=cellIn_ok st1 h8 hv hf
     have h1c:=cells_one (SCRel.one hv)
     refine ⟨by rw [h1c]; rfl,fun u hu => ?_,fun cp0 hcp0=>⟨fun k=>if k=j then Y.den ρ else cp0 k,?_,fun k tk htk=>⟨fun hk => ?_,fun hk => ?_⟩⟩⟩
     ·rw [h1c] at hu; simp at hu; subst hu; exact SCRel.one hv
     ·simp only [ElemP] at hcp0 ⊢
      simp only [Exp.den,B.den,hcp0,PV.cells,PV.a.injEq]
      refine List.ext_getElem? fun k => ?_
      by_cases hk:k<ts.toList.length
      ·by_cases e:k=j
       ·subst e; simp [hk]
       ·simp [hk,List.getElem?_set,Ne.symm e,e]
      ·simp [List.getElem?_eq_none (l:=List.range ts.toList.length) (i:=k) (by simp; omega),List.getElem?_set]
       intro e; subst e; omega
     ·obtain rfl:k=j:=by omega
      simp only [Ty.cells] at htk
      rw [h11] at htk; cases htk
      refine ⟨a.eval y,by rw [h1c]; simp,by simpa using hrep⟩
     ·have:k≠j:=by omega
      simp [this]
    ·simp at h6
   ·rename_i hne
    simp only [RM.val_bind,RM.val_guard,RM.val_ret,Option.bind_eq_some_iff,Option.some.injEq] at h6
    obtain ⟨_,h7,⟨Y,ss⟩,h8,_,h9,us,h10,rfl⟩:=h6
    have hg:=guard_some h7
    have hg2:=guard_some h9
    simp at hg hg2
    obtain ⟨⟨rfl,rfl⟩,rfl⟩:=hg
    have hcells:ty.cells=[ty]:=by cases ty<;>first | rfl | (exact absurd rfl (hne _))
    refine store_row ho h1 h2 h3 h5 (by simp [hcells]) (by simpa using hg2) h10 (by simp [hcells]) rfl sit (fun S1 st1 hv hf => ?_) hK
    obtain ⟨k1,cp',k2,k3⟩:=elemIn_ok st1 h8 hv hf
    have hone:(a.eval y).oneCell'=true:=by
     have h8':=h8
     unfold elemIn at h8'
     split at h8'
     ·exact absurd rfl (hne _)
     ·split at h8'
      ·exact SCRel.one hv
      ·simp at h8'
    refine ⟨by rw [k1,hcells]; rfl,fun u hu => ?_,fun cp0 _=>⟨cp',k2,fun k t' ht'=>⟨fun _=>by simpa using k3 k t' ht',fun hn => ?_⟩⟩⟩
    ·rw [cells_one hone] at hu; simp at hu; subst hu; exact hone
    ·exfalso; apply hn
     refine ⟨Nat.zero_le _,?_⟩
     rcases Nat.lt_or_ge k ty.cells.length with h | h
     ·rw [hcells] at h; simpa using h
     ·simp [List.getElem?_eq_none h] at ht'
  ·simp at h6
 ·simp at h4
end
section
variable {C:Ctx} {F:Nat→List PV→Option (List PV)} {ρ:List PV} {hdr hdr':Hdr} {S S1 S' Wr:Nat→Prop} {σ σ1:Sym} {a a1:Act} {w w1 w':World} {cur:Gd} {ns nv:Nat} {r:Res} {o:Oper} {Kc:Act→World→Prop} {Q:Exit→Act→World→Prop}
theorem isStruct_some {P:Program} {t:TypeId} (h:isStruct P t=true):∃fs,P.underlying t=some (.struct fs):=by
 unfold isStruct at h; split at h
 ·rename_i fs hu; exact ⟨fs,hu⟩
 ·cases h
theorem placeOf_struct {P:Program} {t:TypeId} {i off z:Nat} {fs:Array Field} (hu:P.underlying t=some (.struct fs)) (h:placeOf P t i=some (off,z)) :
  ∃f,fs[i]? = some f∧sizeT P f.type=some z∧f.offset=off:=by
 unfold placeOf at h
 rw [hu] at h
 simp only [Option.bind_eq_some_iff,Option.map_eq_some_iff,Prod.mk.injEq] at h
 obtain ⟨f,h1,z',h2,h3,rfl⟩:=h
 exact ⟨f,h1,h2,h3⟩
theorem sop_fieldAddr {t:TypeId} {x:Operand} {f:Nat} (ho:o.op = .fieldAddr t x f) (h:(sop C cur ns nv o).val σ.ev σ.ob=some r) (sit:Sit C F ρ hdr S Wr σ a w cur ns nv r)
  (hK:∀a' w',Post C ρ hdr S Wr σ a w o cur r ns a' w'→Kc a' w'):o.wp C.P a w Kc Q:=by
 simp only [sop,ho,RM.val_bind,RM.val_ofOpt,RM.val_guard,Option.bind_eq_some_iff] at h
 obtain ⟨v,h1,⟨off,z⟩,h2,_,h3,h4⟩:=h
 have hg:=guard_some h3
 simp only [Bool.and_eq_true,bne_iff_ne] at hg
 obtain ⟨hz,hst⟩:=hg
 obtain ⟨fs,hu⟩:=isStruct_some hst
 obtain ⟨fl,e1,e2,e3⟩:=placeOf_struct hu h2
 have hv:=(rd_ok sit.st sit.hcur h1).1
 have fin:∀{b p:Nat},a.eval x = .pointer (some ⟨b,p,none⟩)→(execOp a.eval o).run C.P w = .ok (.value (.pointer (some ⟨b,p+off,none⟩))) w:=fun e=>by
  simp [execOp,ho,Instr.fieldAt,run_underlying' hu,e1,e,Instr.sureAddr,fieldPlace,run_sizeOf e2,hz,addr_add,e3]
 dsimp only at h4
 split at h4
 ·simp only [RM.val_ret,Option.some.injEq] at h4; subst h4
  obtain ⟨b,k1,k2⟩:=hv
  exact pure_ok sit rfl rfl (fin k2) rfl ⟨b,k1,rfl⟩ hK
 ·simp only [RM.val_ret,Option.some.injEq] at h4; subst h4
  obtain ⟨b,n,cap,k1,k2,k3,k4⟩:=hv
  exact pure_ok sit rfl rfl (fin k4) rfl ⟨b,n,cap,k1,k2,k3,by rw [Nat.add_assoc]⟩ hK
 ·simp only [RM.val_ret,Option.some.injEq] at h4; subst h4
  obtain ⟨b,o',n,cap,k1,k2,k3,k4⟩:=hv
  exact pure_ok sit rfl rfl (fin k4) rfl ⟨b,o',n,cap,k1,k2,k3,by rw [Nat.add_assoc (o'+_)]⟩ hK
 ·simp at h4
theorem run_part {P:Program} {t:TypeId} {cs:Array Value} {off z:Nat} (hu:(P.underlying t).isSome=true) (hs:sizeT P t=some z) (hle:off+z≤cs.size)
  (h1:isAggT P t=false→z=1):(part t cs off).run P w = .ok (if isAggT P t then .agg ((cs.toList.drop off).take z).toArray else ((cs.toList.drop off).take z).headD undef) w:=by
 unfold part
 simp only [Sem.run_bind,run_isAgg hu,Result.andThen_ok]
 cases hag:isAggT P t
 ·have:=h1 hag; subst this
  have hlt:off<cs.size:=by omega
  have:(cs.toList.drop off).take 1=[cs[off]]:=by
   rw [List.drop_eq_getElem_cons (by simpa using hlt)]; simp
  simp [this,hlt]
 ·simp only [if_true,Sem.run_bind,run_sizeOf hs,Result.andThen_ok,Sem.run_pure]
  congr 2
  apply Array.toList_inj.1
  simp [Array.toList_extract,List.extract_eq_take_drop]
theorem mkSV_single {cs:List SC} {x:SV} {n:Nat} (h:mkSV false cs=some x) (hl:cs.length=n):n=1:=by
 unfold mkSV at h
 simp only [Bool.false_eq_true,if_false] at h
 split at h
 ·simpa using hl.symm
 ·simp at h
theorem sop_field {t:TypeId} {x:Operand} {f:Nat} (ho:o.op = .field t x f) (h:(sop C cur ns nv o).val σ.ev σ.ob=some r) (sit:Sit C F ρ hdr S Wr σ a w cur ns nv r)
  (hK:∀a' w',Post C ρ hdr S Wr σ a w o cur r ns a' w'→Kc a' w'):o.wp C.P a w Kc Q:=by
 simp only [sop,ho,RM.val_bind,RM.val_ofOpt,Option.bind_eq_some_iff] at h
 obtain ⟨v,h1,⟨off,z⟩,h2,h4⟩:=h
 have hv:=(rd_ok sit.st sit.hcur h1).1
 dsimp only at h4
 split at h4
 ·rename_i fs cs hu
  simp only [RM.val_bind,RM.val_ofOpt,RM.val_guard,RM.val_ret,Option.bind_eq_some_iff,Option.some.injEq] at h4
  obtain ⟨ft,h5,_,h6,v',h7,rfl⟩:=h4
  have hg:=guard_some h6
  simp only [Bool.and_eq_true,decide_eq_true_eq] at hg
  obtain ⟨fl,e1,e2,e3⟩:=placeOf_struct hu h2
  rw [h5] at e1; cases e1
  subst e3
  obtain ⟨arr,k1,k2⟩:=hv
  have hlen:=k2.length
  simp at hlen
  have hl:((cs.drop ft.offset).take z).length=z:=by simp; omega
  have hz:isAggT C.P ft.type=false→z=1:=fun e=>by rw [e] at h7; exact mkSV_single h7 hl
  refine pure_ok sit rfl rfl (v:=if isAggT C.P ft.type then .agg ((arr.toList.drop ft.offset).take z).toArray else ((arr.toList.drop ft.offset).take z).headD undef)
   (by simp [execOp,ho,Instr.field,run_underlying' hu,h5,k1,asAgg,run_part hg.2 e2 (show ft.offset+z≤arr.size by omega) hz]) rfl (mkSV_ok h7 ((k2.drop ft.offset).take z)) hK
 ·simp at h4
theorem sop_makeFunc {fn:Fn} {first caps:Array Operand} (ho:o.op = .makeFunc fn first caps) (h:(sop C cur ns nv o).val σ.ev σ.ob=some r) (sit:Sit C F ρ hdr S Wr σ a w cur ns nv r)
  (hrd:∀{xs:List Operand} {vs:List SV},(rdAll cur xs).val σ.ev σ.ob=some vs→All2 (SVRel C ρ hdr S w) vs (xs.map a.eval))
  (hK:∀a' w',Post C ρ hdr S Wr σ a w o cur r ns a' w'→Kc a' w'):o.wp C.P a w Kc Q:=by
 simp only [sop,ho] at h
 split at h
 ·rename_i f
  simp only [RM.val_bind,RM.val_ofOpt,RM.val_guard,RM.val_ret,Option.bind_eq_some_iff,Option.some.injEq] at h
  obtain ⟨_,h1,vs,h2,cs,h3,rfl⟩:=h
  have hg:=guard_some h1
  have hf:first = #[]:=by simpa using hg
  subst hf
  refine pure_ok sit rfl rfl (v := .func (.func f) #[] (caps.map a.eval)) (by simp [execOp,ho,Instr.makeFunc]) rfl ⟨caps.map a.eval,rfl,?_⟩ hK
  have:=hrd h2
  rw [Array.toList_map]
  generalize caps.toList.map a.eval=us at this
  clear h2 hK sit
  induction vs generalizing cs us with
  | nil=>simp at h3; subst h3; cases us<;>first | trivial | exact this.elim
  | cons v vs ih =>
   rw [List.mapM_cons] at h3
   simp only [Option.pure_def,Option.bind_eq_bind,Option.bind_eq_some_iff,Option.some.injEq] at h3
   obtain ⟨c,h4,ds,h5,rfl⟩:=h3
   cases us with
   | nil=>exact this.elim
   | cons u us =>
    obtain ⟨k1,k2⟩:=this
    split at h4
    ·cases h4; exact ⟨k1,ih _ h5 _ k2⟩
    ·cases h4
 ·simp at h
theorem rdAll_ok (st:St C ρ hdr S Wr σ a w) (hcur:gdHolds ρ cur):∀{xs:List Operand} {vs:List SV},(rdAll cur xs).val σ.ev σ.ob=some vs →
  All2 (SVRel C ρ hdr S w) vs (xs.map a.eval)∧∀v∈vs,v.closed ρ.length=true
 | [],vs,h=>by simp [rdAll] at h; subst h; exact ⟨trivial,by simp⟩
 | x::xs,vs,h=>by
  simp only [rdAll,RM.val_bind,RM.val_ret,Option.bind_eq_some_iff,Option.some.injEq] at h
  obtain ⟨v,h1,us,h2,rfl⟩:=h
  have:=rd_ok st hcur h1
  have ih:=rdAll_ok st hcur h2
  exact ⟨⟨this.1,ih.1⟩,fun u hu=>by
   rcases List.mem_cons.1 hu with rfl | hu
   ·exact this.2
   ·exact ih.2 u hu⟩
theorem listE_len (st:St C ρ hdr S Wr σ a w) {c:SC} {v:Value} {x:Exp} {t':Option Ty} (h:(listE c).val σ.ev σ.ob=some (x,t')) (hv:SCRel C ρ hdr S w c v) :
  ∃ad len cap,v = .slice ad len cap∧(∃xs,x.den ρ = .l xs∧xs.length=len)∧(ad=none→len=0∧cap=0)∧len≤cap:=by
 have hrep:∀{e p v},RepC C S w (.sl e) v p→∃ad len cap,v = .slice ad len cap∧(∃xs,p = .l xs∧xs.length=len)∧(ad=none→len=0∧cap=0)∧len≤cap:=fun h=>by
  cases h with
  | nil=>exact ⟨none,0,0,rfl,⟨[],rfl,rfl⟩,fun _=>⟨rfl,rfl⟩,Nat.le_refl _⟩
  | sl cv cp hS hl hc hw he hr=>exact ⟨_,_,_,rfl,⟨_,rfl,hl⟩,(fun h=>by cases h),hc⟩
 have hrow:∀{hd p t},RowR C S Wr w hd p t→∃ad len cap,hd = .slice ad len cap∧(∃xs,p = .l xs∧xs.length=len)∧(ad=none→len=0∧cap=0)∧len≤cap:=fun h=>by
  rcases h with ⟨rfl,rfl⟩ | ⟨b,n,cap,arr,e,xs,cp,h1,h2,h3,h4,h5,h6,h7,_⟩
  ·exact ⟨none,0,0,rfl,⟨[],rfl,rfl⟩,fun _=>⟨rfl,rfl⟩,Nat.le_refl _⟩
  ·exact ⟨_,_,_,h1,⟨xs,h5,h6⟩,(fun h=>by cases h),h7⟩
 unfold listE at h
 split at h
 ·simp at h; obtain ⟨rfl,rfl⟩:=h; exact hrep hv
 ·simp at h; obtain ⟨rfl,rfl⟩:=h
  cases hv; exact ⟨none,0,0,rfl,⟨[],rfl,rfl⟩,fun _=>⟨rfl,rfl⟩,Nat.le_refl _⟩
 ·rename_i s
  simp only [RM.val_ob,Option.bind_eq_some_iff] at h
  obtain ⟨ob,h1,h2⟩:=h
  split at h2
  ·simp at h2; obtain ⟨rfl,rfl⟩:=h2
   obtain ⟨hd,k1,k2⟩:=st.ob _ _ h1
   have:=hv.1; rw [k1] at this; cases this; exact hrow k2
  ·simp at h2; obtain ⟨rfl,rfl⟩:=h2
   obtain ⟨hd,k1,k2,_⟩:=st.ob _ _ h1
   have:=hv.1; rw [k1] at this; cases this; exact hrep k2
  ·simp at h2
 ·rename_i s z off len
  simp only [RM.val_ob,Option.bind_eq_some_iff] at h
  obtain ⟨ob,h1,h2⟩:=h
  have key:∀y,(∃hd ad n cap xs,hdr s=some hd∧hd = .slice ad n cap∧y.den ρ = .l xs∧xs.length=n)→x = .bi .take (.bi .drop y off) len →
    ∃ad len cap,v = .slice ad len cap∧(∃xs,x.den ρ = .l xs∧xs.length=len)∧(ad=none→len=0∧cap=0)∧len≤cap:=by
   rintro y ⟨hd,ad,n,cap,xs,k1,rfl,k3,k4⟩ rfl
   obtain ⟨l,hl,hoff,h3⟩:=hv
   simp only [Exp.den,B.den,hl,k3,PV.list,Int.toNat_natCast]
   rcases h3 with ⟨h4,h5,h6,h7⟩ | ⟨b,n',cap1,q,cap',h4,h5,h6,h7,h8,h9⟩
   ·subst h6; exact ⟨none,0,0,h5,⟨_,rfl,by simp⟩,fun _=>⟨rfl,rfl⟩,Nat.le_refl _⟩
   ·rw [h4] at k1; cases k1
    exact ⟨_,_,_,h5,⟨_,rfl,by simp; omega⟩,(fun h=>by cases h),h8⟩
  split at h2
  ·split at h2
   ·simp at h2; obtain ⟨rfl,rfl⟩:=h2
    obtain ⟨hd,k1,k2⟩:=st.ob _ _ h1
    obtain ⟨ad,n,cap,e1,⟨xs,e2,e3⟩,_⟩:=hrow k2
    exact key _ ⟨hd,ad,n,cap,xs,k1,e1,e2,e3⟩ rfl
   ·simp at h2
  ·split at h2
   ·simp at h2; obtain ⟨rfl,rfl⟩:=h2
    obtain ⟨hd,k1,k2,_⟩:=st.ob _ _ h1
    obtain ⟨ad,n,cap,e1,⟨xs,e2,e3⟩,_⟩:=hrep k2
    exact key _ ⟨hd,ad,n,cap,xs,k1,e1,e2,e3⟩ rfl
   ·simp at h2
  ·simp at h2
 ·simp at h
end
section
variable {C:Ctx} {F:Nat→List PV→Option (List PV)} {ρ:List PV} {hdr hdr':Hdr} {S S1 S' Wr:Nat→Prop} {σ σ1:Sym} {a a1:Act} {w w1 w':World} {cur:Gd} {ns nv:Nat} {r:Res} {o:Oper} {Kc:Act→World→Prop} {Q:Exit→Act→World→Prop}
theorem int_v (k:IntKind) (n:Int):(PV.v (.int k n)).int=n:=rfl
theorem inRange_ok {e n:Exp} {i:Int} {k:IntKind} {m:Nat} (h:∀x∈inRange e n,x.isTrue ρ=true) (he:e.den ρ = .v (.int k i)) (hn:(n.den ρ).int=m):0≤i∧i<m:=by
 have h1:=h (.bi .le lit0 e) (by simp [inRange])
 have h2:=h (.bi .lt e n) (by simp [inRange])
 simp [Exp.isTrue,Exp.den,B.den,he,lit0,PV.int,PV.bool] at h1
 simp only [Exp.isTrue,Exp.den,B.den,he,PV.bool,hn] at h2
 exact ⟨h1,of_decide_eq_true h2⟩
theorem len_den {l:Exp} {xs:List PV} (h:l.den ρ = .l xs):((Exp.un .len l).den ρ).int=(xs.length:Nat):=by
 simp [Exp.den,U.den,h,PV.list,PV.int]
theorem run_indexAt_slice {P:Program} {t e:TypeId} {b q len cap z:Nat} {k:IntKind} {i:Int} (hu:P.underlying t=some (.slice e)) (hs:sizeT P e=some z) (h0:0≤i) (h1:i<len) :
  (Instr.indexAt t (.slice (some ⟨b,q,none⟩) len cap) (.int k i)).run P w = .ok (.pointer (some ⟨b,q+i.toNat*z,none⟩)) w:=by
 simp [Instr.indexAt,asIntOf,run_underlying' hu,h0,h1,run_sizeOf hs,addr_add]
theorem sop_indexAddr {t:TypeId} {x y:Operand} (ho:o.op = .indexAddr t x y) (h:(sop C cur ns nv o).val σ.ev σ.ob=some r) (sit:Sit C F ρ hdr S Wr σ a w cur ns nv r)
  (hK:∀a' w',Post C ρ hdr S Wr σ a w o cur r ns a' w'→Kc a' w'):o.wp C.P a w Kc Q:=by
 simp only [sop,ho,RM.val_bind,Option.bind_eq_some_iff] at h
 obtain ⟨v,h1,vi,h2,⟨e,as⟩,h3,h4⟩:=h
 dsimp only at h4
 have hv:=(rd_ok sit.st sit.hcur h1).1
 have hvi:=(rd_ok sit.st sit.hcur h2).1
 unfold indexS at h4
 split at h4
 ·rename_i et hu
  split at h4
  ·rename_i c
   simp only [RM.val_bind,RM.val_ofOpt,RM.val_guard,Option.bind_eq_some_iff] at h4
   obtain ⟨⟨l,t'⟩,h5,ty,h6,_,h7,h8⟩:=h4
   dsimp only at h6
   subst h6
   have hz:=guard_some h7
   simp only [beq_iff_eq] at hz
   obtain ⟨ad,len,cap,e1,⟨xs,e2,e3⟩,e4,e5⟩:=listE_len sit.st h5 hv
   have key:(∀x∈as++inRange e (.un .len l),x.isTrue ρ=true)→∃k i,a.eval y = .int k i∧e.den ρ = .v (.int k i)∧0≤i∧i<len:=fun ha=>by
    obtain ⟨k,i,q1,q2⟩:=intE_ok h3 hvi fun x hx=>ha x (by simp [hx])
    have:=inRange_ok (fun x hx=>ha x (by simp [hx])) q2 (len_den e2)
    exact ⟨k,i,q1,q2,this.1,by rw [←e3]; exact this.2⟩
   have fin:∀{b q k i},a.eval x = .slice (some ⟨b,q,none⟩) len cap→a.eval y = .int k i→0≤i→i<len →
     (execOp a.eval o).run C.P w = .ok (.value (.pointer (some ⟨b,q+i.toNat*ty.cells.length,none⟩))) w:=fun q1 q2 q3 q4=>by
    simp [execOp,ho,q1,q2,run_indexAt_slice hu hz q3 q4]
   split at h8
   ·rename_i X T
    simp only [RM.val_ret,Option.some.injEq] at h8; subst h8
    obtain ⟨k,i,q1,q2,q3,q4⟩:=key sit.has
    simp [listE] at h5
    obtain ⟨rfl,rfl⟩:=h5
    have hrep:RepC C S w (.sl T) (a.eval x) (X.den ρ):=hv
    rw [e1] at hrep
    have hrep':=hrep
    generalize X.den ρ=p at hrep'
    cases hrep' with
    | nil=>have:=(e4 rfl).1; omega
    | sl cv cp hS hl hc hw he hr =>
     rename_i b q _
     refine pure_ok sit rfl rfl (fin e1 q1 q3 q4) rfl ⟨b,q,len,cap,hrep,?_,?_,?_⟩ hK
     ·simpa [q2,PV.int] using q3
     ·simpa [q2,PV.int] using q4
     ·simp [q2,PV.int]
   ·rename_i s
    simp only [RM.val_ret,Option.some.injEq] at h8; subst h8
    obtain ⟨k,i,q1,q2,q3,q4⟩:=key sit.has
    have hsh:∃b,a.eval x = .slice (some ⟨b,0,none⟩) len cap:=by
     simp only [listE,RM.val_ob,Option.bind_eq_some_iff] at h5
     obtain ⟨ob,k1,k2⟩:=h5
     have hh:=hv.1
     have fin0:∀hd,hdr s=some hd→hd0 hd→∃b,a.eval x = .slice (some ⟨b,0,none⟩) len cap:=fun hd g1 g2=>by
      rw [g1] at hh; cases hh
      rw [e1] at g2 ⊢
      cases ad with
      | none=>have:=(e4 rfl).1; omega
      | some ad=>exact ⟨ad.block,by rw [g2 ad _ _ rfl]⟩
     split at k2
     ·obtain ⟨hd,g1,g2⟩:=sit.st.ob _ _ k1; exact fin0 hd g1 g2.hd0
     ·obtain ⟨hd,g1,_,g2⟩:=sit.st.ob _ _ k1; exact fin0 hd g1 g2
     ·simp at k2
    obtain ⟨b,hsh⟩:=hsh
    refine pure_ok sit rfl rfl (fin hsh q1 q3 q4) rfl ⟨b,len,cap,by rw [←hsh]; exact hv.1,?_,?_,?_⟩ hK
    ·simpa [q2,PV.int] using q3
    ·simpa [q2,PV.int] using q4
    ·simp [q2,PV.int]
   ·rename_i s z off len'
    simp only [RM.val_ret,Option.some.injEq] at h8; subst h8
    obtain ⟨k,i,q1,q2,q3,q4⟩:=key sit.has
    have hzt:z=ty.cells.length:=by
     simp only [listE,RM.val_ob,Option.bind_eq_some_iff] at h5
     obtain ⟨ob,k1,k2⟩:=h5
     split at k2
     ·split at k2
      ·rename_i hz'; simp at hz'; simp at k2; rw [hz',k2.2]
      ·simp at k2
     ·split at k2
      ·rename_i hz'; simp at hz'; simp at k2; rw [hz',k2.2]
      ·simp at k2
     ·simp at k2
    subst hzt
    obtain ⟨l',hl,hoff,h3'⟩:=hv
    rcases h3' with ⟨g4,g5,g6,g7⟩ | ⟨b,n,cap1,q,cap',g4,g5,g6,g7,g8,g9⟩
    ·rw [g5] at e1; cases e1; omega
    ·rw [g5] at e1; cases e1
     have hq:q=(off.den ρ).int.toNat*ty.cells.length:=by
      rcases g6 with h | ⟨h,_⟩
      ·exact h
      ·omega
     refine pure_ok sit rfl rfl (fin g5 q1 q3 q4) rfl ⟨b,n,cap1,g4,?_,?_,?_⟩ hK
     ·simp only [Exp.den,B.den,q2,int_v]; omega
     ·simp only [Exp.den,B.den,q2,int_v]; omega
     ·simp only [Exp.den,B.den,q2,int_v,Nat.add_zero]
      rw [show ((off.den ρ).int+i).toNat=(off.den ρ).int.toNat+i.toNat by omega,Nat.add_mul,←hq]
   ·simp at h8
  ·simp at h4
 ·rename_i n et hu
  split at h4
  ·rename_i s off k' k
   simp only [RM.val_bind,RM.val_ofOpt,RM.val_guard,RM.val_ret,Option.bind_eq_some_iff,Option.some.injEq] at h4
   obtain ⟨z,h5,_,h6,rfl⟩:=h4
   have hg:=guard_some h6
   simp at hg
   obtain ⟨b,k1,k2⟩:=hv
   obtain ⟨kk,i,q1,q2⟩:=intE_ok h3 hvi sit.has
   simp [Exp.den] at q2
   obtain ⟨rfl,rfl⟩:=q2
   refine pure_ok sit rfl rfl (v := .pointer (some ⟨b,off+k.toNat*z,none⟩)) ?_ rfl ⟨b,k1,rfl⟩ hK
   simp [execOp,ho,Instr.indexAt,q1,asIntOf,run_underlying' hu,k2,Instr.sureAddr,hg.1.1,hg.1.2,run_sizeOf h5,addr_add]
  ·simp at h4
 ·simp at h4
end
section
variable {C:Ctx} {F:Nat→List PV→Option (List PV)} {ρ:List PV} {hdr hdr':Hdr} {S S1 S' Wr:Nat→Prop} {σ σ1:Sym} {a a1:Act} {w w1 w':World} {cur:Gd} {ns nv:Nat} {r:Res} {o:Oper} {Kc:Act→World→Prop} {Q:Exit→Act→World→Prop}
theorem All2_one {R:SV→Value→Prop} {x:SV} {vs:List Value} (h:All2 R [x] vs):∃v,vs=[v]∧R x v:=by
 cases vs with
 | nil=>exact h.elim
 | cons v vs=>cases vs with
  | nil=>exact ⟨v,rfl,h.1⟩
  | cons _ _=>exact h.2.elim
theorem All2_two {R:SV→Value→Prop} {x y:SV} {vs:List Value} (h:All2 R [x,y] vs):∃u v,vs=[u,v]∧R x u∧R y v:=by
 cases vs with
 | nil=>exact h.elim
 | cons u vs=>obtain ⟨v,rfl,hv⟩:=All2_one h.2; exact ⟨u,v,rfl,h.1,hv⟩
theorem args_eq {c:Call} {vs:List Value} (h:c.args.toList.map a.eval=vs):c.args.map a.eval=vs.toArray:=by
 apply Array.toList_inj.1; rw [Array.toList_map,h]
theorem sop_len {c:Call} {vs:List SV} (ho:o.op = .call c) (hb:c.callee = .builtin .len) (hvs:All2 (SVRel C ρ hdr S w) vs (c.args.toList.map a.eval))
  (h:(lenS C c.argTypes.toList vs).val σ.ev σ.ob=some r) (sit:Sit C F ρ hdr S Wr σ a w cur ns nv r)
  (hK:∀a' w',Post C ρ hdr S Wr σ a w o cur r ns a' w'→Kc a' w'):o.wp C.P a w Kc Q:=by
 unfold lenS at h
 split at h
 ·rename_i t c' ht
  split at h
  ·rename_i e hu
   simp only [RM.val_bind,RM.val_ret,Option.bind_eq_some_iff,Option.some.injEq] at h
   obtain ⟨⟨x,t'⟩,h1,rfl⟩:=h
   obtain ⟨v,hv1,hv2⟩:=All2_one hvs
   obtain ⟨ad,len,cap,e1,⟨xs,e2,e3⟩,_⟩:=listE_len sit.st h1 hv2
   have hargs:=args_eq hv1
   rw [e1] at hargs
   have hty:c.argTypes[0]? = some t:=by rw [←Array.getElem?_toList,ht]; rfl
   refine pure_ok sit rfl rfl (v := .int .i64 len) ?_ rfl ⟨by simp [K.has],?_⟩ hK
   ·simp [execOp,ho,resolve,hb,hargs,invoke,builtin,Builtin.len_,hty,run_underlying' hu,goInt]
   ·dsimp only at e2 ⊢
    split
    ·simp [Exp.den] at e2; subst e2; simp at e3; subst e3; rfl
    ·simp [Exp.den,U.den,e2,PV.list,e3,cn]
  ·simp at h
 ·simp at h
theorem eAll_ok (κ:K):∀{vs:List SV} {us:List Value} {xs:List Exp},(eAll κ vs).val σ.ev σ.ob=some xs→All2 (SVRel C ρ hdr S w) vs us →
  All2 (fun x v=>κ.has v=true∧x.den ρ = .v (cn v)) xs us
 | [],us,xs,h,hv=>by
  simp [eAll] at h; subst h
  cases us with
  | nil=>trivial
  | cons _ _=>exact hv.elim
 | v::vs,us,xs,h,hv=>by
  simp only [eAll,RM.val_bind,RM.val_ret,Option.bind_eq_some_iff,Option.some.injEq] at h
  obtain ⟨x,h1,ys,h2,rfl⟩:=h
  cases us with
  | nil=>exact hv.elim
  | cons u us =>
   obtain rfl:=eOf_ok h1
   exact ⟨hv.1,eAll_ok κ h2 hv.2⟩
theorem foldMax_ok {P:Program} {k:IntKind} (big:Bool):∀{xs:List Exp} {us:List Value} {x:Exp} {n:Int},x.den ρ = .v (.int k n) →
  All2 (fun x v=>(K.i k).has v=true∧x.den ρ = .v (cn v)) xs us →
  ∃m,(us.foldlM (if big then Builtin.max2 else Builtin.min2) (Value.int k n)).run P w = .ok (.int k m) w∧(foldMM (if big then .max k else .min k) x xs).den ρ = .v (.int k m)
 | [],us,x,n,hx,h=>by
  cases us with
  | nil=>exact ⟨n,rfl,hx⟩
  | cons _ _=>exact h.elim
 | y::ys,us,x,n,hx,h=>by
  cases us with
  | nil=>exact h.elim
  | cons u us =>
   obtain ⟨⟨h1,h2⟩,h3⟩:=h
   obtain ⟨m,rfl⟩:=has_int h1
   simp only [cn] at h2
   cases big
   ·obtain ⟨q,k1,k2⟩:=foldMax_ok (P:=P) false (x := .bi (.min k) x y) (n:=if m<n then m else n) (by simp [Exp.den,B.den,hx,h2,PV.int]) h3
    refine ⟨q,?_,k2⟩
    simp only [Bool.false_eq_true,if_false] at k1 ⊢
    simp [List.foldlM_cons,Builtin.min2,k1]
   ·obtain ⟨q,k1,k2⟩:=foldMax_ok (P:=P) true (x := .bi (.max k) x y) (n:=if n<m then m else n) (by simp [Exp.den,B.den,hx,h2,PV.int]) h3
    refine ⟨q,?_,k2⟩
    simp only [if_true] at k1 ⊢
    simp [List.foldlM_cons,Builtin.max2,k1]
theorem sop_max {c:Call} {vs:List SV} (big:Bool) (ho:o.op = .call c) (hb:c.callee = .builtin (if big then .max else .min)) (hvs:All2 (SVRel C ρ hdr S w) vs (c.args.toList.map a.eval))
  (h:(mmS C big c.argTypes.toList vs).val σ.ev σ.ob=some r) (sit:Sit C F ρ hdr S Wr σ a w cur ns nv r)
  (hK:∀a' w',Post C ρ hdr S Wr σ a w o cur r ns a' w'→Kc a' w'):o.wp C.P a w Kc Q:=by
 unfold mmS at h
 split at h
 ·split at h
  ·rename_i k hu
   simp only [RM.val_bind,Option.bind_eq_some_iff] at h
   obtain ⟨xs,h1,h5⟩:=h
   split at h5
   ·simp only [RM.val_ret,Option.some.injEq] at h5
    subst h5
    have:=eAll_ok _ h1 hvs
    generalize hg:c.args.toList.map a.eval=us at this
    cases us with
    | nil=>exact this.elim
    | cons u us =>
     obtain ⟨⟨h2,h3⟩,h4⟩:=this
     obtain ⟨n,rfl⟩:=has_int h2
     obtain ⟨m,k1,k2⟩:=foldMax_ok (P:=C.P) (w:=w) big h3 h4
     have hargs:(c.args.map a.eval).toList = .int k n::us:=by rw [Array.toList_map]; exact hg
     refine pure_ok sit rfl rfl (v := .int k m) ?_ rfl ⟨by simp [K.has],by simpa [cn] using k2⟩ hK
     cases big
     ·simp only [Bool.false_eq_true,if_false] at hb k1
      simp only [execOp,ho,resolve,hb,pure_bind,invoke,builtin,Builtin.min_,hargs,Sem.run_bind,k1,Result.andThen_ok,Sem.run_pure]
     ·simp only [if_true] at hb k1
      simp only [execOp,ho,resolve,hb,pure_bind,invoke,builtin,Builtin.max_,hargs,Sem.run_bind,k1,Result.andThen_ok,Sem.run_pure]
   ·simp at h5
  ·simp at h
 ·simp at h
end
section
variable {C:Ctx} {F:Nat→List PV→Option (List PV)} {ρ:List PV} {hdr hdr':Hdr} {S S1 S' Wr:Nat→Prop} {σ σ1:Sym} {a a1:Act} {w w1 w':World} {cur:Gd} {ns nv:Nat} {r:Res} {o:Oper} {Kc:Act→World→Prop} {Q:Exit→Act→World→Prop}
def isInt (v:Value) (n:Nat):Prop:=∃k,v = .int k n
theorem run_sliceBound' {P:Program} {v:Value} {n y:Nat} {code:BoundsCode} (h:isInt v n) (hle:n≤y):(Instr.sliceBound v y code).run P w = .ok n w:=by
 obtain ⟨k,rfl⟩:=h
 simp [Instr.sliceBound,asIntOf,hle]
theorem run_sliceBounds {P:Program} {lo hi mx:Option Value} {len cap L H M:Nat} (hm:match mx with | none=>M=cap | some v=>isInt v M∧M≤cap)
  (hh:match hi with | none=>H=len∧mx=none | some v=>isInt v H∧H≤M) (hl:match lo with | none=>L=0 | some v=>isInt v L∧L≤H) :
  (Instr.sliceBounds true len cap lo hi mx).run P w = .ok (L,H,M) w:=by
 cases mx with
 | none =>
  simp only at hm; subst hm
  cases hi with
  | none =>
   obtain ⟨rfl,_⟩:=hh
   cases lo with
   | none=>simp only at hl; subst hl; simp [Instr.sliceBounds]
   | some v=>simp [Instr.sliceBounds,run_sliceBound' hl.1 hl.2]
  | some v =>
   cases lo with
   | none=>simp only at hl; subst hl; simp [Instr.sliceBounds,run_sliceBound' hh.1 hh.2]
   | some u=>simp [Instr.sliceBounds,run_sliceBound' hh.1 hh.2,run_sliceBound' hl.1 hl.2]
 | some m =>
  cases hi with
  | none=>obtain ⟨_,h⟩:=hh; cases h
  | some v =>
   cases lo with
   | none=>simp only at hl; subst hl; simp [Instr.sliceBounds,run_sliceBound' hm.1 hm.2,run_sliceBound' hh.1 hh.2]
   | some u=>simp [Instr.sliceBounds,run_sliceBound' hm.1 hm.2,run_sliceBound' hh.1 hh.2,run_sliceBound' hl.1 hl.2]
theorem optE_ok {x:Option Operand} {e:Option Exp} {as:List Exp} (st:St C ρ hdr S Wr σ a w) (hcur:gdHolds ρ cur) (h:(optE cur x).val σ.ev σ.ob=some (e,as)) (ha:∀e∈as,e.isTrue ρ=true) :
  match e with
  | none=>x=none
  | some e=>∃y k n,x=some y∧a.eval y = .int k n∧e.den ρ = .v (.int k n):=by
 cases x with
 | none=>simp [optE] at h; obtain ⟨rfl,rfl⟩:=h; rfl
 | some x =>
  simp only [optE,RM.val_bind,RM.val_ret,Option.bind_eq_some_iff,Option.some.injEq,Prod.mk.injEq] at h
  obtain ⟨v,h1,⟨e',as'⟩,h2,rfl,rfl⟩:=h
  obtain ⟨k,n,q1,q2⟩:=intE_ok h2 (rd_ok st hcur h1).1 ha
  exact ⟨x,k,n,rfl,q1,q2⟩
theorem isTrue_le {x y:Exp} (h:(Exp.bi .le x y).isTrue ρ=true):(x.den ρ).int≤(y.den ρ).int:=by
 simpa [Exp.isTrue,Exp.den,B.den,PV.bool] using h
def mN (ρ:List PV) (e:Option Exp) (d n:Nat):Prop :=
 match e with
 | none=>n=d
 | some m=>(m.den ρ).int=n
theorem nat_of {i:Int} (h:0≤i):∃n:Nat,i=n:=⟨i.toNat,by omega⟩
theorem sop_slice {t:TypeId} {x:Operand} {lo hi mx:Option Operand} (ho:o.op = .slice t x lo hi mx) (h:(sop C cur ns nv o).val σ.ev σ.ob=some r) (sit:Sit C F ρ hdr S Wr σ a w cur ns nv r)
  (hK:∀a' w',Post C ρ hdr S Wr σ a w o cur r ns a' w'→Kc a' w'):o.wp C.P a w Kc Q:=by
 simp only [sop,ho] at h
 split at h
 ·rename_i et hu
  simp only [RM.val_bind,RM.val_ret,Option.bind_eq_some_iff,Option.some.injEq] at h
  obtain ⟨v,h1,⟨el,asl⟩,h2,⟨eh,ash⟩,h3,⟨em,asm⟩,h4,r',h5,rfl⟩:=h
  dsimp only at h5
  have hv:=(rd_ok sit.st sit.hcur h1).1
  have has:=sit.has
  simp only [List.mem_append] at has
  have ol:=optE_ok sit.st sit.hcur h2 fun e he=>has e (by simp [he])
  have oh:=optE_ok sit.st sit.hcur h3 fun e he=>has e (by simp [he])
  have om:=optE_ok sit.st sit.hcur h4 fun e he=>has e (by simp [he])
  have har:∀e∈r'.as,e.isTrue ρ=true:=fun e he=>has e (by simp [he])
  unfold sliceS at h5
  split at h5
  ·rename_i c
   simp only [RM.val_bind,RM.val_guard,Option.bind_eq_some_iff] at h5
   obtain ⟨⟨l,t'⟩,h6,_,h7,h8⟩:=h5
   have hmx:=guard_some h7
   simp only [Bool.and_eq_true] at hmx
   obtain ⟨hmx,hty⟩:=hmx
   dsimp only at h8 hty
   cases t' with
   | none=>simp at hty
   | some ty =>
   have hzt:sizeT C.P et=some ty.cells.length:=by simpa using hty
   obtain ⟨ad,len,cap,e1,⟨xs,e2,e3⟩,e4,e5⟩:=listE_len sit.st h6 hv
   have hn:((Exp.un .len l).den ρ).int=(len:Int):=by rw [len_den e2,e3]
   have nums:(∀e∈cutAs el eh em (.un .len l),e.isTrue ρ=true) →
     ∃L H M:Nat,mN ρ em cap M∧mN ρ eh len H∧mN ρ el 0 L ∧
      L≤H∧H≤M∧H≤len∧M≤cap∧(execOp a.eval o).run C.P w = .ok (.value (.slice (if M=L then ad else ad.map (·.add (L*ty.cells.length))) (H-L) (M-L))) w:=fun ha=>by
    have exec:∀{L H M:Nat},(match mx.map a.eval with | none=>M=cap | some v=>isInt v M∧M≤cap)→(match hi.map a.eval with | none=>H=len∧mx.map a.eval=none | some v=>isInt v H∧H≤M) →
      (match lo.map a.eval with | none=>L=0 | some v=>isInt v L∧L≤H)→(execOp a.eval o).run C.P w = .ok (.value (.slice (if M=L then ad else ad.map (·.add (L*ty.cells.length))) (H-L) (M-L))) w:=fun k1 k2 k3=>by
     simp only [execOp,ho,Instr.sliceAt,Instr.slice,Sem.run_bind,run_underlying' hu,Result.andThen_ok,e1,run_sliceBounds k1 k2 k3,run_sizeOf hzt,Sem.run_pure]
    have int_nat:∀{e:Exp} {y:Operand} {k:IntKind} {n:Int},a.eval y = .int k n→e.den ρ = .v (.int k n)→0≤n→(e.den ρ).int=(n.toNat:Int)∧isInt (a.eval y) n.toNat:=fun q1 q2 q3=>by
     refine ⟨by rw [q2,int_v]; omega,_,by rw [q1,Int.toNat_of_nonneg q3]⟩
    have endp:∃H M:Nat,mN ρ em cap M∧mN ρ eh len H∧H≤M∧H≤len∧M≤cap ∧
      (match mx.map a.eval with | none=>M=cap | some v=>isInt v M∧M≤cap)∧(match hi.map a.eval with | none=>H=len∧mx.map a.eval=none | some v=>isInt v H∧H≤M):=by
     cases eh with
     | none =>
      cases em with
      | some m=>simp at hmx
      | none =>
       dsimp only at oh om
       subst oh om
       exact ⟨len,cap,rfl,rfl,e5,Nat.le_refl _,Nat.le_refl _,rfl,rfl,rfl⟩
     | some h =>
      obtain ⟨y,k,n,rfl,q1,q2⟩:=oh
      have t1:=isTrue_le (ha (.bi .le lit0 h) (by simp [cutAs]))
      simp only [lit0,Exp.den,q2,int_v] at t1
      obtain ⟨i1,i2⟩:=int_nat q1 q2 t1
      cases em with
      | none =>
       dsimp only at om
       subst om
       have t2:=isTrue_le (ha (.bi .le h (.un .len l)) (by simp [cutAs]))
       rw [hn,i1] at t2
       exact ⟨n.toNat,cap,rfl,i1,by omega,by omega,Nat.le_refl _,rfl,i2,by omega⟩
      | some m =>
       obtain ⟨y',k',n',rfl,q1',q2'⟩:=om
       have t2:=isTrue_le (ha (.bi .le h m) (by simp [cutAs]))
       have t3:=isTrue_le (ha (.bi .le m (.un .len l)) (by simp [cutAs]))
       rw [hn] at t3
       rw [i1] at t2
       obtain ⟨j1,j2⟩:=int_nat q1' q2' (by rw [q2',int_v] at t2; omega)
       rw [j1] at t2 t3
       exact ⟨n.toNat,n'.toNat,j1,i1,by omega,by omega,by omega,⟨j2,by omega⟩,i2,by omega⟩
    obtain ⟨H,M,p1,p2,p3,p4,p5,p6,p7⟩:=endp
    cases el with
    | none =>
     dsimp only at ol
     subst ol
     exact ⟨0,H,M,p1,p2,rfl,Nat.zero_le _,p3,p4,p5,exec p6 p7 rfl⟩
    | some e =>
     obtain ⟨y,k,n,rfl,q1,q2⟩:=ol
     have t1:=isTrue_le (ha (.bi .le lit0 e) (by simp [cutAs]))
     simp only [lit0,Exp.den,q2,int_v] at t1
     obtain ⟨i1,i2⟩:=int_nat q1 q2 t1
     have t2:=isTrue_le (ha (.bi .le e (eh.getD (.un .len l))) (by simp [cutAs]))
     rw [i1] at t2
     have hH:((eh.getD (.un .len l)).den ρ).int=H:=by
      cases eh with
      | none=>simp only [mN] at p2; subst p2; simpa using hn
      | some h=>simpa [mN] using p2
     rw [hH] at t2
     exact ⟨n.toNat,H,M,p1,p2,i1,by omega,p3,p4,p5,exec p6 p7 ⟨i2,by omega⟩⟩
   have fin:∀{L H M:Nat} {sv:SC},r'.news=[]→r'.upds=[]→r'.v = .c sv→(execOp a.eval o).run C.P w = .ok (.value (.slice (if M=L then ad else ad.map (·.add (L*ty.cells.length))) (H-L) (M-L))) w →
     SCRel C ρ hdr S w sv (.slice (if M=L then ad else ad.map (·.add (L*ty.cells.length))) (H-L) (M-L))→o.wp C.P a w Kc Q:=fun q1 q2 q3 q4 q5=>by
    refine pure_ok sit q1 q2 q4 rfl ?_ hK
    show SVRel C ρ hdr S w r'.v _
    rw [q3]; exact q5
   cases c with
   | ro X T =>
    simp [listE] at h6
    obtain ⟨rfl,rfl⟩:=h6
    simp only [RM.val_ret,Option.some.injEq] at h8
    obtain ⟨L,H,M,n1,n2,n3,n4,n5,n6,n7,n8⟩:=nums (by rw [←h8] at har; exact har)
    refine fin (by rw [←h8]) (by rw [←h8]) (by rw [←h8]) n8 ?_
    have hden:(cutE el eh X).den ρ = .l ((xs.drop L).take (H-L)):=by
     unfold cutE
     cases eh with
     | none =>
      simp only [mN] at n2
      subst n2
      cases el with
      | none =>
       simp only [mN] at n3
       subst n3
       simp only [e2,←e3]
       simp
      | some a =>
       simp only [mN] at n3
       simp only [Exp.den,B.den,n3,e2,PV.list,Int.toNat_natCast]
       rw [List.take_of_length_le (by simp [e3])]
     | some h =>
      simp only [mN] at n2
      cases el with
      | none =>
       simp only [mN] at n3
       subst n3
       simp [Exp.den,B.den,n2,e2,PV.list]
      | some a =>
       simp only [mN] at n3
       simp only [Exp.den,B.den,n2,n3,e2,PV.list,Int.toNat_natCast,List.drop_take]
    simp only [SCRel,hden]
    have hrep:RepC C S w (.sl T) (.slice ad len cap) (X.den ρ):=by rw [←e1]; exact hv
    rw [e2] at hrep
    cases ad with
    | none =>
     obtain ⟨rfl,rfl⟩:=e4 rfl
     obtain rfl:M=0:=by omega
     obtain rfl:H=0:=by omega
     obtain rfl:L=0:=by omega
     simp; exact .nil
    | some ad =>
     cases hrep with
     | sl cv cp hS hl hc hw he hr =>
      rename_i b q
      have:(if M=L then some (⟨b,q,none⟩:Addr) else Option.map (fun x:Addr=>x.add (L*T.cells.length)) (some ⟨b,q,none⟩))=some ⟨b,if M=L then q else q+L*T.cells.length,none⟩:=by
       split<;>simp [addr_add]
      rw [this]
      refine .sl (fun i j=>cv (L+i) j) (fun i j=>cp (L+i) j) hS (by simp; omega) (by omega) (fun i j hi hj => ?_) (fun i p hp => ?_) (fun i j t hi ht=>hr _ j t (by omega) ht)
      ·rw [if_neg (by omega)]
       have:=hw (L+i) j (by omega) hj
       rw [Nat.add_mul,←Nat.add_assoc] at this
       exact this
      ·have hi:i<H-L:=by
        rcases Nat.lt_or_ge i (H-L) with h | h
        ·exact h
        ·simp [List.getElem?_take,Nat.not_lt.2 h] at hp
       simp only [List.getElem?_take,hi,if_true,List.getElem?_drop] at hp
       exact he _ p hp
   | own s =>
    simp only [RM.val_ret,Option.some.injEq] at h8
    obtain ⟨L,H,M,n1,n2,n3,n4,n5,n6,n7,n8⟩:=nums (by rw [←h8] at har; exact har)
    refine fin (by rw [←h8]) (by rw [←h8]) (by rw [←h8]) n8 ?_
    have hd:hdr s=some (.slice ad len cap):=by rw [←e1]; exact hv.1
    have hd0:ad=none∨∃b,ad=some ⟨b,0,none⟩:=by
     simp only [listE,RM.val_ob,Option.bind_eq_some_iff] at h6
     obtain ⟨ob,k1,k2⟩:=h6
     have conv:∀hd',hdr s=some hd'→hd0 hd'→ad=none∨∃b,ad=some ⟨b,0,none⟩:=fun hd' g1 g2=>by
      rw [hd] at g1; cases g1
      cases ad with
      | none=>exact .inl rfl
      | some ad=>exact .inr ⟨ad.block,by rw [g2 ad _ _ rfl]⟩
     split at k2
     ·obtain ⟨hd',g1,g2⟩:=sit.st.ob _ _ k1; exact conv hd' g1 g2.hd0
     ·obtain ⟨hd',g1,_,g2⟩:=sit.st.ob _ _ k1; exact conv hd' g1 g2
     ·simp at k2
    have hoff:((el.getD lit0).den ρ).int=(L:Int):=by
     cases el with
     | none=>simp only [mN] at n3; subst n3; rfl
     | some a=>simpa [mN] using n3
    have hh:((eh.getD (.un .len l)).den ρ).int=(H:Int):=by
     cases eh with
     | none=>simp only [mN] at n2; subst n2; simpa using hn
     | some h=>simpa [mN] using n2
    have hlen:((cutLen el eh (.un .len l)).den ρ).int=((H-L:Nat):Int):=by
     unfold cutLen
     cases el with
     | none=>simp only [mN] at n3; subst n3; rw [hh]; rfl
     | some a =>
      simp only [mN] at n3
      simp only [Exp.den,B.den,int_v,n3,hh] at *
      omega
    refine ⟨H-L,hlen,by rw [hoff]; omega,?_⟩
    ·rcases hd0 with rfl | ⟨b,rfl⟩
     ·obtain ⟨rfl,rfl⟩:=e4 rfl
      obtain rfl:M=0:=by omega
      obtain rfl:H=0:=by omega
      obtain rfl:L=0:=by omega
      exact .inl ⟨hd,by simp,rfl,by rw [hoff]; rfl⟩
     ·refine .inr ⟨b,len,cap,if M=L then 0 else L*ty.cells.length,M-L,hd,?_,?_,by rw [hoff]; omega,by omega,by rw [hoff]; omega⟩
      ·split<;>simp [addr_add]
      ·rw [hoff]
       by_cases e:M=L
       ·right; exact ⟨by omega,fun _=>by simp [e]⟩
       ·left; simp [e]
   | sub s z off ln =>
    simp only [RM.val_ret,Option.some.injEq] at h8
    obtain ⟨L,H,M,n1,n2,n3,n4,n5,n6,n7,n8⟩:=nums (by rw [←h8] at har; exact har)
    refine fin (by rw [←h8]) (by rw [←h8]) (by rw [←h8]) n8 ?_
    have hz:z=ty.cells.length:=by
     simp only [listE,RM.val_ob,Option.bind_eq_some_iff] at h6
     obtain ⟨ob,k1,k2⟩:=h6
     split at k2
     ·split at k2
      ·rename_i hz'; simp at hz'; simp at k2; rw [hz',k2.2]
      ·simp at k2
     ·split at k2
      ·rename_i hz'; simp at hz'; simp at k2; rw [hz',k2.2]
      ·simp at k2
     ·simp at k2
    subst hz
    have hh:((eh.getD (.un .len l)).den ρ).int=(H:Int):=by
     cases eh with
     | none=>simp only [mN] at n2; subst n2; simpa using hn
     | some h=>simpa [mN] using n2
    obtain ⟨l',hl,ho0,h3'⟩:=hv
    have hoff:((cutOff off el).den ρ).int=(off.den ρ).int+L:=by
     unfold cutOff
     cases el with
     | none=>simp only [mN] at n3; subst n3; simp
     | some a=>simp only [mN] at n3; simp only [Exp.den,B.den,int_v,n3]
    have hlen:((cutLen el eh (.un .len l)).den ρ).int=((H-L:Nat):Int):=by
     unfold cutLen
     cases el with
     | none=>simp only [mN] at n3; subst n3; rw [hh]; rfl
     | some a =>
      simp only [mN] at n3
      simp only [Exp.den,B.den,int_v,n3,hh] at *
      omega
    refine ⟨H-L,hlen,by rw [hoff]; omega,?_⟩
    ·rcases h3' with ⟨g4,g5,g6,g7⟩ | ⟨b,n,cap1,q,cap',g4,g5,g6,g7,g8,g9⟩
     ·rw [g5] at e1; cases e1
      obtain rfl:M=0:=by omega
      obtain rfl:H=0:=by omega
      obtain rfl:L=0:=by omega
      exact .inl ⟨g4,by simp,rfl,by rw [hoff,g7]; rfl⟩
     ·rw [g5] at e1; cases e1
      refine .inr ⟨b,n,cap1,if M=L then q else q+L*ty.cells.length,M-L,g4,?_,?_,by rw [hoff]; omega,by omega,by rw [hoff]; omega⟩
      ·split<;>simp [addr_add]
      ·rw [hoff]
       by_cases e:M=L
       ·right
        refine ⟨by omega,fun h0 => ?_⟩
        rw [if_pos e]
        rcases g6 with g6 | ⟨_,g6⟩
        ·rw [g6,show (off.den ρ).int.toNat=0 by omega,Nat.zero_mul]
        ·exact g6 (by omega)
       ·left
        rw [if_neg e]
        rcases g6 with g6 | ⟨g6,_⟩
        ·rw [g6,show ((off.den ρ).int+L).toNat=(off.den ρ).int.toNat+L by omega,Nat.add_mul]
        ·omega
   | _=>simp at h8
  ·simp at h5
 ·simp at h
end
section
variable {C:Ctx} {F:Nat→List PV→Option (List PV)} {ρ:List PV} {hdr hdr':Hdr} {S S1 S' Wr:Nat→Prop} {σ σ1:Sym} {a a1:Act} {w w1 w':World} {cur:Gd} {ns nv:Nat} {r:Res} {o:Oper} {Kc:Act→World→Prop} {Q:Exit→Act→World→Prop}
theorem froz_ok (sit:Sit C F ρ hdr S Wr σ a w cur ns nv r) (hn:r.news=[]) {ss:List Nat} (hf:(freeze ss.eraseDups).val σ.ev σ.ob=some r.upds) {v:Value}
  (hr:(execOp a.eval o).run C.P w = .ok (.value v) w') (h0:(w'.heap,w'.os,w'.output)=(w.heap,w.os,w.output))
  (hv:∀S1,St C ρ hdr S1 Wr (setObs σ r.upds) a w→Frozen σ (setObs σ r.upds) ss→(∀b,S b→S1 b)→SVRel C ρ hdr S1 w r.v v)
  (hK:∀a' w',Post C ρ hdr S Wr σ a w o cur r ns a' w'→Kc a' w'):o.wp C.P a w Kc Q:=by
 have hh:w'.heap=w.heap:=(Prod.mk.inj h0).1
 obtain ⟨S1,st1,ev1,hfz,_⟩:=freeze_ok (ns:=ns) sit.st hf
 refine wp_val hr (hK _ _ ⟨by cases o.dst<;>rfl,hdr,S1,?_,?_⟩)
 ·rw [hn,setNews_nil]
  have hcl:=sit.hcl
  simp only [Res.closed,Bool.and_eq_true] at hcl
  refine (st1.same hh).put o.dst (slot_cur sit.hcur ((hv S1 st1 hfz ev1.ss).mono (fun _ _ h=>h) (fun _ h=>h) (fun _ _=>by rw [hh]))) ?_
  simp [Slot.closed,sit.hg,hcl.1.1]
 ·rw [hn]; exact ev1.trans (Ev.heap h0)
theorem allRo_ok (st1:St C ρ hdr S1 Wr σ1 a w):∀{cs cs':List SC} {ss:List Nat} {vs:List Value},(allRo cs).val σ.ev σ.ob=some (cs',ss)→All2 (SCRel C ρ hdr S1 w) cs vs →
  Frozen σ σ1 ss→All2 (SCRel C ρ hdr S1 w) cs' vs
 | [],cs',ss,vs,h,hv,hf=>by simp [allRo] at h; obtain ⟨rfl,rfl⟩:=h; exact hv
 | c::cs,cs',ss,vs,h,hv,hf=>by
  cases vs with
  | nil=>exact hv.elim
  | cons v vs =>
   obtain ⟨h1,h2⟩:=hv
   have gen:∀{c:SC},SCRel C ρ hdr S1 w c v→((listE c >>= fun p=>ofOpt p.2 >>= fun t=>allRo cs >>= fun q=>RM.ret (SC.ro p.1 t::q.1,siteOf c++q.2)):RM _).val σ.ev σ.ob=some (cs',ss) →
     All2 (SCRel C ρ hdr S1 w) cs' (v::vs):=fun {c} h1 h=>by
    simp only [RM.val_bind,RM.val_ofOpt,RM.val_ret,Option.bind_eq_some_iff,Option.some.injEq,Prod.mk.injEq] at h
    obtain ⟨⟨x,t'⟩,h3,t,h4,⟨xs,ss'⟩,h5,rfl,rfl⟩:=h
    dsimp only at h4
    subst h4
    exact ⟨listE_rep st1 h3 h1 (fun s hs=>hf s (by simp [hs])) (by simp [fits]),allRo_ok st1 h5 h2 fun s hs=>hf s (by simp [hs])⟩
   cases c with
   | e x κ =>
    simp only [allRo,RM.val_bind,RM.val_ret,Option.bind_eq_some_iff,Option.some.injEq,Prod.mk.injEq] at h
    obtain ⟨⟨xs,ss'⟩,h5,rfl,rfl⟩:=h
    exact ⟨h1,allRo_ok st1 h5 h2 hf⟩
   | _=>exact gen h1 h
theorem zip_mapM_ok {f:SC × SC→Option SC} {b:Bool} (hf:∀x y c v,f (x,y)=some c→SCRel C ρ hdr S w (if b then x else y) v→SCRel C ρ hdr S w c v) :
  ∀{l r cs:List SC} {vs:List Value},(List.zip l r).mapM f=some cs→l.length=r.length→All2 (SCRel C ρ hdr S w) (if b then l else r) vs→All2 (SCRel C ρ hdr S w) cs vs
 | [],[],cs,vs,h,_,hv=>by simp at h; subst h; simpa using hv
 | x::l,y::r,cs,vs,h,hl,hv=>by
  rw [List.zip_cons_cons,List.mapM_cons] at h
  simp only [Option.pure_def,Option.bind_eq_bind,Option.bind_eq_some_iff,Option.some.injEq] at h
  obtain ⟨c,h1,ds,h2,rfl⟩:=h
  cases vs with
  | nil=>cases b<;>exact hv.elim
  | cons v vs =>
   have h3:SCRel C ρ hdr S w (if b then x else y) v∧All2 (SCRel C ρ hdr S w) (if b then l else r) vs:=by cases b<;>exact hv
   exact ⟨hf _ _ _ _ h1 h3.1,zip_mapM_ok hf h2 (by simpa using hl) h3.2⟩
 | [],_::_,_,_,_,hl,_=>by simp at hl
 | _::_,[],_,_,_,hl,_=>by simp at hl
theorem den_ite {c x y:Exp} {b:Bool} (h:(c.den ρ).bool=b):(Exp.tri .ite c x y).den ρ=if b then x.den ρ else y.den ρ:=by subst h; rfl
theorem pickCells_ok {i:Exp} {I:Nat} (hi:(i.den ρ).int=I):∀{ls:List (List SC)} {n:Nat} {r:List SC} {vls:List (List Value)},pickCells i n ls=some r →
  All2 (All2 (SCRel C ρ hdr S w)) ls vls→n≤I→I<n+ls.length→∃vs,vls[I-n]? = some vs∧All2 (SCRel C ρ hdr S w) r vs
 | [],n,r,vls,h,_,_,_=>by simp [pickCells] at h
 | [l],n,r,vls,h,hv,h1,h2=>by
  simp [pickCells] at h; subst h
  cases vls with
  | nil=>exact hv.elim
  | cons v vls=>simp at h2; exact ⟨v,by rw [show I-n=0 by omega]; rfl,hv.1⟩
 | l::l2::ls,n,r,vls,h,hv,h1,h2=>by
  simp only [pickCells,Option.bind_eq_some_iff] at h
  obtain ⟨r',h3,h4⟩:=h
  split at h4
  ·rename_i hlen
   simp at hlen
   cases vls with
   | nil=>exact hv.elim
   | cons v vls =>
    have step:∀(b:Bool) (vs:List Value),(I==n)=b→All2 (SCRel C ρ hdr S w) (if b then l else r') vs→All2 (SCRel C ρ hdr S w) r vs:=fun b vs hb hx=>by
     refine zip_mapM_ok (b:=b) (fun x y c v hc hxy => ?_) h4 hlen hx
     have hd:((Exp.bi .eq i (.int .i64 n)).den ρ).bool=b:=by
      simp only [Exp.den,B.den,PV.bool,hi,int_v]
      rw [←hb]
      by_cases e:I=n
      ·simp [e]
      ·rw [show (I==n)=false by simpa using e]
       simp; omega
     split at hc
     ·rename_i heq
      cases heq
      split at hc
      ·rename_i hk
       simp at hk; subst hk
       cases hc
       simp only [SCRel,den_ite hd]
       cases b<;>exact hxy
      ·cases hc
     ·rename_i heq
      cases heq
      split at hc
      ·rename_i hk
       simp at hk; subst hk
       cases hc
       simp only [SCRel,den_ite hd]
       cases b<;>exact hxy
      ·cases hc
     ·cases hc
    rcases Nat.lt_or_ge n I with hlt | hge
    ·obtain ⟨vs,k1,k2⟩:=pickCells_ok hi h3 hv.2 (by omega) (by simp at h2 ⊢; omega)
     refine ⟨vs,?_,step false vs (by simp; omega) (by simpa using k2)⟩
     rw [show I-n=(I-(n+1))+1 by omega]
     simpa using k1
    ·exact ⟨v,by rw [show I-n=0 by omega]; rfl,step true v (by simp; omega) (by simpa using hv.1)⟩
  ·cases h4
theorem chunks_get (z:Nat):∀(n:Nat) (l:List SC) (k:Nat),(chunks z n l)[k]? = if k<n then some ((l.drop (k*z)).take z) else none
 | 0,l,k=>by simp [chunks]
 | n+1,l,0=>by simp [chunks]
 | n+1,l,k+1=>by
  simp only [chunks,List.getElem?_cons_succ,chunks_get z n,List.drop_drop,Nat.add_lt_add_iff_right]
  rw [show z+k*z=(k+1)*z by rw [Nat.add_mul]; omega]
theorem chunks_length (z:Nat):∀(n:Nat) (l:List SC),(chunks z n l).length=n
 | 0,_=>rfl
 | n+1,l=>by simp [chunks,chunks_length z n]
theorem table8_get:∀n:Nat,n<256→∃b,table8[n]? = some b∧(b.toNat:Int)=len8 n:=by decide +kernel
theorem sop_index {t:TypeId} {x y:Operand} (ho:o.op = .index t x y) (h:(sop C cur ns nv o).val σ.ev σ.ob=some r) (sit:Sit C F ρ hdr S Wr σ a w cur ns nv r)
  (hK:∀a' w',Post C ρ hdr S Wr σ a w o cur r ns a' w'→Kc a' w'):o.wp C.P a w Kc Q:=by
 simp only [sop,ho,RM.val_bind,Option.bind_eq_some_iff] at h
 obtain ⟨vi,h2,⟨e,as⟩,h3,h4⟩:=h
 dsimp only at h4
 have hvi:=(rd_ok sit.st sit.hcur h2).1
 have arr:∀{v:SV},SVRel C ρ hdr S w v (a.eval x)→(indexV C t v e as).val σ.ev σ.ob=some r→o.wp C.P a w Kc Q:=fun {v} hv h=>by
  unfold indexV at h
  split at h
  ·rename_i n et cs hu
   simp only [RM.val_bind,RM.val_ofOpt,RM.val_guard,Option.bind_eq_some_iff] at h
   obtain ⟨z,h5,_,h6,h7⟩:=h
   have hg:=guard_some h6
   simp only [Bool.and_eq_true,bne_iff_ne,beq_iff_eq] at hg
   obtain ⟨⟨⟨hz,hlen⟩,hn0⟩,hue⟩:=hg
   obtain ⟨arr,k1,k2⟩:=hv
   have hl2:=k2.length
   simp only [Array.length_toList] at hl2
   have fin:∀{k i v'},a.eval y = .int k i→0≤i→i<n→(mkSV (isAggT C.P et) v'≠none)→v'.length=z →
     (execOp a.eval o).run C.P w = .ok (.value (if isAggT C.P et then .agg ((arr.toList.drop (i.toNat*z)).take z).toArray else ((arr.toList.drop (i.toNat*z)).take z).headD undef)) w:=fun {k i v'} q1 q2 q3 q4 q5=>by
    have hle:i.toNat*z+z≤arr.size:=by
     rw [←hl2,hlen,←Nat.succ_mul]
     exact Nat.mul_le_mul_right _ (by omega)
    have hz1:isAggT C.P et=false→z=1:=fun hag=>by
     cases hm:mkSV (isAggT C.P et) v' with
     | none=>exact absurd hm q4
     | some u=>rw [hag] at hm; exact mkSV_single hm q5
    simp [execOp,ho,Instr.index,q1,asIntOf,run_underlying' hu,k1,q2,q3,run_sizeOf h5,run_part hue h5 hle hz1]
   split at h7
   ·rename_i kk m
    simp only [RM.val_bind,RM.val_ofOpt,RM.val_guard,RM.val_ret,Option.bind_eq_some_iff,Option.some.injEq] at h7
    obtain ⟨_,h8,v',h9,rfl⟩:=h7
    have hg:=guard_some h8
    simp only [Bool.and_eq_true,decide_eq_true_eq] at hg
    obtain ⟨k,i,q1,q2⟩:=intE_ok h3 hvi sit.has
    simp only [Exp.den,PV.v.injEq,Value.int.injEq] at q2
    obtain ⟨rfl,rfl⟩:=q2
    have hle:m.toNat*z+z≤cs.length:=by
     rw [hlen,←Nat.succ_mul]
     exact Nat.mul_le_mul_right _ (by omega)
    exact pure_ok sit rfl rfl (fin q1 hg.1 hg.2 (by rw [h9]; simp) (by simp; omega)) rfl (mkSV_ok h9 ((k2.drop _).take _)) hK
   ·simp only [RM.val_bind,RM.val_ofOpt,RM.val_guard,RM.val_ret,Option.bind_eq_some_iff,Option.some.injEq] at h7
    obtain ⟨⟨cs',ss⟩,h8,rr,h9,v',h10,us,h11,rfl⟩:=h7
    dsimp only at h9 h11
    obtain ⟨k,i,q1,q2⟩:=intE_ok h3 hvi fun x hx=>sit.has x (by simp [hx])
    obtain ⟨q3,q4⟩:=inRange_ok (n := .int .i64 n) (m:=n) (fun x hx=>sit.has x (List.mem_append_right _ hx)) q2 rfl
    obtain ⟨I,rfl⟩:=nat_of q3
    have hI:I<n:=by omega
    have hpick:∀{S1},All2 (SCRel C ρ hdr S1 w) cs' arr.toList→All2 (SCRel C ρ hdr S1 w) rr ((arr.toList.drop (I*z)).take z):=fun {S1} hx=>by
     have hlen':=hx.length
     simp only [Array.length_toList] at hlen'
     obtain ⟨vs,k3,k4⟩:=pickCells_ok (I:=I) (vls:=(List.range n).map fun k=>(arr.toList.drop (k*z)).take z) (by rw [q2]; rfl) h9
      (All2.of_get (by simp [chunks_length]) fun j cs1 vs1 e1 e2=>by
       rw [chunks_get] at e1
       split at e1
       ·rename_i hj
        simp [hj] at e2
        cases e1; cases e2
        exact (hx.drop _).take _
       ·cases e1) (Nat.zero_le _) (by rw [chunks_length]; omega)
     simp [hI] at k3
     rw [k3]; exact k4
    have hrl:rr.length=z:=by
     obtain ⟨S1,st1,ev1,hfz,_⟩:=freeze_ok (ns:=ns) sit.st h11
     have:=(hpick (allRo_ok st1 h8 (k2.imp fun c v hc=>hc.mono (fun _ _ h=>h) ev1.ss (fun _ _=>rfl)) hfz)).length
     rw [this]
     have hle:I*z+z≤arr.toList.length:=by
      rw [Array.length_toList,←hl2,hlen,←Nat.succ_mul]
      exact Nat.mul_le_mul_right _ (by omega)
     simp only [List.length_take,List.length_drop]
     omega
    refine froz_ok sit rfl h11 (fin q1 (by omega) (by omega) (by rw [h10]; simp) hrl) rfl (fun S1 st1 hfz hss => ?_) hK
    exact mkSV_ok h10 (hpick (allRo_ok st1 h8 (k2.imp fun c v hc=>hc.mono (fun _ _ h=>h) hss (fun _ _=>rfl)) hfz))
  ·simp at h
 split at h4
 ·rename_i s
  simp only [RM.val_bind,RM.val_guard,RM.val_ret,Option.bind_eq_some_iff,Option.some.injEq] at h4
  obtain ⟨_,h5,rfl⟩:=h4
  have hg:=guard_some h5
  simp only [Bool.and_eq_true,beq_iff_eq] at hg
  obtain ⟨hs,hu⟩:=hg
  split at hu
  ·rename_i hu'
   obtain ⟨k,i,q1,q2⟩:=intE_ok h3 hvi fun x hx=>sit.has x (by simp [hx])
   obtain ⟨q3,q4⟩:=inRange_ok (n := .int .i64 256) (m:=256) (fun x hx=>sit.has x (List.mem_append_right _ hx)) q2 rfl
   obtain ⟨I,rfl⟩:=nat_of q3
   obtain ⟨b,t1,t2⟩:=table8_get I (by omega)
   have hget:s[I]? = some b:=by
    rw [←hs] at t1
    have hlt:I<s.size:=by
     rcases Nat.lt_or_ge I s.size with h | h
     ·exact h
     ·have:s.data.toList.length≤I:=h
      rw [List.getElem?_eq_none this] at t1; cases t1
    rw [getElem?_pos s I hlt]
    have:s.data.toList[I]? = some s[I]:=by
     rw [List.getElem?_eq_getElem (by exact hlt)]
     rfl
    rw [this] at t1; exact t1
   refine pure_ok sit rfl rfl (v := .int .u8 (len8 I)) ?_ rfl ⟨rfl,?_⟩ hK
   ·have hc:a.eval (.const (.string s)) = .string s:=rfl
    simp [execOp,ho,Instr.index,q1,asIntOf,run_underlying' hu',hc,hget,t2]
   ·simp [Exp.den,U.den,q2,PV.int,cn]
  ·cases hu
 ·simp only [RM.val_bind,Option.bind_eq_some_iff] at h4
  obtain ⟨v,h1,h5⟩:=h4
  exact arr (rd_ok sit.st sit.hcur h1).1 h5
end
section
variable {C:Ctx} {F:Nat→List PV→Option (List PV)} {ρ:List PV} {hdr hdr':Hdr} {S S1 S' Wr:Nat→Prop} {σ σ1:Sym} {a a1:Act} {w w1 w':World} {cur:Gd} {ns nv:Nat} {r:Res} {o:Oper} {Kc:Act→World→Prop} {Q:Exit→Act→World→Prop}
theorem zip_all2:∀{is:List Nat} {vs:List SV} {us:List Value},All2 (SVRel C ρ hdr S w) vs us→is.length=vs.length →
  All2 (fun (p:Nat × SV) (q:Nat × Value)=>p.1=q.1∧SVRel C ρ hdr S w p.2 q.2) (List.zip is vs) (List.zip is us)
 | [],[],[],_,_=>trivial
 | i::is,v::vs,u::us,⟨h1,h2⟩,hl=>⟨⟨rfl,h1⟩,zip_all2 h2 (by simpa using hl)⟩
 | [],_::_,_,_,hl=>by simp at hl
 | _::_,[],_,_,hl=>by simp at hl
 | _::_,_::_,[],h,_=>h.elim
 | [],[],_::_,h,_=>h.elim
theorem fill_ok {P:Program} {t:TypeId} {place:Nat→Option (Nat × Nat)} (hp:∀i p,placeOf P t i=some p→place i=some p) :
  ∀{ps:List (Nat × SV)} {vs:List (Nat × Value)} {cs cs':List SC} {arr:Array Value},buildL P t ps cs=some cs' →
  All2 (fun (p:Nat × SV) (q:Nat × Value)=>p.1=q.1∧SVRel C ρ hdr S w p.2 q.2) ps vs→All2 (SCRel C ρ hdr S w) cs arr.toList →
  ∃arr',Instr.fill place arr vs=some arr'∧All2 (SCRel C ρ hdr S w) cs' arr'.toList
 | [],[],cs,cs',arr,h,_,hv=>by simp [buildL] at h; subst h; exact ⟨arr,rfl,hv⟩
 | (i,x)::ps,(j,v)::vs,cs,cs',arr,h,⟨⟨he,hx⟩,h2⟩,hv=>by
  dsimp only at he hx
  subst he
  simp only [buildL,Option.bind_eq_bind,Option.bind_eq_some_iff] at h
  obtain ⟨⟨off,z⟩,h3,us,h4,h5⟩:=h
  split at h5
  ·rename_i hg
   simp only [Bool.and_eq_true,beq_iff_eq,decide_eq_true_eq] at hg
   have hu:=cellsL_ok hx h4
   have hlu:=hu.length
   have hlv:=hv.length
   simp only [Array.length_toList] at hlu hlv
   obtain ⟨g1,g2⟩:=Great.foldl_set off v.cells.toList 0 arr
   have hfill:(v.cells.zipIdx.foldl (fun cs (x:Value × Nat)=>cs.setIfInBounds (off+x.2) x.1) arr).toList=arr.toList.take off++v.cells.toList++arr.toList.drop (off+v.cells.size):=by
    rw [←Array.foldl_toList,Array.toList_zipIdx]
    refine List.ext_getElem? fun k => ?_
    rw [Array.getElem?_toList,g2 k]
    simp only [Nat.add_zero,Array.length_toList]
    by_cases h1:k<off
    ·rw [if_neg (by omega),List.append_assoc,List.getElem?_append_left (by simp; omega)]
     simp [h1]
    ·by_cases h6:k<off+v.cells.size
     ·rw [if_pos (by omega),List.append_assoc,List.getElem?_append_right (by simp; omega),List.getElem?_append_left (by simp; omega)]
      simp only [List.length_take,Array.length_toList]
      rw [show min off arr.size=off by omega]
     ·rw [if_neg (by omega),List.getElem?_append_right (by simp; omega)]
      simp only [List.length_append,List.length_take,Array.length_toList,List.getElem?_drop,Array.getElem?_toList]
      rw [show min off arr.size=off by omega,show off+v.cells.size+(k-(off+v.cells.size))=k by omega]
   obtain ⟨arr',k1,k2⟩:=fill_ok hp h5 h2 (arr:=v.cells.zipIdx.foldl (fun cs (x:Value × Nat)=>cs.setIfInBounds (off+x.2) x.1) arr) (by
    rw [hfill]
    have:=((hv.take off).append hu).append (hv.drop (off+v.cells.size))
    simp only [fillL]
    rw [hlu]
    exact this)
   refine ⟨arr',?_,k2⟩
   unfold Instr.fill
   rw [hp i _ h3]
   simp only
   rw [if_neg (by simp; omega)]
   exact k1
  ·cases h5
 | [],_::_,_,_,_,_,h,_=>h.elim
 | _::_,[],_,_,_,_,h,_=>h.elim
theorem sizeT_info {P:Program} {t:TypeId} {z:Nat} (h:sizeT P t=some z):∃i,P.info? t=some i∧i.size=z:=by
 unfold sizeT at h
 cases hi:P.info? t with
 | none=>simp [hi] at h
 | some i=>simp [hi] at h; exact ⟨i,rfl,h⟩
theorem zeroT_info {P:Program} {t:TypeId} {cs:List SC} (h:zeroT P t=some cs):∃i z,P.info? t=some i∧i.zero=some z∧z.cells.toList.mapM litSC=some cs:=by
 unfold zeroT at h
 cases hi:P.info? t with
 | none=>simp [hi] at h
 | some i =>
  cases hz:i.zero with
  | none=>simp [hi,hz] at h
  | some z=>simp only [hi,hz] at h; exact ⟨i,z,rfl,hz,h⟩
theorem zip_map_snd {α β γ:Type} (f:β→γ):∀(l:List (α × β)),List.zip (l.map (·.1)) ((l.map (·.2)).map f)=l.map fun (i,x)=>(i,f x)
 | []=>rfl
 | (i,x)::l=>by simp only [List.map_cons,List.zip_cons_cons,zip_map_snd f l]
theorem sop_build {t:TypeId} {parts:Array (Nat × Operand)} (ho:o.op = .build t parts) (h:(sop C cur ns nv o).val σ.ev σ.ob=some r) (sit:Sit C F ρ hdr S Wr σ a w cur ns nv r)
  (hK:∀a' w',Post C ρ hdr S Wr σ a w o cur r ns a' w'→Kc a' w'):o.wp C.P a w Kc Q:=by
 simp only [sop,ho,RM.val_bind,RM.val_ofOpt,RM.val_guard,RM.val_ret,Option.bind_eq_some_iff,Option.some.injEq] at h
 obtain ⟨vs,h1,zc,h2,cs,h3,_,h4,rfl⟩:=h
 have hg:=guard_some h4
 simp only [Bool.and_eq_true] at hg
 have hvs:=(rdAll_ok sit.st sit.hcur h1).1
 obtain ⟨it,z,hit,hz,hzc⟩:=zeroT_info h2
 have hzero:=(litCells_ok (C:=C) (ρ:=ρ) (hdr:=hdr) (S:=S) (w:=w) hzc).1
 have hall:=zip_all2 (is:=parts.toList.map (·.1)) hvs (by have:=hvs.length; simp at this; simp [this])
 rw [zip_map_snd] at hall
 have fin:∀(place:Nat→Option (Nat × Nat)),(∀i p,placeOf C.P t i=some p→place i=some p)→(∀cells,Instr.fill place z.cells (parts.toList.map fun (i,x)=>(i,a.eval x))=some cells→C.P.built t (parts.toList.map fun (i,x)=>(i,a.eval x))=some cells) →
   o.wp C.P a w Kc Q:=fun place hp hb=>by
  obtain ⟨arr,k1,k2⟩:=fill_ok (P:=C.P) (t:=t) hp h3 hall hzero
  have hrun:=run_build (P:=C.P) w t (parts.map fun (i,x)=>(i,a.eval x)) arr (by rw [Array.toList_map]; exact hb _ k1)
  exact pure_ok sit rfl rfl (v := .agg arr) (by simp only [execOp,ho,Sem.run_bind,hrun,Result.andThen_ok,Sem.run_pure]) rfl ⟨arr,rfl,k2⟩ hK
 have hbd:=hg.2
 unfold buildable at hbd
 split at hbd
 ·rename_i fs hu
  have hsz:∃places,fs.toList.mapM (fun f=>(C.P.info? f.type).map fun i=>(f.offset,i.size))=some places∧∀(i:Nat) (f:Field),fs.toList[i]? = some f→∃z,sizeT C.P f.type=some z∧places[i]? = some (f.offset,z):=by
   generalize fs.toList=l at hbd
   induction l with
   | nil=>exact ⟨[],by simp,by simp⟩
   | cons f l ih =>
    simp only [List.all_cons,Bool.and_eq_true] at hbd
    obtain ⟨places,i1,i2⟩:=ih hbd.2
    obtain ⟨zf,hzf⟩:=Option.isSome_iff_exists.1 hbd.1
    obtain ⟨inf,e1,e2⟩:=sizeT_info hzf
    refine ⟨(f.offset,zf)::places,by simp [List.mapM_cons,e1,e2,i1],fun i g hi => ?_⟩
    cases i with
    | zero=>simp at hi; subst hi; exact ⟨zf,hzf,rfl⟩
    | succ i=>simpa using i2 i g (by simpa using hi)
  obtain ⟨places,p1,p2⟩:=hsz
  refine fin (places.toArray[·]?) (fun i p hip => ?_) (fun cells hc => ?_)
  ·obtain ⟨off,zz⟩:=p
   obtain ⟨f,e1,e2,e3⟩:=placeOf_struct hu hip
   obtain ⟨z',e4,e5⟩:=p2 i f (by simpa using e1)
   rw [e2] at e4; cases e4
   subst e3
   simpa using e5
  ·unfold Program.built
   simp only [hit,hu,hz,p1]; exact hc
 ·rename_i n e hu
  obtain ⟨zz,hzz⟩:=Option.isSome_iff_exists.1 hbd
  obtain ⟨ie,e1,e2⟩:=sizeT_info hzz
  refine fin (fun i=>some (i*ie.size,ie.size)) (fun i p hip => ?_) (fun cells hc => ?_)
  ·unfold placeOf at hip
   rw [hu] at hip
   simp only [hzz,Option.map_some,Option.some.injEq] at hip
   rw [e2,hip]
  ·unfold Program.built
   simp only [hit,hu,hz,e1]; exact hc
 ·cases hbd
end
section
variable {C:Ctx} {F:Nat→List PV→Option (List PV)} {ρ:List PV} {hdr hdr':Hdr} {S S1 S' Wr:Nat→Prop} {σ σ1:Sym} {a a1:Act} {w w1 w':World} {cur:Gd} {ns nv:Nat} {r:Res} {o:Oper} {Kc:Act→World→Prop} {Q:Exit→Act→World→Prop}
theorem elemsIn_ok (st1:St C ρ hdr' S1 Wr σ1 a1 w1) {e:Ty}:∀{vs:List SV} {us:List Value} {xs:List Exp} {ss:List Nat},(elemsIn vs e).val σ.ev σ.ob=some (xs,ss) →
  All2 (SVRel C ρ hdr' S1 w1) vs us→Frozen σ σ1 ss→xs.length=us.length∧∀(i:Nat) (u:Value),us[i]? = some u→u.cells.size=e.cells.length ∧
   ∃x,xs[i]? = some x∧∃cp:Nat→PV,ElemP e (x.den ρ) cp∧∀(j:Nat) (t:Ty),e.cells[j]? = some t→∃v,u.cells[j]? = some v∧RepC C S1 w1 t v (cp j)
 | [],[],xs,ss,h,_,_=>by simp [elemsIn] at h; obtain ⟨rfl,rfl⟩:=h; simp
 | v::vs,u::us,xs,ss,h,⟨h1,h2⟩,hf=>by
  simp only [elemsIn,RM.val_bind,RM.val_ret,Option.bind_eq_some_iff,Option.some.injEq,Prod.mk.injEq] at h
  obtain ⟨⟨x,s⟩,h3,⟨xs',ss'⟩,h4,rfl,rfl⟩:=h
  obtain ⟨i1,i2⟩:=elemsIn_ok st1 h4 h2 fun s hs=>hf s (by simp [hs])
  obtain ⟨k1,k2⟩:=elemIn_ok st1 h3 h1 fun s hs=>hf s (by simp [hs])
  refine ⟨by simp [i1],fun i u' hu => ?_⟩
  cases i with
  | zero=>simp at hu; subst hu; exact ⟨k1,x,rfl,k2⟩
  | succ i=>simpa using i2 i u' (by simpa using hu)
 | [],_::_,_,_,_,h,_=>h.elim
 | _::_,[],_,_,_,h,_=>h.elim
theorem hasZero_info {P:Program} {t:TypeId} {i:TypeInfo} (hi:P.info? t=some i) (h:hasZero P t=true):∃z,i.zero=some z∧z.cells.size=i.size:=by
 unfold hasZero at h
 rw [hi] at h
 cases hz:i.zero with
 | none=>simp [hz] at h
 | some z=>simp only [hz,beq_iff_eq] at h; exact ⟨z,rfl,h⟩
theorem rowR_new {e:Ty} {us:List Value} {ps:List PV} {arr:Array Value} {t:TypeId} {b n cap:Nat} (hS:¬S b) (hW:Wr b) (hb:w.heap[b]? = some (.cells arr t (0,0)))
  (hn:ps.length=n) (hc:n≤cap) (hsz:cap*e.cells.length≤arr.size)
  (hel:∀(i:Nat) (p:PV),ps[i]? = some p→∃cp:Nat→PV,ElemP e p cp∧∀(j:Nat) (t:Ty),e.cells[j]? = some t→∃v,arr[i*e.cells.length+j]? = some v∧RepC C S w t v (cp j)) :
  RowR C S Wr w (.slice (some ⟨b,0,none⟩) n cap) (.l ps) e:=by
 have key:∀i,∃cp:Nat→PV,∀p,ps[i]? = some p→ElemP e p cp∧∀(j:Nat) (t:Ty),e.cells[j]? = some t→∃v,arr[i*e.cells.length+j]? = some v∧RepC C S w t v (cp j):=fun i=>by
  cases hp:ps[i]? with
  | none=>exact ⟨fun _=>default,fun p h=>by cases h⟩
  | some p =>
   obtain ⟨cp,h1,h2⟩:=hel i p hp
   exact ⟨cp,fun p' h=>by cases h; exact ⟨h1,h2⟩⟩
 obtain ⟨cp,hcp⟩:=Classical.axiomOfChoice key
 refine .inr ⟨b,n,cap,arr,t,ps,cp,rfl,hb,hS,hW,rfl,hn,hc,hsz,fun i p hp=>(hcp i p hp).1,fun i j t' hi ht => ?_⟩
 exact (hcp i _ (List.getElem?_eq_getElem (by omega))).2 j t' ht
theorem divmod {i j s:Nat} (hj:j<s):(i*s+j)/s=i∧(i*s+j)%s=j:=by
 have hs:0<s:=by omega
 constructor
 ·rw [Nat.mul_comm,Nat.mul_add_div hs,Nat.div_eq_of_lt hj,Nat.add_zero]
 ·rw [Nat.mul_comm,Nat.mul_add_mod,Nat.mod_eq_of_lt hj]
theorem sop_buildSlice {t:TypeId} {len:Nat} {parts:Array (Nat × Operand)} (ho:o.op = .buildSlice t len parts) (h:(sop C cur ns nv o).val σ.ev σ.ob=some r) (sit:Sit C F ρ hdr S Wr σ a w cur ns nv r)
  (hK:∀a' w',Post C ρ hdr S Wr σ a w o cur r ns a' w'→Kc a' w'):o.wp C.P a w Kc Q:=by
 simp only [sop,ho] at h
 split at h
 ·rename_i e hu
  simp only [RM.val_bind,RM.val_ofOpt,RM.val_guard,Option.bind_eq_some_iff] at h
  obtain ⟨ty,h1,_,h2,vs,h3,⟨xs,ss⟩,h4,us,h5,h6⟩:=h
  have hg:=guard_some h2
  simp only [Bool.and_eq_true,beq_iff_eq,bne_iff_ne,decide_eq_true_eq] at hg
  obtain ⟨⟨⟨⟨⟨hs,hparts⟩,hlen⟩,hcl⟩,hc0⟩,hhz⟩:=hg
  dsimp only at h5
  obtain ⟨ie,hie,hsz⟩:=sizeT_info hs
  have hvs:=(rdAll_ok sit.st sit.hcur h3).1
  obtain ⟨S1,st1,ev1,hfz,_⟩:=freeze_ok (ns:=ns) sit.st h5
  have hvs1:All2 (SVRel C ρ hdr S1 w) vs ((parts.toList.map (·.2)).map a.eval):=hvs.imp fun v u hv=>hv.mono (fun _ _ h=>h) ev1.ss (fun _ _=>rfl)
  obtain ⟨hxl,hel⟩:=elemsIn_ok st1 h4 hvs1 hfz
  have hplen:parts.toList.length=len:=by
   have:=congrArg List.length hparts; simpa using this
  have hpsz:parts.size=len:=by rw [←hplen]; simp
  have hxlen:xs.length=len:=by rw [hxl]; simpa using hplen
  obtain ⟨z,hz,_⟩:=hasZero_info hie hhz
  have hsmall:len*ie.size≤4096:=by rw [hsz]; exact Nat.mul_le_mul hlen hcl
  have hpeq:(parts.map fun (i,x)=>(i,a.eval x)).toList=(((parts.toList.map (·.2)).map a.eval).zipIdx 0).map fun x=>(x.2,x.1):=by
   rw [Array.toList_map,←zip_map_snd,hparts]
   refine List.ext_getElem? fun k => ?_
   by_cases hk:k<len
   ·simp [hk,hpsz]
   ·rw [List.getElem?_eq_none (by simp; omega),List.getElem?_eq_none (by simp; omega)]
  obtain ⟨arr,f1,f2,f3⟩:=Great.fill_dense (s:=ie.size) (by omega) ((parts.toList.map (·.2)).map a.eval) 0 ((Array.range (len*ie.size)).map (z.cells[· % z.cells.size]!)) (fun v hv=>by
   obtain ⟨i,hi⟩:=List.mem_iff_getElem?.1 hv
   rw [hsz]; exact (hel i v hi).1) (by simp [hplen])
  have hrun:(Instr.buildSlice t len (parts.map fun (i,x)=>(i,a.eval x))).run C.P w = .ok (.slice (some ⟨w.heap.size,0,none⟩) len len) (w.alloc (.cells arr e)):=by
   by_cases hl0:len=0
   ·subst hl0
    have:parts = #[]:=by
     apply Array.toList_inj.1; exact List.eq_nil_of_length_eq_zero hplen
    subst this
    simp at f1
    simp [Instr.fill] at f1
    subst f1
    simp [Instr.buildSlice,run_underlying hu,sizeOf,typeInfo,hie,Instr.fill,newRow,Array.range_zero']
   ·exact run_buildSlice w t e len _ arr ie z hu hie hz (by omega) (Nat.mul_ne_zero hl0 (by omega)) (by rw [hpeq]; exact f1)
  have hasz:arr.size=len*ty.cells.length:=by rw [f2,←hsz]; simp
  have hrow:∀{S2:Nat→Prop} {w2:World},(∀b,S1 b→S2 b)→(∀b,S1 b→w2.heap[b]? = w.heap[b]?)→¬S1 w.heap.size→w2.heap[w.heap.size]? = some (.cells arr e (0,0)) →
    RowR C S1 Wr w2 (.slice (some ⟨w.heap.size,0,none⟩) len len) (.l (xs.map (Exp.den ρ))) ty:=fun {S2 w2} q1 q2 q3 q4=>by
   refine rowR_new (us:=(parts.toList.map (·.2)).map a.eval) q3 (sit.hW _ (Nat.le_refl _)) q4 (by simp [hxlen]) (Nat.le_refl _) (by omega) fun i p hp => ?_
   simp only [List.getElem?_map,Option.map_eq_some_iff] at hp
   obtain ⟨x,hx,rfl⟩:=hp
   have hi:i<len:=by
    rw [←hxlen]
    rcases Nat.lt_or_ge i xs.length with h | h
    ·exact h
    ·simp [List.getElem?_eq_none h] at hx
   have hi':i<((parts.toList.map (·.2)).map a.eval).length:=by simpa [hplen] using hi
   obtain ⟨hu1,x',hx',cp,hcp,hr⟩:=hel i _ (List.getElem?_eq_getElem hi')
   rw [hx] at hx'; cases hx'
   refine ⟨cp,hcp,fun j t' ht' => ?_⟩
   obtain ⟨v,hv,hrep⟩:=hr j t' ht'
   have hj:j<ty.cells.length:=by
    rcases Nat.lt_or_ge j ty.cells.length with h | h
    ·exact h
    ·simp [List.getElem?_eq_none h] at ht'
   refine ⟨v,?_,hrep.stable (fun _ h=>h) q2⟩
   rw [f3,hsz,(divmod hj).1,(divmod hj).2]
   rw [if_pos]
   ·rw [Nat.sub_zero,List.getElem?_eq_getElem hi']; exact hv
   ·refine ⟨by omega,?_⟩
    simp only [Nat.zero_add,List.length_map,hplen]
    calc i*ty.cells.length+j<(i+1)*ty.cells.length:=by rw [Nat.add_mul]; omega
     _≤len*ty.cells.length:=Nat.mul_le_mul_right _ hi
  have hex:(execOp a.eval o).run C.P w = .ok (.value (.slice (some ⟨w.heap.size,0,none⟩) len len)) (w.alloc (.cells arr e)):=by
   simp only [execOp,ho,Sem.run_bind,hrun,Result.andThen_ok,Sem.run_pure]
  have hheap:(w.alloc (.cells arr e)).heap=w.heap.push (.cells arr e (0,0)):=rfl
  have hnS:¬S1 w.heap.size:=fun hx=>by have:=st1.sb _ hx; omega
  have hold:∀b,S1 b→(w.heap.push (.cells arr e (0,0)))[b]? = w.heap[b]? := fun b hb=>by
   rw [Array.getElem?_push,if_neg (by have:=st1.sb b hb; omega)]
  split at h6
  ·simp only [RM.val_ret,Option.some.injEq] at h6
   subst h6
   refine new_ok sit (σ1:=setObs σ us) (S1:=S1) (hv := .slice (some ⟨w.heap.size,0,none⟩) len len) rfl rfl st1 (ev1.widen (Nat.le_refl _) (by simp)) rfl hex rfl
    (fun b hb=>by simp [blk] at hb; exact hb.symm) ?_ ?_ hK
   ·refine ⟨.slice (some ⟨w.heap.size,0,none⟩) len len,by simp,?_⟩
    rw [expList_den]
    exact hrow (S2:=S1) (w2:={ w with heap:=w.heap.push (.cells arr e (0,0)) }) (fun _ h=>h) hold hnS (by simp)
   ·exact ⟨by simp,rfl⟩
  ·simp only [RM.val_ret,Option.some.injEq] at h6
   subst h6
   let S2:Nat→Prop:=fun b=>S1 b∨b=w.heap.size
   have hcl:=sit.hcl
   simp only [Res.closed,Bool.and_eq_true] at hcl
   refine wp_val hex (hK _ _ ⟨by cases o.dst<;>rfl,hdr,S2,?_,?_⟩)
   ·rw [setNews_nil]
    have st2:St C ρ hdr S2 Wr (setObs σ us) a (w.alloc (.cells arr e)):=by
     refine st1.frame (fun _ _ h=>h) (fun _ h => .inl h) (fun b hb => ?_) (fun b hb=>hold b hb) (fun s ob hob hlv b hb => ?_) st1.he
     ·rw [hheap,Array.size_push]
      rcases hb with hb | hb
      ·have:=st1.sb b hb; omega
      ·omega
     ·have:=st1.live_not hob hlv hb
      refine ⟨?_,?_⟩
      ·rw [hheap,Array.getElem?_push,if_neg (by omega)]
      ·rintro (hb' | hb')
       ·exact this.1 hb'
       ·omega
    refine st2.put o.dst (slot_cur sit.hcur ?_) (by simp [Slot.closed,sit.hg,hcl.1.1])
    have hr:=(hrow (S2:=S1) (w2:=w.alloc (.cells arr e)) (fun _ h=>h) hold hnS (by simp [hheap])).toRep
    show RepC C S2 (w.alloc (.cells arr e)) (.sl ty) _ _
    rw [expList_den]
    refine hr.stable (fun b hb => ?_) (fun _ _=>rfl)
    rcases hb with hb | ⟨n,cap,hb⟩
    ·exact .inl hb
    ·right; cases hb; rfl
   ·refine ⟨⟨by rw [hheap,Array.size_push]; omega,fun b _ hb=>by rw [hheap,Array.getElem?_push,if_neg (by omega)],ev1.kp.2.2.trans (.push rfl)⟩,fun _ _ h=>h,fun _ h _=>h,fun b hb => .inl (ev1.ss b hb),fun b hb => ?_,fun b hb=>hold b (ev1.ss b hb)⟩
    rcases hb with hb | hb
    ·exact ev1.sw b hb
    ·exact .inr (sit.hW _ (by omega))
 ·simp at h
theorem sop_makeSlice {t:TypeId} {x y:Operand} (ho:o.op = .makeSlice t x y) (h:(sop C cur ns nv o).val σ.ev σ.ob=some r) (sit:Sit C F ρ hdr S Wr σ a w cur ns nv r)
  (hK:∀a' w',Post C ρ hdr S Wr σ a w o cur r ns a' w'→Kc a' w'):o.wp C.P a w Kc Q:=by
 simp only [sop,ho] at h
 split at h
 ·rename_i e hu
  simp only [RM.val_bind,RM.val_ofOpt,RM.val_guard,RM.val_ret,Option.bind_eq_some_iff,Option.some.injEq] at h
  obtain ⟨ty,h1,zb,h2,zs,h3,_,h4,zv,h5,⟨zx,ss⟩,h6,_,h7,vl,h8,⟨l,as⟩,h9,vc,h10,⟨c,bs⟩,h11,rfl⟩:=h
  dsimp only at h7
  have hg:=guard_some h4
  simp only [Bool.and_eq_true,beq_iff_eq,bne_iff_ne] at hg
  obtain ⟨⟨hs,hzb⟩,hc0⟩:=hg
  have hss:=guard_some h7
  have hss':ss=[]:=by simpa using hss
  subst hss'
  obtain ⟨ie,z,hie,hz,hzc⟩:=zeroT_info h3
  have hsz:ie.size=ty.cells.length:=by simpa [sizeT,hie] using hs
  have hby:ie.bytes=zb:=by simpa [bytesT,hie] using h2
  have hvl:=(rd_ok sit.st sit.hcur h8).1
  have hvc:=(rd_ok sit.st sit.hcur h10).1
  obtain ⟨k1,n1,q1,q2⟩:=intE_ok h9 hvl fun e he=>sit.has e (by simp [he])
  obtain ⟨k2,n2,q3,q4⟩:=intE_ok h11 hvc fun e he=>sit.has e (by simp [he])
  have t1:=isTrue_le (sit.has (.bi .le lit0 l) (by simp))
  have t2:=isTrue_le (sit.has (.bi .le l c) (by simp))
  have t3:=isTrue_le (sit.has (.bi .le c (.int .i64 (bound/zb))) (by simp))
  rw [q2] at t1 t2
  rw [q4] at t2 t3
  simp only [lit0,Exp.den,int_v] at t1 t2 t3
  obtain ⟨L,rfl⟩:=nat_of t1
  obtain ⟨K,rfl⟩:=nat_of (show (0:Int)≤n2 by omega)
  have hKb:K*zb≤140737488355328:=by
   have:(K:Int)*zb≤bound:=Int.le_trans (Int.mul_le_mul_of_nonneg_right t3 (by omega)) (Int.ediv_mul_le _ (by omega))
   have h2:((K*zb:Nat):Int)≤140737488355328:=by rw [Int.natCast_mul]; exact this
   omega
  have hK63:K≤140737488355328:=Nat.le_trans (Nat.le_mul_of_pos_right _ (by omega)) hKb
  have hrun:=run_make (P:=C.P) w t e ie z hu hie hz k1 k2 L K (by omega) t2 (by
   rw [hby,Int.mul_comm]
   have:((K*zb:Nat):Int)≤140737488355328:=by omega
   rw [Int.natCast_mul] at this
   omega) (by omega)
  simp only [Int.toNat_natCast] at hrun
  have hzero:=(litCells_ok (C:=C) (ρ:=ρ) (hdr:=hdr) (S:=S) (w:=w) hzc).1
  have hzv:=mkSV_ok h5 hzero
  obtain ⟨e1,cp,e2,e3⟩:=elemIn_ok sit.st h6 hzv (fun s hs=>by simp at hs)
  have hcells:(if isAggT C.P e=true then Value.agg z.cells.toList.toArray else z.cells.toList.headD undef).cells=z.cells:=by
   cases hag:isAggT C.P e
   ·simp only [Bool.false_eq_true,if_false]
    rw [hag] at h5
    have hl1:=mkSV_single h5 rfl
    have hl:=hzero.length
    simp only [Array.length_toList] at hl
    have hz1:z.cells.size=1:=by omega
    obtain ⟨v,hv⟩:∃v,z.cells.toList=[v]:=by
     have hll:z.cells.toList.length=1:=by rw [Array.length_toList]; exact hz1
     exact List.length_eq_one_iff.1 hll
    rw [hv] at hzero ⊢
    cases zs with
    | nil=>exact hzero.elim
    | cons c0 zs' =>
     have h1:=hzero.1.one
     simp only [List.headD_cons]
     rw [cells_one h1]
     apply Array.toList_inj.1; rw [hv]
   ·rfl
  rw [hcells] at e1 e3
  have hex:(execOp a.eval o).run C.P w = .ok (.value (.slice (some ⟨w.heap.size,0,none⟩) L K)) (w.alloc (.cells (madeCells z.cells (K*ie.size)) e)):=by
   simp only [execOp,ho,q1,q3,Sem.run_bind,hrun,Result.andThen_ok,Sem.run_pure]
  have hold:∀b,S b→(w.heap.push (Go.Obj.cells (madeCells z.cells (K*ie.size)) e (0,0)))[b]? = w.heap[b]? := fun b hb=>by
   rw [Array.getElem?_push,if_neg (by have:=sit.st.sb b hb; omega)]
  have hheap:(w.alloc (.cells (madeCells z.cells (K*ie.size)) e)).heap=w.heap.push (.cells (madeCells z.cells (K*ie.size)) e (0,0)):=rfl
  refine new_ok sit (σ1:=σ) (S1:=S) (hv := .slice (some ⟨w.heap.size,0,none⟩) L K) rfl rfl sit.st Ev.refl rfl hex rfl
   (fun b hb=>by simp [blk] at hb; exact hb.symm) ?_ ⟨by simp,rfl⟩ hK
  refine ⟨.slice (some ⟨w.heap.size,0,none⟩) L K,by simp,?_⟩
  simp only [Exp.den,B.den,q2,int_v,Int.toNat_natCast]
  refine rowR_new (us:=[]) (fun hx=>by have:=sit.st.sb _ hx; omega) (sit.hW _ (Nat.le_refl _)) (arr:=madeCells z.cells (K*ie.size)) (t:=e) (by simp) (by simp) (by omega) (by rw [size_madeCells,hsz]; exact Nat.le_refl _) fun i p hp => ?_
  have hi:i<L:=by
   rcases Nat.lt_or_ge i L with h | h
   ·exact h
   ·rw [List.getElem?_eq_none (by simpa using h)] at hp; cases hp
  have hp':zx.den ρ=p:=by simpa [hi] using hp
  subst hp'
  refine ⟨cp,e2,fun j t' ht' => ?_⟩
  obtain ⟨u,hu1,hu2⟩:=e3 j t' ht'
  have hj:j<ty.cells.length:=by
   rcases Nat.lt_or_ge j ty.cells.length with h | h
   ·exact h
   ·simp [List.getElem?_eq_none h] at ht'
  refine ⟨u,?_,hu2.stable (fun _ h=>h) hold⟩
  have hlt:i*ty.cells.length+j<K*ie.size:=by
   rw [hsz]
   calc i*ty.cells.length+j<(i+1)*ty.cells.length:=by rw [Nat.add_mul]; omega
    _≤K*ty.cells.length:=Nat.mul_le_mul_right _ (by omega)
  simp only [madeCells,Array.getElem?_map,Array.getElem?_range,hlt,if_true,Option.map_some,e1,(divmod hj).2]
  rw [←hu1]
  have hjz:j<z.cells.size:=by omega
  simp [hjz]
 ·simp at h
end
section
variable {C:Ctx} {F:Nat→List PV→Option (List PV)} {ρ:List PV} {hdr hdr':Hdr} {S S1 S' Wr:Nat→Prop} {σ σ1:Sym} {a a1:Act} {w w1 w':World} {cur:Gd} {ns nv:Nat} {r:Res} {o:Oper} {Kc:Act→World→Prop} {Q:Exit→Act→World→Prop}
def ElemsL (C:Ctx) (S:Nat→Prop) (w:World) (e:Ty) (vs:List Value) (xs:List PV):Prop :=
 ∀(i:Nat) (p:PV),xs[i]? = some p→∃cp:Nat→PV,ElemP e p cp∧∀(j:Nat) (t:Ty),e.cells[j]? = some t→∃v,vs[i*e.cells.length+j]? = some v∧RepC C S w t v (cp j)
theorem lt_of_get {α:Type} {l:List α} {i:Nat} {x:α} (h:l[i]? = some x):i<l.length:=by
 rcases Nat.lt_or_ge i l.length with h' | h'
 ·exact h'
 ·rw [List.getElem?_eq_none h'] at h; cases h
theorem mul_lt_of {i j n s:Nat} (hi:i<n) (hj:j<s):i*s+j<n*s:=by
 calc i*s+j<(i+1)*s:=by rw [Nat.add_mul]; omega
  _≤n*s:=Nat.mul_le_mul_right _ hi
theorem ElemsL.append {e:Ty} {vs us:List Value} {xs ys:List PV} (h1:ElemsL C S w e vs xs) (h2:ElemsL C S w e us ys) (hl:vs.length=xs.length*e.cells.length) :
  ElemsL C S w e (vs++us) (xs++ys):=fun i p hp=>by
 by_cases hi:i<xs.length
 ·rw [List.getElem?_append_left hi] at hp
  obtain ⟨cp,k1,k2⟩:=h1 i p hp
  refine ⟨cp,k1,fun j t ht => ?_⟩
  obtain ⟨v,k3,k4⟩:=k2 j t ht
  exact ⟨v,by rw [List.getElem?_append_left (lt_of_get k3)]; exact k3,k4⟩
 ·rw [List.getElem?_append_right (by omega)] at hp
  obtain ⟨cp,k1,k2⟩:=h2 _ p hp
  refine ⟨cp,k1,fun j t ht => ?_⟩
  obtain ⟨v,k3,k4⟩:=k2 j t ht
  refine ⟨v,?_,k4⟩
  have hge:xs.length*e.cells.length≤i*e.cells.length:=Nat.mul_le_mul_right _ (by omega)
  rw [List.getElem?_append_right (by omega),hl,←k3]
  congr 1
  rw [Nat.sub_mul]; omega
def Elems (C:Ctx) (S:Nat→Prop) (w:World) (e:Ty) (b q:Nat) (xs:List PV):Prop :=
 ∃(cv:Nat→Nat→Value) (cp:Nat→Nat→PV),(∀i j,i<xs.length→j<e.cells.length→w.cell? ⟨b,q+i*e.cells.length+j,none⟩=some (cv i j)) ∧
  (∀i p,xs[i]? = some p→ElemP e p (cp i))∧∀i j t,i<xs.length→e.cells[j]? = some t→RepC C S w t (cv i j) (cp i j)
theorem Elems.sub {e:Ty} {b q i l:Nat} {xs:List PV} (h:Elems C S w e b q xs):Elems C S w e b (q+i*e.cells.length) ((xs.drop i).take l):=by
 obtain ⟨cv,cp,h1,h2,h3⟩:=h
 have hl:((xs.drop i).take l).length≤xs.length-i:=by simp; omega
 refine ⟨fun k j=>cv (i+k) j,fun k j=>cp (i+k) j,fun k j hk hj => ?_,fun k p hp => ?_,fun k j t hk ht=>h3 _ j t (by omega) ht⟩
 ·have:=h1 (i+k) j (by omega) hj
  rw [Nat.add_mul,←Nat.add_assoc] at this
  exact this
 ·have hk:=lt_of_get hp
  have hkl:k<l:=by simp at hk; omega
  simp only [List.getElem?_take,hkl,if_true,List.getElem?_drop] at hp
  exact h2 _ p hp
theorem RepC.elems {e:Ty} {b q len cap:Nat} {p:PV} (h:RepC C S w (.sl e) (.slice (some ⟨b,q,none⟩) len cap) p):∃xs,p = .l xs∧xs.length=len∧Elems C S w e b q xs:=by
 cases h with
 | sl cv cp hS hl hc hw he hr=>exact ⟨_,rfl,hl,cv,cp,fun i j hi hj=>hw i j (by omega) hj,he,fun i j t hi ht=>hr i j t (by omega) ht⟩
theorem RowR.elems {e:Ty} {b n cap:Nat} {p:PV} (h:RowR C S Wr w (.slice (some ⟨b,0,none⟩) n cap) p e):∃xs,p = .l xs∧xs.length=n∧Elems C S w e b 0 xs:=by
 rcases h with ⟨h1,_⟩ | ⟨b',n',cap',arr,t,xs,cp,h1,h2,h3,h4,h5,h6,h7,h8,h9,h10⟩
 ·cases h1
 ·cases h1
  have key:∀i,∃f:Nat→Value,∀j,i<n→j<e.cells.length→arr[i*e.cells.length+j]? = some (f j)∧∀t',e.cells[j]? = some t'→RepC C S w t' (f j) (cp i j):=fun i=>by
   refine Classical.axiomOfChoice (r:=fun j v=>i<n→j<e.cells.length→arr[i*e.cells.length+j]? = some v∧∀t',e.cells[j]? = some t'→RepC C S w t' v (cp i j)) fun j => ?_
   by_cases hi:i<n
   ·by_cases hj:j<e.cells.length
    ·obtain ⟨v,k1,k2⟩:=h10 i j _ hi (List.getElem?_eq_getElem hj)
     exact ⟨v,fun _ _=>⟨k1,fun t' ht'=>by rw [List.getElem?_eq_getElem hj] at ht'; cases ht'; exact k2⟩⟩
    ·exact ⟨undef,fun _ h=>absurd h hj⟩
   ·exact ⟨undef,fun h=>absurd h hi⟩
  obtain ⟨cv,hcv⟩:=Classical.axiomOfChoice key
  refine ⟨xs,h5,h6,cv,cp,fun i j hi hj => ?_,h9,fun i j t' hi ht=>(hcv i j (by omega) (lt_of_get ht)).2 t' ht⟩
  have:=(hcv i j (by omega) hj).1
  simp only [World.cell?,h2,Nat.zero_add,Option.isSome_none,Bool.false_eq_true,if_false]
  exact this
theorem Elems.list {e:Ty} {b q:Nat} {xs:List PV} (h:Elems C S w e b q xs):∃vs:List Value,vs.length=xs.length*e.cells.length ∧
  (∀j v,vs[j]? = some v→w.cell? ((⟨b,q,none⟩:Addr).add j)=some v)∧(∀v∈vs,v.oneCell'=true)∧ElemsL C S w e vs xs:=by
 obtain ⟨cv,cp,h1,h2,h3⟩:=h
 have get:∀k v,((List.range (xs.length*e.cells.length)).map fun k=>cv (k/e.cells.length) (k%e.cells.length))[k]? = some v →
   k/e.cells.length<xs.length∧k%e.cells.length<e.cells.length∧v=cv (k/e.cells.length) (k%e.cells.length):=fun k v hk=>by
  have hlt:=lt_of_get hk
  simp only [List.length_map,List.length_range] at hlt
  have hs:0<e.cells.length:=by
   rcases Nat.eq_zero_or_pos e.cells.length with h | h
   ·rw [h] at hlt; simp at hlt
   ·exact h
  simp [hlt] at hk
  exact ⟨Nat.div_lt_of_lt_mul (by rw [Nat.mul_comm]; exact hlt),Nat.mod_lt _ hs,hk.symm⟩
 refine ⟨(List.range (xs.length*e.cells.length)).map fun k=>cv (k/e.cells.length) (k%e.cells.length),by simp,fun k v hk => ?_,fun v hv => ?_,fun i p hp=>⟨cp i,h2 i p hp,fun j t ht => ?_⟩⟩
 ·obtain ⟨g1,g2,rfl⟩:=get k v hk
  rw [addr_add]
  have:=h1 _ _ g1 g2
  rw [Nat.add_assoc,Nat.mul_comm,Nat.div_add_mod] at this
  exact this
 ·obtain ⟨k,hk⟩:=List.mem_iff_getElem?.1 hv
  obtain ⟨g1,g2,rfl⟩:=get k v hk
  exact (h3 _ _ _ g1 (List.getElem?_eq_getElem g2)).one
 ·have hi:=lt_of_get hp
  have hj:=lt_of_get ht
  refine ⟨cv i j,?_,h3 i j t hi ht⟩
  have:=mul_lt_of hi hj
  simp [this,(divmod hj).1,(divmod hj).2]
theorem listE_elems (st:St C ρ hdr S Wr σ a w) {c:SC} {v:Value} {x:Exp} {t':Option Ty} {e:Ty} (h:(listE c).val σ.ev σ.ob=some (x,t')) (hv:SCRel C ρ hdr S w c v) (hfit:fits e t'=true) :
  ∃ad len cap xs vs,v = .slice ad len cap∧x.den ρ = .l xs∧xs.length=len∧len≤cap∧(ad=none→len=0∧cap=0)∧vs.length=len*e.cells.length ∧
   (∀A,ad=some A→∀j u,vs[j]? = some u→w.cell? (A.add j)=some u)∧(∀u∈vs,u.oneCell'=true)∧ElemsL C S w e vs xs:=by
 obtain ⟨ad,len,cap,e1,⟨xs,e2,e3⟩,e4,e5⟩:=listE_len st h hv
 cases ad with
 | none =>
  obtain ⟨rfl,rfl⟩:=e4 rfl
  obtain rfl:xs=[]:=List.eq_nil_of_length_eq_zero e3
  exact ⟨none,0,0,[],[],e1,e2,rfl,Nat.le_refl _,fun _=>⟨rfl,rfl⟩,by simp,(fun A h=>by cases h),by simp,fun i p hp=>by simp at hp⟩
 | some ad =>
  have key:∃b q,ad=⟨b,q,none⟩∧(len=0∨Elems C S w e b q xs):=by
   unfold listE at h
   split at h
   ·simp at h; obtain ⟨rfl,rfl⟩:=h
    simp [fits] at hfit; subst hfit
    have hr:RepC C S w (.sl e) v _:=hv
    rw [e1] at hr
    have hr':=hr
    generalize hg:Exp.den ρ _=p at hr'
    cases hr' with
    | sl cv cp hS hl hc hw he hrr =>
     obtain ⟨ys,k1,k2,k3⟩:=RepC.elems hr
     rw [e2] at k1; cases k1
     exact ⟨_,_,rfl,.inr k3⟩
   ·cases hv; cases e1
   ·rename_i s
    simp only [RM.val_ob,Option.bind_eq_some_iff] at h
    obtain ⟨ob,h1,h2⟩:=h
    have had:∀hd,hdr s=some hd→hd0 hd→∃b,ad=⟨b,0,none⟩∧hd = .slice (some ⟨b,0,none⟩) len cap:=fun hd g1 g2=>by
     have:=hv.1; rw [g1] at this; cases this
     subst e1
     have:=g2 ad _ _ rfl
     exact ⟨ad.block,this,by rw [this]⟩
    split at h2
    ·simp at h2; obtain ⟨rfl,rfl⟩:=h2
     simp [fits] at hfit; subst hfit
     obtain ⟨hd,k1,k2⟩:=st.ob _ _ h1
     obtain ⟨b,rfl,rfl⟩:=had hd k1 k2.hd0
     obtain ⟨ys,k3,_,k4⟩:=k2.elems
     rw [e2] at k3; cases k3
     exact ⟨b,0,rfl,.inr k4⟩
    ·simp at h2; obtain ⟨rfl,rfl⟩:=h2
     simp [fits] at hfit; subst hfit
     obtain ⟨hd,k1,k2,k5⟩:=st.ob _ _ h1
     obtain ⟨b,rfl,rfl⟩:=had hd k1 k5
     obtain ⟨ys,k3,_,k4⟩:=k2.elems
     rw [e2] at k3; cases k3
     exact ⟨b,0,rfl,.inr k4⟩
    ·simp at h2
   ·rename_i s z off ln
    simp only [RM.val_ob,Option.bind_eq_some_iff] at h
    obtain ⟨ob,h1,h2⟩:=h
    obtain ⟨l,hl,hoff,h3⟩:=hv
    rcases h3 with ⟨h4,h5,h6,h7⟩ | ⟨b,n',cap1,q,cap',h4,h5,h6,h7,h8,h9⟩
    ·rw [h5] at e1; cases e1
    ·rw [h5] at e1
     simp only [Value.slice.injEq,Option.some.injEq] at e1
     obtain ⟨rfl,rfl,rfl⟩:=e1
     have fin:∀{y ys},y.den ρ = .l ys→x = .bi .take (.bi .drop y off) ln→z=e.cells.length→Elems C S w e b 0 ys→(l=0∨Elems C S w e b q xs):=fun {y ys} g1 g2 g3 g4=>by
      subst g2 g3
      simp only [Exp.den,B.den,hl,g1,PV.list,Int.toNat_natCast,PV.l.injEq] at e2
      subst e2
      rcases h6 with h6 | ⟨h6,_⟩
      ·right; rw [h6]
       have:=g4.sub (i:=(off.den ρ).int.toNat) (l:=l)
       rwa [Nat.zero_add] at this
      ·left; omega
     refine ⟨b,q,rfl,?_⟩
     split at h2
     ·split at h2
      ·rename_i hz; simp at hz
       simp at h2; obtain ⟨rfl,rfl⟩:=h2
       simp [fits] at hfit; subst hfit
       obtain ⟨hd,k1,k2⟩:=st.ob _ _ h1
       rw [h4] at k1; cases k1
       obtain ⟨ys,k3,_,k4⟩:=k2.elems
       exact fin k3 rfl hz k4
      ·simp at h2
     ·split at h2
      ·rename_i hz; simp at hz
       simp at h2; obtain ⟨rfl,rfl⟩:=h2
       simp [fits] at hfit; subst hfit
       obtain ⟨hd,k1,k2,_⟩:=st.ob _ _ h1
       rw [h4] at k1; cases k1
       obtain ⟨ys,k3,_,k4⟩:=k2.elems
       exact fin k3 rfl hz k4
      ·simp at h2
     ·simp at h2
   ·simp at h
  obtain ⟨b,q,rfl,hk⟩:=key
  have hE:Elems C S w e b q xs:=by
   rcases hk with rfl | hk
   ·obtain rfl:xs=[]:=List.eq_nil_of_length_eq_zero e3
    exact ⟨fun _ _=>undef,fun _ _=>default,fun i j hi=>by simp at hi,fun i p hp=>by simp at hp,fun i j t hi=>by simp at hi⟩
   ·exact hk
  obtain ⟨vs,g1,g2,g3,g4⟩:=hE.list
  exact ⟨_,len,cap,xs,vs,e1,e2,e3,e5,(fun h=>by cases h),by rw [g1,e3],(fun A h=>by cases h; exact g2),g3,g4⟩
end
end Go.Proofs.YthchhkghjfendaaGreat.Dx
