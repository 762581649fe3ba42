/- An own evaluator of the program's form, proved sound, and what it says of this law's functions: part 0. -/
import Derived.Calls
import Derived.CheckFast
import Derived.Deep.MidRow
import Derived.KernelRfl
import Derived.Laws.AppendOwn
import Derived.Laws.BytesString
import Derived.Laws.Cover1
import Derived.Laws.MakeOwn
import Derived.Laws.Small
import Derived.Laws.Strings
import Derived.Laws.StructEq
import Derived.Orders
set_option linter.unusedVariables false
namespace Go.Eng
noncomputable section
inductive V where
 | dead
 | int (k:IntKind) (n:Int)
 | bool (b:Bool)
 | str (l:List V)
 | agg (cs:List V)
 | tup (vs:List V)
 | nil (T:TypeId)
 | sl (id:Nat) (T:TypeId) (off:Nat) (len:Option Nat)
 | inl (T:TypeId) (l:List V)
 | bp (id off:Nat)
 | rp (id idx off:Nat)
 | ep (cs:List V) (off:Nat)
 | nb (T:TypeId) (cs:List V)
 | rr (T:TypeId) (own:Bool) (l:List V)
 | rf (T:TypeId) (cs:List V)
 | fn (f:FuncId) (caps:List V)
 | nn (T:TypeId) (l:List V)
 | nl (T:TypeId)
 | sk
 | dr (T:TypeId) (l:List V)
 | ro (T:TypeId) (off:Nat) (cs:List V)
 deriving Inhabited
inductive Ck where
 | int (k:IntKind) | bool | str | sl (T:TypeId) | ptr | fn | other
 deriving DecidableEq,Inhabited
structure Ty where
 kinds:List Ck
 agg:Bool
 elem:Option TypeId
 fields:List (Nat×TypeId)
 bytes:Nat
 deriving Inhabited
abbrev Tab:=TypeId→Option Ty
def V.cells (v:V):List V:=V.casesOn (motive_1:=fun _=>List V) v [v] (fun _ _=>[v]) (fun _=>[v]) (fun _=>[v]) (fun cs=>cs) (fun _=>[v]) (fun _=>[v]) (fun _ _ _ _=>[v]) (fun _ _=>[v]) (fun _ _=>[v]) (fun _ _ _=>[v]) (fun _ _=>[v]) (fun _ _=>[v]) (fun _ _ _=>[v]) (fun _ _=>[v]) (fun _ _=>[v]) (fun _ _=>[v]) (fun _=>[v]) [v] (fun _ _=>[v]) (fun _ _ _=>[v])
def V.cell (x:V) (j:Nat):V:=x.cells.getD j .dead
def V.I (v:V):Int:=V.casesOn (motive_1:=fun _=>Int) v 0 (fun _ n=>n) (fun _=>0) (fun _=>0) (fun _=>0) (fun _=>0) (fun _=>0) (fun _ _ _ _=>0) (fun _ _=>0) (fun _ _=>0) (fun _ _ _=>0) (fun _ _=>0) (fun _ _=>0) (fun _ _ _=>0) (fun _ _=>0) (fun _ _=>0) (fun _ _=>0) (fun _=>0) 0 (fun _ _=>0) (fun _ _ _=>0)
def V.B:V→Bool | .bool b=>b | _=>false
def V.L:V→List V | .inl _ l=>l | .rr _ _ l=>l | .dr _ l=>l | _=>[]
def V.S:V→List V | .str l=>l | _=>[]
def V.one:V→Bool
 | .dead | .agg _ | .tup _ | .nb .. | .rr .. | .rf .. | .nn .. | .nl _ | .sk | .dr .. | .ro ..=>false
 | _=>true
def V.soft (v:V):V:=V.casesOn (motive_1:=fun _=>V) v v (fun _ _=>v) (fun _=>v) (fun _=>v) (fun _=>v) (fun _=>v) (fun _=>v) (fun _ _ _ _=>v) (fun _ _=>v) (fun _ _=>v) (fun _ _ _=>v) (fun _ _=>v) (fun _ _=>v) (fun _ _ _=>v) (fun _ _=>v) (fun _ _=>v) (fun T l=>.inl T l) (fun T=>.inl T []) v (fun _ _=>v) (fun _ _ _=>v)
def etaC:Ck→V→V
 | .int k,x=>.int k x.I
 | .bool,x=>.bool x.B
 | .str,x=>.str x.S
 | .sl T,x=>.inl T x.L
 | _,_=>.dead
def Zau:List Ck→V→Nat→List V
 | [],_,_=>[]
 | k :: ks,x,j=>etaC k (x.cell j) :: Zau ks x (j+1)
def mk (agg:Bool) (cs:List V):V:=if agg then .agg cs else cs.headD .dead
def ZcJ:Ck→V
 | .int k=>.int k 0
 | .bool=>.bool false
 | .str=>.str []
 | .sl T=>.nil T
 | _=>.dead
def Ck.flat:Ck→Bool
 | .int _ | .bool | .str=>true
 | _=>false
inductive Blk where
 | box (T:TypeId) (cs:List V)
 | row (T:TypeId) (own:Bool) (els:List V)
 | drow (T:TypeId) (els:List V)
 | hrow (T:TypeId) (els:List V) (idx off j:Nat)
 | grow (T:TypeId) (cs:List V)
 deriving Inhabited
def ZbJ:TypeId:=5
abbrev ZaG:=Nat→Option (Option Blk)
def ZdT:List Bool→Bool
 | []=>true
 | b :: r=>b&&ZdT r
structure RM (α:Type):Type where
 run:ZaG→Option (α×List Nat×List Bool)
namespace RM
def at' {α:Type} (m:RM α) (h:ZaG):Option (α×List Nat):=
 match m.run h with
 | some (a,l,c)=>bif ZdT c then some (a,l) else none
 | none=>none
instance {α:Type}:CoeFun (RM α) (fun _=>ZaG→Option (α×List Nat)):=⟨at'⟩
def ret {α:Type} (a:α):RM α:=⟨fun _=>some (a,[],[])⟩
def fail {α:Type}:RM α:=⟨fun _=>none⟩
def bind {α β:Type} (m:RM α) (f:α→RM β):RM β:=⟨fun h=>
 match m.run h with
 | none=>none
 | some (a,l,c)=>
  match (f a).run h with
  | none=>none
  | some (b,l',c')=>some (b,l++l',c++c')⟩
def get (id:Nat):RM Blk:=⟨fun h=>
 match h id with
 | some (some b)=>some (b,[id],[])
 | _=>none⟩
def lift {α:Type}:Option α→RM α
 | none=>fail
 | some a=>ret a
def test {α:Type} (b:Bool) (m:RM α):RM α:=⟨fun h=>
 match m.run h with
 | none=>none
 | some (a,l,c)=>some (a,l,b :: c)⟩
end RM
open RM
structure Eff where
 v:V
 upd:List (Nat×Option Blk)
 deriving Inhabited
abbrev Sums:=FuncId→List V→Option (Bool×(V×List V))
structure Cfg where
 tab:Tab
 sums:Sums
 mutf:FuncId→Bool
 par:FuncId→List (Option TypeId):=fun _=>[]
 deep:Bool:=false
 rof:FuncId→Bool:=fun _=>false
def cut (els:List V) (off:Nat):Option Nat→List V
 | none=>els.drop off
 | some n=>(els.drop off).take n
def ZdW:V→RM (V×List Nat)
 | .sl id T off len=>bind (get id) fun b=>match b with
  | .row _ _ els=>ret (V.inl T (cut els off len),[id])
  | .drow _ els=>ret (V.inl T (cut els off len),[id])
  | _=>fail
 | .inl T l=>ret (.inl T l,[])
 | .nil T=>ret (.nil T,[])
 | .int k n=>ret (.int k n,[])
 | .bool b=>ret (.bool b,[])
 | .str l=>ret (.str l,[])
 | .ep cs off=>ret (.ep cs off,[])
 | _=>fail
def Zb2 (f:V→RM (V×List Nat)):List V→RM (List V×List Nat)
 | []=>ret ([],[])
 | v :: vs=>bind (f v) fun a=>bind (Zb2 f vs) fun r=>ret (a.1 :: r.1,a.2++r.2)
def ZdO:V→RM (V×List Nat)
 | .bp id off=>bind (get id) fun b=>match b with
   | .box _ cs=>bind (Zb2 ZdW cs) fun r=>ret (V.ep r.1 off,id :: r.2)
   | _=>fail
 | .ep cs off=>ret (.ep cs off,[])
 | _=>fail
def ZfJ:V→RM (V×List Nat)
 | .agg cs=>bind (Zb2 ZdW cs) fun r=>ret (V.agg r.1,r.2)
 | .fn f caps=>bind (Zb2 ZdO caps) fun r=>ret (V.fn f r.1,r.2)
 | v=>ZdW v
def ZiM (tab:Tab):V→RM (V×Bool×List Nat)
 | .sl id T off len=>bind (get id) fun b=>match b with
  | .row _ own els=>
   match off,len with
   | 0,none=>ret (V.inl T els,own,[id])
   | _,_=>ret (V.inl T (cut els off len),false,[id])
  | _=>fail
 | .inl T l=>ret (.inl T l,false,[])
 | .nil T=>bind (lift (tab T)) fun _=>ret (V.inl T [],true,[])
 | .int k n=>ret (.int k n,true,[])
 | .bool b=>ret (.bool b,true,[])
 | .str l=>ret (.str l,true,[])
 | _=>fail
def Zg2 (tab:Tab):List V→RM (List V×Bool×List Nat)
 | []=>ret ([],true,[])
 | v :: vs=>bind (ZiM tab v) fun a=>bind (Zg2 tab vs) fun r=>ret (a.1 :: r.1,a.2.1&&r.2.1,a.2.2++r.2.2)
def Zb3:V→RM (V×List Nat)
 | .sl id T off len=>bind (get id) fun b=>match b with
  | .row _ own els=>
   match off,len with
   | 0,none=>ret (V.rr T own els,[id])
   | _,_=>ret (V.inl T (cut els off len),[id])
  | .drow _ els=>
   match off,len with
   | 0,none=>ret (V.dr T els,[id])
   | _,_=>fail
  | _=>fail
 | .inl T l=>ret (.inl T l,[])
 | .nil T=>ret (.nil T,[])
 | .int k n=>ret (.int k n,[])
 | .bool b=>ret (.bool b,[])
 | .str l=>ret (.str l,[])
 | .ep cs off=>ret (.ep cs off,[])
 | _=>fail
abbrev Zog:=Zb2
def Zdh (mkv:TypeId→List V→V):V→RM (V×List Nat)
 | .bp id off=>match off with
  | 0=>bind (get id) fun b=>match b with
   | .box T cs=>bind (Zb2 Zb3 cs) fun r=>ret (mkv T r.1,id :: r.2)
   | _=>fail
  | _=>fail
 | v=>Zb3 v
def give:V→RM (V×List Nat)
 | .agg cs=>bind (Zog Zb3 cs) fun r=>ret (V.agg r.1,r.2)
 | v=>Zdh .nb v
def Zoh:V→RM (V×List Nat)
 | .tup vs=>bind (Zog give vs) fun r=>ret (V.tup r.1,r.2)
 | v=>give v
def ZaX (nid:Nat):V→V×List Blk
 | .rr T own l=>(.sl nid T 0 none,[.row T own l])
 | .dr T l=>(.sl nid T 0 none,[.drow T l])
 | v=>(v,[])
def ZaC (f:Nat→V→V×List Blk) (nid:Nat):List V→List V×List Blk
 | []=>([],[])
 | v :: vs=>
  let a:=f nid v
  let r:=ZaC f (nid+a.2.length) vs
  (a.1 :: r.1,a.2++r.2)
def Zb4 (nid:Nat):V→V×List Blk
 | .agg cs=>let r:=ZaC ZaX nid cs;(.agg r.1,r.2)
 | .nb T cs=>let r:=ZaC ZaX (nid+1) cs;(.bp nid 0, .box T r.1 :: r.2)
 | .rf T cs=>let r:=ZaC ZaX (nid+1) cs;(.bp nid 0, .box T r.1 :: r.2)
 | .ro T off cs=>let r:=ZaC ZaX (nid+1) cs;(.bp nid off, .box T r.1 :: r.2)
 | v=>ZaX nid v
def Zdx (nid:Nat):V→V×List Blk
 | .tup vs=>let r:=ZaC Zb4 nid vs;(.tup r.1,r.2)
 | v=>Zb4 nid v
def ZcU (nid:Nat):List Blk→List (Nat×Option Blk)
 | []=>[]
 | b :: r=>(nid,some b) :: ZcU (nid+1) r
def ended (ids:List Nat):List (Nat×Option Blk):=ids.map fun i=>(i,none)
def ZbX:List Nat→Bool
 | []=>true
 | x :: r=>!r.contains x&&ZbX r
def Z9 (s:ByteArray):List V:=s.data.toList.map fun b=>.int .u8 (b.toNat:Int)
def ZjU:Value→V
 | .int k n=>.int k n
 | .bool b=>.bool b
 | .string s=>.str (Z9 s)
 | .slice none 0 0=>.nil 0
 | _=>.dead
def ofValue:Value→V
 | .int k n=>.int k n
 | .bool b=>.bool b
 | .string s=>.str (Z9 s)
 | .slice none 0 0=>.nil 0
 | .func (.func f) ⟨[]⟩ ⟨[]⟩=>.fn f []
 | .agg cs=>.agg (cs.toList.map ZjU)
 | _=>.dead
def ev (sl:Nat→V):Operand→V
 | .tmp t=>sl t
 | .const v=>ofValue v
 | .func f=>.fn f []
 | .global _=>.dead
def typed (tab:Tab) (t:TypeId) (v:V):V:=V.casesOn (motive_1:=fun _=>V) v v (fun _ _=>v) (fun _=>v) (fun _=>v) (fun _=>v) (fun _=>v) (fun T=>match (tab t).bind (·.elem) with | some e=>.nil e | none=>.nil T) (fun _ _ _ _=>v) (fun _ _=>v) (fun _ _=>v) (fun _ _ _=>v) (fun _ _=>v) (fun _ _=>v) (fun _ _ _=>v) (fun _ _=>v) (fun _ _=>v) (fun _ _=>v) (fun _=>v) v (fun _ _=>v) (fun _ _ _=>v)
def Z2 (tab:Tab):List Ck→List V→List V
 | .sl T :: ks, .nil _ :: vs=>.nil T :: Z2 tab ks vs
 | _ :: ks,v :: vs=>v :: Z2 tab ks vs
 | _,vs=>vs
def Z6 (cs:List V) (off:Nat) (vs:List V):List V:=cs.take off++vs++cs.drop (off+vs.length)
def Zd1 (Zbx:Nat→Option (Nat×Nat)) (cs:List V):List (Nat×V)→Option (List V)
 | []=>some cs
 | (i,v) :: r=>match Zbx i with
  | none=>none
  | some (off,n)=>if v.cells.length=n∧off+n≤cs.length then Zd1 Zbx (Z6 cs off v.cells) r else none
def lenV:V→RM V
 | .sl id _ off len=>match len with
  | some n=>ret (.int .i64 (n:Int))
  | none=>bind (get id) fun b=>match b with
   | .row _ _ els=>ret (V.int .i64 ((els.length-off:Nat):Int))
   | .drow _ els=>ret (V.int .i64 ((els.length-off:Nat):Int))
   | .hrow _ els _ _ _=>ret (V.int .i64 ((els.length-off:Nat):Int))
   | .grow _ els=>ret (V.int .i64 ((els.length-off:Nat):Int))
   | _=>fail
 | .inl _ l=>ret (.int .i64 (l.length:Int))
 | .nil _=>ret (.int .i64 0)
 | .str l=>ret (.int .i64 (l.length:Int))
 | _=>fail
def ZeC (e:TypeId) (ty:Ty):V→RM (List V)
 | .sl id _ off len=>bind (get id) fun b=>match b with
  | .row T _ els=>test (decide (T=e)) (ret (cut els off len))
  | _=>fail
 | .inl T l=>test (decide (T=e)) (ret l)
 | .nil _=>ret []
 | .str l=>test (decide (ty.kinds=[.int .u8]) && !ty.agg) (ret l)
 | _=>fail
def arith (op:BinOp) (k:IntKind) (a b:Int):Option V:=
 match op with
 | .add=>some (.int k (k.wrap (a+b)))
 | .sub=>some (.int k (k.wrap (a-b)))
 | .mul=>some (.int k (k.wrap (a*b)))
 | .eql=>some (.bool (decide (a=b)))
 | .neq=>some (.bool (!decide (a=b)))
 | .lss=>some (.bool (decide (a<b)))
 | .leq=>some (.bool (decide (a≤b)))
 | .gtr=>some (.bool (decide (b<a)))
 | .geq=>some (.bool (decide (b≤a)))
 | _=>none
def divs (op:BinOp) (k:IntKind) (a b:Int):Option V:=
 if b=0 then none else
 match op with
 | .quo=>some (.int k (k.wrap (a.tdiv b)))
 | .rem=>some (.int k (a.tmod b))
 | _=>none
def bits (op:BinOp) (k:IntKind) (a b:Int):Option V:=
 let x:=BitVec.ofInt k.bits a
 let y:=BitVec.ofInt k.bits b
 match op with
 | .and=>some (.int k (k.wrap ((x &&& y).toNat:Int)))
 | .or=>some (.int k (k.wrap ((x ||| y).toNat:Int)))
 | .xor=>some (.int k (k.wrap ((x ^^^ y).toNat:Int)))
 | .andNot=>some (.int k (k.wrap ((x &&& ~~~y).toNat:Int)))
 | _=>none
def ZjV (op:BinOp) (k:IntKind) (a b:Int):Option V:=
 if b<0 then none else
 match op with
 | .shl=>some (.int k (k.wrap (a*2 ^ (min b.toNat k.bits))))
 | .shr=>some (.int k (a.fdiv (2 ^ (min b.toNat k.bits))))
 | _=>none
def ZbF:List V→List V→Bool
 | [],[]=>true
 | a :: x,b :: y=>decide (a.I=b.I)&&ZbF x y
 | _,_=>false
def ZcV:List V→List V→Bool
 | _,[]=>false
 | [],_ :: _=>true
 | a :: x,b :: y=>decide (a.I<b.I)||(decide (a.I=b.I)&&ZcV x y)
def Zoi (op:BinOp) (a b:List V):Option V:=
 match op with
 | .eql=>some (.bool (ZbF a b))
 | .neq=>some (.bool (!ZbF a b))
 | .lss=>some (.bool (ZcV a b))
 | .leq=>some (.bool (ZcV a b||ZbF a b))
 | .gtr=>some (.bool (!(ZcV a b||ZbF a b)))
 | .geq=>some (.bool (!ZcV a b))
 | _=>none
def ZjW (tab:Tab) (t:TypeId):Bool:=
 match tab t with
 | some ⟨[.bool],false,_,_,_⟩=>true
 | _=>false
def Zoj:Ck→Bool
 | .int .u64=>false
 | .int _=>true
 | .bool=>true
 | .str=>true
 | _=>false
def eqTy (ty:Ty):Bool:=ty.agg&&(ty.kinds.all Zoj&&decide (ty.fields.map (·.1)=List.range ty.kinds.length))
def ZjX (ty:Ty):Bool:=ty.agg&&(ty.kinds.all Zoj&&(decide (ty.fields.map (·.1)=[0,1,2])&&decide (ty.kinds.length=4)))
def eqC:Ck→V→V→Option Bool
 | .int _, .int k a, .int k' b=>if k=k' then some (decide (a=b)) else none
 | .bool, .bool a, .bool b=>some (a == b)
 | .str, .str a, .str b=>some (ZbF a b)
 | _,_,_=>none
def Zdi:List Ck→List V→List V→Option Bool
 | [],[],[]=>some true
 | k :: ks,x :: xs,y :: ys=>
  match eqC k x y with
  | some b=>match ks with
   | []=>match xs,ys with
    | [],[]=>some b
    | _,_=>none
   | _ :: _=>match Zdi ks xs ys with
    | some r=>some (b&&r)
    | none=>none
  | none=>none
 | _,_,_=>none
def ZjY (op:BinOp) (b:Bool):Option V:=
 match op with
 | .eql=>some (.bool b)
 | .neq=>some (.bool (!b))
 | _=>none
def Zek (tab:Tab) (t:TypeId) (op:BinOp) (x y:V):Option V:=
 match x,y with
 | .agg xs, .agg ys=>match tab t with
  | some ty=>if eqTy ty||ZjX ty then(match Zdi ty.kinds xs ys with
   | some b=>ZjY op b
   | none=>none) else none
  | none=>none
 | .int k a, .int k' b=>
  match op with
  | .shl | .shr=>ZjV op k a b
  | .quo | .rem=>if k=k' then divs op k a b else none
  | .and | .or | .xor | .andNot=>if k=k' then bits op k a b else none
  | _=>if k=k' then arith op k a b else none
 | .str a, .str b=>Zoi op a b
 | .bool a, .bool b=>
  match op with
  | .eql=>if ZjW tab t then some (.bool (a == b)) else none
  | .neq=>if ZjW tab t then some (.bool (!(a == b))) else none
  | _=>none
 | _,_=>none
def Zhm (op:BinOp) (y:V):Bool:=
 match op,y with
 | .quo, .int _ b=>!decide (b=0)
 | .rem, .int _ b=>!decide (b=0)
 | .shl, .int _ b=>!decide (b<0)
 | .shr, .int _ b=>!decide (b<0)
 | _,_=>true
def binL (tab:Tab) (t:TypeId) (op:BinOp) (x y:V):Option V:=
 match op,x,y with
 | .quo, .int k a, .int k' b=>if k=k' then some (.int k (k.wrap (a.tdiv b))) else none
 | .rem, .int k a, .int k' b=>if k=k' then some (.int k (a.tmod b)) else none
 | .shl, .int k a, .int _ b=>some (.int k (k.wrap (a*2 ^ (min b.toNat k.bits))))
 | .shr, .int k a, .int _ b=>some (.int k (a.fdiv (2 ^ (min b.toNat k.bits))))
 | op,x,y=>Zek tab t op x y
def nilV (op:BinOp) (x:V):Option V:=
 match op,x with
 | .eql, .nl _=>some (.bool true)
 | .eql, .nn _ _=>some (.bool false)
 | .neq, .nl _=>some (.bool false)
 | .neq, .nn _ _=>some (.bool true)
 | _,_=>none
def ZjZ:Operand→Bool
 | .const (.slice none 0 0)=>true
 | _=>false
def unV (op:UnOp) (x:V):Option V:=
 match op,x with
 | .not, .bool b=>some (.bool (!b))
 | .neg, .int k n=>some (.int k (k.wrap (0-n)))
 | _,_=>none
def ZeP (ty:Ty) (cs:List V) (off:Nat):Option V:=
 if off+ty.kinds.length≤cs.length∧0<ty.kinds.length then some (mk ty.agg ((cs.drop off).take ty.kinds.length)) else none
def Zgx (tab:Tab) (t:TypeId) (p:V):RM V:=
 bind (lift (tab t)) fun ty=>
 match p with
 | .bp id off=>bind (get id) fun b=>match b with
  | .box _ cs=>lift (ZeP ty cs off)
  | _=>fail
 | .rp id idx off=>bind (get id) fun b=>match b with
  | .row T _ els=>bind (lift (tab T)) fun tyT=>lift (ZeP ty (Zau tyT.kinds (els.getD idx .dead) 0) off)
  | .grow _ cs=>lift (ZeP ty [cs.getD idx .dead] off)
  | _=>fail
 | .ep cs off=>lift (ZeP ty cs off)
 | _=>fail
def ZV (ks:List Ck) (x:V):List V:=Zau ks x 0
def kindB:Ck→V→Bool
 | .int k, .int k' _=>decide (k'=k)
 | .bool, .bool _=>true
 | .str, .str _=>true
 | .sl T, .inl T' _=>decide (T'=T)
 | _,_=>false
def ZdP:List Ck→List V→Bool
 | [],[]=>true
 | k :: ks,v :: vs=>kindB k v&&ZdP ks vs
 | _,_=>false
def Zg3 (tab:Tab) (t:TypeId) (p v:V):RM (List (Nat×Option Blk)):=
 bind (lift (tab t)) fun ty=>
 test (decide (v.cells.length=ty.kinds.length)&&v.cells.all V.one) <|
 match p with
 | .bp id off=>bind (get id) fun b=>match b with
  | .box T cs=>test (decide (off+v.cells.length≤cs.length)) (ret [(id,some (.box T (Z6 cs off (Z2 tab ty.kinds v.cells))))])
  | _=>fail
 | .rp id idx off=>bind (get id) fun b=>match b with
  | .row T own els=>bind (lift (tab T)) fun tyT=>bind (Zg2 tab v.cells) fun r=>
   test (decide (off+v.cells.length≤tyT.kinds.length)&&ZbX (id :: r.2.2)&&ZdP ((tyT.kinds.drop off).take v.cells.length) r.1)
    (ret (ended r.2.2++[(id,some (.row T (own&&r.2.1) (els.set idx (mk tyT.agg (Z6 (ZV tyT.kinds (els.getD idx .dead)) off r.1)))))]))
  | _=>fail
 | _=>fail
def Zj0 (tab:Tab) (t:TypeId) (x:V) (f:Nat):Option V:=
 (tab t).bind fun ty=>ty.fields[f]?.bind fun fd=>(tab fd.2).bind fun _=>
 match x with
 | .bp id off=>some (.bp id (off+fd.1))
 | .rp id idx off=>some (.rp id idx (off+fd.1))
 | .ep cs off=>some (.ep cs (off+fd.1))
 | _=>none
def ZiN (tab:Tab) (t:TypeId) (x:V) (f:Nat):Option V:=
 (tab t).bind fun ty=>ty.fields[f]?.bind fun fd=>
 match x with
 | .agg cs=>(tab fd.2).bind fun ft=>ZeP ft cs fd.1
 | _=>none
def Zn (i:Int) (n:Nat):Bool:=decide (0≤i)&&decide (i<(n:Int))
def Zec (tab:Tab) (t:TypeId) (x i:V):RM V:=
 bind (lift ((tab t).bind (·.elem))) fun e=>bind (lift (tab e)) fun ty=>
 match x,i with
 | .sl id _ off len, .int _ n=>bind (get id) fun b=>match b with
  | .row T _ els=>test (decide (T=e)&&Zn n ((cut els off len).length)) (ret (V.rp id (off+n.toNat) 0))
  | .drow T els=>test (decide (T=e)&&Zn n ((cut els off len).length)) (ret (V.rp id (off+n.toNat) 0))
  | .hrow T els _ _ _=>test (decide (T=e)&&Zn n ((cut els off len).length)) (ret (V.rp id (off+n.toNat) 0))
  | .grow T els=>test (decide (T=e)&&Zn n ((cut els off len).length)) (ret (V.rp id (off+n.toNat) 0))
  | _=>fail
 | .inl T l, .int _ n=>test (decide (T=e)&&Zn n l.length) (ret (V.ep (Zau ty.kinds (l.getD n.toNat .dead) 0) 0))
 | _,_=>fail
def ZdI (dflt:Nat) (top:Nat):Option V→RM Nat
 | none=>ret dflt
 | some (.int _ n)=>test (decide (0≤n)&&decide (n≤(top:Int))) (ret n.toNat)
 | _=>fail
def Zj1:V→Bool
 | .int _ n=>decide (n=0)
 | _=>false
def Zmj (ty:Ty):Option V→Bool
 | none=>false
 | some _=>!ty.kinds.all Ck.flat
def Zh4 (tab:Tab) (t:TypeId) (x:V) (lo hi mx:Option V):RM V:=
 bind (lift ((tab t).bind (·.elem))) fun e=>bind (lift (tab e)) fun ty=>
 match mx with
 | some m=>match hi,lo with
  | some h,none=>test (Zj1 m&&Zj1 h) <| match x with
   | .inl T _=>test (decide (T=e)) (ret (V.nil T))
   | .sl _ T _ _=>test (decide (T=e)) (ret (V.nil T))
   | .nil T=>ret (.nil T)
   | _=>fail
  | _,_=>fail
 | none=>
  match x with
  | .sl id T off len=>bind (get id) fun b=>match b with
   | .row T' _ els=>
    let n:=(cut els off len).length
    test (decide (T'=e)) <|
    bind (ZdI n n hi) fun h=>bind (ZdI 0 h lo) fun l=>
    ret (match hi,len with
     | none,none=>V.sl id T (off+l) (bif Zmj ty lo then some (h-l) else none)
     | _,_=>V.sl id T (off+l) (some (h-l)))
   | _=>fail
  | .inl T els=>test (decide (T=e)) <|
    bind (ZdI els.length els.length hi) fun h=>bind (ZdI 0 h lo) fun l=>
    ret (match hi with
     | none=>V.inl T (els.drop l)
     | some _=>V.inl T ((els.drop l).take (h-l)))
  | .nil T=>bind (ZdI 0 0 hi) fun h=>bind (ZdI 0 h lo) fun _=>ret (V.nil T)
  | _=>fail
def Zfx (tab:Tab) (t:TypeId) (x:V) (lo hi mx:Option V):RM V:=
 match x with
 | .str els=>match mx with
  | some _=>fail
  | none=>bind (lift (tab t)) fun ty=>test (decide (ty.kinds=[.str]) && !ty.agg) <|
    bind (ZdI els.length els.length hi) fun h=>bind (ZdI 0 h lo) fun l=>
    ret (V.str ((els.drop l).take (h-l)))
 | x=>Zh4 tab t x lo hi mx
def Zv (n bytes:Nat):Bool:=decide (n≤9223372036854775807)&&decide (n*bytes≤140737488355328)
def isSeq (tab:Tab) (t:TypeId):Bool:=
 match tab t with
 | some ⟨[.sl _],false,_,_,_⟩=>true
 | some ⟨[.str],false,_,_,_⟩=>true
 | _=>false
def baseV (e:TypeId):V→RM (List V×Bool×List Nat)
 | .nil _=>ret ([],true,[])
 | .sl id _ off len=>match off with
  | 0=>bind (get id) fun b=>match b with
   | .row T own els=>test (decide (T=e)) (ret (cut els 0 len,own,[id]))
   | _=>fail
  | _=>fail
 | _=>fail
def Zj2 (e:TypeId) (ty:Ty) (x:V):RM (List V×Bool×List Nat):=
 if ty.kinds.all Ck.flat then bind (ZeC e ty x) fun r=>ret (r,true,[])
 else match x with
  | .sl id _ off len=>bind (get id) fun b=>match b with
   | .row T own els=>test (decide (T=e)) (match len,off with
    | none,0=>ret (els,own,[id])
    | _,_=>ret (cut els off len,false,[]))
   | _=>fail
  | .inl T l=>test (decide (T=e)) (ret (l,false,[]))
  | .nil _=>ret ([],true,[])
  | _=>fail
def Ze5 (tab:Tab) (t t2:TypeId) (nid:Nat) (s x:V):RM Eff:=
 bind (lift ((tab t).bind (·.elem))) fun e=>bind (lift (tab e)) fun ty=>
 bind (baseV e s) fun base=>
 bind (Zj2 e ty x) fun more=>
 test (isSeq tab t2&&(Zv (base.1.length+more.1.length) ty.bytes&&ZbX (base.2.2++more.2.2)))
  (ret ⟨.sl nid e 0 none,ended (base.2.2++more.2.2)++[(nid,some (.row e (base.2.1&&more.2.1) (base.1++more.1)))]⟩)
def Zj3 (tab:Tab) (t:TypeId) (d s:V):RM Eff:=
 bind (lift ((tab t).bind (·.elem))) fun e=>bind (lift (tab e)) fun ty=>
 test (ty.kinds.all Ck.flat) <|
 match d with
 | .sl id _ off len=>bind (get id) fun b=>match b with
  | .row T own els=>bind (ZeC e ty s) fun r=>
   let n:=min r.length (cut els off len).length
   test (decide (T=e)) (ret ⟨.int .i64 (n:Int),[(id,some (.row T own (els.take off++r.take n++els.drop (off+n))))]⟩)
  | _=>fail
 | _=>fail
def ZdQ:Ck→V
 | .sl T=>.inl T []
 | k=>ZcJ k
def ZdJ (ty:Ty):V:=mk ty.agg (ty.kinds.map ZdQ)
def Zga (tab:Tab) (ty:Ty):Bool:=ty.kinds.all fun k=>match k with
 | .ptr=>false
 | .fn=>false
 | .other=>false
 | .sl T=>(tab T).isSome
 | _=>true
def Zh5 (tab:Tab) (t:TypeId) (d:V):RM Eff:=
 bind (lift ((tab t).bind (·.elem))) fun e=>bind (lift (tab e)) fun ty=>
 match d with
 | .sl id _ off len=>bind (get id) fun b=>match b with
  | .row T own els=>
   let n:=(cut els off len).length
   test (decide (T=e)&&Zga tab ty) <| ret ⟨.tup [],[(id,some (.row T own (els.take off++List.replicate n (ZdJ ty)++els.drop (off+n))))]⟩
  | _=>fail
 | .nil _=>ret ⟨.tup [],[]⟩
 | _=>fail
def Zdy (tab:Tab) (t:TypeId) (nid:Nat) (n c:V):RM Eff:=
 bind (lift ((tab t).bind (·.elem))) fun e=>bind (lift (tab e)) fun ty=>
 match n,c with
 | .int _ a, .int _ b=>test (Zga tab ty&&(decide (0≤a)&&decide (a=b)&&Zv a.toNat ty.bytes))
   (ret ⟨.sl nid e 0 none,[(nid,some (.row e true (List.replicate a.toNat (ZdJ ty))))]⟩)
 | _,_=>fail
def Zct (ev:Operand→V) (ps:Array (Nat×Operand)):List (Nat×V):=ps.toList.map fun p=>(p.1,ev p.2)
def Ze6 (tab:Tab) (ty:Ty):List V→List (Nat×V)→RM (List V×Bool×List Nat)
 | acc,[]=>ret (acc,true,[])
 | acc,(i,v) :: r=>bind (Zg2 tab v.cells) fun a=>
   test (decide (i<acc.length)&&(v.cells.all V.one&&ZdP ty.kinds a.1)) <|
   bind (Ze6 tab ty (acc.set i (mk ty.agg a.1)) r) fun q=>ret (q.1,a.2.1&&q.2.1,a.2.2++q.2.2)
def inner (off:Nat):V→V
 | .rf T cs=>.ro T off cs
 | v=>v
def Zg4 (id:Nat):Nat→RM (V×List Nat)
 | 0=>Zdh .rf (.bp id 0)
 | off+1=>bind (Zdh .rf (.bp id 0)) fun a=>ret (inner (off+1) a.1,a.2)
def argV (w q:Bool) (v:V):RM (V×List Nat×List Nat):=
 match v with
 | .bp id off=>match q with
  | true=>bind (ZdO (.bp id off)) fun a=>ret (a.1,[],a.2)
  | false=>bind (Zg4 id off) fun a=>ret (a.1,a.2,[])
 | .sl _ _ off len=>match w,off,len with
  | true,0,none=>bind (Zb3 v) fun a=>ret (a.1,a.2,[])
  | _,_,_=>bind (ZdW v) fun a=>ret (a.1,[],a.2)
 | .agg cs=>match w with
  | true=>bind (Zb2 Zb3 cs) fun r=>ret (V.agg r.1,r.2,[])
  | false=>bind (ZfJ v) fun a=>ret (a.1,[],a.2)
 | v=>bind (ZfJ v) fun a=>ret (a.1,[],a.2)
def Zj4 (w q:Bool):List V→RM (List V×List Nat×List Nat)
 | []=>ret ([],[],[])
 | v :: vs=>bind (argV w q v) fun a=>bind (Zj4 w q vs) fun r=>ret (a.1 :: r.1,a.2.1++r.2.1,a.2.2++r.2.2)
def Zdf:List V→List Nat
 | []=>[]
 | .sl id _ off len :: r=>(match off,len with | 0,none=>[id] | _,_=>[])++Zdf r
 | _ :: r=>Zdf r
def lent (w q:Bool):V→List Nat
 | .bp id _=>match q with | true=>[] | false=>[id]
 | .sl id T off len=>match w with | true=>Zdf [.sl id T off len] | false=>[]
 | .agg cs=>match w with | true=>Zdf cs | false=>[]
 | _=>[]
def ZdK:V→Bool
 | .rr _ own _=>!own
 | .dead=>false
 | .int _ _=>false
 | .bool _=>false
 | .str _=>false
 | .nil _=>false
 | _=>true
def ZcN:V→Bool
 | .agg cs=>cs.any ZdK
 | .nb _ cs=>cs.any ZdK
 | .rf _ cs=>cs.any ZdK
 | .ro _ _ cs=>cs.any ZdK
 | v=>ZdK v
def ZeQ:V→Bool
 | .tup vs=>vs.any ZcN
 | v=>ZcN v
def Zcf (nid:Nat):List Nat→List V→Option (List (Nat×Option Blk)×Nat)
 | [],[]=>some ([],nid)
 | id :: r,o :: os=>
  match o with
  | .rf T cs=>
   let a:=ZaC ZaX nid cs
   (Zcf (nid+a.2.length) r os).map fun q=>((id,some (.box T a.1)) :: ZcU nid a.2++q.1,q.2)
  | .rr T own l=>(Zcf nid r os).map fun q=>((id,some (.row T own l)) :: q.1,q.2)
  | .dr T l=>(Zcf nid r os).map fun q=>((id,some (.drow T l)) :: q.1,q.2)
  | .dead=>Zcf nid r os
  | _=>none
 | _,_=>none
def Zgb:Blk→Blk
 | .row T true els=>.drow T els
 | b=>b
def nrmT (tab:Tab) (T:TypeId):V:=match tab T with
 | some _=>.inl T []
 | none=>.nil T
def nrm1 (tab:Tab):V→V
 | .nil T=>nrmT tab T
 | v=>v
def nrmO (tab:Tab):V→V
 | .nil T=>match tab T with
  | some _=>.rr T true []
  | none=>.nil T
 | v=>v
def nrmC (tab:Tab):V→V
 | .ep cs off=>.ep (cs.map (nrm1 tab)) off
 | v=>v
def nrmA (tab:Tab) (e:Option TypeId):V→V
 | .nil T=>nrmT tab (e.getD T)
 | .agg cs=>.agg (cs.map (nrm1 tab))
 | .rf T cs=>.rf T (cs.map (nrmO tab))
 | .ro T off cs=>.ro T off (cs.map (nrmO tab))
 | .fn f cs=>.fn f (cs.map (nrmC tab))
 | .ep cs off=>.ep (cs.map (nrm1 tab)) off
 | v=>v
def nrmL (tab:Tab):List (Option TypeId)→List V→List V
 | _,[]=>[]
 | [],v :: vs=>nrmA tab none v :: nrmL tab [] vs
 | e :: es,v :: vs=>nrmA tab e v :: nrmL tab es vs
def Zj5 (cfg:Cfg) (nid:Nat) (f:FuncId) (args:List V):RM Eff:=
 let w:=cfg.mutf f
 let q:=cfg.rof f
 bind (Zj4 w q args) fun aw=>
 test (ZbX aw.2.1&&(ZbX (args.flatMap (lent w q))&&aw.2.2.all fun k=>!aw.2.1.contains k)) <|
 bind (lift (cfg.sums f (nrmL cfg.tab (cfg.par f) aw.1))) fun r=>
 test r.1 <|
 let leak:=bif ZeQ r.2.1||r.2.2.any ZcN then aw.2.2 else[]
 bind (lift (Zcf nid (args.flatMap (lent w q)) r.2.2)) fun q=>
 let a:=Zdx q.2 r.2.1
 let bs:=bif cfg.deep&&(aw.2.1.isEmpty && !(ZeQ r.2.1||r.2.2.any ZcN)) then a.2.map Zgb else a.2
 ret ⟨a.1,ended (aw.2.1++leak)++(q.1++ZcU q.2 bs)⟩
def ZaS (x:V):V:=.int .u8 ((x.I.toNat % 256:Nat):Int)
def Zj6:List Ck→Option IntKind
 | [.int k]=>some k
 | _=>none
def Zj7:List Ck→Option TypeId
 | [.sl e]=>some e
 | _=>none
def Zgy (tab:Tab) (src dst:TypeId) (x:V):RM V:=
 bind (lift (tab src)) fun s=>bind (lift (tab dst)) fun d=>
 match x with
 | .int _ n=>bind (lift (Zj6 s.kinds)) fun _=>bind (lift (Zj6 d.kinds)) fun k=>test (!s.agg && !d.agg) (ret (V.int k (k.wrap n)))
 | .str _=>fail
 | x=>bind (lift (Zj7 s.kinds)) fun e=>bind (lift (tab e)) fun et=>
   test (!s.agg&&(!d.agg&&(!et.agg&&(decide (d.kinds=[.str])&&decide (et.kinds=[.int .u8]))))) (bind (ZeC e et x) fun r=>ret (V.str (r.map ZaS)))
def ZjB (tab:Tab) (src dst:TypeId) (l:List V):RM Eff:=
 bind (lift (tab src)) fun s=>bind (lift ((tab dst).bind (·.elem))) fun e=>bind (lift (tab e)) fun et=>
  test (!s.agg&&(decide (s.kinds=[.str])&&(!et.agg&&decide (et.kinds=[.int .u8])))) (ret ⟨.inl e l,[]⟩)
def ownCv:FuncId:=1000000007
def Zgz (tab:Tab) (nid:Nat) (src dst:TypeId) (l:List V):RM Eff:=
 bind (lift (tab src)) fun s=>bind (lift ((tab dst).bind (·.elem))) fun e=>bind (lift (tab e)) fun et=>
  test (!s.agg&&(decide (s.kinds=[.str])&&(!et.agg&&(decide (et.kinds=[.int .u8])&&Nat.beq e ZbJ)))) (test (Zv l.length 1) (ret ⟨.sl nid e 0 none,[(nid,some (.row e true l))]⟩))
def slDst (tab:Tab) (d:TypeId):Bool:=match tab d with
 | some ⟨[.sl _],false,_,_,_⟩=>true
 | _=>false
def Zh6 (tab:Tab) (src dst:TypeId) (id:Nat):RM Eff:=
 bind (lift (tab src)) fun s=>bind (lift (Zj7 s.kinds)) fun e=>bind (lift (tab e)) fun et=>bind (get id) fun b=>match b with
  | .row T own els=>test (Nat.beq src dst&&(!s.agg&&(!et.agg&&(decide (et.kinds=[.int .u8])&&(decide (T=e) && !els.isEmpty))))) (ret ⟨.inl e els,[(id,none)]⟩)
  | _=>fail
def lenTy (ty:Ty) (x:V):Bool:=
 !ty.agg&&match x with
 | .str _=>(match ty.kinds with | [.str]=>true | _=>false)
 | _=>(match ty.kinds with | [.sl _]=>true | _=>false)
def isStr (tab:Tab) (t:TypeId):Bool:=
 match tab t with
 | some ⟨[.str],false,_,_,_⟩=>true
 | _=>false
def ZeD (cfg:Cfg) (nid:Nat) (b:Builtin) (ts:List TypeId) (args:List V):RM Eff:=
 match b,ts,args with
 | .len,[t],[x]=>bind (lift (cfg.tab t)) fun ty=>test (lenTy ty x) (bind (lenV x) fun v=>ret ⟨v,[]⟩)
 | .append,[t,t2],[s,x]=>Ze5 cfg.tab t t2 nid s x
 | .copy,[t,_],[d,s]=>Zj3 cfg.tab t d s
 | .clear,[t],[d]=>Zh5 cfg.tab t d
 | .min,_,[.int k a, .int k' b]=>test (decide (k=k')) (ret ⟨.int k (if b<a then b else a),[]⟩)
 | .max,_,[.int k a, .int k' b]=>test (decide (k=k')) (ret ⟨.int k (if a<b then b else a),[]⟩)
 | _,_,_=>fail
def ZW (hp:ZaG):List (Nat×Option Blk)→ZaG
 | []=>hp
 | (id,b) :: r=>ZW (fun i=>if i=id then some b else hp i) r
def RM.on {α:Type} (u:List (Nat×Option Blk)) (m:RM α):RM α:=⟨fun h=>m.run (ZW h u)⟩
def Zed (ks:List Ck) (agg:Bool) (els:List V) (idx off:Nat) (v:V):List V:=els.set idx (mk agg (Z6 (ZV ks (els.getD idx .dead)) off [v]))
def Zj8 (tab:Tab) (id:Nat):RM (List (Nat×Option Blk)):=
 bind (get id) fun b=>match b with
 | .hrow T els idx off j=>bind (lift (tab T)) fun ty=>bind (get j) fun c=>match c with
  | .drow T' l=>test (decide (j≠id)) (ret [(j,none),(id,some (.drow T (Zed ty.kinds ty.agg els idx off (.inl T' l))))])
  | _=>fail
 | _=>ret []
def ZiO (tab:Tab) (nid:Nat) (t:TypeId) (p:V):RM Eff:=
 match p with
 | .rp id idx off=>bind (Zj8 tab id) fun u=>RM.on u <| bind (get id) fun b=>match b with
  | .drow T els=>bind (lift (tab T)) fun tyT=>bind (lift (tab t)) fun ty=>
   match ty.kinds with
   | [.sl e]=>test (!ty.agg&&(decide (tyT.kinds[off]? = some (.sl e))&&decide (nid≠id))) (ret ⟨.sl nid e 0 none,u++[(nid,some (.drow e ((els.getD idx .dead).cell off).L)),(id,some (.hrow T els idx off nid))]⟩)
   | _=>test (((tyT.kinds.drop off).take ty.kinds.length).all Ck.flat) (bind (lift (ZeP ty (Zau tyT.kinds (els.getD idx .dead) 0) off)) fun v=>ret ⟨v,u⟩)
  | _=>bind (Zgx tab t p) fun v=>ret ⟨v,u⟩
 | _=>bind (Zgx tab t p) fun v=>ret ⟨v,[]⟩
def Zgc (tab:Tab) (t:TypeId) (p v:V):RM (List (Nat×Option Blk)):=
 match p with
 | .rp id idx off=>bind (Zj8 tab id) fun u=>RM.on u <| bind (get id) fun b=>match b with
  | .drow T els=>bind (lift (tab T)) fun tyT=>bind (lift (tab t)) fun ty=>
   test (decide (v.cells.length=ty.kinds.length)&&v.cells.all V.one) <|
   test (decide (off+v.cells.length≤tyT.kinds.length)&&(((tyT.kinds.drop off).take v.cells.length).all Ck.flat&&ZdP ((tyT.kinds.drop off).take v.cells.length) v.cells))
    (ret (u++[(id,some (.drow T (els.set idx (mk tyT.agg (Z6 (ZV tyT.kinds (els.getD idx .dead)) off v.cells)))))]))
  | _=>bind (Zg3 tab t p v) fun w=>ret (u++w)
 | _=>Zg3 tab t p v
def sft (e:Operand→V) (x:Operand):V:=(e x).soft
def ZbR (cfg:Cfg) (nid:Nat) (o:Oper) (ev0:Operand→V):RM Eff:=
 let v1 (m:RM V):RM Eff:=bind m fun v=>ret ⟨v,[]⟩
 let ev:=sft ev0
 match o.op with
 | .move x | .assign x=>ret ⟨typed cfg.tab o.type (ev0 x),[]⟩
 | .pick c a b=>match ev c with
  | .bool t=>ret ⟨if t then ev a else ev b,[]⟩
  | _=>fail
 | .alloc T=>bind (lift (cfg.tab T)) fun ty=>ret ⟨.bp nid 0,[(nid,some (.box T (ty.kinds.map ZcJ)))]⟩
 | .box T x=>bind (lift (cfg.tab T)) fun ty=>
   test (decide ((ev x).cells.length=ty.kinds.length)&&(ev x).cells.all V.one) (ret ⟨.bp nid 0,[(nid,some (.box T (Z2 cfg.tab ty.kinds (ev x).cells)))]⟩)
 | .build T ps=>bind (lift (cfg.tab T)) fun ty=>
   bind (lift (Zd1 (fun i=>ty.fields[i]?.bind fun fd=>(cfg.tab fd.2).map fun ft=>(fd.1,ft.kinds.length)) (ty.kinds.map ZcJ) (Zct ev ps))) fun cs=>
   test (ty.agg&&(Zct ev ps).all fun p=>p.2.cells.all V.one) (ret ⟨.agg (Z2 cfg.tab ty.kinds cs),[]⟩)
 | .buildSlice t n ps=>bind (lift ((cfg.tab t).bind (·.elem))) fun e=>bind (lift (cfg.tab e)) fun ty=>
   test (Zga cfg.tab ty&&decide (n*ty.kinds.length≤16777216)) <|
   bind (Ze6 cfg.tab ty (List.replicate n (ZdJ ty)) (Zct ev ps)) fun r=>test (ZbX r.2.2) (ret ⟨.sl nid e 0 none,ended r.2.2++[(nid,some (.row e r.2.1 r.1))]⟩)
 | .load t p=>ZiO cfg.tab nid t (ev p)
 | .store t p x=>bind (Zgc cfg.tab t (ev p) (ev x)) fun u=>ret ⟨.dead,u⟩
 | .nilCheck x=>match ev x with
  | .bp id off=>ret ⟨.bp id off,[]⟩
  | .rp id i off=>ret ⟨.rp id i off,[]⟩
  | .ep cs off=>ret ⟨.ep cs off,[]⟩
  | .fn f caps=>ret ⟨.fn f caps,[]⟩
  | _=>fail
 | .binOp op t x y _=>match ZjZ y with
  | true=>bind (lift ((cfg.tab t).bind (·.elem))) fun _=>v1 (lift (nilV op (ev0 x)))
  | false=>test (Zhm op (ev y)) (v1 (lift (binL cfg.tab t op (ev x) (ev y))))
 | .unOp op _ x=>v1 (lift (unV op (ev x)))
 | .convert s d x=>match ev x with
  | .str l=>match cfg.rof ownCv with
   | true=>Zgz cfg.tab nid s d l
   | false=>ZjB cfg.tab s d l
  | .sl id T 0 none=>match slDst cfg.tab d with
   | true=>Zh6 cfg.tab s d id
   | false=>v1 (Zgy cfg.tab s d (.sl id T 0 none))
  | y=>v1 (Zgy cfg.tab s d y)
 | .makeFunc (.func f) first captured=>test first.toList.isEmpty (ret ⟨.fn f (captured.toList.map ev),[]⟩)
 | .makeSlice t n c=>Zdy cfg.tab t nid (ev n) (ev c)
 | .slice t x lo hi mx=>v1 (Zfx cfg.tab t (ev x) (lo.map ev) (hi.map ev) (mx.map ev))
 | .fieldAddr t x f=>v1 (lift (Zj0 cfg.tab t (ev x) f))
 | .field t x f=>v1 (lift (ZiN cfg.tab t (ev x) f))
 | .indexAddr t x i=>v1 (Zec cfg.tab t (ev x) (ev i))
 | .index t x i=>match ev x,ev i with
  | .str l, .int _ n=>test (isStr cfg.tab t&&Zn n l.length) (ret ⟨.int .u8 (l.getD n.toNat .dead).I,[]⟩)
  | _,_=>fail
 | .extract x i=>match ev x with
  | .tup vs=>v1 (lift vs[i]?)
  | _=>fail
 | .call c=>match c.callee with
  | .builtin b=>ZeD cfg nid b c.argTypes.toList (c.args.toList.map ev)
  | .value f=>match ev f with
   | .fn g caps=>Zj5 cfg nid g (c.args.toList.map ev++caps)
   | _=>fail
  | _=>fail
 | _=>fail
structure St where
 sl:List (Nat×V)
 hp:List (Nat×Option Blk)
 nid:Nat
 lent:List Nat
 deriving Inhabited
def look {α:Type} (l:List (Nat×α)) (u:Nat):Option α:=List.rec none (fun p _ ih=>bif Nat.beq p.1 u then some p.2 else ih) l
theorem Zgd {α:Type} (u:Nat):look ([]:List (Nat×α)) u=none:=rfl
def St.slot (s:St) (t:Nat):V:=(look s.sl t).getD .dead
def St.heap (s:St):ZaG:=look s.hp
def St.ev (s:St):Operand→V:=Eng.ev s.slot
def St.put (s:St):Option Nat→V→St
 | some d,v=>{ s with sl:=(d,v) :: s.sl }
 | none,_=>s
def Zg5 (h:List (Nat×Option Blk)):List (Nat×Option Blk)→List (Nat×Option Blk)
 | []=>h
 | p :: r=>Zg5 (p :: h) r
def ZcW (nid:Nat):List (Nat×Option Blk)→Nat
 | []=>nid
 | p :: r=>ZcW (bif Nat.ble nid p.1 then p.1+1 else nid) r
def St.app (s:St) (dst:Option Nat) (E:Eff):St:=
 {sl:=(match dst with | some d=>(d,E.v) :: s.sl | none=>s.sl),hp:=Zg5 s.hp E.upd,nid:=ZcW s.nid E.upd,lent:=s.lent }
structure Rec where
 log:List Nat
 mods:List Nat
 all:Bool
section
variable {X:Type}
def Zge:List Bool→Option X→Option X
 | [],x=>x
 | b :: r,x=>bif b then Zge r x else none
def ZeI (cfg:Cfg) (o:Oper) (s:St) (tr:List Rec) (k:St→List Rec→Option X):Option X:=
 match (ZbR cfg s.nid o s.ev).run s.heap with
 | some (E,log,c)=>Zge c (k (s.app o.dst E) (⟨log,E.upd.map (·.1),false⟩ :: tr))
 | none=>none
def Zd2 (cfg:Cfg) (o:Oper) (s:St) (tr:List Rec) (k:St→List Rec→Option X):Option X:=
 match o.op with
 | .pick (.tmp c) _ _=>
  match s.slot c with
  | .bool b=>bif b then ZeI cfg o (s.put (some c) (.bool true)) tr k else ZeI cfg o (s.put (some c) (.bool false)) tr k
  | _=>none
 | _=>ZeI cfg o s tr k
def ZbG (cfg:Cfg) (all:List Oper):List Oper→St→List Rec→(St→List Rec→Option X)→Option X
 | [],s,tr,k=>k s tr
 | o :: r,s,tr,k=>
  match o.guard with
  | none=>Zd2 cfg o s tr fun s tr=>ZbG cfg all r s tr k
  | some (j,want)=>
   match all[j]?.bind (·.dst) with
   | none=>none
   | some t=>
    match s.slot t with
    | .bool b=>
     match want with
     | true=>bif b then Zd2 cfg o (s.put (some t) (.bool true)) tr fun s tr=>ZbG cfg all r s tr k
       else ZbG cfg all r ((s.put (some t) (.bool false)).put o.dst .sk) (⟨[],[],false⟩ :: tr) k
     | false=>bif b then ZbG cfg all r ((s.put (some t) (.bool true)).put o.dst .sk) (⟨[],[],false⟩ :: tr) k
       else Zd2 cfg o (s.put (some t) (.bool false)) tr fun s tr=>ZbG cfg all r s tr k
    | .sk=>ZbG cfg all r (s.put o.dst .sk) (⟨[],[],false⟩ :: tr) k
    | _=>none
def ZgA (a b:List Nat):Bool:=a.any fun x=>b.contains x
def Rec.heeds (a:Rec):Bool:=a.all||(!a.log.isEmpty || !a.mods.isEmpty)
def Zee (a b:Rec):Bool:=ZgA a.mods b.log||ZgA a.mods b.mods||ZgA a.log b.mods||((a.all&&b.heeds)||(b.all&&a.heeds))
def Ze7:Nat→List Rec→List (Nat×Rec)
 | _,[]=>[]
 | i,r :: rs=>bif r.heeds then(i,r) :: Ze7 (i+1) rs else Ze7 (i+1) rs
def ZgB (bef:List Nat) (i:Nat) (a:Rec):List (Nat×Rec)→Bool
 | []=>true
 | (j,b) :: r=>((bef.getD j 0).testBit i || !Zee a b)&&ZgB bef i a r
def Zj9 (bef:List Nat):List (Nat×Rec)→Bool
 | []=>true
 | (i,a) :: r=>ZgB bef i a r&&Zj9 bef r
def Zc6 (bef:List Nat) (i:Nat) (tr:List Rec):Bool:=Zj9 bef (Ze7 i tr)
def Zd3 (tr:List Rec):Bool:=tr.all fun a=>a.mods.isEmpty && !a.all
inductive Ex where
 | normal | exit (id:Nat) | ret
 deriving Inhabited
def ids1:V→List Nat
 | .sl id _ _ _=>[id]
 | .bp id _=>[id]
 | .rp id _ _=>[id]
 | _=>[]
def idsV:V→List Nat
 | .agg cs=>cs.flatMap ids1
 | .tup cs=>cs.flatMap ids1
 | .fn _ cs=>cs.flatMap ids1
 | v=>ids1 v
def ZcX (l:List Nat):List Nat→List Nat
 | []=>l
 | x :: r=>bif l.contains x then ZcX l r else ZcX (l++[x]) r
def inside (h:List (Nat×Option Blk)) (id:Nat):List Nat:=
 match look h id with
 | some (some (.box _ cs))=>cs.flatMap ids1
 | _=>[]
def Zbx (ids:List Nat) (id:Nat):Option Nat:=ids.idxOf? id
def Ze8 (ids:List Nat):V→V
 | .sl id T off len=>match Zbx ids id with | some k=>.sl k T off len | none=>.dead
 | .bp id off=>match Zbx ids id with | some k=>.bp k off | none=>.dead
 | .rp id i off=>match Zbx ids id with | some k=>.rp k i off | none=>.dead
 | .agg _=>.dead
 | .tup _=>.dead
 | .fn _ _=>.dead
 | v=>v
def renV (ids:List Nat):V→V
 | .agg cs=>.agg (cs.map (Ze8 ids))
 | .tup cs=>.tup (cs.map (Ze8 ids))
 | .fn f cs=>.fn f (cs.map (Ze8 ids))
 | v=>Ze8 ids v
def ZcA (ids:List Nat):Option (Option Blk)→Option Blk
 | some (some (.box T cs))=>some (.box T (cs.map (Ze8 ids)))
 | some (some (.row T own els))=>some (.row T own els)
 | some (some (.drow T els))=>some (.drow T els)
 | some (some (.grow T cs))=>some (.grow T (cs.map (Ze8 ids)))
 | _=>none
def ZeE:Nat→List (Option Blk)→List (Nat×Option Blk)
 | _,[]=>[]
 | n,b :: r=>(n,b) :: ZeE (n+1) r
def Zg6 (s:St) (id:Nat):St:=
 match look s.hp id with
 | some (some (.row T _ els))=>{ sl:=s.sl,hp:=(id,some (.row T false els)) :: s.hp,nid:=s.nid,lent:=s.lent }
 | _=>s
def ZiP (s:St) (id n:Nat) (own:Bool) (k:V→St→St):St:=
 match look s.hp id with
 | some (some (.row T o els))=>k (.sl s.nid T 0 none) { sl:=s.sl,hp:=(s.nid,some (.row T (o&&own) (els.take n))) :: (id,none) :: s.hp,nid:=s.nid+1,lent:=s.lent }
 | _=>s
def shutS (tab:Tab) (s:St) (id:Nat):St:=
 match look s.hp id with
 | some (some (.hrow T els idx off j))=>match tab T with
  | some ty=>match look s.hp j with
   | some (some (.drow T' l))=>bif Nat.beq j id then s else { sl:=s.sl,hp:=(id,some (.drow T (Zed ty.kinds ty.agg els idx off (.inl T' l)))) :: (j,none) :: s.hp,nid:=s.nid,lent:=s.lent }
   | _=>s
  | none=>s
 | _=>s
def Zef (tab:Tab):St→List Nat→St
 | s,[]=>s
 | s,id :: r=>Zef tab (shutS tab s id) r
structure Fix where
 slot:Nat
 cell:Option Nat
 own:Bool
def Zlb (s:St) (t j:Nat):St:=
 match s.slot t with
 | .bp id _=>match look s.hp id with
  | some (some (.box TT cs))=>match cs.getD j .dead with
   | .sl id2 T off len=>match look s.hp id2 with
    | some (some (.row _ _ els))=>{ sl:=s.sl,hp:=(id,some (.box TT (cs.set j (.inl T (cut els off len))))) :: (id2,none) :: s.hp,nid:=s.nid,lent:=s.lent }
    | _=>s
   | _=>s
  | _=>s
 | .agg cs=>match cs.getD j .dead with
  | .sl id2 T off len=>match look s.hp id2 with
   | some (some (.row _ _ els))=>{ sl:=(t, .agg (cs.set j (.inl T (cut els off len)))) :: s.sl,hp:=(id2,none) :: s.hp,nid:=s.nid,lent:=s.lent }
   | _=>s
  | _=>s
 | .sl id2 T off len=>match look s.hp id2 with
  | some (some (.row _ _ els))=>{ sl:=(t, .inl T (cut els off len)) :: s.sl,hp:=(id2,none) :: s.hp,nid:=s.nid,lent:=s.lent }
  | _=>s
 | _=>s
def Zka (tab:Tab) (s:St) (x:Fix):St:=
 match x.cell with
 | none=>match s.slot x.slot with
  | .nil T=>match tab T with
   | some _=>{ sl:=(x.slot, .sl s.nid T 0 none) :: s.sl,hp:=(s.nid,some (.row T x.own [])) :: s.hp,nid:=s.nid+1,lent:=s.lent }
   | none=>s
  | .sl id _ 0 (some n)=>ZiP s id n x.own fun v s=>{ s with sl:=(x.slot,v) :: s.sl }
  | .sl id _ _ _=>bif x.own then shutS tab s id else Zg6 s id
  | _=>s
 | some j=>match s.slot x.slot with
  | .agg cs=>match cs.getD j .dead with
   | .nil T=>match tab T with
    | some _=>{ sl:=(x.slot, .agg (cs.set j (.sl s.nid T 0 none))) :: s.sl,hp:=(s.nid,some (.row T x.own [])) :: s.hp,nid:=s.nid+1,lent:=s.lent }
    | none=>s
   | .sl id _ 0 (some n)=>ZiP s id n x.own fun v s=>{ s with sl:=(x.slot, .agg (cs.set j v)) :: s.sl }
   | .sl id _ _ _=>bif x.own then s else Zg6 s id
   | _=>s
  | .bp id _=>match look s.hp id with
   | some (some (.box TT cs))=>match cs.getD j .dead with
    | .nil T=>match tab T with
     | some _=>{ sl:=s.sl,hp:=(id,some (.box TT (cs.set j (.sl s.nid T 0 none)))) :: (s.nid,some (.row T x.own [])) :: s.hp,nid:=s.nid+1,lent:=s.lent }
     | none=>s
    | .sl id2 _ 0 (some n)=>bif Nat.beq id2 id then s else ZiP s id2 n x.own fun v s=>{ s with hp:=(id,some (.box TT (cs.set j v))) :: s.hp }
    | .sl id2 _ _ _=>bif x.own then s else Zg6 s id2
    | _=>s
   | _=>s
  | _=>s
def thaw (tab:Tab) (s:St) (x:Fix):St:=
 match x.cell with
 | none=>Zka tab s x
 | some j=>bif Nat.ble 1000 j then Zlb s x.slot (j-1000) else Zka tab s x
def Ze9 (tab:Tab):St→List Fix→St
 | s,[]=>s
 | s,t :: r=>Ze9 tab (thaw tab s t) r
def Zhn (keep:List Nat) (s:St):List Nat:=
 let i0:=ZcX (ZcX [] s.lent) (keep.flatMap fun t=>idsV (s.slot t))
 let i1:=ZcX i0 (i0.flatMap (inside s.hp))
 ZcX i1 (i1.flatMap (inside s.hp))
def ZiQ (keep:List Nat) (s:St) (ids:List Nat):St:=
 {sl:=keep.map fun t=>(t,renV ids (s.slot t)),hp:=ZeE 0 (ids.map fun id=>ZcA ids (look s.hp id)),nid:=ids.length,lent:=s.lent.map fun id=>(Zbx ids id).getD 0 }
def canon (keep:List Nat) (s:St):St:=ZiQ keep s (Zhn keep s)
def head (tab:Tab) (keep:List Nat) (thaws:List Fix) (s:St):St:=canon keep (Ze9 tab s thaws)
inductive Out where
 | leaf (e:Ex) (s:St)
 | br (b:Bool) (t f:Out)
 | tst (b:Bool) (o:Out)
def Out.get:Out→Option (Ex×St)
 | .leaf e s=>some (e,s)
 | .br b t f=>bif b then t.get else f.get
 | .tst b o=>bif b then o.get else none
def Out.fold (k:Ex→St→Option X):Out→Option X
 | .leaf e s=>k e s
 | .br b t f=>bif b then t.fold k else f.fold k
 | .tst b o=>bif b then o.fold k else none
structure Loops where
 keep:Nat→List Nat
 thaws:Nat→List Fix
 outs:Nat→List Nat
 run:Nat→St→Option Out
 cuts:List Nat:=[]
 frz:Nat→List Fix:=fun _=>[]
def Zbo:Code→Nat
 | .region id _ _=>id
 | .seq a _=>Zbo a
 | .block _ a=>Zbo a
 | .scope a=>Zbo a
 | .loop a=>Zbo a
 | .cond _ a _=>Zbo a
 | _=>0
def Zcb (cfg:Cfg) (L:Loops):Code→St→(Ex→St→Option X)→Option X
 | .skip,s,k=>k .normal s
 | .label _,s,k=>k .normal s
 | .region rid ops draw,s,k=>
  match draw with
  | false=>ZbG cfg ops.toList ops.toList (Ze9 cfg.tab s (L.frz rid)) [] fun s _=>k .normal s
  | true=>ZbG cfg ops.toList ops.toList (Ze9 cfg.tab s (L.frz rid)) [] fun s tr=>
    bif Zd3 tr||Zc6 (CheckFast.beforeF ops).toList 0 tr.reverse then k .normal s else none
 | .seq a b,s,k=>Zcb cfg L a s fun e s=>match e with
  | .normal=>Zcb cfg L b s k
  | e=>k e s
 | .cond c a b,s,k=>
  match c with
  | .tmp t=>match s.slot t with
   | .bool x=>bif x then Zcb cfg L a (s.put (some t) (.bool true)) k else Zcb cfg L b (s.put (some t) (.bool false)) k
   | _=>none
  | .const (.bool true)=>Zcb cfg L a s k
  | .const (.bool false)=>Zcb cfg L b s k
  | _=>none
 | .block id a,s,k=>Zcb cfg L a s fun e s=>match e with
  | .exit j=>bif Nat.beq j id then k .normal s else k (.exit j) s
  | e=>k e s
 | .loop a,s,k=>(L.run (Zbo a) (head cfg.tab (L.keep (Zbo a)) (L.thaws (Zbo a)) s)).bind fun o=>o.fold k
 | .exit id,s,k=>k (.exit id) s
 | .ret,s,k=>k .ret s
 | _,_,_=>none
end
def ZJ (cfg:Cfg) (L:Loops) (a:Code):Nat→St→Option (Ex×St)
 | 0,_=>none
 | n+1,s=>Zcb cfg L a s fun e s=>match e with
  | .normal=>ZJ cfg L a n (head cfg.tab (L.keep (Zbo a)) (L.thaws (Zbo a)) s)
  | e=>some (e,canon (L.outs (Zbo a)) s)
def Zcq:Nat→List V→List (Nat×V)
 | _,[]=>[]
 | n,v :: r=>(n,v) :: Zcq (n+1) r
def ZdR (nid:Nat):List V→List Nat
 | []=>[]
 | .rr .. :: r=>nid :: ZdR (nid+1) r
 | .dr .. :: r=>nid :: ZdR (nid+1) r
 | _ :: r=>ZdR nid r
def Zh7 (nid:Nat):V→List Nat
 | .rf _ _=>[nid]
 | .ro _ _ _=>[nid]
 | .rr ..=>[nid]
 | .dr ..=>[nid]
 | .agg cs=>ZdR nid cs
 | _=>[]
def Zkb (nid:Nat):List V→List Nat
 | []=>[]
 | v :: r=>Zh7 nid v++Zkb (nid+(Zb4 nid v).2.length) r
def ZiR (args:List V):St:=
 let a:=ZaC Zb4 0 args
 {sl:=Zcq 0 a.1,hp:=ZcU 0 a.2,nid:=a.2.length,lent:=Zkb 0 args }
def ZeF (gone:Nat→Bool):List Nat→RM (List V×List Nat)
 | []=>ret ([],[])
 | id :: r=>match gone id with
  | true=>bind (ZeF gone r) fun q=>ret (V.dead :: q.1,q.2)
  | false=>bind (get id) fun b=>match b with
   | .box _ _=>bind (Zdh .rf (.bp id 0)) fun a=>bind (ZeF gone r) fun q=>ret (a.1 :: q.1,a.2++q.2)
   | .row T own els=>bind (ZeF gone r) fun q=>ret (V.rr T own els :: q.1,id :: q.2)
   | .drow T els=>bind (ZeF gone r) fun q=>ret (V.dr T els :: q.1,id :: q.2)
   | .hrow ..=>fail
   | .grow ..=>fail
def isGone (s:St) (K:List Nat) (id:Nat):Bool:=match look s.hp id with
 | some none=>true
 | _=>K.contains id
def resultOf (tab:Tab) (s:St):ResultVar→RM V
 | .tmp t=>ret (s.slot t)
 | .cell a T=>Zgx tab T (s.slot a)
def ZeJ (tab:Tab) (s:St):List ResultVar→RM (List V)
 | []=>ret []
 | r :: rs=>bind (resultOf tab s r) fun a=>bind (ZeJ tab s rs) fun q=>ret (a :: q)
def Zgf (tab:Tab) (rs:List ResultVar) (s:St):Option (V×List V):=
 match (bind (ZeJ tab s rs) fun vs=>bind (Zoh (match vs with | [v]=>v | vs=>.tup vs)) fun a=>bind (ZeF (isGone s a.2) s.lent) fun q=>
   test (ZbX (a.2++q.2)) (ret (a.1,q.1))).at' s.heap with
 | some (r,_)=>some r
 | none=>none
def isDr:V→Bool
 | .dr ..=>true
 | _=>false
def lk1:List V→List Bool
 | []=>[]
 | .rr .. :: r=>false :: lk1 r
 | .dr .. :: r=>true :: lk1 r
 | _ :: r=>lk1 r
def lkOf:V→List Bool
 | .rf _ _=>[false]
 | .ro _ _ _=>[false]
 | .rr ..=>[false]
 | .dr ..=>[true]
 | .agg cs=>lk1 cs
 | _=>[]
def Zd4:List Bool→List V→Bool
 | [],[]=>true
 | b :: r,y :: ys=>(bif isDr y then b else !b)&&Zd4 r ys
 | _,_=>false
def kept (ks:List Bool):Option (V×List V)→Option (V×List V)
 | some r=>bif Zd4 ks r.2 then some r else none
 | none=>none
def cutS (s:St) (t:Nat):St:=match s.slot t with
 | .sl id _ 0 (some n)=>ZiP s id n true fun v s=>{ s with sl:=(t,v) :: s.sl }
 | _=>s
def ZeR:St→List Nat→St
 | s,[]=>s
 | s,t :: r=>ZeR (cutS s t) r
def Zem (cfg:Cfg) (L:Loops) (fn:Func) (args:List V):Option (V×List V):=
 match fn.body with
 | none=>none
 | some c=>Zcb cfg L c (ZiR args) fun e s=>match e with
  | .exit _=>none
  | _=>kept (args.flatMap lkOf) (Zgf cfg.tab fn.results.toList (ZeR (Zef cfg.tab s s.lent) L.cuts))
end
end Go.Eng
namespace Go.Eng
theorem Zcu {α:Type} (l:List α) (i:Nat) (d:α) (h:i<l.length):l.getD i d=l[i]:=by
 simp[List.getD,h]
def kindOk:Ck→V→Prop
 | .int k, .int k' _=>k'=k
 | .bool, .bool _=>True
 | .str, .str _=>True
 | .sl T, .inl T' _=>T'=T
 | _,_=>False
def ZbS (ty:Ty) (x:V):Prop:=
 x.cells.length=ty.kinds.length∧(ty.agg=true→∃cs,x = .agg cs)∧(ty.agg=false→∀cs,x≠.agg cs)∧
  ∀j,j<ty.kinds.length→kindOk (ty.kinds.getD j .other) (x.cell j)
theorem etaC_of {k:Ck} {x:V} (h:kindOk k x):etaC k x=x:=by
 cases k <;> cases x <;> simp_all [kindOk,etaC,V.I,V.B,V.S,V.L]
theorem ZaT (ks:List Ck) (x:V) (j:Nat):(Zau ks x j).length=ks.length:=by
 induction ks generalizing j <;> simp_all [Zau]
theorem ZlS (ks:List Ck) (x:V) (j i:Nat) (h:i<ks.length):
  (Zau ks x j).getD i .dead=etaC (ks.getD i .other) (x.cell (j+i)):=by
 induction ks generalizing j i with
 | nil=>simp at h
 | cons k ks ih=>
  cases i with
  | zero=>simp[Zau]
  | succ i=>
   simp only[Zau,List.getD_cons_succ]
   rw[ih (j+1) i (by simpa using h)]
   congr 2;omega
theorem Zfi {ty:Ty} {x:V} (h:ZbS ty x):Zau ty.kinds x 0=x.cells:=by
 obtain⟨hl,-,-,hk⟩:=h
 refine List.ext_getElem (by rw[ZaT,hl]) fun i h1 h2=>?_
 have hi:i<ty.kinds.length:=by simpa [ZaT] using h1
 have:=ZlS ty.kinds x 0 i hi
 rw[Zcu _ _ _ h1,Nat.zero_add,etaC_of (hk i hi)] at this
 rw[this];simp[V.cell,h2]
theorem mk_cells {ty:Ty} {x:V} (h:ZbS ty x):mk ty.agg x.cells=x:=by
 obtain⟨hl,h1,h2,hk⟩:=h
 cases ha:ty.agg with
 | true=>obtain⟨cs,rfl⟩:=h1 ha;simp[mk,V.cells]
 | false=>
  have:=h2 ha
  cases x <;> simp_all [mk,V.cells]
inductive Rp (tab:Tab) (w:World) (ok:Nat→Prop):V→Value→Prop where
 | dead (v:Value):Rp tab w ok .dead v
 | int (k:IntKind) (n:Int):Rp tab w ok (.int k n) (.int k n)
 | bool (b:Bool):Rp tab w ok (.bool b) (.bool b)
 | str (l:List V) (s:ByteArray):Z9 s=l→Rp tab w ok (.str l) (.string s)
 | nil (T:TypeId) (a:Option Addr):Rp tab w ok (.nil T) (.slice a 0 0)
 | inl (T:TypeId) (l:List V) (ty:Ty) (a:Option Addr) (cap g off:Nat) (cv:Nat→Nat→Value):
   tab T=some ty→l.length≤cap→(l≠[]→a=some ⟨g,off,none⟩∧ok g)→
   (∀i,i<l.length→ZbS ty (l.getD i .dead))→
   (∀i j,i<l.length→j<ty.kinds.length→w.cell? ⟨g,off+i*ty.kinds.length+j,none⟩=some (cv i j))→
   (∀i j,i<l.length→j<ty.kinds.length→Rp tab w ok ((l.getD i .dead).cell j) (cv i j))→
   Rp tab w ok (.inl T l) (.slice a l.length cap)
 | ep (cs:List V) (off g o:Nat) (cv:Nat→Value):ok g→
   (∀j,j<cs.length→w.cell? ⟨g,o+j,none⟩=some (cv j))→
   (∀j,j<cs.length→Rp tab w ok (cs.getD j .dead) (cv j))→
   Rp tab w ok (.ep cs off) (.pointer (some ⟨g,o+off,none⟩))
 | fn (f:FuncId) (caps:List V) (vals:List Value):vals.length=caps.length→
   (∀j,j<caps.length→Rp tab w ok (caps.getD j .dead) (vals.getD j undef))→
   Rp tab w ok (.fn f caps) (.func (.func f) #[] vals.toArray)
 | agg (cs:List V) (vals:List Value):vals.length=cs.length→
   (∀j,j<cs.length→Rp tab w ok (cs.getD j .dead) (vals.getD j undef))→
   Rp tab w ok (.agg cs) (.agg vals.toArray)
 | nn (T:TypeId) (l:List V) (a:Addr) (n cap:Nat):Rp tab w ok (.inl T l) (.slice (some a) n cap)→Rp tab w ok (.nn T l) (.slice (some a) n cap)
 | nl (T:TypeId) (ty:Ty) (cap:Nat):tab T=some ty→Rp tab w ok (.nl T) (.slice none 0 cap)
 | sk:Rp tab w ok .sk undef
theorem Rp.keep {tab:Tab} {w w':World} {ok ok':Nat→Prop} {x:V} {v:Value} (h:Rp tab w ok x v)
  (hok:∀g,ok g→ok' g) (hw:∀g,ok g→w'.heap[g]? = w.heap[g]?):Rp tab w' ok' x v:=by
 induction h with
 | dead v=>exact .dead v
 | int k n=>exact .int k n
 | bool b=>exact .bool b
 | str l s h=>exact .str l s h
 | nil T a=>exact .nil T a
 | inl T l ty a cap g off cv ht hc ha hs hcell _ ih=>
  refine .inl T l ty a cap g off cv ht hc (fun hl=>⟨(ha hl).1,hok _ (ha hl).2⟩) hs (fun i j hi hj=>?_) ih
  have hl:l≠[]:=by intro e;subst e;simp at hi
  rw[World.cell?_of_block (w:=w) (hw g (ha hl).2)]
  exact hcell i j hi hj
 | ep cs off g o cv hg hcell _ ih=>
  exact .ep cs off g o cv (hok _ hg) (fun j hj=>by rw[World.cell?_of_block (w:=w) (hw g hg)];exact hcell j hj) ih
 | fn f caps vals hl _ ih=>exact .fn f caps vals hl ih
 | agg cs vals hl _ ih=>exact .agg cs vals hl ih
 | nn T l a n cap _ ih=>exact .nn T l a n cap ih
 | nl T ty cap h=>exact .nl T ty cap h
 | sk=>exact .sk
theorem Rp.soft {tab:Tab} {w:World} {ok:Nat→Prop} {x:V} {v:Value} (h:Rp tab w ok x v):Rp tab w ok x.soft v:=by
 cases h with
 | nn T l a n cap h=>exact h
 | nl T ty cap h=>exact .inl T [] ty none cap 0 0 (fun _ _=>undef) h (by simp) (by simp) (by simp) (by simp) (by simp)
 | dead v=>exact .dead v
 | sk=>exact .sk
 | int k n=>exact .int k n
 | bool b=>exact .bool b
 | str l s h=>exact .str l s h
 | nil T a=>exact .nil T a
 | inl T l ty a cap g off cv h1 h2 h3 h4 h5 h6=>exact .inl T l ty a cap g off cv h1 h2 h3 h4 h5 h6
 | ep cs off g o cv h1 h2 h3=>exact .ep cs off g o cv h1 h2 h3
 | fn f caps vals h1 h2=>exact .fn f caps vals h1 h2
 | agg cs vals h1 h2=>exact .agg cs vals h1 h2
def Zr:Value→List Nat
 | .slice (some a) _ (_+1)=>[a.block]
 | _=>[]
def RowAt (w:World) (g:Nat) (cur:Array Value) (T:TypeId):Prop:=∃fr:Nat×Nat,w.heap[g]? = some (.cells cur T fr)∧(fr=(0,0)∨(T=ZbJ∧cur.size≤fr.1))
theorem RowAt.of {w:World} {g:Nat} {cur:Array Value} {T:TypeId} (h:w.heap[g]? = some (.cells cur T (0,0))):RowAt w g cur T:=⟨_,h, .inl rfl⟩
theorem RowAt.cell {w:World} {g:Nat} {cur:Array Value} {T:TypeId} (h:RowAt w g cur T) (k:Nat):w.cell? ⟨g,k,none⟩=cur[k]?:=by
 obtain⟨fr,hg,-⟩:=h
 exact cell_of_row w g k cur T fr hg
theorem RowAt.lt {w:World} {g:Nat} {cur:Array Value} {T:TypeId} (h:RowAt w g cur T):g<w.heap.size:=by
 obtain⟨fr,hg,-⟩:=h
 exact(Array.getElem?_eq_some_iff.1 hg).1
theorem RowAt.free {w:World} {g:Nat} {cur:Array Value} {T:TypeId} (h:RowAt w g cur T) {k:Nat} (hk:k<cur.size):w.frozen? ⟨g,k,none⟩=false:=by
 obtain⟨fr,hg,rfl | ⟨-,h1⟩⟩:=h
 ·simp[World.frozen?,hg]
 ·simp[World.frozen?,hg];omega
theorem RowAt.zero {w:World} {g:Nat} {cur:Array Value} {T:TypeId} (h:RowAt w g cur T) (hT:T≠ZbJ):w.heap[g]? = some (.cells cur T (0,0)):=by
 obtain⟨fr,hg,rfl | ⟨h1,-⟩⟩:=h
 ·exact hg
 ·exact absurd h1 hT
theorem RowAt.setRow {w:World} {g:Nat} {cur cs:Array Value} {T:TypeId} (h:RowAt w g cur T) (hs:cs.size=cur.size):RowAt (w.setRow g cs) g cs T:=by
 obtain⟨fr,hg,hf⟩:=h
 exact⟨fr,setRow_heap w g cur cs T fr hg,by rw[hs];exact hf⟩
theorem RowAt.same {w w':World} {g:Nat} {cur:Array Value} {T:TypeId} (h:RowAt w g cur T) (e:w'.heap[g]? = w.heap[g]?):RowAt w' g cur T:=by
 obtain⟨fr,hg,hf⟩:=h
 exact⟨fr,e.trans hg,hf⟩
theorem Zeg (P:Program) (g o:Nat) (t:TypeId):∀(vs:List Value) (i:Nat) (cur:Array Value) (w:World),RowAt w g cur t→o+i+vs.length≤cur.size→(∀v∈vs,v.oneCell'=true)→
  (storeCells ⟨g,o,none⟩ vs i).run P w = .ok () (w.setRow g (cur.toList.take (o+i)++vs++cur.toList.drop (o+i+vs.length)).toArray)
 | [],i,cur,w,hg,_,_=>by
  obtain⟨fr,hg,-⟩:=hg
  simp only[storeCells,List.append_nil,List.length_nil,Nat.add_zero,List.take_append_drop,Array.toArray_toList]
  rw[setRow_self w g cur t fr hg]
  rfl
 | v :: rest,i,cur,w,hg,hl,h1=>by
  have hi:o+i<cur.size:=by simp at hl;omega
  have hadd:(⟨g,o,none⟩:Addr).add i=⟨g,o+i,none⟩:=by unfold Addr.add;split <;> simp_all
  have hcell:w.cell? ⟨g,o+i,none⟩=some cur[o+i]:=by rw[hg.cell];simp[hi]
  have hfro:w.frozen? ⟨g,o+i,none⟩=false:=hg.free hi
  obtain⟨fr,hg2,hf⟩:=hg
  have hst:(store ((⟨g,o,none⟩:Addr).add i) v).run P w = .ok () (w.setRow g (cur.setIfInBounds (o+i) v)):=by
   rw[hadd,run_store P w _ v _ (h1 v (by simp)),hcell]
   simp[hfro,setCell_eq_setRow w g (o+i) cur t fr v hg2]
  have ih:=Zeg P g o t rest (i+1) (cur.setIfInBounds (o+i) v) (w.setRow g (cur.setIfInBounds (o+i) v)) ⟨fr,setRow_heap w g cur _ t _ hg2,by simpa using hf⟩ (by simp at hl ⊢;omega) (fun x hx=>h1 x (by simp[hx]))
  simp only[storeCells,Sem.run_bind,hst,Result.andThen_ok,ih,setRow_setRow]
  congr 3
  have e:=list_seg_step cur.toList (o+i) v rest (by simp at hl ⊢;omega)
  simpa [Array.toList_setIfInBounds,Nat.add_assoc] using e
def RowIs (w:World) (T:TypeId) (sz N:Nat) (v:Value) (xs:List Value):Prop:=
 xs.length=N*sz∧
 ((∃a,v = .slice a 0 0∧N=0)∨
  ∃g cap cur,v = .slice (some ⟨g,0,none⟩) N cap∧0<cap∧RowAt w g cur T∧N≤cap∧cap≤maxLen∧cur.size=cap*sz∧cur.toList.take (N*sz)=xs)
theorem RowIs.keep {w w':World} {T:TypeId} {sz N:Nat} {v:Value} {xs:List Value} (h:RowIs w T sz N v xs)
  (hw:∀g,g∈Zr v→w'.heap[g]? = w.heap[g]?):RowIs w' T sz N v xs:=by
 refine⟨h.1,?_⟩
 rcases h.2 with⟨a,rfl,h0⟩ | ⟨g,cap,cur,rfl,hc,hg,r⟩
 ·exact .inl ⟨a,rfl,h0⟩
 ·refine .inr ⟨g,cap,cur,rfl,hc,?_,r⟩
  obtain⟨c,rfl⟩:∃c,cap=c+1:=⟨cap-1,by omega⟩
  exact hg.same (hw g (by simp[Zr]))
theorem RowIs.cell {w:World} {T:TypeId} {sz N:Nat} {v:Value} {xs:List Value} (h:RowIs w T sz N v xs) (k:Nat) (hk:k<N*sz):
  ∃g cap,v = .slice (some ⟨g,0,none⟩) N cap∧N≤cap∧Zr v=[g]∧w.cell? ⟨g,k,none⟩=some (xs.getD k undef):=by
 rcases h.2 with⟨a,rfl,h0⟩ | ⟨g,cap,cur,rfl,hc,hg,hn,hm,hs,ht⟩
 ·subst h0;simp at hk
 ·obtain⟨c,rfl⟩:∃c,cap=c+1:=⟨cap-1,by omega⟩
  refine⟨g,c+1,rfl,hn,rfl,?_⟩
  have hlt:k<cur.size:=by rw[hs];exact Nat.lt_of_lt_of_le hk (Nat.mul_le_mul_right _ hn)
  rw[hg.cell k,←ht]
  have:k<cur.toList.length:=by simpa using hlt
  simp[List.getD,hk,hlt]
theorem RowIs.top_lt {w:World} {T:TypeId} {sz N:Nat} {v:Value} {xs:List Value} (h:RowIs w T sz N v xs):∀g∈Zr v,g<w.heap.size:=by
 intro g hgm
 rcases h.2 with⟨a,rfl,h0⟩ | ⟨g',cap,cur,rfl,hc,hg,r⟩
 ·cases a <;> simp[Zr] at hgm
 ·obtain⟨c,rfl⟩:∃c,cap=c+1:=⟨cap-1,by omega⟩
  simp[Zr] at hgm;subst hgm
  exact hg.lt
def ZD (n m:Nat) (F:Nat→Nat→List Nat):List Nat:=(List.range n).flatMap fun i=>(List.range m).flatMap fun j=>F i j
theorem mem_flatF {n m:Nat} {F:Nat→Nat→List Nat} {g:Nat}:g∈ZD n m F↔∃i,i<n∧∃j,j<m∧g∈F i j:=by
 simp[ZD]
inductive Ro (tab:Tab) (w:World):V→Value→List Nat→Prop where
 | int (k:IntKind) (n:Int):Ro tab w (.int k n) (.int k n) []
 | bool (b:Bool):Ro tab w (.bool b) (.bool b) []
 | str (l:List V) (s:ByteArray):Z9 s=l→Ro tab w (.str l) (.string s) []
 | inl (T:TypeId) (l:List V) (ty:Ty) (v:Value) (xs:List Value) (F:Nat→Nat→List Nat):
   tab T=some ty→RowIs w T ty.kinds.length l.length v xs→(∀i,i<l.length→ZbS ty (l.getD i .dead))→
   (∀i j,i<l.length→j<ty.kinds.length→Ro tab w ((l.getD i .dead).cell j) (xs.getD (i*ty.kinds.length+j) undef) (F i j))→
   Ro tab w (.inl T l) v (Zr v++ZD l.length ty.kinds.length F)
theorem Ro.keep {tab:Tab} {w w':World} {x:V} {v:Value} {F:List Nat} (h:Ro tab w x v F) (hw:∀g∈F,w'.heap[g]? = w.heap[g]?):Ro tab w' x v F:=by
 induction h with
 | int k n=>exact .int k n
 | bool b=>exact .bool b
 | str l s h=>exact .str l s h
 | inl T l ty v xs F ht hr hs _ ih=>
  refine .inl T l ty v xs F ht (hr.keep fun g hg=>hw g (by simp[hg])) hs fun i j hi hj=>ih i j hi hj fun g hg=>hw g ?_
  exact List.mem_append_right _ (mem_flatF.2 ⟨i,hi,j,hj,hg⟩)
theorem ZbK {i j n m:Nat} (hi:i<n) (hj:j<m):i*m+j<n*m:=by
 have:(i+1)*m≤n*m:=Nat.mul_le_mul_right _ hi
 rw[Nat.add_mul] at this;omega
theorem Ro.tree {tab:Tab} {w:World} {x:V} {v:Value} {F:List Nat} (h:Ro tab w x v F) {ok:Nat→Prop} (hok:∀g∈F,ok g):Rp tab w ok x v:=by
 induction h with
 | int k n=>exact .int k n
 | bool b=>exact .bool b
 | str l s h=>exact .str l s h
 | inl T l ty v xs F ht hr hs _ ih=>
  by_cases hl:l=[]
  ·subst hl
   rcases hr.2 with⟨a,rfl,h0⟩ | ⟨g,cap,cur,rfl,hc,hg,hn,r⟩
   ·exact .inl T [] ty a 0 0 0 (fun _ _=>undef) ht (by simp) (by simp) (by simp) (by simp) (by simp)
   ·exact .inl T [] ty _ cap 0 0 (fun _ _=>undef) ht (by simp) (by simp) (by simp) (by simp) (by simp)
  ·rcases hr.2 with⟨a,rfl,h0⟩ | ⟨g,cap,cur,rfl,hc,hg,hn,r⟩
   ·exact absurd (List.eq_nil_of_length_eq_zero h0) hl
   ·obtain⟨c,rfl⟩:∃c,cap=c+1:=⟨cap-1,by omega⟩
    refine .inl T l ty _ (c+1) g 0 (fun i j=>xs.getD (i*ty.kinds.length+j) undef) ht hn (fun _=>⟨rfl,hok g (by simp[Zr])⟩) hs (fun i j hi hj=>?_)
     fun i j hi hj=>ih i j hi hj fun g' hg'=>hok g' (List.mem_append_right _ (mem_flatF.2 ⟨i,hi,j,hj,hg'⟩))
    obtain⟨g',cap',he,_,_,hcell⟩:=hr.cell (i*ty.kinds.length+j) (ZbK hi hj)
    cases he
    rw[Nat.zero_add];exact hcell
def RowT (tab:Tab) (w:World) (ok:Nat→Prop) (T:TypeId) (own:Bool) (els:List V) (v:Value) (nest:List Nat):Prop:=
 ∃ty xs,tab T=some ty∧RowIs w T ty.kinds.length els.length v xs∧(∀i,i<els.length→ZbS ty (els.getD i .dead))∧
  ((own=true∧∃F,nest=ZD els.length ty.kinds.length F∧
    ∀i j,i<els.length→j<ty.kinds.length→Ro tab w ((els.getD i .dead).cell j) (xs.getD (i*ty.kinds.length+j) undef) (F i j))∨
   (own=false∧nest=[]∧
    ∀i j,i<els.length→j<ty.kinds.length→Rp tab w ok ((els.getD i .dead).cell j) (xs.getD (i*ty.kinds.length+j) undef)))
theorem RowT.keep {tab:Tab} {w w':World} {ok ok':Nat→Prop} {T:TypeId} {own:Bool} {els:List V} {v:Value} {nest:List Nat}
  (h:RowT tab w ok T own els v nest) (hok:∀g,ok g→ok' g) (hw:∀g,ok g→w'.heap[g]? = w.heap[g]?)
  (hF:∀g∈Zr v++nest,w'.heap[g]? = w.heap[g]?):RowT tab w' ok' T own els v nest:=by
 obtain⟨ty,xs,ht,hr,hs,he⟩:=h
 refine⟨ty,xs,ht,hr.keep fun g hg=>hF g (by simp[hg]),hs,?_⟩
 rcases he with⟨ho,F,rfl,he⟩ | ⟨ho,rfl,he⟩
 ·exact .inl ⟨ho,F,rfl,fun i j hi hj=>(he i j hi hj).keep fun g hg=>hF g (List.mem_append_right _ (mem_flatF.2 ⟨i,hi,j,hj,hg⟩))⟩
 ·exact .inr ⟨ho,rfl,fun i j hi hj=>(he i j hi hj).keep hok hw⟩
theorem RowT.tree {tab:Tab} {w:World} {ok ok':Nat→Prop} {T:TypeId} {own:Bool} {els:List V} {v:Value} {nest:List Nat}
  (h:RowT tab w ok T own els v nest) (hok:∀g,ok g→ok' g) (hF:∀g∈Zr v++nest,ok' g):Rp tab w ok' (.inl T els) v:=by
 obtain⟨ty,xs,ht,hr,hs,he⟩:=h
 have hcell:∀i j,i<els.length→j<ty.kinds.length→Rp tab w ok' ((els.getD i .dead).cell j) (xs.getD (i*ty.kinds.length+j) undef):=by
  rcases he with⟨ho,F,rfl,he⟩ | ⟨ho,rfl,he⟩
  ·exact fun i j hi hj=>(he i j hi hj).tree fun g hg=>hF g (List.mem_append_right _ (mem_flatF.2 ⟨i,hi,j,hj,hg⟩))
  ·exact fun i j hi hj=>(he i j hi hj).keep hok fun _ _=>rfl
 rcases hr.2 with⟨a,rfl,h0⟩ | ⟨g,cap,cur,rfl,hc,hg,hn,r⟩
 ·have:els=[]:=List.eq_nil_of_length_eq_zero h0
  subst this
  exact .inl T [] ty a 0 0 0 (fun _ _=>undef) ht (by simp) (by simp) (by simp) (by simp) (by simp)
 ·obtain⟨c,rfl⟩:∃c,cap=c+1:=⟨cap-1,by omega⟩
  refine .inl T els ty _ (c+1) g 0 (fun i j=>xs.getD (i*ty.kinds.length+j) undef) ht hn (fun _=>⟨rfl,hF g (by simp[Zr])⟩) hs (fun i j hi hj=>?_) hcell
  obtain⟨g',cap',he,_,_,hcell⟩:=hr.cell (i*ty.kinds.length+j) (ZbK hi hj)
  cases he
  rw[Nat.zero_add];exact hcell
end Go.Eng
namespace Go.Eng
inductive RB where
 | box (g:Nat)
 | row (T sz N:Nat) (v:Value)
structure Mem where
 w:World
 ρ:Nat→Option RB
 top:Nat→List Nat
 nest:Nat→List Nat
 hp:ZaG
structure Entry where
 W0:World
 okA:Nat→Prop
 Ft:List Nat
 Fn:List Nat
def Entry.mine (E:Entry) (g:Nat):Prop:=g∈E.Ft++E.Fn∨E.W0.heap.size≤g
def okS (E:Entry) (M:Mem) (g:Nat):Prop:=(E.okA g∨E.mine g)∧g<M.w.heap.size∧∀id,g∉M.top id
inductive Rs (tab:Tab) (w:World) (ok:Nat→Prop) (ρ:Nat→Option RB):V→Value→Prop where
 | tree {x:V} {v:Value}:Rp tab w ok x v→Rs tab w ok ρ x v
 | sl (id T off:Nat) (len:Option Nat) (sz N:Nat) (a a':Option Addr) (cap n:Nat):
   ρ id=some (.row T sz N (.slice a N cap))→N≤cap→n=len.getD (N-off)→off+n≤N→
   (off<cap→a'=a.map (·.add (off*sz)))→(off=0→a'=a)→Rs tab w ok ρ (.sl id T off len) (.slice a' n (cap-off))
 | bp (id off g:Nat):ρ id=some (.box g)→Rs tab w ok ρ (.bp id off) (.pointer (some ⟨g,off,none⟩))
 | rp (id idx off T sz N g cap:Nat):ρ id=some (.row T sz N (.slice (some ⟨g,0,none⟩) N cap))→idx<N→
   Rs tab w ok ρ (.rp id idx off) (.pointer (some ⟨g,idx*sz+off,none⟩))
 | agg (cs:List V) (vals:List Value):vals.length=cs.length→
   (∀j,j<cs.length→Rs tab w ok ρ (cs.getD j .dead) (vals.getD j undef))→Rs tab w ok ρ (.agg cs) (.agg vals.toArray)
 | tup (cs:List V) (vals:List Value):vals.length=cs.length→
   (∀j,j<cs.length→Rs tab w ok ρ (cs.getD j .dead) (vals.getD j undef))→Rs tab w ok ρ (.tup cs) (.tuple vals.toArray)
 | fn (f:FuncId) (caps:List V) (vals:List Value):vals.length=caps.length→
   (∀j,j<caps.length→Rs tab w ok ρ (caps.getD j .dead) (vals.getD j undef))→Rs tab w ok ρ (.fn f caps) (.func (.func f) #[] vals.toArray)
theorem Rs.mono {tab:Tab} {w w':World} {ok ok':Nat→Prop} {ρ ρ':Nat→Option RB} {x:V} {v:Value} (h:Rs tab w ok ρ x v)
  (hρ:∀id rb,ρ id=some rb→ρ' id=some rb) (hok:∀g,ok g→ok' g) (hw:∀g,ok g→w'.heap[g]? = w.heap[g]?):Rs tab w' ok' ρ' x v:=by
 induction h with
 | tree h=>exact .tree (h.keep hok hw)
 | sl id T off len sz N a a' cap n h1 h2 h3 h4 h5 h6=>exact .sl id T off len sz N a a' cap n (hρ _ _ h1) h2 h3 h4 h5 h6
 | bp id off g h1=>exact .bp id off g (hρ _ _ h1)
 | rp id idx off T sz N g cap h1 h2=>exact .rp id idx off T sz N g cap (hρ _ _ h1) h2
 | agg cs vals hl _ ih=>exact .agg cs vals hl ih
 | tup cs vals hl _ ih=>exact .tup cs vals hl ih
 | fn f cs vals hl _ ih=>exact .fn f cs vals hl ih
def BlkIs (tab:Tab) (w:World) (ok:Nat→Prop) (ρ:Nat→Option RB) (b:Blk) (rb:Option RB) (top nest:List Nat):Prop:=
 match b with
 | .box _ cs=>∃g c TT,rb=some (.box g)∧w.heap[g]? = some (.cells c TT (0,0))∧c.size=cs.length∧
   (∀j,j<cs.length→Rs tab w ok ρ (cs.getD j .dead) (c.getD j undef))∧top=[g]∧nest=[]
 | .row T own els=>∃ty v,tab T=some ty∧rb=some (.row T ty.kinds.length els.length v)∧RowT tab w ok T own els v nest∧top=Zr v
 | .drow T els=>∃ty v n,tab T=some ty∧rb=some (.row T ty.kinds.length els.length v)∧RowT tab w ok T true els v n∧top=Zr v++n∧nest=[]
 | .hrow T els idx off j=>∃ty v xs F e ty2 N,tab T=some ty∧rb=some (.row T ty.kinds.length els.length v)∧RowIs w T ty.kinds.length els.length v xs∧(∀i,i<els.length→ZbS ty (els.getD i .dead))∧
   idx<els.length∧off<ty.kinds.length∧ty.kinds.getD off .other = .sl e∧tab e=some ty2∧ρ j=some (.row e ty2.kinds.length N (xs.getD (idx*ty.kinds.length+off) undef))∧F idx off=[]∧
   (∀i k,i<els.length→k<ty.kinds.length→(i≠idx∨k≠off)→Ro tab w ((els.getD i .dead).cell k) (xs.getD (i*ty.kinds.length+k) undef) (F i k))∧
   top=Zr v++ZD els.length ty.kinds.length F∧nest=[]
 | .grow T cs=>∃ty v xs,tab T=some ty∧ty.kinds.length=1∧rb=some (.row T ty.kinds.length cs.length v)∧RowIs w T ty.kinds.length cs.length v xs∧
   (∀j,j<cs.length→Rs tab w ok ρ (cs.getD j .dead) (xs.getD j undef))∧top=Zr v∧nest=[]
structure KeptBut (F:List Nat) (w w':World):Prop where
 os:w'.os=w.os
 tape:w'.tape=w.tape
 output:w'.output=w.output
 size:w.heap.size≤w'.heap.size
 block:∀g,g<w.heap.size→g∉F→w'.heap[g]? = w.heap[g]?
theorem KeptBut.refl (F:List Nat) (w:World):KeptBut F w w:=⟨rfl,rfl,rfl,Nat.le_refl _,fun _ _ _=>rfl⟩
theorem KeptBut.trans {F:List Nat} {a b c:World} (h:KeptBut F a b) (k:KeptBut F b c):KeptBut F a c:=
 ⟨k.os.trans h.os,k.tape.trans h.tape,k.output.trans h.output,Nat.le_trans h.size k.size,fun i hi hF=>(k.block i (Nat.lt_of_lt_of_le hi h.size) hF).trans (h.block i hi hF)⟩
structure MemOk (tab:Tab) (E:Entry) (M:Mem):Prop where
 blocks:∀id b,M.hp id=some (some b)→BlkIs tab M.w (okS E M) M.ρ b (M.ρ id) (M.top id) (M.nest id)
 fresh:∀id,M.hp id=none→M.ρ id=none∧M.top id=[]∧M.nest id=[]
 ended:∀id,M.hp id=some none→M.top id=[]∧M.nest id=[]
 nodup:∀id,(M.top id++M.nest id).Nodup
 apart:∀id id',id≠id'→∀g,g∈M.top id++M.nest id→g∉M.top id'++M.nest id'
 mine:∀id g,g∈M.top id++M.nest id→E.mine g∧g<M.w.heap.size
 mineT:∀id g,g∈M.top id→g∈E.Ft∨E.W0.heap.size≤g
 kept:KeptBut E.Ft E.W0 M.w
structure MemLe (E:Entry) (M M':Mem):Prop where
 ρ:∀id rb,M.ρ id=some rb→M'.ρ id=some rb
 ok:∀g,okS E M g→okS E M' g
 same:∀g,okS E M g→M'.w.heap[g]? = M.w.heap[g]?
abbrev Mem.Rs (tab:Tab) (E:Entry) (M:Mem):V→Value→Prop:=Eng.Rs tab M.w (okS E M) M.ρ
theorem MemLe.rs {tab:Tab} {E:Entry} {M M':Mem} (h:MemLe E M M') {x:V} {v:Value} (hr:M.Rs tab E x v):M'.Rs tab E x v:=hr.mono h.ρ h.ok h.same
theorem MemLe.refl (E:Entry) (M:Mem):MemLe E M M:=⟨fun _ _ h=>h,fun _ h=>h,fun _ _=>rfl⟩
theorem MemLe.trans {E:Entry} {M M' M'':Mem} (h:MemLe E M M') (k:MemLe E M' M''):MemLe E M M'':=
 ⟨fun _ _ e=>k.ρ _ _ (h.ρ _ _ e),fun g e=>k.ok g (h.ok g e),fun g e=>(k.same g (h.ok g e)).trans (h.same g e)⟩
section
variable {tab:Tab} {w:World} {ok:Nat→Prop} {ρ:Nat→Option RB} {v:Value}
theorem Rs.int {k:IntKind} {n:Int} (h:Rs tab w ok ρ (.int k n) v):v = .int k n:=by
 cases h with | tree h=>cases h;rfl
theorem Rs.bool {b:Bool} (h:Rs tab w ok ρ (.bool b) v):v = .bool b:=by
 cases h with | tree h=>cases h;rfl
theorem Rs.str {l:List V} (h:Rs tab w ok ρ (.str l) v):∃s,v = .string s∧Z9 s=l:=by
 cases h with | tree h=>cases h with | str l s h=>exact⟨s,rfl,h⟩
theorem Rs.nil {T:TypeId} (h:Rs tab w ok ρ (.nil T) v):∃a,v = .slice a 0 0:=by
 cases h with | tree h=>cases h with | nil T a=>exact⟨a,rfl⟩
theorem Rs.inl {T:TypeId} {l:List V} (h:Rs tab w ok ρ (.inl T l) v):Rp tab w ok (.inl T l) v:=by
 cases h with | tree h=>exact h
theorem Rs.ep {cs:List V} {off:Nat} (h:Rs tab w ok ρ (.ep cs off) v):Rp tab w ok (.ep cs off) v:=by
 cases h with | tree h=>exact h
theorem Rs.agg_inv {cs:List V} (h:Rs tab w ok ρ (.agg cs) v):∃vals:List Value,v = .agg vals.toArray∧vals.length=cs.length∧
  ∀j,j<cs.length→Rs tab w ok ρ (cs.getD j .dead) (vals.getD j undef):=by
 cases h with
 | tree h=>cases h with | agg cs vals hl h=>exact⟨vals,rfl,hl,fun j hj=>.tree (h j hj)⟩
 | agg cs vals hl h=>exact⟨vals,rfl,hl,h⟩
theorem Rs.tup_inv {cs:List V} (h:Rs tab w ok ρ (.tup cs) v):∃vals:List Value,v = .tuple vals.toArray∧vals.length=cs.length∧
  ∀j,j<cs.length→Rs tab w ok ρ (cs.getD j .dead) (vals.getD j undef):=by
 cases h with
 | tree h=>cases h
 | tup cs vals hl h=>exact⟨vals,rfl,hl,h⟩
theorem Rs.fn_inv {f:FuncId} {cs:List V} (h:Rs tab w ok ρ (.fn f cs) v):∃vals:List Value,v = .func (.func f) #[] vals.toArray∧vals.length=cs.length∧
  ∀j,j<cs.length→Rs tab w ok ρ (cs.getD j .dead) (vals.getD j undef):=by
 cases h with
 | tree h=>cases h with | fn f cs vals hl h=>exact⟨vals,rfl,hl,fun j hj=>.tree (h j hj)⟩
 | fn f cs vals hl h=>exact⟨vals,rfl,hl,h⟩
theorem Rs.cells {x:V} (h:Rs tab w ok ρ x v) (hx:∀vs,x≠.tup vs) (hd:x≠.dead):v.cells.toList.length=x.cells.length∧
  ∀j,j<x.cells.length→Rs tab w ok ρ (x.cells.getD j .dead) (v.cells.toList.getD j undef):=by
 by_cases ha:∃cs,x = .agg cs
 ·obtain⟨cs,rfl⟩:=ha
  obtain⟨vals,rfl,hl,hj⟩:=h.agg_inv
  simpa [Value.cells,V.cells] using ⟨hl,hj⟩
 ·have hx1:x.cells=[x]:=by cases x <;> simp_all [V.cells]
  have hv1:v.cells = #[v]:=by
   cases h with
   | tree h=>cases h <;> first | rfl | (exact absurd rfl hd) | (exact absurd ⟨_,rfl⟩ ha)
   | agg cs vals hl h=>exact absurd ⟨_,rfl⟩ ha
   | tup cs vals hl h=>exact absurd rfl (hx _)
   | _=>rfl
  rw[hx1,hv1]
  refine⟨by simp,fun j hj=>?_⟩
  have:j=0:=by simpa using hj
  subst this;simpa using h
end
theorem BlkIs.keep {tab:Tab} {w w':World} {ok ok':Nat→Prop} {ρ ρ':Nat→Option RB} {b:Blk} {rb:Option RB} {top nest:List Nat}
  (h:BlkIs tab w ok ρ b rb top nest) (hρ:∀id rb,ρ id=some rb→ρ' id=some rb) (hok:∀g,ok g→ok' g)
  (hw:∀g,ok g→w'.heap[g]? = w.heap[g]?) (hF:∀g∈top++nest,w'.heap[g]? = w.heap[g]?):BlkIs tab w' ok' ρ' b rb top nest:=by
 cases b with
 | box T cs=>
  obtain⟨g,c,TT,h1,h2,h3,h4,h6,h7⟩:=h
  refine⟨g,c,TT,h1,?_,h3,fun j hj=>(h4 j hj).mono hρ hok hw,h6,h7⟩
  rw[hF g (by simp[h6])];exact h2
 | row T own els=>
  obtain⟨ty,v,h1,h2,h3,h4⟩:=h
  exact⟨ty,v,h1,h2,h3.keep hok hw (fun g hg=>hF g (by rw[h4];exact hg)),h4⟩
 | drow T els=>
  obtain⟨ty,v,n,h1,h2,h3,h4,h5⟩:=h
  exact⟨ty,v,n,h1,h2,h3.keep hok hw (fun g hg=>hF g (by rw[h4,h5];simpa using hg)),h4,h5⟩
 | hrow T els idx off j=>
  obtain⟨ty,v,xs,F,e,ty2,N,h1,h2,h3,h4,h5,h6,h7,h8,h9,h10,h11,h12,h13⟩:=h
  refine⟨ty,v,xs,F,e,ty2,N,h1,h2,h3.keep fun g hg=>hF g (by rw[h12,h13];simp[hg]),h4,h5,h6,h7,h8,hρ _ _ h9,h10,fun i k hi hk hne=>(h11 i k hi hk hne).keep fun g hg=>hF g ?_,h12,h13⟩
  rw[h12,h13,List.append_nil]
  exact List.mem_append_right _ (mem_flatF.2 ⟨i,hi,k,hk,hg⟩)
 | grow T cs=>
  obtain⟨ty,v,xs,h1,h2,h3,h4,h5,h6,h7⟩:=h
  exact⟨ty,v,xs,h1,h2,h3,h4.keep fun g hg=>hF g (by rw[h6];exact List.mem_append_left _ hg),fun j hj=>(h5 j hj).mono hρ hok hw,h6,h7⟩
theorem MemOk.move {tab:Tab} {E:Entry} {M M':Mem} (h:MemOk tab E M) (T:Nat→Prop)
  (same:∀id,¬T id→M'.ρ id=M.ρ id∧M'.top id=M.top id∧M'.nest id=M.nest id∧M'.hp id=M.hp id)
  (hρ:∀id rb,M.ρ id=some rb→M'.ρ id=some rb)
  (hok:∀g,okS E M g→M'.w.heap[g]? = M.w.heap[g]?)
  (hfoot:∀id,¬T id→∀g∈M.top id++M.nest id,M'.w.heap[g]? = M.w.heap[g]?)
  (kept:KeptBut (List.range M.w.heap.size) M.w M'.w)
  (old:∀g,g<E.W0.heap.size→g∉E.Ft→M'.w.heap[g]? = M.w.heap[g]?)
  (fromT:∀id,T id→∀g∈M'.top id,(∃id',T id'∧g∈M.top id')∨M.w.heap.size≤g)
  (fromN:∀id,T id→∀g∈M'.nest id,(∃id',T id'∧g∈M.top id'++M.nest id')∨M.w.heap.size≤g)
  (nodup:∀id,T id→(M'.top id++M'.nest id).Nodup)
  (apart:∀id id',T id→T id'→id≠id'→∀g,g∈M'.top id++M'.nest id→g∉M'.top id'++M'.nest id')
  (lt:∀id,T id→∀g∈M'.top id++M'.nest id,g<M'.w.heap.size)
  (gone:∀id,T id→(M'.hp id=none→M'.ρ id=none∧M'.top id=[]∧M'.nest id=[])∧(M'.hp id=some none→M'.top id=[]∧M'.nest id=[]))
  (blocks:MemLe E M M'→∀id,T id→∀b,M'.hp id=some (some b)→BlkIs tab M'.w (okS E M') M'.ρ b (M'.ρ id) (M'.top id) (M'.nest id)):
  MemOk tab E M'∧MemLe E M M':=by
 have hsz:=kept.size
 have hle:MemLe E M M':=by
  refine⟨hρ,fun g ⟨h1,h2,h3⟩=>⟨h1,Nat.lt_of_lt_of_le h2 hsz,fun id hid=>?_⟩,hok⟩
  by_cases hT:T id
  ·rcases fromT id hT g hid with⟨id',_,hg⟩ | hg
   ·exact h3 id' hg
   ·omega
  ·rw[(same id hT).2.1] at hid;exact h3 id hid
 refine⟨⟨fun id b hb=>?_,fun id hb=>?_,fun id hb=>?_,fun id=>?_,fun id id' hne g hg=>?_,fun id g hg=>?_,fun id g hg=>?_,?_⟩,hle⟩
 ·by_cases hT:T id
  ·exact blocks hle id hT b hb
  ·obtain⟨e1,e2,e3,e4⟩:=same id hT
   rw[e4] at hb
   rw[e1,e2,e3]
   exact(h.blocks id b hb).keep hρ hle.ok hok (hfoot id hT)
 ·by_cases hT:T id
  ·exact(gone id hT).1 hb
  ·obtain⟨e1,e2,e3,e4⟩:=same id hT
   rw[e1,e2,e3];exact h.fresh id (e4▸hb)
 ·by_cases hT:T id
  ·exact(gone id hT).2 hb
  ·obtain⟨e1,e2,e3,e4⟩:=same id hT
   rw[e2,e3];exact h.ended id (e4▸hb)
 ·by_cases hT:T id
  ·exact nodup id hT
  ·obtain⟨e1,e2,e3,e4⟩:=same id hT
   rw[e2,e3];exact h.nodup id
 ·
  have key:∀id id',T id→¬T id'→∀g,g∈M'.top id++M'.nest id→g∈M.top id'++M.nest id'→False:=by
   intro id id' hT hT' g hg hg'
   have hlt:=(h.mine id' g hg').2
   have:(∃id'',T id''∧g∈M.top id''++M.nest id'')∨M.w.heap.size≤g:=by
    rcases List.mem_append.1 hg with hg | hg
    ·rcases fromT id hT g hg with⟨i,hi,hgi⟩ | hge
     ·exact .inl ⟨i,hi,List.mem_append_left _ hgi⟩
     ·exact .inr hge
    ·exact fromN id hT g hg
   rcases this with⟨i,hi,hgi⟩ | hge
   ·exact h.apart i id' (fun e=>hT' (e▸hi)) g hgi hg'
   ·omega
  by_cases hT:T id <;> by_cases hT':T id'
  ·exact apart id id' hT hT' hne g hg
  ·obtain⟨e1,e2,e3,e4⟩:=same id' hT'
   rw[e2,e3];exact fun hg'=>key id id' hT hT' g hg hg'
  ·obtain⟨e1,e2,e3,e4⟩:=same id hT
   rw[e2,e3] at hg;exact fun hg'=>key id' id hT' hT g hg' hg
  ·obtain⟨e1,e2,e3,e4⟩:=same id hT
   obtain⟨f1,f2,f3,f4⟩:=same id' hT'
   rw[e2,e3] at hg;rw[f2,f3];exact h.apart id id' hne g hg
 ·by_cases hT:T id
  ·refine⟨?_,lt id hT g hg⟩
   have:(∃id'',T id''∧g∈M.top id''++M.nest id'')∨M.w.heap.size≤g:=by
    rcases List.mem_append.1 hg with hg | hg
    ·rcases fromT id hT g hg with⟨i,hi,hgi⟩ | hge
     ·exact .inl ⟨i,hi,List.mem_append_left _ hgi⟩
     ·exact .inr hge
    ·exact fromN id hT g hg
   rcases this with⟨i,hi,hgi⟩ | hge
   ·exact(h.mine i g hgi).1
   ·exact .inr (Nat.le_trans h.kept.size hge)
  ·obtain⟨e1,e2,e3,e4⟩:=same id hT
   rw[e2,e3] at hg
   exact⟨(h.mine id g hg).1,Nat.lt_of_lt_of_le (h.mine id g hg).2 hsz⟩
 ·by_cases hT:T id
  ·rcases fromT id hT g hg with⟨i,hi,hgi⟩ | hge
   ·exact h.mineT i g hgi
   ·exact .inr (Nat.le_trans h.kept.size hge)
  ·obtain⟨e1,e2,e3,e4⟩:=same id hT
   rw[e2] at hg;exact h.mineT id g hg
 ·exact⟨kept.os.trans h.kept.os,kept.tape.trans h.kept.tape,kept.output.trans h.kept.output,Nat.le_trans h.kept.size hsz,
   fun g hg hF=>(old g hg hF).trans (h.kept.block g hg hF)⟩
def Mem.put (M:Mem) (w':World) (K:List Nat) (id:Nat) (rb:RB) (b:Blk) (t n:List Nat):Mem:=
 {w:=w',ρ:=fun i=>if i=id then some rb else M.ρ i
  top:=fun i=>if i=id then t else if i∈K then[] else M.top i
  nest:=fun i=>if i=id then n else if i∈K then[] else M.nest i
  hp:=fun i=>if i=id then some (some b) else if i∈K then some none else M.hp i }
theorem Zg7 {tab:Tab} {E:Entry} {M:Mem} (h:MemOk tab E M) (w':World) (K:List Nat) (id:Nat) (rb:RB) (b:Blk) (t n:List Nat)
  (hid:M.ρ id=none∨M.ρ id=some rb)
  (os:w'.os=M.w.os) (tape:w'.tape=M.w.tape) (out:w'.output=M.w.output) (size:M.w.heap.size≤w'.heap.size)
  (same:∀g,g<M.w.heap.size→(∀k,(k=id∨k∈K)→g∉M.top k)→w'.heap[g]? = M.w.heap[g]?)
  (fromT:∀g∈t,(∃k,(k=id∨k∈K)∧g∈M.top k)∨M.w.heap.size≤g)
  (fromN:∀g∈n,(∃k,(k=id∨k∈K)∧g∈M.top k++M.nest k)∨M.w.heap.size≤g)
  (nodup:(t++n).Nodup) (lt:∀g∈t++n,g<w'.heap.size)
  (blk:MemLe E M (M.put w' K id rb b t n)→BlkIs tab w' (okS E (M.put w' K id rb b t n)) (M.put w' K id rb b t n).ρ b (some rb) t n):
  MemOk tab E (M.put w' K id rb b t n)∧MemLe E M (M.put w' K id rb b t n):=by
 have hsame:∀i,¬(i=id∨i∈K)→i≠id∧i∉K:=fun i hi=>⟨fun e=>hi (.inl e),fun e=>hi (.inr e)⟩
 refine h.move (fun i=>i=id∨i∈K) (fun i hi=>?_) (fun i rb' hrb=>?_) (fun g hg=>?_) (fun i hi g hg=>?_)
  ⟨os,tape,out,size,fun g hg hn=>absurd (List.mem_range.2 hg) hn⟩ (fun g hg hF=>?_) (fun i hi g hg=>?_) (fun i hi g hg=>?_) (fun i hi=>?_) (fun i i' hi hi' hne g hg=>?_) (fun i hi g hg=>?_) (fun i hi=>?_) (fun hle i hi bb hb=>?_)
 ·obtain⟨h1,h2⟩:=hsame i hi
  simp[Mem.put,h1,h2]
 ·by_cases e:i=id
  ·subst e
   rcases hid with hid | hid
   ·rw[hid] at hrb;cases hrb
   ·rw[hid] at hrb;simpa [Mem.put] using hrb
  ·simpa [Mem.put,e] using hrb
 ·exact same g hg.2.1 fun k _=>hg.2.2 k
 ·obtain⟨h1,h2⟩:=hsame i hi
  refine same g (h.mine i g hg).2 fun k hk hgk=>?_
  exact h.apart i k (fun e=>hi (e▸hk)) g hg (List.mem_append_left _ hgk)
 ·refine same g (Nat.lt_of_lt_of_le hg h.kept.size) fun k _ hgk=>?_
  rcases h.mineT k g hgk with h1 | h1
  ·exact hF h1
  ·omega
 ·by_cases e:i=id
  ·subst e;simp[Mem.put] at hg;exact fromT g hg
  ·have hiK:i∈K:=hi.resolve_left e
   simp[Mem.put,e,hiK] at hg
 ·by_cases e:i=id
  ·subst e;simp[Mem.put] at hg;exact fromN g hg
  ·have hiK:i∈K:=hi.resolve_left e
   simp[Mem.put,e,hiK] at hg
 ·by_cases e:i=id
  ·subst e;simpa [Mem.put] using nodup
  ·have hiK:i∈K:=hi.resolve_left e
   simp[Mem.put,e,hiK]
 ·by_cases e:i=id
  ·by_cases e':i'=id
   ·exact absurd (e.trans e'.symm) hne
   ·have hiK:i'∈K:=hi'.resolve_left e'
    simp[Mem.put,e',hiK]
  ·have hiK:i∈K:=hi.resolve_left e
   simp[Mem.put,e,hiK] at hg
 ·by_cases e:i=id
  ·subst e;simp only[Mem.put,if_true] at hg;exact lt g hg
  ·have hiK:i∈K:=hi.resolve_left e
   simp[Mem.put,e,hiK] at hg
 ·by_cases e:i=id
  ·subst e;simp[Mem.put]
  ·have hiK:i∈K:=hi.resolve_left e
   simp[Mem.put,e,hiK]
 ·by_cases e:i=id
  ·subst e
   simp only[Mem.put,if_true,Option.some.injEq] at hb
   subst hb
   simpa [Mem.put] using blk hle
  ·have hiK:i∈K:=hi.resolve_left e
   simp[Mem.put,e,hiK] at hb
end Go.Eng
namespace Go.Eng
def ZbY:Ck→Value
 | .int k=>.int k 0
 | .bool=>.bool false
 | .str=>.string ⟨#[]⟩
 | .sl _=>.slice none 0 0
 | .ptr=>.pointer none
 | .fn=>.nilFunc
 | .other=>.nilIface
def ZeS:Option TypeDesc→Ck→Bool
 | some (.int _), .int _=>true
 | some .string, .str=>true
 | some .bool, .bool=>true
 | _,_=>false
def Zfj (P:Program):List Field→List Ck→Nat→Bool
 | [],[],_=>true
 | f :: fs,k :: ks,i=>(f.name != "_")&&(decide (f.offset=i)&&(ZeS (P.underlying f.type) k&&Zfj P fs ks (i+1)))
 | _,_,_=>false
def ZiS (P:Program):List Field→List Ck→Bool
 | [f0,f1,f2],[k0,k1,k2,k3]=>(f0.name != "_")&&(decide (f0.offset=0)&&(ZeS (P.underlying f0.type) k0&&((f1.name != "_")&&(decide (f1.offset=1)&&(ZeS (P.underlying f1.type) k1 &&
   ((f2.name != "_")&&(decide (f2.offset=2)&&(!P.stoodInHeld f2.type&&(decide ((P.info? f2.type).map (·.size)=some 2)&&Zfj P (P.fieldsOf f2.type).toList [k2,k3] 0)))))))))
 | _,_=>false
structure TyOk (P:Program) (tab:Tab) (T:TypeId) (ty:Ty):Prop where
 info:∃i z,P.info? T=some i∧i.size=ty.kinds.length∧i.bytes=ty.bytes∧i.zero=some z∧
  z.cells.toList=ty.kinds.map ZbY∧(ty.agg=true→z = .agg z.cells)
 pos:0<ty.kinds.length
 agg:ty.agg=true→∃fs:Array Field,P.underlying T=some (.struct fs)∧fs.toList.map (fun f=>(f.offset,f.type))=ty.fields∧∀f∈fs.toList,∃i,P.info? f.type=some i
 flat:ty.agg=false→ty.kinds.length=1∧ty.fields=[]∧∃d,P.underlying T=some d∧(∀fs,d≠.struct fs)∧(∀n e,d≠.array n e)
 elem:∀e,ty.elem=some e→P.underlying T=some (.slice e)∧ty.kinds=[.sl e]
 int:∀k,ty.agg=false→ty.kinds=[.int k]→P.underlying T=some (.int k)
 strs:ty.agg=false→ty.kinds=[.str]→P.underlying T=some .string
 bools:ty.agg=false→ty.kinds=[.bool]→P.underlying T=some .bool
 slice:∀e,ty.agg=false→ty.kinds=[.sl e]→P.underlying T=some (.slice e)
 eqs:eqTy ty=true→P.stoodInHeld T=false∧P.eqGuardType P.depth T=false∧Zfj P (P.fieldsOf T).toList ty.kinds 0=true
 eqn:ZjX ty=true→P.stoodInHeld T=false∧P.eqGuardType P.depth T=false∧ZiS P (P.fieldsOf T).toList ty.kinds=true
def ZB (P:Program) (tab:Tab):Prop:=∀T ty,tab T=some ty→TyOk P tab T ty
section
variable {P:Program} {tab:Tab} {T:TypeId} {ty:Ty}
theorem TyOk.sizeOf (h:TyOk P tab T ty) (w:World):(sizeOf T).run P w = .ok ty.kinds.length w:=by
 obtain⟨i,z,hi,hs,_⟩:=h.info
 simp[Go.sizeOf,typeInfo,hi,hs]
theorem TyOk.zero (h:TyOk P tab T ty) (w:World):∃z,(zeroValue T).run P w = .ok z w∧z.cells.toList=ty.kinds.map ZbY∧(ty.agg=true→z = .agg z.cells):=by
 obtain⟨i,z,hi,hs,hb,hz,h1,h2⟩:=h.info
 exact⟨z,by simp[zeroValue,typeInfo,hi,hz],h1,h2⟩
theorem TyOk.isAgg (h:TyOk P tab T ty) (w:World):(isAgg T).run P w = .ok ty.agg w:=by
 unfold Go.isAgg
 rw[Sem.run_bind]
 cases ha:ty.agg with
 | true=>
  obtain⟨fs,hu,_⟩:=h.agg ha
  rw[run_underlying hu w];rfl
 | false=>
  obtain⟨_,_,d,hu,h1,h2⟩:=h.flat ha
  rw[run_underlying hu w]
  cases d <;> simp_all
end
def Zho (agg:Bool) (cs:List Value):Value:=if agg then .agg cs.toArray else cs.headD undef
theorem Zg8 {P:Program} {tab:Tab} {T:TypeId} {ty:Ty} (h:TyOk P tab T ty) (w:World) (g o:Nat) (cs:List Value)
  (hl:cs.length=ty.kinds.length) (hc:w.rangeAt g o cs):(loadVar T ⟨g,o,none⟩).run P w = .ok (Zho ty.agg cs) w:=by
 cases ha:ty.agg with
 | true=>
  obtain⟨fs,hu,_⟩:=h.agg ha
  obtain⟨i,z,hi,hs,_⟩:=h.info
  rw[run_loadVar_mid (P:=P) w g o T cs (.struct fs) hc hu rfl (by rw[hi];simp[hs,hl])]
  rfl
 | false=>
  have h1:=(h.flat ha).1
  obtain⟨c,rfl⟩:∃c,cs=[c]:=by
   match cs,hl with
   | [c],_=>exact⟨c,rfl⟩
   | [],hl=>simp at hl;omega
   | _ :: _ :: _,hl=>simp at hl;omega
  have hc0:=hc 0 c rfl
  simp only[Nat.add_zero] at hc0
  simp only[loadVar,Sem.run_bind,h.isAgg w,ha,Result.andThen_ok,Bool.false_eq_true,if_false,run_load,hc0]
  rfl
structure StepOk (tab:Tab) (E:Entry) (M:Mem) (Ef:Eff) (val:Value) (M':Mem):Prop where
 mem:MemOk tab E M'
 le:MemLe E M M'
 hp:M'.hp=ZW M.hp Ef.upd
 val:M'.Rs tab E Ef.v val
theorem StepOk.same {tab:Tab} {E:Entry} {M:Mem} (h:MemOk tab E M) {x:V} {v:Value} (hv:M.Rs tab E x v):StepOk tab E M ⟨x,[]⟩ v M:=
 ⟨h, .refl E M,rfl,hv⟩
theorem Zja (a b:List Bool):ZdT (a++b)=(ZdT a&&ZdT b):=by
 induction a with
 | nil=>simp[ZdT]
 | cons x a ih=>simp[ZdT,ih,Bool.and_assoc]
theorem rm_at {α:Type} {m:RM α} {h:ZaG} {a:α} {l:List Nat}:m h=some (a,l)↔∃c,m.run h=some (a,l,c)∧ZdT c=true:=by
 unfold RM.at'
 constructor
 ·intro e
  split at e
  ·rename_i a' l' c hr
   cases hc:ZdT c with
   | false=>rw[hc] at e;cases e
   | true=>rw[hc] at e;cases e;exact⟨c,hr,hc⟩
  ·cases e
 ·rintro⟨c,e,hc⟩;rw[e];simp[hc]
theorem Zj {α β:Type} {m:RM α} {f:α→RM β} {h:ZaG} {r:β×List Nat} (e:RM.bind m f h=some r):
  ∃a l b l',m h=some (a,l)∧f a h=some (b,l')∧r=(b,l++l'):=by
 obtain⟨r1,r2⟩:=r
 rw[rm_at] at e
 obtain⟨c0,e,hc0⟩:=e
 simp only[RM.bind] at e
 split at e
 ·cases e
 ·rename_i a l c hm
  split at e
  ·cases e
  ·rename_i b l' c' hf
   simp only[Option.some.injEq,Prod.mk.injEq] at e
   obtain⟨rfl,rfl,rfl⟩:=e
   rw[Zja,Bool.and_eq_true] at hc0
   exact⟨a,l,b,l',rm_at.2 ⟨c,hm,hc0.1⟩,rm_at.2 ⟨c',hf,hc0.2⟩,rfl⟩
theorem Zm {α:Type} {a:α} {h:ZaG} {r:α×List Nat} (e:RM.ret a h=some r):r=(a,[]):=by
 simpa [RM.ret,RM.at',ZdT] using e.symm
theorem Zu {α:Type} {o:Option α} {h:ZaG} {r:α×List Nat} (e:RM.lift o h=some r):o=some r.1∧r.2=[]:=by
 cases o with
 | none=>simp[RM.lift,RM.fail,RM.at'] at e
 | some a=>simp[RM.lift,RM.ret,RM.at',ZdT] at e;simp[←e]
theorem ZaH {id:Nat} {h:ZaG} {r:Blk×List Nat} (e:RM.get id h=some r):h id=some (some r.1)∧r.2=[id]:=by
 obtain⟨r1,r2⟩:=r
 rw[rm_at] at e
 obtain⟨c,e,-⟩:=e
 simp only[RM.get] at e
 split at e
 ·rename_i b hb;cases e;exact⟨hb,rfl⟩
 ·cases e
theorem Zw {α:Type} {b:Bool} {m:RM α} {h:ZaG} {r:α×List Nat} (e:RM.test b m h=some r):b=true∧m h=some r:=by
 obtain⟨r1,r2⟩:=r
 rw[rm_at] at e
 obtain⟨c0,e,hc0⟩:=e
 simp only[RM.test] at e
 split at e
 ·cases e
 ·rename_i a l c hm
  simp only[Option.some.injEq,Prod.mk.injEq] at e
  obtain⟨rfl,rfl,rfl⟩:=e
  simp only[ZdT,Bool.and_eq_true] at hc0
  exact⟨hc0.1,rm_at.2 ⟨c,hm,hc0.2⟩⟩
theorem Zo {α:Type} {h:ZaG} {r:α×List Nat} (e:(RM.fail:RM α) h=some r):False:=by simp[RM.fail,RM.at'] at e
theorem Zhp {ty:Ty} {cs:List V} {off:Nat} {x:V} (h:ZeP ty cs off=some x):
  off+ty.kinds.length≤cs.length∧0<ty.kinds.length∧x=mk ty.agg ((cs.drop off).take ty.kinds.length):=by
 unfold ZeP at h
 split at h
 ·rename_i hc;exact⟨hc.1,hc.2,by simpa using h.symm⟩
 ·cases h
theorem mk_rs {tab:Tab} {w:World} {ok:Nat→Prop} {ρ:Nat→Option RB} {agg:Bool} {cs:List V} {vs:List Value} (hl:vs.length=cs.length) (hp:0<cs.length)
  (h:∀j,j<cs.length→Rs tab w ok ρ (cs.getD j .dead) (vs.getD j undef)):Rs tab w ok ρ (mk agg cs) (Zho agg vs):=by
 cases agg with
 | true=>exact .agg cs vs hl h
 | false=>
  have:=h 0 hp
  cases cs <;> cases vs <;> simp_all [mk,Zho]
theorem ZeT {P:Program} {tab:Tab} {T:TypeId} {ty:Ty} (hT:TyOk P tab T ty) {w:World} {ok:Nat→Prop} {ρ:Nat→Option RB}
  {cs:List V} {g o off:Nat} {x:V} (vs:List Value) (hl:vs.length=cs.length) (hc:w.rangeAt g o vs)
  (h:∀j,j<cs.length→Rs tab w ok ρ (cs.getD j .dead) (vs.getD j undef)) (ht:ZeP ty cs off=some x):
  ∃v,(loadVar T ⟨g,o+off,none⟩).run P w = .ok v w∧Rs tab w ok ρ x v:=by
 obtain⟨h1,h2,rfl⟩:=Zhp ht
 have hlen:((vs.drop off).take ty.kinds.length).length=ty.kinds.length:=by simp;omega
 have hlen':((cs.drop off).take ty.kinds.length).length=ty.kinds.length:=by simp;omega
 refine⟨_,Zg8 hT w g (o+off) ((vs.drop off).take ty.kinds.length) hlen ?_,?_⟩
 ·intro j v hv
  have hj:j<ty.kinds.length:=by have:=(List.getElem?_eq_some_iff.1 hv).1;rw[hlen] at this;exact this
  rw[List.getElem?_take,if_pos hj,List.getElem?_drop] at hv
  rw[show o+off+j=o+(off+j) from by omega]
  exact hc _ _ hv
 ·refine mk_rs (by rw[hlen,hlen']) (by rw[hlen'];exact h2) fun j hj=>?_
  rw[hlen'] at hj
  have:=h (off+j) (by omega)
  simpa [List.getD,List.getElem?_take,hj,List.getElem?_drop] using this
theorem MemOk.nest_ok {tab:Tab} {E:Entry} {M:Mem} (h:MemOk tab E M) (id g:Nat) (hg:g∈M.nest id):okS E M g:=by
 obtain⟨h1,h2⟩:=h.mine id g (List.mem_append_right _ hg)
 refine⟨.inr h1,h2,fun id' hid'=>?_⟩
 by_cases e:id=id'
 ·subst e
  exact(List.nodup_append.1 (h.nodup id)).2.2 g hid' g hg rfl
 ·exact h.apart id id' e g (List.mem_append_right _ hg) (List.mem_append_left _ hid')
theorem MemOk.row {tab:Tab} {E:Entry} {M:Mem} (h:MemOk tab E M) {id:Nat} {T:TypeId} {own:Bool} {els:List V} (hb:M.hp id=some (some (.row T own els))):
  ∃ty v xs,tab T=some ty∧M.ρ id=some (.row T ty.kinds.length els.length v)∧RowIs M.w T ty.kinds.length els.length v xs∧
   (∀i,i<els.length→ZbS ty (els.getD i .dead))∧M.top id=Zr v∧RowT tab M.w (okS E M) T own els v (M.nest id)∧
   ∀i j,i<els.length→j<ty.kinds.length→Rp tab M.w (okS E M) ((els.getD i .dead).cell j) (xs.getD (i*ty.kinds.length+j) undef):=by
 obtain⟨ty,v,h1,h2,h3,h4⟩:=h.blocks id _ hb
 obtain⟨ty',xs,k1,k2,k3,k4⟩:=h3
 obtain rfl:ty'=ty:=Option.some.inj (k1.symm.trans h1)
 refine⟨ty',v,xs,h1,h2,k2,k3,h4,⟨ty',xs,k1,k2,k3,k4⟩,?_⟩
 rcases k4 with⟨ho,F,hF,he⟩ | ⟨ho,hF,he⟩
 ·exact fun i j hi hj=>(he i j hi hj).tree fun g hg=>h.nest_ok id g (by rw[hF];exact mem_flatF.2 ⟨i,hi,j,hj,hg⟩)
 ·exact he
theorem MemOk.box {tab:Tab} {E:Entry} {M:Mem} (h:MemOk tab E M) {id:Nat} {T:TypeId} {cs:List V} (hb:M.hp id=some (some (.box T cs))):
  ∃g c TT,M.ρ id=some (.box g)∧M.w.heap[g]? = some (.cells c TT (0,0))∧c.size=cs.length∧
   (∀j,j<cs.length→M.Rs tab E (cs.getD j .dead) (c.getD j undef))∧M.top id=[g]∧M.nest id=[]:=
 h.blocks id _ hb
theorem ZnF {w:World} {g:Nat} {c:Array Value} {T:TypeId} {fr:Nat×Nat} (h:w.heap[g]? = some (.cells c T fr)):w.rangeAt g 0 c.toList:=by
 intro j v hv
 rw[Nat.zero_add,cell_of_row w g j c T fr h]
 simpa using hv
theorem Zbj (c:Array Value) (j:Nat):c.toList.getD j undef=c.getD j undef:=by
 simp only[List.getD,Array.getD,Array.getElem?_toList]
 split
 ·rename_i h;simp[h]
 ·rename_i h;simp[h]
theorem ZjC {ty:Ty} {x:V} (h:ZbS ty x) (j:Nat):(Zau ty.kinds x 0).getD j .dead=x.cell j:=by
 rw[Zfi h];rfl
theorem Zhq {P:Program} {tab:Tab} (hT:ZB P tab) {E:Entry} {M:Mem} (hM:MemOk tab E M) {t:TypeId} {p:V} {pv:Value} (hp:M.Rs tab E p pv)
  {x:V} {log:List Nat} (he:Zgx tab t p M.hp=some (x,log)):∃v,(Instr.loadAt t pv).run P M.w = .ok v M.w∧M.Rs tab E x v:=by
 obtain⟨ty,l,b,l',h1,h2,h3⟩:=Zj he
 obtain⟨h1,-⟩:=Zu h1
 cases h3
 have hty:=hT t ty h1
 cases p with
 | bp id off=>
  simp only at h2
  obtain⟨blk,l,b,l',h4,h5,h6⟩:=Zj h2
  obtain⟨h4,-⟩:=ZaH h4
  cases h6
  cases blk with
  | row T own els=>exact(Zo h5).elim
  | drow _ _=>exact(Zo h5).elim
  | hrow _ _ _ _ _=>exact(Zo h5).elim
  | grow _ _=>exact(Zo h5).elim
  | box T cs=>
   obtain⟨h5,-⟩:=Zu h5
   obtain⟨g,c,TT,r1,r2,r3,r4,r6,r7⟩:=hM.box h4
   cases hp with
   | tree hp=>cases hp
   | bp _ _ g' hg=>
    cases r1.symm.trans hg
    obtain⟨v,hv,hr⟩:=ZeT (P:=P) hty (w:=M.w) (ok:=okS E M) (ρ:=M.ρ) (g:=g) (o:=0) c.toList (by simpa using r3) (ZnF r2) (fun j hj=>by rw[Zbj];exact r4 j hj) h5
    refine⟨v,?_,hr⟩
    simpa [Instr.loadAt,Instr.sureAddr] using hv
 | rp id idx off=>
  simp only at h2
  obtain⟨blk,l,b,l',h4,h5,h6⟩:=Zj h2
  obtain⟨h4,-⟩:=ZaH h4
  cases h6
  cases blk with
  | box T cs=>exact(Zo h5).elim
  | drow _ _=>exact(Zo h5).elim
  | hrow _ _ _ _ _=>exact(Zo h5).elim
  | grow T cs=>
   obtain⟨h7,-⟩:=Zu h5
   obtain⟨ty2,v,xs,k1,k2,k3,k4,k5,k6,k7⟩:=hM.blocks id _ h4
   cases hp with
   | tree hp=>cases hp
   | rp _ _ _ T' sz N g cap hg hi=>
    have e:=k3.symm.trans hg
    simp only[Option.some.injEq,RB.row.injEq] at e
    obtain⟨rfl,rfl,rfl,rfl⟩:=e
    rw[k2] at k4
    obtain⟨g',cap',e,_,_,hc⟩:=k4.cell idx (by omega)
    cases e
    obtain⟨w1,hv,hr⟩:=ZeT (P:=P) hty (w:=M.w) (ok:=okS E M) (ρ:=M.ρ) (g:=g) (o:=idx) (cs:=[cs.getD idx .dead]) [xs.getD idx undef] rfl
     (fun j u hu=>by
      cases j with
      | zero=>simp only[List.getElem?_cons_zero,Option.some.injEq] at hu;subst hu;exact hc
      | succ j=>simp at hu)
     (fun j hj=>by
      obtain rfl:j=0:=by simpa using hj
      exact k5 idx hi) h7
    refine⟨w1,?_,hr⟩
    rw[k2,Nat.mul_one]
    simpa [Instr.loadAt,Instr.sureAddr] using hv
  | row T own els=>
   obtain⟨tyT,l,b,l',h6,h7,h8⟩:=Zj h5
   obtain⟨h6,-⟩:=Zu h6
   obtain⟨h7,-⟩:=Zu h7
   cases h8
   obtain⟨ty2,v,xs,k1,k2,k3,k4,k5,k6,k7⟩:=hM.row h4
   obtain rfl:tyT=ty2:=Option.some.inj (h6.symm.trans k1)
   cases hp with
   | tree hp=>cases hp
   | rp _ _ _ T' sz N g cap hg hi=>
    have e:=k2.symm.trans hg
    simp only[Option.some.injEq,RB.row.injEq] at e
    obtain⟨rfl,rfl,rfl,rfl⟩:=e
    have hlen:(Zau tyT.kinds (els.getD idx .dead) 0).length=tyT.kinds.length:=ZaT _ _ _
    have hxs:xs.length=els.length*tyT.kinds.length:=k3.1
    have hle:idx*tyT.kinds.length+tyT.kinds.length≤els.length*tyT.kinds.length:=by
     have:(idx+1)*tyT.kinds.length≤els.length*tyT.kinds.length:=Nat.mul_le_mul_right _ hi
     rwa [Nat.add_mul,Nat.one_mul] at this
    have hvl:((xs.drop (idx*tyT.kinds.length)).take tyT.kinds.length).length=tyT.kinds.length:=by simp;omega
    have hvj:∀j,j<tyT.kinds.length→((xs.drop (idx*tyT.kinds.length)).take tyT.kinds.length).getD j undef=xs.getD (idx*tyT.kinds.length+j) undef:=by
     intro j hj
     simp[List.getD,hj,List.getElem?_drop]
    have hA:M.w.rangeAt g (idx*tyT.kinds.length) ((xs.drop (idx*tyT.kinds.length)).take tyT.kinds.length):=by
     intro j u hu
     have hj:j<tyT.kinds.length:=by have:=(List.getElem?_eq_some_iff.1 hu).1;rw[hvl] at this;exact this
     obtain⟨g',cap',e,_,_,hc⟩:=k3.cell (idx*tyT.kinds.length+j) (by omega)
     cases e
     rw[hc]
     have:=hvj j hj
     rw[List.getD,hu] at this
     simpa using this.symm
    have hB:∀j,j<(Zau tyT.kinds (els.getD idx .dead) 0).length→M.Rs tab E ((Zau tyT.kinds (els.getD idx .dead) 0).getD j .dead) (((xs.drop (idx*tyT.kinds.length)).take tyT.kinds.length).getD j undef):=by
     intro j hj
     rw[hlen] at hj
     rw[ZjC (k4 idx hi) j,hvj j hj]
     exact .tree (k7 idx j hi hj)
    obtain⟨w1,hv,hr⟩:=ZeT (P:=P) hty (w:=M.w) (ok:=okS E M) (ρ:=M.ρ) (g:=g) (o:=idx*tyT.kinds.length) ((xs.drop (idx*tyT.kinds.length)).take tyT.kinds.length) (by rw[hvl,hlen]) hA hB h7
    refine⟨w1,?_,hr⟩
    simpa [Instr.loadAt,Instr.sureAddr] using hv
 | ep cs off=>
  simp only at h2
  obtain⟨h5,-⟩:=Zu h2
  cases hp.ep with
  | ep _ _ g o cv hg hc hr=>
   have hA:M.w.rangeAt g o ((List.range cs.length).map cv):=by
    intro j u hu
    have hj:j<cs.length:=by have:=(List.getElem?_eq_some_iff.1 hu).1;simpa using this
    simp[hj] at hu
    rw[hc j hj,hu]
   have hB:∀j,j<cs.length→M.Rs tab E (cs.getD j .dead) (((List.range cs.length).map cv).getD j undef):=by
    intro j hj
    have:((List.range cs.length).map cv).getD j undef=cv j:=by simp[List.getD,hj]
    rw[this]
    exact .tree (hr j hj)
   obtain⟨v,hv,hr⟩:=ZeT (P:=P) hty (w:=M.w) (ok:=okS E M) (ρ:=M.ρ) (g:=g) (o:=o) ((List.range cs.length).map cv) (by simp) hA hB h5
   refine⟨v,?_,hr⟩
   simpa [Instr.loadAt,Instr.sureAddr] using hv
 | _=>exact(Zo h2).elim
end Go.Eng
namespace Go.Eng
section
variable {P:Program} {tab:Tab} {w:World} {ok:Nat→Prop} {ρ:Nat→Option RB}
theorem ZnG (op:BinOp) (t:TypeId) (x y:Operand) (k k':IntKind) (a b:Int):(eqGuard op t x y (.int k a) (.int k' b)).run P w = .ok () w:=by
 unfold eqGuard;cases op <;> rfl
theorem ZnH (op:BinOp) (t:TypeId) (x y:Operand) (a b:ByteArray):(eqGuard op t x y (.string a) (.string b)).run P w = .ok () w:=by
 unfold eqGuard;cases op <;> rfl
theorem Zmk (op:BinOp) (t:TypeId) (x y:Operand) (a b:Bool):(eqGuard op t x y (.bool a) (.bool b)).run P w = .ok () w:=by
 unfold eqGuard;cases op <;> rfl
theorem byteEq (c d:UInt8):decide ((c.toNat:Int)=(d.toNat:Int))=(c == d):=by
 rw[Bool.eq_iff_iff,decide_eq_true_iff,beq_iff_eq]
 exact⟨fun h=>UInt8.toNat_inj.1 (by omega),fun h=>by rw[h]⟩
theorem Zh8 {a b:ByteArray}:ZbF (Z9 a) (Z9 b)=(a.data.toList == b.data.toList):=by
 unfold Z9
 generalize a.data.toList=x
 generalize b.data.toList=y
 induction x generalizing y with
 | nil=>cases y <;> simp[ZbF]
 | cons c x ih=>
  cases y with
  | nil=>simp[ZbF]
  | cons d y=>
   simp only[List.map_cons,ZbF,ih,V.I,List.cons_beq_cons]
   congr 1
   exact byteEq c d
theorem Zml {a b:ByteArray}:ZcV (Z9 a) (Z9 b)=Op.bytesLess a.data.toList b.data.toList:=by
 unfold Z9
 generalize a.data.toList=x
 generalize b.data.toList=y
 induction x generalizing y with
 | nil=>cases y <;> simp[ZcV,Op.bytesLess]
 | cons c x ih=>
  cases y with
  | nil=>simp[ZcV,Op.bytesLess]
  | cons d y=>
   simp only[List.map_cons,ZcV,ih,V.I,Op.bytesLess]
   congr 1
   ·rw[Bool.eq_iff_iff];simp[UInt8.lt_iff_toNat_lt]
   ·congr 1
    exact byteEq c d
theorem Zjb (hT:ZB P tab) {t:TypeId} (h:ZjW tab t=true):P.underlying t=some .bool:=by
 unfold ZjW at h
 split at h
 ·rename_i e f b h'
  exact(hT t _ h').bools rfl rfl
 ·cases h
theorem Zh9 (d:Nat) {k:Ck} {x y:V} {xv yv:Value} {r:Bool} {t:TypeId} (hx:Rs tab w ok ρ x xv) (hy:Rs tab w ok ρ y yv) (ht:ZeS (P.underlying t) k=true) (h:eqC k x y=some r):
  (Op.equalIn (d+1) t xv yv).run P w = .ok r w:=by
 unfold eqC at h
 split at h
 ·split at h
  ·rename_i e;subst e;cases h
   obtain rfl:=hx.int
   obtain rfl:=hy.int
   unfold ZeS at ht
   split at ht <;> first | (cases ht;done) | skip
   ·rename_i hu hk
    rw[run_equalIn_int w d t _ _ _ _ (by assumption)]
    rfl
   all_goals (rename_i hk;cases hk)
  ·cases h
 ·cases h
  obtain rfl:=hx.bool
  obtain rfl:=hy.bool
  unfold ZeS at ht
  split at ht <;> first | (cases ht;done) | skip
  ·rename_i hk;cases hk
  ·rename_i hk;cases hk
  ·rename_i hu hk
   rw[run_equalIn_bool' w d t _ _ hu]
 ·cases h
  obtain⟨s,rfl,rfl⟩:=hx.str
  obtain⟨s',rfl,rfl⟩:=hy.str
  unfold ZeS at ht
  split at ht <;> first | (cases ht;done) | skip
  ·rename_i hk;cases hk
  ·rename_i hu hk
   rw[run_equalIn_string w d t _ _ hu,Zh8,ByteArray.toList_eq,ByteArray.toList_eq]
  ·rename_i hk;cases hk
 ·cases h
theorem ZcO {t:TypeId} {k:Ck} (ht:ZeS (P.underlying t) k=true) (cs:Array Value) (i:Nat) (hi:i<cs.size):(part t cs i).run P w = .ok (cs.toList.getD i undef) w:=by
 have hd:∃d,P.underlying t=some d∧(∀fs,d≠.struct fs)∧∀n e,d≠.array n e:=by
  unfold ZeS at ht
  split at ht <;> first | (cases ht;done) | skip
  all_goals (exact⟨_,by assumption,by simp,by simp⟩)
 obtain⟨d,hu,h1,h2⟩:=hd
 have ha:(isAgg t).run P w = .ok false w:=by
  unfold Go.isAgg
  rw[Sem.run_bind,run_underlying hu w]
  cases d <;> simp_all
 unfold part
 rw[Sem.run_bind,ha]
 simp[hi]
theorem Zhr (d:Nat) (va vb:List Value):∀(ks:List Ck) (fs:List Field) (i:Nat) (xs ys:List V) (r:Bool),Zfj P fs ks i=true→va.length=i+xs.length→vb.length=i+ys.length→
  (∀j,j<xs.length→Rs tab w ok ρ (xs.getD j .dead) (va.getD (i+j) undef))→(∀j,j<ys.length→Rs tab w ok ρ (ys.getD j .dead) (vb.getD (i+j) undef))→
  Zdi ks xs ys=some r→(Op.eqFields (d+1) va.toArray vb.toArray fs).run P w = .ok r w
 | [],fs,i,xs,ys,r,hf,la,lb,hx,hy,h=>by
  cases fs with
  | cons _ _=>simp[Zfj] at hf
  | nil=>
   unfold Zdi at h
   split at h <;> first | (cases h;done) | skip
   ·cases h;simp[Op.eqFields]
   ·simp_all
 | k :: ks,fs,i,xs,ys,r,hf,la,lb,hx,hy,h=>by
  cases fs with
  | nil=>simp[Zfj] at hf
  | cons f fs=>
   simp only[Zfj,Bool.and_eq_true,decide_eq_true_eq,bne_iff_ne,ne_eq] at hf
   obtain⟨hn,ho,hp,hf⟩:=hf
   cases xs with
   | nil=>simp[Zdi] at h
   | cons x xs=>
   cases ys with
   | nil=>simp[Zdi] at h
   | cons y ys=>
   simp only[List.length_cons] at la lb
   have hx0:=hx 0 (by simp)
   have hy0:=hy 0 (by simp)
   simp only[List.getD_cons_zero,Nat.add_zero] at hx0 hy0
   unfold Zdi at h
   split at h
   ·rename_i b hb
    have e0:=Zh9 d (P:=P) hx0 hy0 hp hb
    have p1:=ZcO (P:=P) (w:=w) hp va.toArray i (by simp;omega)
    have p2:=ZcO (P:=P) (w:=w) hp vb.toArray i (by simp;omega)
    simp only[] at p1 p2
    have go:∀r',(b=true→(Op.eqFields (d+1) va.toArray vb.toArray fs).run P w = .ok r' w)→(Op.eqFields (d+1) va.toArray vb.toArray (f :: fs)).run P w = .ok (b&&r') w:=by
     intro r' hr
     unfold Op.eqFields
     rw[if_pos hn,ho,Sem.run_bind,p1,Result.andThen_ok,Sem.run_bind,p2,Result.andThen_ok,Sem.run_bind,e0,Result.andThen_ok]
     cases b with
     | false=>simp
     | true=>simp only[Bool.not_true,Bool.false_eq_true,if_false,hr rfl,Bool.true_and]
    have next:∀r',Zdi ks xs ys=some r'→(Op.eqFields (d+1) va.toArray vb.toArray fs).run P w = .ok r' w:=fun r' h'=>
     Zhr d va vb ks fs (i+1) xs ys r' hf (by omega) (by omega) (fun j hj=>by
      have:=hx (j+1) (by simp;omega)
      rw[List.getD_cons_succ] at this
      rwa [show i+1+j=i+(j+1) from by omega]) (fun j hj=>by
      have:=hy (j+1) (by simp;omega)
      rw[List.getD_cons_succ] at this
      rwa [show i+1+j=i+(j+1) from by omega]) h'
    split at h
    ·split at h
     ·cases h
      have:=go true fun _=>next true (by simp[Zdi])
      simpa using this
     ·cases h
    ·split at h
     ·cases h
      rename_i hr
      exact go _ fun _=>next _ hr
     ·cases h
   ·cases h
theorem Zia {P:Program} {T:TypeId} {ks:List Ck} (h:Zfj P (P.fieldsOf T).toList ks 0=true) (hk:ks≠[]):P.underlying T=some (.struct (P.fieldsOf T)):=by
 unfold Program.fieldsOf at h ⊢
 split
 ·rename_i fs hu;exact hu
 ·rename_i hu
  cases ks with
  | nil=>exact absurd rfl hk
  | cons k ks=>
   split at h
   ·rename_i fs hu';exact absurd hu' (hu fs)
   ·simp[Zfj] at h
theorem ZnI (hT:ZB P tab) {op:BinOp} {t:TypeId} {ox oy:Operand} {xs ys:List V} {xv yv:Value} {ty:Ty} {r:V} {b:Bool} (hx:Rs tab w ok ρ (.agg xs) xv) (hy:Rs tab w ok ρ (.agg ys) yv)
  (ht:tab t=some ty) (he:eqTy ty=true) (hc:Zdi ty.kinds xs ys=some b) (h:ZjY op b=some r):
  ∃v,(do eqGuard op t ox oy xv yv;binOp op t xv yv:Sem Value).run P w = .ok v w∧Rs tab w ok ρ r v:=by
 obtain⟨va,rfl,la,ha⟩:=hx.agg_inv
 obtain⟨vb,rfl,lb,hb⟩:=hy.agg_inv
 obtain⟨h1,h2,h3⟩:=(hT t ty ht).eqs he
 have hpos:=(hT t ty ht).pos
 have hu:=Zia h3 (by intro e;rw[e] at hpos;simp at hpos)
 have key:(Op.equalIn 10000 t (.agg va.toArray) (.agg vb.toArray)).run P w = .ok b w:=by
  rw[show(10000:Nat)=9998+1+1 from rfl,run_equalIn_struct w _ t _ _ hu h1]
  exact Zhr 9998 va vb ty.kinds _ 0 xs ys b h3 (by omega) (by omega) (by simpa using ha) (by simpa using hb) hc
 rw[Sem.run_bind,run_eqGuard_agg w op t ox oy _ _ h2,Result.andThen_ok]
 unfold ZjY at h
 split at h
 ·cases h;exact⟨_,by rw[run_eql_struct,key];rfl, .tree (.bool _)⟩
 ·cases h;exact⟨_,by rw[run_neq_struct,key];rfl, .tree (.bool _)⟩
 ·cases h
theorem Zib {t:TypeId} {fs:Array Field} (hu:P.underlying t=some (.struct fs)) {n:Nat} (hi:(P.info? t).map (·.size)=some n) (cs:Array Value) (i:Nat):(part t cs i).run P w = .ok (.agg (cs.extract i (i+n))) w:=by
 have ha:(isAgg t).run P w = .ok true w:=by
  unfold Go.isAgg
  rw[Sem.run_bind,run_underlying hu w]
  rfl
 have hs:(sizeOf t).run P w = .ok n w:=by
  cases hq:P.info? t with
  | none=>rw[hq] at hi;cases hi
  | some j=>
   rw[hq] at hi
   simp only[Option.map_some,Option.some.injEq] at hi
   simp[Go.sizeOf,typeInfo,hq,hi]
 unfold part
 rw[Sem.run_bind,ha]
 simp only[Result.andThen_ok,if_true]
 rw[Sem.run_bind,hs]
 rfl
theorem Zmm {P:Program} {T:TypeId} {ks:List Ck} (h:ZiS P (P.fieldsOf T).toList ks=true):P.underlying T=some (.struct (P.fieldsOf T)):=by
 unfold Program.fieldsOf at h ⊢
 split
 ·rename_i fs hu;exact hu
 ·rename_i hu
  split at h
  ·rename_i fs hu';exact absurd hu' (hu fs)
  ·unfold ZiS at h
   split at h
   ·rename_i e;simp at e
   ·cases h
theorem ZjD:∀(ks:List Ck) (xs ys:List V) (r:Bool),Zdi ks xs ys=some r→xs.length=ks.length∧ys.length=ks.length
 | [],[],[],_,_=>⟨rfl,rfl⟩
 | [],_ :: _,_,_,h=>by simp[Zdi] at h
 | [],[],_ :: _,_,h=>by simp[Zdi] at h
 | _ :: _,[],_,_,h=>by simp[Zdi] at h
 | _ :: _,_ :: _,[],_,h=>by simp[Zdi] at h
 | k :: ks,x :: xs,y :: ys,r,h=>by
  unfold Zdi at h
  split at h
  ·split at h
   ·split at h
    ·exact⟨rfl,rfl⟩
    ·cases h
   ·split at h
    ·rename_i hr
     have:=ZjD _ xs ys _ hr
     simp only[List.length_cons] at this ⊢
     omega
    ·cases h
  ·cases h
theorem Zpl (d:Nat) {T:TypeId} {va vb:List Value} {ks:List Ck} {fs:List Field} {xs ys:List V} {r:Bool} (hf:ZiS P fs ks=true) (la:va.length=xs.length) (lb:vb.length=ys.length)
  (hx:∀j,j<xs.length→Rs tab w ok ρ (xs.getD j .dead) (va.getD j undef)) (hy:∀j,j<ys.length→Rs tab w ok ρ (ys.getD j .dead) (vb.getD j undef))
  (h:Zdi ks xs ys=some r):(Op.eqFields (d+1+1+1) va.toArray vb.toArray fs).run P w = .ok r w:=by
 unfold ZiS at hf
 split at hf
 case h_2=>cases hf
 rename_i f0 f1 f2 k0 k1 k2 k3
 simp only[Bool.and_eq_true,decide_eq_true_eq,bne_iff_ne,ne_eq,Bool.not_eq_true'] at hf
 obtain⟨n0,o0,p0,n1,o1,p1,n2,o2,hs,hsz,hfs⟩:=hf
 have hu:=Zia hfs (by simp)
 have hl:=ZjD _ _ _ _ h
 simp only[List.length_cons,List.length_nil] at hl
 match xs,ys,h with
 | [],_,_=>simp at hl
 | [_],_,_=>simp at hl
 | _ :: _ :: _,[],_=>simp at hl
 | _ :: _ :: _,[_],_=>simp at hl
 | x0 :: x1 :: xr,y0 :: y1 :: yr,h=>
  simp only[List.length_cons] at la lb
  unfold Zdi at h
  split at h
  case h_2=>cases h
  rename_i b0 e0
  simp only[] at h
  split at h
  case h_2=>cases h
  rename_i r1 h1
  cases h
  unfold Zdi at h1
  split at h1
  case h_2=>cases h1
  rename_i b1 e1
  simp only[] at h1
  split at h1
  case h_2=>cases h1
  rename_i r2 h2
  cases h1
  have q0:=Zh9 (d+1+1) (P:=P) (hx 0 (by simp)) (hy 0 (by simp)) p0 (by simpa using e0)
  have q1:=Zh9 (d+1+1) (P:=P) (hx 1 (by simp)) (hy 1 (by simp)) p1 (by simpa using e1)
  have a0:=ZcO (P:=P) (w:=w) p0 va.toArray 0 (by simp;omega)
  have a1:=ZcO (P:=P) (w:=w) p1 va.toArray 1 (by simp;omega)
  have c0:=ZcO (P:=P) (w:=w) p0 vb.toArray 0 (by simp;omega)
  have c1:=ZcO (P:=P) (w:=w) p1 vb.toArray 1 (by simp;omega)
  have a2:=Zib (P:=P) (w:=w) hu hsz va.toArray 2
  have c2:=Zib (P:=P) (w:=w) hu hsz vb.toArray 2
  have hxr:=ZjD _ _ _ _ h2
  simp only[List.length_cons,List.length_nil] at hxr
  have q2:(Op.equalIn (d+1+1+1) f2.type (.agg (va.toArray.extract 2 (2+2))) (.agg (vb.toArray.extract 2 (2+2)))).run P w = .ok r2 w:=by
   rw[run_equalIn_struct w _ f2.type _ _ hu hs,show va.toArray.extract 2 (2+2)=((va.drop 2).take 2).toArray from by simp[List.extract_eq_take_drop],show vb.toArray.extract 2 (2+2)=((vb.drop 2).take 2).toArray from by simp[List.extract_eq_take_drop]]
   refine Zhr (tab:=tab) (ok:=ok) (ρ:=ρ) (d+1) _ _ [k2,k3] _ 0 xr yr r2 hfs ?_ ?_ (fun j hj=>?_) (fun j hj=>?_) h2
   ·simp;omega
   ·simp;omega
   ·have:=hx (j+2) (by simp;omega)
    have e:((va.drop 2).take 2).getD (0+j) undef=va.getD (j+2) undef:=by
     simp[List.getD,show j<2 by omega,Nat.add_comm]
    rw[e];simpa using this
   ·have:=hy (j+2) (by simp;omega)
    have e:((vb.drop 2).take 2).getD (0+j) undef=vb.getD (j+2) undef:=by
     simp[List.getD,show j<2 by omega,Nat.add_comm]
    rw[e];simpa using this
  simp only at a0 a1 c0 c1 q0 q1
  unfold Op.eqFields
  rw[if_pos n0,o0,Sem.run_bind,a0,Result.andThen_ok,Sem.run_bind,c0,Result.andThen_ok,Sem.run_bind,q0,Result.andThen_ok]
  cases b0 with
  | false=>simp
  | true=>
   simp only[Bool.not_true,Bool.false_eq_true,if_false,Bool.true_and]
   unfold Op.eqFields
   rw[if_pos n1,o1,Sem.run_bind,a1,Result.andThen_ok,Sem.run_bind,c1,Result.andThen_ok,Sem.run_bind,q1,Result.andThen_ok]
   cases b1 with
   | false=>simp
   | true=>
    simp only[Bool.not_true,Bool.false_eq_true,if_false,Bool.true_and]
    unfold Op.eqFields
    rw[if_pos n2,o2,Sem.run_bind,a2,Result.andThen_ok,Sem.run_bind,c2,Result.andThen_ok,Sem.run_bind,q2,Result.andThen_ok]
    cases r2 <;> simp[Op.eqFields]
theorem Zmn (hT:ZB P tab) {op:BinOp} {t:TypeId} {ox oy:Operand} {xs ys:List V} {xv yv:Value} {ty:Ty} {r:V} {b:Bool} (hx:Rs tab w ok ρ (.agg xs) xv) (hy:Rs tab w ok ρ (.agg ys) yv)
  (ht:tab t=some ty) (he:ZjX ty=true) (hc:Zdi ty.kinds xs ys=some b) (h:ZjY op b=some r):
  ∃v,(do eqGuard op t ox oy xv yv;binOp op t xv yv:Sem Value).run P w = .ok v w∧Rs tab w ok ρ r v:=by
 obtain⟨va,rfl,la,ha⟩:=hx.agg_inv
 obtain⟨vb,rfl,lb,hb⟩:=hy.agg_inv
 obtain⟨h1,h2,h3⟩:=(hT t ty ht).eqn he
 have hu:=Zmm h3
 have key:(Op.equalIn 10000 t (.agg va.toArray) (.agg vb.toArray)).run P w = .ok b w:=by
  rw[show(10000:Nat)=9998+1+1 from rfl,run_equalIn_struct w _ t _ _ hu h1]
  exact Zpl (T:=t) 9996 h3 la lb ha hb hc
 rw[Sem.run_bind,run_eqGuard_agg w op t ox oy _ _ h2,Result.andThen_ok]
 unfold ZjY at h
 split at h
 ·cases h;exact⟨_,by rw[run_eql_struct,key];rfl, .tree (.bool _)⟩
 ·cases h;exact⟨_,by rw[run_neq_struct,key];rfl, .tree (.bool _)⟩
 ·cases h
theorem Zpm (hT:ZB P tab) {op:BinOp} {t:TypeId} {ox oy:Operand} {x y r:V} {xv yv:Value} (hx:Rs tab w ok ρ x xv) (hy:Rs tab w ok ρ y yv) (h:Zek tab t op x y=some r):
  ∃v,(do eqGuard op t ox oy xv yv;binOp op t xv yv:Sem Value).run P w = .ok v w∧Rs tab w ok ρ r v:=by
 cases x with
 | int k a=>
  cases y with
  | int k' b=>
   rw[hx.int,hy.int]
   simp only[Sem.run_bind,ZnG,Result.andThen_ok]
   simp only[Zek] at h
   cases op <;> simp only[ZjV,divs,bits,arith] at h <;> (try (split at h)) <;> (try (split at h)) <;> (try (cases h;done)) <;>
    first
    | (cases h;rename_i e;subst e;refine⟨_,?_, .tree (.int _ _)⟩;simp[binOp,Op.intArith,Op.intBits];done)
    | (cases h;rename_i e;subst e;refine⟨_,?_, .tree (.bool _)⟩;simp[binOp,Op.intCmp];done)
    | (cases h;rename_i e e';subst e;refine⟨_,?_, .tree (.int _ _)⟩;simp[binOp,Op.intDiv,e'];done)
    | (cases h;rename_i e;refine⟨_,?_, .tree (.int _ _)⟩;simp[binOp,Op.shift,e];done)
    | (cases h;rename_i e;subst e;refine⟨_,?_, .tree (.bool _)⟩;simp[binOp,Op.intCmp];rw[Bool.eq_iff_iff];simp;done)
  | _=>simp[Zek] at h
 | str a=>
  cases y with
  | str b=>
   obtain⟨s,rfl,rfl⟩:=hx.str
   obtain⟨s',rfl,rfl⟩:=hy.str
   simp only[Sem.run_bind,ZnH,Result.andThen_ok]
   simp only[Zek,Zoi] at h
   cases op <;> simp only[] at h <;> (try (cases h;done)) <;> (cases h;refine⟨_,?_, .tree (.bool _)⟩;simp[binOp,Op.stringOp,ByteArray.toList_eq,Zh8,Zml])
  | _=>simp[Zek] at h
 | bool a=>
  cases y with
  | bool b=>
   rw[hx.bool,hy.bool]
   simp only[Sem.run_bind,Zmk,Result.andThen_ok]
   simp only[Zek] at h
   cases op <;> simp only[] at h <;> (try (cases h;done)) <;> (split at h) <;> (try (cases h;done))
   ·rename_i hb;cases h;exact⟨_,by rw[run_eql_bool _ _ _ _ (Zjb hT hb)], .tree (.bool _)⟩
   ·rename_i hb;cases h
    refine⟨_,?_, .tree (.bool _)⟩
    simp only[binOp,Sem.run_bind,run_equal_bool _ _ _ _ (Zjb hT hb),Result.andThen_ok,Sem.run_pure]
  | _=>simp[Zek] at h
 | agg xs=>
  cases y with
  | agg ys=>
   simp only[Zek] at h
   split at h
   ·rename_i ty ht
    split at h
    ·rename_i he
     split at h
     ·rename_i b hc
      simp only[Bool.or_eq_true] at he
      rcases he with he | he
      ·exact ZnI hT hx hy ht he hc h
      ·exact Zmn hT hx hy ht he hc h
     ·cases h
    ·cases h
   ·cases h
  | _=>simp[Zek] at h
 | _=>cases y <;> simp[Zek] at h
theorem un_sound {op:UnOp} {x r:V} {xv:Value} (hx:Rs tab w ok ρ x xv) (h:unV op x=some r):
  ∃v,(Op.unary op xv).run P w = .ok v w∧Rs tab w ok ρ r v:=by
 cases op <;> cases x <;> simp only[unV] at h <;> (try (cases h;done))
 ·cases h;rw[hx.int];exact⟨_,by simp[Op.unary,Op.intArith], .tree (.int _ _)⟩
 ·cases h;rw[hx.bool];exact⟨_,by simp[Op.unary], .tree (.bool _)⟩
theorem ZcP (g o n:Nat):(⟨g,o,none⟩:Addr).add n=⟨g,o+n,none⟩:=Addr.add_mid g o n
theorem TyOk.field (hT:ZB P tab) {t:TypeId} {ty:Ty} (ht:tab t=some ty) {f:Nat} {fd:Nat×TypeId} (hf:ty.fields[f]? = some fd):
  ∃(fs:Array Field) (x:Field),P.underlying t=some (.struct fs)∧fs[f]? = some x∧x.offset=fd.1∧x.type=fd.2:=by
 have hty:=hT t ty ht
 cases ha:ty.agg with
 | false=>rw[(hty.flat ha).2.1] at hf;simp at hf
 | true=>
  obtain⟨fs,hu,hfs,-⟩:=hty.agg ha
  rw[←hfs] at hf
  simp only[List.getElem?_map,Array.getElem?_toList,Option.map_eq_some_iff] at hf
  obtain⟨x,hx,rfl⟩:=hf
  exact⟨fs,x,hu,hx,rfl,rfl⟩
theorem Zkc (hT:ZB P tab) {t:TypeId} {x r:V} {xv:Value} {f:Nat} (hx:Rs tab w ok ρ x xv) (h:Zj0 tab t x f=some r):
  ∃v,(Instr.fieldAt t xv f).run P w = .ok v w∧Rs tab w ok ρ r v:=by
 unfold Zj0 at h
 obtain⟨ty,h1,h⟩:=Option.bind_eq_some_iff.1 h
 obtain⟨fd,h2,h⟩:=Option.bind_eq_some_iff.1 h
 obtain⟨ft,h3,h⟩:=Option.bind_eq_some_iff.1 h
 obtain⟨fs,fx,hu,hfx,ho,hty⟩:=TyOk.field hT h1 h2
 have hsz:=(hT fd.2 ft h3).sizeOf w
 have hpos:=(hT fd.2 ft h3).pos
 have hrun:∀g o,(Instr.fieldAt t (.pointer (some ⟨g,o,none⟩)) f).run P w = .ok (.pointer (some ⟨g,o+fd.1,none⟩)) w:=by
  intro g o
  have hne:¬ft.kinds.length=0:=by omega
  simp only[Instr.fieldAt,Sem.run_bind,run_underlying hu,Result.andThen_ok,hfx,Instr.sureAddr,Sem.run_pure,fieldPlace,hty,hsz,hne,if_false,ho,ZcP]
 cases x with
 | bp id off=>
  cases h
  cases hx with
  | tree hx=>cases hx
  | bp _ _ g hg=>exact⟨_,hrun g off, .bp id _ g hg⟩
 | rp id idx off=>
  cases h
  cases hx with
  | tree hx=>cases hx
  | rp _ _ _ T sz N g cap hg hi=>
   refine⟨_,hrun g _,?_⟩
   rw[Nat.add_assoc]
   exact .rp id idx _ T sz N g cap hg hi
 | ep cs off=>
  cases h
  cases hx.ep with
  | ep _ _ g o cv hg hc hr=>
   refine⟨_,hrun g _,?_⟩
   rw[Nat.add_assoc]
   exact .tree (.ep cs _ g o cv hg hc hr)
 | _=>cases h
theorem ZlT {x r:V} {xv:Value} {i:Nat} {vs:List V} (hx:Rs tab w ok ρ (.tup vs) xv) (h:vs[i]? = some r) (_:x = .tup vs):
  ∃v,(Instr.extract xv i).run P w = .ok v w∧Rs tab w ok ρ r v:=by
 obtain⟨vals,rfl,hl,hj⟩:=hx.tup_inv
 have hi:i<vs.length:=(List.getElem?_eq_some_iff.1 h).1
 refine⟨vals.getD i undef,?_,?_⟩
 ·have:vals.toArray[i]? = some (vals.getD i undef):=by simp[List.getD,hl,hi]
  simp[Instr.extract,this]
 ·have:=hj i hi
  simpa [List.getD,h] using this
theorem Zhs {n:Int} {len:Nat} (h:Zn n len=true):0≤n∧n<(len:Int):=by
 simpa [Zn] using h
theorem Zkd {l:List V} {n:Int} {k:IntKind} {xv:Value} {t:TypeId} (hx:Rs tab w ok ρ (.str l) xv) (hu:P.underlying t=some .string) (h:Zn n l.length=true):
  ∃v,(Instr.index t xv (.int k n)).run P w = .ok v w∧Rs tab w ok ρ (.int .u8 (l.getD n.toNat .dead).I) v:=by
 obtain⟨s,rfl,rfl⟩:=hx.str
 obtain⟨h0,h1⟩:=Zhs h
 have hlen:(Z9 s).length=s.size:=by rw[Z9,List.length_map,Array.length_toList];rfl
 rw[hlen] at h1
 have hlt:n.toNat<s.size:=by omega
 have hb:s[n.toNat]? = some s[n.toNat]:=getElem?_pos s n.toNat hlt
 refine⟨.int .u8 (s[n.toNat].toNat:Int),?_,?_⟩
 ·simp only[Instr.index,asIntOf,Sem.run_bind,Sem.run_pure,Result.andThen_ok,run_underlying hu,h0,if_true,hb]
 ·have:(Z9 s).getD n.toNat .dead = .int .u8 (s[n.toNat].toNat:Int):=by
   have h2:n.toNat<s.data.size:=hlt
   have h3:s.data[n.toNat]? = some s.data[n.toNat]:=getElem?_pos s.data n.toNat h2
   simp only[Z9,List.getD,List.getElem?_map,Array.getElem?_toList,h3,Option.map_some,Option.getD_some]
   rfl
  rw[this]
  exact .tree (.int _ _)
theorem Zke (els:List V) (off:Nat) (len:Option Nat) (n:Nat) (hn:n=len.getD (els.length-off)) (h:off+n≤els.length):(cut els off len).length=n:=by
 cases len with
 | none=>simp at hn;simp[cut,hn]
 | some m=>simp at hn;subst hn;simp[cut];omega
theorem MemOk.sl {E:Entry} {M:Mem} (hM:MemOk tab E M) {id T off:Nat} {len:Option Nat} {T':TypeId} {own:Bool} {els:List V} {v:Value}
  (hx:M.Rs tab E (.sl id T off len) v) (hb:M.hp id=some (some (.row T' own els))):
  ∃ty a a' cap n,tab T'=some ty∧M.ρ id=some (.row T' ty.kinds.length els.length (.slice a els.length cap))∧els.length≤cap∧n=len.getD (els.length-off)∧off+n≤els.length∧
   (off<cap→a'=a.map (·.add (off*ty.kinds.length)))∧(off=0→a'=a)∧v = .slice a' n (cap-off)∧(cut els off len).length=n∧
   (0<els.length→∃g,a=some ⟨g,0,none⟩∧M.top id=[g]∧0<cap):=by
 obtain⟨ty,rv,xs,k1,k2,k3,k4,k5,k6,k7⟩:=hM.row hb
 cases hx with
 | tree hx=>cases hx
 | sl _ _ _ _ sz N a a' cap n h1 h2 h3 h4 h5 h6=>
  have e:=k2.symm.trans h1
  simp only[Option.some.injEq,RB.row.injEq] at e
  obtain⟨rfl,rfl,rfl,rfl⟩:=e
  refine⟨ty,a,a',cap,n,k1,h1,h2,h3,h4,h5,h6,rfl,Zke els off len n h3 h4,fun hpos=>?_⟩
  rcases k3.2 with⟨b,e,h0⟩ | ⟨g,cap',cur,e,hc,hg,r⟩
  ·omega
  ·cases e
   obtain⟨c,rfl⟩:∃c,cap=c+1:=⟨cap-1,by omega⟩
   exact⟨g,rfl,by rw[k5];rfl,hc⟩
theorem MemOk.sl_ty {E:Entry} {M:Mem} (hM:MemOk tab E M) {id T off:Nat} {len:Option Nat} {T':TypeId} {own:Bool} {els:List V} {v:Value}
  (hx:M.Rs tab E (.sl id T off len) v) (hb:M.hp id=some (some (.row T' own els))):T=T':=by
 obtain⟨ty,rv,xs,k1,k2,k3,k4,k5,k6,k7⟩:=hM.row hb
 cases hx with
 | tree hx=>cases hx
 | sl _ _ _ _ sz N a a' cap n h1 h2 h3 h4 h5 h6=>
  have e:=k2.symm.trans h1
  simp only[Option.some.injEq,RB.row.injEq] at e
  exact e.1.symm
def Blk.rowOf:Blk→Option (TypeId×List V)
 | .row T _ els=>some (T,els)
 | .drow T els=>some (T,els)
 | .hrow T els _ _ _=>some (T,els)
 | .grow T cs=>some (T,cs)
 | .box _ _=>none
theorem MemOk.row' {E:Entry} {M:Mem} (hM:MemOk tab E M) {id:Nat} {b:Blk} {T:TypeId} {els:List V} (hb:M.hp id=some (some b)) (hr:b.rowOf=some (T,els)):
  ∃ty v xs,tab T=some ty∧M.ρ id=some (.row T ty.kinds.length els.length v)∧RowIs M.w T ty.kinds.length els.length v xs∧∀g∈Zr v,g∈M.top id:=by
 cases b with
 | box T cs=>cases hr
 | row T' own els'=>
  cases hr
  obtain⟨ty,rv,xs,k1,k2,k3,k4,k5,k6,k7⟩:=hM.row hb
  exact⟨ty,rv,xs,k1,k2,k3,fun g hg=>by rw[k5];exact hg⟩
 | drow T' els'=>
  cases hr
  obtain⟨ty,v,n,h1,h2,⟨ty',xs,q1,q2,q3,q4⟩,h4,h5⟩:=hM.blocks id _ hb
  obtain rfl:ty=ty':=Option.some.inj (h1.symm.trans q1)
  exact⟨ty,v,xs,h1,h2,q2,fun g hg=>by rw[h4];exact List.mem_append_left _ hg⟩
 | hrow T' els' idx off j=>
  cases hr
  obtain⟨ty,v,xs,F,e,ty2,N,h1,h2,h3,h4,h5,h6,h7,h8,h9,h10,h11,h12,h13⟩:=hM.blocks id _ hb
  exact⟨ty,v,xs,h1,h2,h3,fun g hg=>by rw[h12];exact List.mem_append_left _ hg⟩
 | grow T' cs=>
  cases hr
  obtain⟨ty,v,xs,h1,h2,h3,h4,h5,h6,h7⟩:=hM.blocks id _ hb
  exact⟨ty,v,xs,h1,h3,h4,fun g hg=>by rw[h6];exact hg⟩
theorem MemOk.sl' {E:Entry} {M:Mem} (hM:MemOk tab E M) {id T off:Nat} {len:Option Nat} {b:Blk} {T':TypeId} {els:List V} {v:Value}
  (hx:M.Rs tab E (.sl id T off len) v) (hb:M.hp id=some (some b)) (hr:b.rowOf=some (T',els)):
  T=T'∧∃ty a a' cap n,tab T'=some ty∧M.ρ id=some (.row T' ty.kinds.length els.length (.slice a els.length cap))∧els.length≤cap∧n=len.getD (els.length-off)∧off+n≤els.length∧
   (off<cap→a'=a.map (·.add (off*ty.kinds.length)))∧(off=0→a'=a)∧v = .slice a' n (cap-off)∧(cut els off len).length=n∧
   (0<els.length→∃g,a=some ⟨g,0,none⟩∧g∈M.top id∧0<cap):=by
 obtain⟨ty,rv,xs,k1,k2,k3,k5⟩:=hM.row' hb hr
 cases hx with
 | tree hx=>cases hx
 | sl _ _ _ _ sz N a a' cap n h1 h2 h3 h4 h5 h6=>
  have e:=k2.symm.trans h1
  simp only[Option.some.injEq,RB.row.injEq] at e
  obtain⟨rfl,rfl,rfl,rfl⟩:=e
  refine⟨rfl,ty,a,a',cap,n,k1,h1,h2,h3,h4,h5,h6,rfl,Zke els off len n h3 h4,fun hpos=>?_⟩
  rcases k3.2 with⟨b,e,h0⟩ | ⟨g,cap',cur,e,hc,hg,r⟩
  ·omega
  ·cases e
   obtain⟨c,rfl⟩:∃c,cap=c+1:=⟨cap-1,by omega⟩
   exact⟨g,rfl,k5 g (by simp[Zr]),hc⟩
theorem Zg9 {els:List V} {off:Nat} {len:Option Nat} {n i:Nat} (hn:n=len.getD (els.length-off)) (h:off+n≤els.length) (hi:i<n):(cut els off len).getD i .dead=els.getD (off+i) .dead:=by
 cases len with
 | none=>simp[cut,List.getD,List.getElem?_drop]
 | some m=>simp at hn;subst hn;simp[cut,List.getD,hi,List.getElem?_drop]
theorem Zkf (hT:ZB P tab) {E:Entry} {M:Mem} (hM:MemOk tab E M) {t:TypeId} {x i r:V} {xv iv:Value} {log:List Nat}
  (hx:M.Rs tab E x xv) (hi:M.Rs tab E i iv) (h:Zec tab t x i M.hp=some (r,log)):
  ∃v,(Instr.indexAt t xv iv).run P M.w = .ok v M.w∧M.Rs tab E r v:=by
 unfold Zec at h
 obtain⟨e,l,b,l',h1,h2,h3⟩:=Zj h
 cases h3
 obtain⟨h1,-⟩:=Zu h1
 obtain⟨ty0,h0,h1⟩:=Option.bind_eq_some_iff.1 h1
 obtain⟨ty,l,b,l',h3,h4,h5⟩:=Zj h2
 cases h5
 obtain⟨h3,-⟩:=Zu h3
 have hu:=((hT t ty0 h0).elem e h1).1
 have hsz:=(hT e ty h3).sizeOf M.w
 have hpos:=(hT e ty h3).pos
 cases x with
 | sl id T off len=>
  cases i with
  | int k n=>
   rw[hi.int]
   obtain⟨blk,l,b,l',h6,h7,h8⟩:=Zj h4
   cases h8
   obtain⟨h6,-⟩:=ZaH h6
   have key:∀(T':TypeId) (els:List V),blk.rowOf=some (T',els)→RM.test (decide (T'=e)&&Zn n ((cut els off len).length)) (RM.ret (V.rp id (off+n.toNat) 0)) M.hp=some (r,l')→
     ∃v,(Instr.indexAt t xv (.int k n)).run P M.w = .ok v M.w∧M.Rs tab E r v:=fun T' els hro h7=>by
    obtain⟨h8,h9⟩:=Zw h7
    cases Zm h9
    rw[Bool.and_eq_true] at h8
    obtain⟨hte,h8⟩:=h8
    obtain rfl:T'=e:=by simpa using hte
    obtain⟨hn0,hn1⟩:=Zhs h8
    obtain⟨-,ty',a,a',cap,m,q1,q2,q3,q4,q5,q6,q7,rfl,q8,q9⟩:=hM.sl' hx h6 hro
    obtain rfl:ty=ty':=Option.some.inj (h3.symm.trans q1)
    rw[q8] at hn1
    obtain⟨g,rfl,qt,qc⟩:=q9 (by omega)
    have ha:a'=some ⟨g,off*ty.kinds.length,none⟩:=by rw[q6 (by omega)];simp[ZcP]
    subst ha
    refine⟨_,?_, .rp id (off+n.toNat) 0 T' ty.kinds.length els.length g cap q2 (by omega)⟩
    have hc:0≤n∧n<(m:Int):=⟨hn0,hn1⟩
    simp only[Instr.indexAt,asIntOf,Sem.run_bind,Sem.run_pure,Result.andThen_ok,run_underlying hu,Sem.run_ite,hc,and_self,if_true,hsz,ZcP,Nat.add_mul,Nat.add_zero]
   cases blk with
   | box T cs=>exact(Zo h7).elim
   | drow T' els=>exact key T' els rfl h7
   | hrow T' els _ _ _=>exact key T' els rfl h7
   | grow T' els=>exact key T' els rfl h7
   | row T' own els=>exact key T' els rfl h7
  | _=>exact(Zo h4).elim
 | inl T l=>
  cases i with
  | int k n=>
   rw[hi.int]
   obtain⟨h8,h9⟩:=Zw h4
   cases Zm h9
   rw[Bool.and_eq_true] at h8
   obtain⟨hte,h8⟩:=h8
   obtain rfl:T=e:=by simpa using hte
   obtain⟨hn0,hn1⟩:=Zhs h8
   cases hx.inl with
   | inl _ _ ty' a cap g off cv r1 r2 r3 r4 r5 r6=>
    obtain rfl:ty=ty':=Option.some.inj (h3.symm.trans r1)
    have hlt:n.toNat<l.length:=by omega
    have hl:l≠[]:=by intro e;subst e;simp at hlt
    obtain⟨rfl,hok⟩:=r3 hl
    have hc:0≤n∧n<(l.length:Int):=⟨hn0,hn1⟩
    refine⟨.pointer (some ⟨g,off+n.toNat*ty.kinds.length,none⟩),?_,?_⟩
    ·simp only[Instr.indexAt,asIntOf,Sem.run_bind,Sem.run_pure,Result.andThen_ok,run_underlying hu,Sem.run_ite,hc,and_self,if_true,hsz,ZcP]
    ·have:=Rp.ep (tab:=tab) (w:=M.w) (ok:=okS E M) (Zau ty.kinds (l.getD n.toNat .dead) 0) 0 g (off+n.toNat*ty.kinds.length) (cv n.toNat) hok
      (fun j hj=>by rw[ZaT] at hj;exact r5 n.toNat j hlt hj)
      (fun j hj=>by rw[ZaT] at hj;rw[ZjC (r4 n.toNat hlt)];exact r6 n.toNat j hlt hj)
     exact .tree this
  | _=>exact(Zo h4).elim
 | _=>cases i <;> exact(Zo h4).elim
end
end Go.Eng
namespace Go.Eng
section
variable {P:Program} {tab:Tab}
def Zha (dflt:Nat) (top:Nat):Option V→Option Nat
 | none=>some dflt
 | some (.int _ n)=>if 0≤n∧n≤(top:Int) then some n.toNat else none
 | _=>none
theorem Zd5 {d top:Nat} {b:Option V} {h:ZaG} {r:Nat×List Nat} (e:ZdI d top b h=some r):Zha d top b=some r.1∧r.2=[]:=by
 unfold ZdI at e
 split at e
 ·cases Zm e;exact⟨rfl,rfl⟩
 ·obtain⟨h1,h2⟩:=Zw e
  cases Zm h2
  simp only[Bool.and_eq_true,decide_eq_true_eq] at h1
  exact⟨by simp[Zha,h1],rfl⟩
 ·exact(Zo e).elim
theorem Zen {d top:Nat} {b:Option V} {r:Nat} (h:Zha d top b=some r):(b=none∧r=d)∨∃k n,b=some (.int k n)∧0≤n∧n≤(top:Int)∧r=n.toNat:=by
 unfold Zha at h
 split at h
 ·exact .inl ⟨rfl,by simpa using h.symm⟩
 ·rename_i k n
  split at h
  ·rename_i hc;exact .inr ⟨k,n,rfl,hc.1,hc.2,by simpa using h.symm⟩
  ·cases h
 ·cases h
theorem ZdX {w:World} (isS:Bool) (len cap:Nat) (lo hi:Option V) (lov hiv:Option Value) (h l:Nat)
  (hlo:∀k n,lo=some (.int k n)→lov=some (.int k n)) (hlo0:lo=none→lov=none)
  (hhi:∀k n,hi=some (.int k n)→hiv=some (.int k n)) (hhi0:hi=none→hiv=none)
  (hc:len≤cap) (h1:Zha len len hi=some h) (h2:Zha 0 h lo=some l):
  (Instr.sliceBounds isS len cap lov hiv none).run P w = .ok (l,h,cap) w∧l≤h∧h≤len:=by
 rcases Zen h1 with⟨e,rfl⟩ | ⟨k,n,e,hn0,hn1,rfl⟩
 ·obtain rfl:=hhi0 e
  rcases Zen h2 with⟨e',rfl⟩ | ⟨k',n',e',hn0',hn1',rfl⟩
  ·obtain rfl:=hlo0 e'
   exact⟨rfl,Nat.zero_le _,Nat.le_refl _⟩
  ·obtain rfl:=hlo k' n' e'
   have:0≤n'∧n'≤(h:Int):=⟨hn0',hn1'⟩
   exact⟨by simp[Instr.sliceBounds,Instr.sliceBound,asIntOf,this],by omega,Nat.le_refl _⟩
 ·obtain rfl:=hhi k n e
  have hc1:0≤n∧n≤(cap:Int):=⟨hn0,by omega⟩
  rcases Zen h2 with⟨e',rfl⟩ | ⟨k',n',e',hn0',hn1',rfl⟩
  ·obtain rfl:=hlo0 e'
   exact⟨by simp[Instr.sliceBounds,Instr.sliceBound,asIntOf,hc1],Nat.zero_le _,by omega⟩
  ·obtain rfl:=hlo k' n' e'
   have hn:((n.toNat:Nat):Int)=n:=by omega
   have:0≤n'∧n'≤((n.toNat:Nat):Int):=⟨hn0',hn1'⟩
   refine⟨?_,by omega,by omega⟩
   rw[hn] at this
   simp only[Instr.sliceBounds,Instr.sliceBound,asIntOf,Sem.run_bind,Sem.run_pure,Result.andThen_ok,Sem.run_ite,hc1,and_self,if_true,hn,this,Option.isSome_none]
theorem Addr.add_add' (a:Addr) (n m:Nat):(a.add n).add m=a.add (n+m):=by
 unfold Addr.add
 by_cases hn:n=0
 ·subst hn;simp
 ·by_cases hm:m=0
  ·subst hm;simp
  ·simp[hn,hm,Nat.add_assoc]
theorem Addr.add_zero' (a:Addr):a.add 0=a:=by simp[Addr.add]
def OptRs (tab:Tab) (E:Entry) (M:Mem) (x:Option V) (v:Option Value):Prop:=
 (x=none∧v=none)∨∃y u,x=some y∧v=some u∧M.Rs tab E y u
theorem OptRs.int {E:Entry} {M:Mem} {x:Option V} {v:Option Value} (h:OptRs tab E M x v):(∀k n,x=some (.int k n)→v=some (.int k n))∧(x=none→v=none):=by
 rcases h with⟨rfl,rfl⟩ | ⟨y,u,rfl,rfl,hr⟩
 ·simp
 ·refine⟨fun k n e=>?_,by simp⟩
  simp only[Option.some.injEq] at e
  subst e;rw[hr.int]
theorem ZnJ (hT:ZB P tab) {E:Entry} {M:Mem} (hM:MemOk tab E M) {t:TypeId} {x r:V} {lo hi mx:Option V} {xv:Value} {lov hiv mxv:Option Value} {log:List Nat}
  (hx:M.Rs tab E x xv) (hlo:OptRs tab E M lo lov) (hhi:OptRs tab E M hi hiv) (hmx:OptRs tab E M mx mxv) (h:Zfx tab t x lo hi mx M.hp=some (r,log)):
  ∃v,(Instr.sliceAt t xv lov hiv mxv).run P M.w = .ok v M.w∧M.Rs tab E r v:=by
 by_cases hstr:∃els,x = .str els
 ·obtain⟨els,rfl⟩:=hstr
  simp only[Zfx] at h
  cases mx with
  | some m=>exact(Zo h).elim
  | none=>
   have hm:=hmx.int.2 rfl
   subst hm
   simp only at h
   obtain⟨ty,l1,b1,l1',h1,h2,h3⟩:=Zj h
   cases h3
   obtain⟨h1,-⟩:=Zu h1
   obtain⟨hk,h2⟩:=Zw h2
   simp only[Bool.and_eq_true,decide_eq_true_eq,Bool.not_eq_true'] at hk
   have hu:=(hT t ty h1).strs hk.2 hk.1
   obtain⟨hh,l2,b2,l2',h4,h5,h6⟩:=Zj h2
   cases h6
   obtain⟨h4,-⟩:=Zd5 h4
   obtain⟨ll,l3,b3,l3',h7,h8,h9⟩:=Zj h5
   cases h9
   obtain⟨h7,-⟩:=Zd5 h7
   cases Zm h8
   obtain⟨s,rfl,rfl⟩:=hx.str
   have hlen:(Z9 s).length=s.size:=by rw[Z9,List.length_map,Array.length_toList];rfl
   rw[hlen] at h4
   obtain⟨hb,hb1,hb2⟩:=ZdX (P:=P) (w:=M.w) false s.size s.size lo hi lov hiv hh ll hlo.int.1 hlo.int.2 hhi.int.1 hhi.int.2 (Nat.le_refl _) h4 h7
   refine⟨.string (s.extract ll hh),?_, .tree (.str _ _ ?_)⟩
   ·simp only[Instr.sliceAt,Sem.run_bind,run_underlying hu,Result.andThen_ok,Instr.slice,Option.isSome_none,Bool.false_eq_true,if_false,hb,Sem.run_pure]
   ·simp[Z9]
 ·have hx':Zfx tab t x lo hi mx=Zh4 tab t x lo hi mx:=by
   unfold Zfx
   cases x <;> first | rfl | exact absurd ⟨_,rfl⟩ hstr
  rw[hx'] at h
  unfold Zh4 at h
  obtain⟨e,l1,b1,l1',h1,h2,h3⟩:=Zj h
  cases h3
  obtain⟨h1,-⟩:=Zu h1
  obtain⟨ty0,h0,h1⟩:=Option.bind_eq_some_iff.1 h1
  obtain⟨ty,l2,b2,l2',h3,h4,h5⟩:=Zj h2
  cases h5
  obtain⟨h3,-⟩:=Zu h3
  have hu:=((hT t ty0 h0).elem e h1).1
  have hsz:=(hT e ty h3).sizeOf M.w
  have hred:∀xv,(Instr.sliceAt t xv lov hiv mxv).run P M.w=(Instr.slice t xv lov hiv mxv).run P M.w:=by
   intro xv
   simp only[Instr.sliceAt,Sem.run_bind,run_underlying hu,Result.andThen_ok]
  rw[hred]
  cases mx with
  | some m=>
   have hz:∀y:V,Zj1 y=true→∃k,y = .int k 0:=by
    intro y hy
    cases y <;> simp[Zj1] at hy
    subst hy;exact⟨_,rfl⟩
   cases hi with
   | none=>exact(Zo h4).elim
   | some hv=>
   cases lo with
   | some lv=>exact(Zo h4).elim
   | none=>
   simp only at h4
   obtain⟨hzz,h4'⟩:=Zw h4
   clear h4
   rw[Bool.and_eq_true] at hzz
   obtain⟨k,rfl⟩:=hz _ hzz.1
   obtain⟨k',rfl⟩:=hz _ hzz.2
   obtain rfl:=hmx.int.1 k 0 rfl
   obtain rfl:=hhi.int.1 k' 0 rfl
   obtain rfl:=hlo.int.2 rfl
   have hrun:∀a n cap,(Instr.slice t (.slice a n cap) none (some (.int k' 0)) (some (.int k 0))).run P M.w = .ok (.slice a 0 0) M.w:=by
    intro a n cap
    have h0:(0:Int)≤0∧(0:Int)≤(cap:Int):=⟨Int.le_refl _,by omega⟩
    simp[Instr.slice,Instr.sliceBounds,Instr.sliceBound,asIntOf,run_underlying hu,hsz]
   cases x with
   | inl T l=>
    obtain⟨-,h6⟩:=Zw h4'
    cases Zm h6
    cases hx.inl with
    | inl _ _ ty' a cap g off cv r1 r2 r3 r4 r5 r6=>exact⟨_,hrun _ _ _, .tree (.nil T a)⟩
   | sl id T off len=>
    obtain⟨-,h6⟩:=Zw h4'
    cases Zm h6
    cases hx with
    | tree hx=>cases hx
    | sl _ _ _ _ sz N a a' cap n h1 h2 h3 h4 h5 h6=>exact⟨_,hrun _ _ _, .tree (.nil T a')⟩
   | nil T=>
    cases Zm h4'
    obtain⟨a,rfl⟩:=hx.nil
    exact⟨_,hrun _ _ _, .tree (.nil T a)⟩
   | _=>exact(Zo h4').elim
  | none=>
   obtain rfl:=hmx.int.2 rfl
   simp only at h4
   cases x with
   | sl id T off len=>
    obtain⟨blk,l,b,l',h6,h7,h8⟩:=Zj h4
    cases h8
    obtain⟨h6,-⟩:=ZaH h6
    cases blk with
    | box T cs=>exact(Zo h7).elim
    | drow _ _=>exact(Zo h7).elim
    | hrow _ _ _ _ _=>exact(Zo h7).elim
    | grow _ _=>exact(Zo h7).elim
    | row T' own els=>
     simp only at h7
     obtain⟨hte,h7'⟩:=Zw h7
     obtain rfl:T'=e:=by simpa using hte
     obtain⟨hh,l2,b2,l2',h8,h9,h10⟩:=Zj h7'
     cases h10
     obtain⟨h8,-⟩:=Zd5 h8
     obtain⟨ll,l3,b3,l3',h10,h11,h12⟩:=Zj h9
     cases h12
     obtain⟨h10,-⟩:=Zd5 h10
     cases Zm h11
     obtain rfl:=hM.sl_ty hx h6
     obtain⟨ty',a,a',cap,m,q1,q2,q3,q4,q5,q6,q7,rfl,q8,q9⟩:=hM.sl hx h6
     obtain rfl:ty=ty':=Option.some.inj (h3.symm.trans q1)
     rw[q8] at h8
     obtain⟨hb,hb1,hb2⟩:=ZdX (P:=P) (w:=M.w) true m (cap-off) lo hi lov hiv hh ll hlo.int.1 hlo.int.2 hhi.int.1 hhi.int.2 (by omega) h8 h10
     have hrun:(Instr.slice t (.slice a' m (cap-off)) lov hiv none).run P M.w = .ok (.slice (if cap-off=ll then a' else a'.map (·.add (ll*ty.kinds.length))) (hh-ll) (cap-off-ll)) M.w:=by
      simp only[Instr.slice,Sem.run_bind,run_underlying hu,Result.andThen_ok,hb,hsz,Sem.run_pure]
     refine⟨_,hrun,?_⟩
     have e1:cap-off-ll=cap-(off+ll):=by omega
     rw[e1]
     have hA:off+ll<cap→(if cap-off=ll then a' else a'.map (·.add (ll*ty.kinds.length)))=a.map (·.add ((off+ll)*ty.kinds.length)):=by
      intro hlt
      rw[if_neg (by omega),q6 (by omega)]
      cases a <;> simp[Addr.add_add',Nat.add_mul]
     have hB:off+ll=0→(if cap-off=ll then a' else a'.map (·.add (ll*ty.kinds.length)))=a:=by
      intro hz
      have z1:off=0:=by omega
      have z2:ll=0:=by omega
      rw[q7 z1,z2]
      split
      ·rfl
      ·cases a <;> simp[Addr.add_zero']
     have hN:hh≤m:=hb2
     cases hi with
     | none=>
      rcases Zen h8 with⟨-,rfl⟩ | ⟨_,_,e,_⟩
      ·cases len with
       | none=>
        simp only[Option.getD_none] at q4
        show M.Rs tab E (V.sl id T (off+ll) (bif Zmj ty lo then some (hh-ll) else none)) _
        cases Zmj ty lo with
        | false=>exact .sl id T (off+ll) none _ _ a _ cap (hh-ll) q2 q3 (by simp;omega) (by omega) hA hB
        | true=>exact .sl id T (off+ll) (some (hh-ll)) _ _ a _ cap (hh-ll) q2 q3 rfl (by omega) hA hB
       | some n=>exact .sl id T (off+ll) (some (hh-ll)) _ _ a _ cap (hh-ll) q2 q3 rfl (by omega) hA hB
      ·cases e
     | some hv=>exact .sl id T (off+ll) (some (hh-ll)) _ _ a _ cap (hh-ll) q2 q3 rfl (by omega) hA hB
   | inl T els=>
    obtain⟨hte,h7'⟩:=Zw h4
    obtain rfl:T=e:=by simpa using hte
    obtain⟨hh,l2,b2,l2',h8,h9,h10⟩:=Zj h7'
    cases h10
    obtain⟨h8,-⟩:=Zd5 h8
    obtain⟨ll,l3,b3,l3',h10,h11,h12⟩:=Zj h9
    cases h12
    obtain⟨h10,-⟩:=Zd5 h10
    cases Zm h11
    cases hx.inl with
    | inl _ _ ty' a cap g off cv r1 r2 r3 r4 r5 r6=>
     obtain rfl:ty=ty':=Option.some.inj (h3.symm.trans r1)
     obtain⟨hb,hb1,hb2⟩:=ZdX (P:=P) (w:=M.w) true els.length cap lo hi lov hiv hh ll hlo.int.1 hlo.int.2 hhi.int.1 hhi.int.2 r2 h8 h10
     have hrun:(Instr.slice t (.slice a els.length cap) lov hiv none).run P M.w = .ok (.slice (if cap=ll then a else a.map (·.add (ll*ty.kinds.length))) (hh-ll) (cap-ll)) M.w:=by
      simp only[Instr.slice,Sem.run_bind,run_underlying hu,Result.andThen_ok,hb,hsz,Sem.run_pure]
     refine⟨_,hrun,?_⟩
     have key:Rp tab M.w (okS E M) (.inl T ((els.drop ll).take (hh-ll))) (.slice (if cap=ll then a else a.map (·.add (ll*ty.kinds.length))) ((els.drop ll).take (hh-ll)).length (cap-ll)):=by
      have hlen:((els.drop ll).take (hh-ll)).length=hh-ll:=by simp;omega
      have hget:∀i,i<hh-ll→((els.drop ll).take (hh-ll)).getD i .dead=els.getD (ll+i) .dead:=by
       intro i hi;simp[List.getD,hi,List.getElem?_drop]
      refine .inl T _ ty _ _ g (off+ll*ty.kinds.length) (fun i j=>cv (ll+i) j) h3 (by rw[hlen];omega) (fun hne=>?_) (fun i hi=>?_) (fun i j hi hj=>?_) (fun i j hi hj=>?_)
      ·have:0<hh-ll:=by rw[←hlen];exact List.length_pos_iff.2 hne
       have hne':els≠[]:=by intro e;subst e;simp at hlen;omega
       obtain⟨rfl,hok⟩:=r3 hne'
       rw[if_neg (by omega)]
       exact⟨by simp[ZcP],hok⟩
      ·rw[hlen] at hi;rw[hget i hi];exact r4 _ (by omega)
      ·rw[hlen] at hi
       have:=r5 (ll+i) j (by omega) hj
       rw[show off+ll*ty.kinds.length+i*ty.kinds.length+j=off+(ll+i)*ty.kinds.length+j from by rw[Nat.add_mul];omega]
       exact this
      ·rw[hlen] at hi;rw[hget i hi];exact r6 _ _ (by omega) hj
     have hlen:((els.drop ll).take (hh-ll)).length=hh-ll:=by simp;omega
     rw[hlen] at key
     cases hi with
     | none=>
      rcases Zen h8 with⟨-,rfl⟩ | ⟨_,_,e,_⟩
      ·have:(els.drop ll).take (els.length-ll)=els.drop ll:=by rw[List.take_of_length_le];simp
       rw[this] at key
       exact .tree key
      ·cases e
     | some hv=>exact .tree key
   | nil T=>
    obtain⟨hh,l2,b2,l2',h8,h9,h10⟩:=Zj h4
    cases h10
    obtain⟨h8,-⟩:=Zd5 h8
    obtain⟨ll,l3,b3,l3',h10,h11,h12⟩:=Zj h9
    cases h12
    obtain⟨h10,-⟩:=Zd5 h10
    cases Zm h11
    obtain⟨a,rfl⟩:=hx.nil
    obtain⟨hb,hb1,hb2⟩:=ZdX (P:=P) (w:=M.w) true 0 0 lo hi lov hiv hh ll hlo.int.1 hlo.int.2 hhi.int.1 hhi.int.2 (Nat.le_refl _) h8 h10
    obtain rfl:hh=0:=by omega
    obtain rfl:ll=0:=by omega
    refine⟨.slice a 0 0,?_, .tree (.nil T a)⟩
    simp[Instr.slice,run_underlying hu,hb,hsz]
   | _=>exact(Zo h4).elim
end
end Go.Eng
namespace Go.Eng
section
variable {P:Program} {tab:Tab}
theorem Zpn {E:Entry} {M:Mem} (hM:MemOk tab E M) {x r:V} {xv:Value} {log:List Nat} {t ot:TypeId} {ts:Array TypeId}
  (hts:ts[0]? = some t) (hu:(∃e,P.underlying t=some (.slice e))∨P.underlying t=some .string)
  (hk:(∃l,x = .str l)↔P.underlying t=some .string)
  (hx:M.Rs tab E x xv) (h:lenV x M.hp=some (r,log)):∃v,(Builtin.len_ ts ot #[xv]).run P M.w = .ok v M.w∧M.Rs tab E r v:=by
 have hsl:∀a n c,(¬∃l,x = .str l)→(Builtin.len_ ts ot #[.slice a n c]).run P M.w = .ok (.int .i64 n) M.w:=by
  intro a n c hns
  rcases hu with⟨e,hu⟩ | hu
  ·simp[Builtin.len_,hts,run_underlying hu,goInt]
  ·exact absurd (hk.2 hu) hns
 cases x with
 | sl id T off len=>
  cases len with
  | some n=>
   cases Zm (h:=M.hp) h
   cases hx with
   | tree hx=>cases hx
   | sl _ _ _ _ sz N a a' cap n' h1 h2 h3 h4 h5 h6=>
    simp at h3;subst h3
    exact⟨_,hsl _ _ _ (by simp), .tree (.int _ _)⟩
  | none=>
   obtain⟨blk,l,b,l',h6,h7,h8⟩:=Zj h
   cases h8
   obtain⟨h6,-⟩:=ZaH h6
   have key:∀(T':TypeId) (els:List V),blk.rowOf=some (T',els)→RM.ret (V.int .i64 ((els.length-off:Nat):Int)) M.hp=some (r,l')→
     ∃v,(Builtin.len_ ts ot #[xv]).run P M.w = .ok v M.w∧M.Rs tab E r v:=fun T' els hro h7=>by
    cases Zm h7
    obtain⟨-,ty',a,a',cap,m,q1,q2,q3,q4,q5,q6,q7,rfl,q8,q9⟩:=hM.sl' hx h6 hro
    refine⟨_,hsl _ _ _ (by simp),?_⟩
    simp at q4;subst q4
    exact .tree (.int _ _)
   cases blk with
   | box T cs=>exact(Zo h7).elim
   | drow T' els=>exact key T' els rfl h7
   | hrow T' els _ _ _=>exact key T' els rfl h7
   | grow T' els=>exact key T' els rfl h7
   | row T' own els=>exact key T' els rfl h7
 | inl T l=>
  cases Zm (h:=M.hp) h
  cases hx.inl with
  | inl _ _ ty' a cap g off cv r1 r2 r3 r4 r5 r6=>exact⟨_,hsl _ _ _ (by simp), .tree (.int _ _)⟩
 | nil T=>
  cases Zm (h:=M.hp) h
  obtain⟨a,rfl⟩:=hx.nil
  exact⟨_,hsl _ _ _ (by simp), .tree (.int _ _)⟩
 | str l=>
  cases Zm (h:=M.hp) h
  obtain⟨s,rfl,rfl⟩:=hx.str
  have hu':=hk.1 ⟨_,rfl⟩
  have hlen:(Z9 s).length=s.size:=by rw[Z9,List.length_map,Array.length_toList];rfl
  refine⟨.int .i64 s.size,by simp[Builtin.len_,hts,run_underlying hu',goInt],?_⟩
  rw[hlen];exact .tree (.int _ _)
 | _=>exact(Zo (h:=M.hp) h).elim
def Flat (tab:Tab) (w:World) (ok:Nat→Prop) (ty:Ty) (l:List V) (news:List Value):Prop:=
 news.length=l.length*ty.kinds.length∧(∀i,i<l.length→ZbS ty (l.getD i .dead))∧
  ∀i j,i<l.length→j<ty.kinds.length→Rp tab w ok ((l.getD i .dead).cell j) (news.getD (i*ty.kinds.length+j) undef)
theorem Rp.oneCell {w:World} {ok:Nat→Prop} {x:V} {v:Value} (h:Rp tab w ok x v) (k:Ck) (hk:kindOk k x):v.oneCell'=true:=by
 cases h <;> cases k <;> simp_all [kindOk,Value.oneCell']
theorem Ro.oneCell {w:World} {x:V} {v:Value} {F:List Nat} (h:Ro tab w x v F):v.oneCell'=true:=by
 cases h with
 | int | bool | str=>rfl
 | inl T l ty v xs F ht hr hs _=>
  rcases hr.2 with⟨a,rfl,h0⟩ | ⟨g,cap,cur,rfl,_⟩ <;> rfl
theorem Zht {k sz n:Nat} (h:k<n*sz):k / sz<n∧k % sz<sz∧(k / sz)*sz+k % sz=k:=by
 have hpos:0<sz:=by rcases Nat.eq_zero_or_pos sz with e | e;·subst e;simp at h
                    ·exact e
 refine⟨Nat.div_lt_of_lt_mul (by rw[Nat.mul_comm];exact h),Nat.mod_lt _ hpos,?_⟩
 rw[Nat.mul_comm];exact Nat.div_add_mod k sz
theorem Flat.oneCell {w:World} {ok:Nat→Prop} {ty:Ty} {l:List V} {news:List Value} (h:Flat tab w ok ty l news):∀v∈news,v.oneCell'=true:=by
 intro v hv
 obtain⟨k,hk0,rfl⟩:=List.mem_iff_getElem.1 hv
 have hk:=hk0
 rw[h.1] at hk
 obtain⟨h1,h2,h3⟩:=Zht hk
 have hs:=(h.2.1 _ h1).2.2.2 _ h2
 have:=h.2.2 _ _ h1 h2
 rw[h3] at this
 have hg:news.getD k undef=news[k]:=Zcu news k undef hk0
 rw[hg] at this
 exact this.oneCell _ hs
theorem Addr.add_none (g o j:Nat):(⟨g,o,none⟩:Addr).add j=⟨g,o+j,none⟩:=Addr.add_mid g o j
theorem Zd6 {E:Entry} {M:Mem} (hM:MemOk tab E M) {e:TypeId} {ty:Ty} (he:tab e=some ty) {x:V} {xv:Value} {l:List V} {log:List Nat}
  (hx:M.Rs tab E x xv) (h:ZeC e ty x M.hp=some (l,log)):
  ∃news,Flat tab M.w (okS E M) ty l news∧(Builtin.lenOf xv).run P M.w = .ok l.length M.w∧
   ∀m,m≤l.length→∀w',(∀g,g<M.w.heap.size→w'.heap[g]? = M.w.heap[g]?)→(Builtin.firstCells ty.kinds.length m xv).run P w' = .ok (news.take (m*ty.kinds.length)).toArray w':=by
 cases x with
 | sl id T off len=>
  obtain⟨blk,l1,b1,l1',h6,h7,h8⟩:=Zj h
  cases h8
  obtain⟨h6,-⟩:=ZaH h6
  cases blk with
  | box T cs=>exact(Zo h7).elim
  | drow _ _=>exact(Zo h7).elim
  | hrow _ _ _ _ _=>exact(Zo h7).elim
  | grow _ _=>exact(Zo h7).elim
  | row T' own els=>
   obtain⟨hte,h7'⟩:=Zw h7
   obtain rfl:T'=e:=by simpa using hte
   cases Zm h7'
   obtain⟨ty2,v2,xs,k1,k2,k3,k4,k5,k6,k7⟩:=hM.row h6
   obtain rfl:ty=ty2:=Option.some.inj (he.symm.trans k1)
   obtain⟨ty',a,a',cap,m,q1,q2,q3,q4,q5,q6,q7,rfl,q8,q9⟩:=hM.sl hx h6
   obtain rfl:ty=ty':=Option.some.inj (he.symm.trans q1)
   have e2:=k2.symm.trans q2
   simp only[Option.some.injEq,RB.row.injEq,true_and] at e2
   subst e2
   have hlt:∀i j,i<m→j<ty.kinds.length→(off+i)*ty.kinds.length+j<els.length*ty.kinds.length:=fun i j hi hj=>ZbK (by omega) hj
   have hxl:xs.length=els.length*ty.kinds.length:=k3.1
   have hml:(off+m)*ty.kinds.length≤els.length*ty.kinds.length:=Nat.mul_le_mul_right _ q5
   rw[Nat.add_mul] at hml
   refine⟨(xs.drop (off*ty.kinds.length)).take (m*ty.kinds.length),⟨by rw[q8];simp;omega,fun i hi=>?_,fun i j hi hj=>?_⟩,by rw[q8];rfl,fun m' hm' w' hw'=>?_⟩
   ·rw[q8] at hi;rw[Zg9 q4 q5 hi];exact k4 _ (by omega)
   ·rw[q8] at hi;rw[Zg9 q4 q5 hi]
    have:=k7 (off+i) j (by omega) hj
    have h1:=ZbK hi hj
    simp only[List.getD,List.getElem?_take,h1,if_true,List.getElem?_drop]
    rw[show off*ty.kinds.length+(i*ty.kinds.length+j)=(off+i)*ty.kinds.length+j from by rw[Nat.add_mul];omega]
    exact this
   ·rw[q8] at hm'
    have hm2:m'*ty.kinds.length≤m*ty.kinds.length:=Nat.mul_le_mul_right _ hm'
    by_cases hz:els.length=0
    ·have:m=0:=by omega
     subst this
     obtain rfl:m'=0:=by omega
     have hx0:((List.take (0*ty.kinds.length) (List.drop (off*ty.kinds.length) xs)).take (0*ty.kinds.length))=[]:=by simp
     rw[hx0]
     cases a' <;> simp[Builtin.firstCells,loadCells,loadCellsFrom]
    ·obtain⟨g,rfl,qt,qc⟩:=q9 (by omega)
     by_cases hm0:m'=0
     ·subst hm0
      simp only[Nat.zero_mul,List.take_zero]
      cases a' <;> simp[Builtin.firstCells,loadCells,loadCellsFrom]
     ·have ha:a'=some ⟨g,off*ty.kinds.length,none⟩:=by rw[q6 (by omega)];simp[ZcP]
      subst ha
      have hgl:g<M.w.heap.size:=(hM.mine id g (by rw[qt];simp)).2
      refine run_firstCells_some (P:=P) w' ty.kinds.length m' _ _ _ _ (by simp;omega) fun j v hv=>?_
      have hj:j<m'*ty.kinds.length:=by
       have:=(List.getElem?_eq_some_iff.1 hv).1
       simp at this;omega
      rw[Addr.add_none,World.cell?_of_block (w:=M.w) (hw' g hgl)]
      obtain⟨g',cap',e3,_,_,hc⟩:=k3.cell (off*ty.kinds.length+j) (by omega)
      cases e3
      rw[hc]
      have h1:j<m*ty.kinds.length:=by omega
      rw[List.getElem?_take,if_pos hj,List.getElem?_take,if_pos h1,List.getElem?_drop] at hv
      simp[List.getD,hv]
 | inl T els=>
  have h:RM.test (decide (T=e)) (RM.ret els) M.hp=some (l,log):=h
  obtain⟨hte,h7'⟩:=Zw h
  obtain rfl:T=e:=by simpa using hte
  cases Zm h7'
  cases hx.inl with
  | inl _ _ ty' a cap g off cv r1 r2 r3 r4 r5 r6=>
   obtain rfl:ty=ty':=Option.some.inj (he.symm.trans r1)
   have hget:∀k,k<l.length*ty.kinds.length→((List.range (l.length*ty.kinds.length)).map fun k=>cv (k / ty.kinds.length) (k % ty.kinds.length)).getD k undef=cv (k / ty.kinds.length) (k % ty.kinds.length):=by
    intro k hk;simp[List.getD,hk]
   refine⟨(List.range (l.length*ty.kinds.length)).map fun k=>cv (k / ty.kinds.length) (k % ty.kinds.length),⟨by simp,r4,fun i j hi hj=>?_⟩,rfl,fun m' hm' w' hw'=>?_⟩
   ·rw[hget _ (ZbK hi hj)]
    have h1:(i*ty.kinds.length+j) / ty.kinds.length=i:=by
     rw[Nat.mul_comm,Nat.mul_add_div (by omega)];simp[Nat.div_eq_of_lt hj]
    have h2:(i*ty.kinds.length+j) % ty.kinds.length=j:=by
     rw[Nat.mul_comm,Nat.mul_add_mod];exact Nat.mod_eq_of_lt hj
    rw[h1,h2];exact r6 i j hi hj
   ·by_cases hm0:m'=0
    ·subst hm0
     simp only[Nat.zero_mul,List.take_zero]
     cases a <;> simp[Builtin.firstCells,loadCells,loadCellsFrom]
    ·have hl:l≠[]:=by intro e;subst e;simp at hm';omega
     obtain⟨rfl,hok⟩:=r3 hl
     have hml:m'*ty.kinds.length≤l.length*ty.kinds.length:=Nat.mul_le_mul_right _ hm'
     refine run_firstCells_some (P:=P) w' ty.kinds.length m' _ _ _ _ (by simp[Nat.min_eq_left hm']) fun j v hv=>?_
     have hj:j<m'*ty.kinds.length:=by
      have:=(List.getElem?_eq_some_iff.1 hv).1
      simpa [Nat.min_eq_left hm'] using this
     obtain⟨h1,h2,h3⟩:=Zht (show j<l.length*ty.kinds.length by omega)
     rw[Addr.add_none,World.cell?_of_block (w:=M.w) (hw' g hok.2.1)]
     have:=r5 _ _ h1 h2
     rw[show off+j=off+j / ty.kinds.length*ty.kinds.length+j % ty.kinds.length from by omega,this]
     rw[List.getElem?_take,if_pos hj] at hv
     have hj2:j<l.length*ty.kinds.length:=by omega
     simp[hj2] at hv
     rw[hv]
 | nil T=>
  cases Zm (h:=M.hp) h
  obtain⟨a,rfl⟩:=hx.nil
  refine⟨[],⟨by simp,by simp,by simp⟩,rfl,fun m' hm' w' hw'=>?_⟩
  obtain rfl:m'=0:=by simpa using hm'
  cases a <;> simp[Builtin.firstCells,loadCells,loadCellsFrom]
 | str els=>
  have h:RM.test (decide (ty.kinds=[.int .u8]) && !ty.agg) (RM.ret els) M.hp=some (l,log):=h
  obtain⟨hte,h7'⟩:=Zw h
  simp only[Bool.and_eq_true,decide_eq_true_eq,Bool.not_eq_true'] at hte
  have hk:ty.kinds=[.int .u8]:=hte.1
  cases Zm h7'
  obtain⟨s,rfl,rfl⟩:=hx.str
  have hlen:(Z9 s).length=s.size:=by rw[Z9,List.length_map,Array.length_toList];rfl
  have hk1:ty.kinds.length=1:=by rw[hk];rfl
  have hget:∀i,i<s.size→∃n:Int,(Z9 s).getD i .dead = .int .u8 n∧(s.data.toList.map fun b=>Value.int .u8 (b.toNat:Int)).getD i undef = .int .u8 n:=by
   intro i hi
   have h3:s.data[i]? = some s.data[i]:=getElem?_pos s.data i hi
   exact⟨s.data[i].toNat,by simp only[Z9,List.getD,List.getElem?_map,Array.getElem?_toList,h3,Option.map_some,Option.getD_some],
    by simp only[List.getD,List.getElem?_map,Array.getElem?_toList,h3,Option.map_some,Option.getD_some]⟩
  refine⟨s.data.toList.map fun b=>.int .u8 (b.toNat:Int),⟨by rw[hlen,hk1,List.length_map,Array.length_toList,Nat.mul_one];rfl,fun i hi=>?_,fun i j hi hj=>?_⟩,by rw[hlen];rfl,fun m' hm' w' hw'=>?_⟩
  ·rw[hlen] at hi
   obtain⟨n,h1,-⟩:=hget i hi
   rw[h1]
   have ha:ty.agg=false:=hte.2
   refine⟨by rw[hk1];rfl,by simp[ha],by simp,fun j hj=>?_⟩
   rw[hk1] at hj
   obtain rfl:j=0:=by omega
   rw[hk];simp[kindOk,V.cell,V.cells]
  ·rw[hlen] at hi;rw[hk1] at hj ⊢
   obtain rfl:j=0:=by omega
   obtain⟨n,h1,h2⟩:=hget i hi
   rw[h1,Nat.mul_one,Nat.add_zero,h2]
   exact .int _ _
  ·rw[hlen] at hm'
   simp only[Builtin.firstCells,hk1,Nat.mul_one,Sem.run_pure]
   congr 1
   apply Array.ext'
   simp
 | _=>exact(Zo (h:=M.hp) h).elim
theorem KeptBut.drew {F:List Nat} {w w':World} (h:KeptBut F w w'):KeptBut F w w'.drew:=⟨h.os,h.tape,h.output,h.size,h.block⟩
theorem KeptBut.alloc {F:List Nat} {w w':World} (h:KeptBut F w w') (o:Obj):KeptBut F w (w'.alloc o):=
 ⟨h.os,h.tape,h.output,by have:=h.size;simp;omega,fun g hg hF=>by rw[heap_alloc_old _ _ _ (by have:=h.size;omega)];exact h.block g hg hF⟩
theorem KeptBut.setRow {F:List Nat} {w:World} {g:Nat} (hg:g∈F) (cs:Array Value):KeptBut F w (w.setRow g cs):=
 ⟨rfl,rfl,rfl,by simp,fun k _ hF=>setRow_other w g k cs (fun e=>hF (e▸hg))⟩
theorem KeptBut.mono {F F':List Nat} {w w':World} (h:KeptBut F w w') (hF:∀g∈F,g∈F'):KeptBut F' w w':=
 ⟨h.os,h.tape,h.output,h.size,fun g hg hn=>h.block g hg fun hm=>hn (hF g hm)⟩
theorem ZfV {w:World} {t t2 e ot:TypeId} {ty:Ty} (hu:P.underlying t=some (.slice e)) (hty:TyOk P tab e ty)
  (hu2:(∃e2,P.underlying t2=some (.slice e2))∨P.underlying t2=some .string)
  {N n cap m:Nat} {a:Option Addr} {xs:List Value} (hrow:RowIs w e ty.kinds.length N (.slice a N cap) xs) (hn:n≤N)
  {xv:Value} {news:List Value} (hl:news.length=m*ty.kinds.length) (h1:∀v∈news,v.oneCell'=true)
  (hlen:∀w',(Builtin.lenOf xv).run P w' = .ok m w')
  (hfirst:∀w',(∀g,g<w.heap.size→w'.heap[g]? = w.heap[g]?)→(Builtin.firstCells ty.kinds.length m xv).run P w' = .ok news.toArray w')
  (h63:n+m≤9223372036854775807) (hbytes:(n+m)*ty.bytes≤140737488355328):
  ∃v' w',(Builtin.append_ #[t,t2] ot #[.slice a n cap,xv]).run P w = .ok v' w'∧RowIs w' e ty.kinds.length (n+m) v' (xs.take (n*ty.kinds.length)++news)∧
   KeptBut (Zr (.slice a N cap)) w w'∧∀g∈Zr v',g∈Zr (.slice a N cap)∨g=w.heap.size:=by
 obtain⟨i,z,hi,hs,hb,hz,hzc,-⟩:=hty.info
 have hzs:z.cells.size=ty.kinds.length:=by rw[←Array.length_toList,hzc,List.length_map]
 have hnm:n*ty.kinds.length≤xs.length:=by rw[hrow.1];exact Nat.mul_le_mul_right _ hn
 have hxl:(xs.take (n*ty.kinds.length)++news).length=(n+m)*ty.kinds.length:=by simp[hl,Nat.add_mul];omega
 by_cases hroom:n+m≤cap
 ·
  have hf:=hfirst w (fun _ _=>rfl)
  have hll:=hlen w
  rcases hrow.2 with⟨b,e1,h0⟩ | ⟨g,cap',cur,e1,hc,hg,hNc,hcm,hcs,htk⟩
  ·simp only[Value.slice.injEq] at e1
   obtain⟨rfl,rfl,rfl⟩:=e1
   obtain rfl:n=0:=by omega
   obtain rfl:m=0:=by omega
   have hnews:news=[]:=List.eq_nil_of_length_eq_zero (by simpa using hl)
   subst hnews
   refine⟨.slice a 0 0,w,?_,⟨by simp, .inl ⟨a,rfl,rfl⟩⟩, .refl _ w,by cases a <;> simp[Zr]⟩
   rcases hu2 with⟨e2,hu2⟩ | hu2 <;> cases a <;>
    simp[Builtin.append_,run_underlying hu,run_underlying hu2,sizeOf,typeInfo,hi,hs,hll,hf,storeCells]
  ·simp only[Value.slice.injEq] at e1
   obtain⟨rfl,-,rfl⟩:=e1
   have hfit:n*ty.kinds.length+news.length≤cur.size:=by rw[hl,hcs,←Nat.add_mul];exact Nat.mul_le_mul_right _ hroom
   have hst:=Zeg P g (n*ty.kinds.length) e news 0 cur w hg (by simpa using hfit) h1
   simp only[Nat.add_zero] at hst
   obtain⟨c,rfl⟩:∃c,cap=c+1:=⟨cap-1,by omega⟩
   refine⟨.slice (some ⟨g,0,none⟩) (n+m) (c+1),w.setRow g (cur.toList.take (n*ty.kinds.length)++news++cur.toList.drop (n*ty.kinds.length+news.length)).toArray,?_,
    ⟨hxl, .inr ⟨g,c+1,(cur.toList.take (n*ty.kinds.length)++news++cur.toList.drop (n*ty.kinds.length+news.length)).toArray,rfl,hc,hg.setRow (by simp only[List.size_toArray,List.length_append,List.length_take,List.length_drop,Array.length_toList];omega),hroom,hcm,?_,?_⟩⟩,KeptBut.setRow (by simp[Zr]) _,by simp[Zr]⟩
   ·rcases hu2 with⟨e2,hu2⟩ | hu2 <;>
     simp[Builtin.append_,run_underlying hu,run_underlying hu2,sizeOf,typeInfo,hi,hs,hll,hf,hroom,Addr.add_none,hst] <;> rfl
   ·simp only[List.size_toArray,List.length_append,List.length_take,List.length_drop,Array.length_toList];omega
   ·have hN:n*ty.kinds.length≤N*ty.kinds.length:=Nat.mul_le_mul_right _ hn
    have e2:cur.toList.take (n*ty.kinds.length)=xs.take (n*ty.kinds.length):=by
     rw[←htk,List.take_take,Nat.min_eq_left hN]
    simp only[e2]
    rw[←hxl,List.append_assoc,←List.append_assoc,List.take_left]
 ·
  have hlt:cap<n+m:=by omega
  have h63':¬(9223372036854775807<((n:Int)+(m:Int))):=by omega
  have h48':¬(281474976710656<Builtin.nextslicecap (n+m) cap*ty.bytes):=by have:=growslice_fits hlt hbytes;omega
  have hge:=grownCap_ge w (n+m) cap e
  have hcm:grownCap w (n+m) cap e≤maxLen:=grownCap_le_maxLen w (n+m) cap e (by simp only[maxLen];omega)
  have hll:=hlen w
  have hf:=hfirst w.drew (fun _ _=>rfl)
  have hold:(Builtin.firstCells ty.kinds.length n (.slice a n cap)).run P w.drew = .ok (xs.take (n*ty.kinds.length)).toArray w.drew:=by
   by_cases hn0:n=0
   ·subst hn0
    simp only[Nat.zero_mul,List.take_zero]
    cases a <;> simp[Builtin.firstCells,loadCells,loadCellsFrom]
   ·rcases hrow.2 with⟨b,e1,h0⟩ | ⟨g,cap',cur,e1,hc,hg,hNc,hcm,hcs,htk⟩
    ·omega
    ·simp only[Value.slice.injEq] at e1
     obtain⟨rfl,-,rfl⟩:=e1
     refine run_firstCells_some (P:=P) w.drew ty.kinds.length n _ _ _ _ (by simp;omega) fun j v hv=>?_
     have hj:j<n*ty.kinds.length:=by
      have:=(List.getElem?_eq_some_iff.1 hv).1
      simp at this;omega
     obtain⟨g',cap',e3,_,_,hcell⟩:=hrow.cell j (by rw[hrow.1] at hnm;omega)
     cases e3
     rw[Addr.add_none,Nat.zero_add]
     have:w.drew.cell? ⟨g,j,none⟩=w.cell? ⟨g,j,none⟩:=rfl
     rw[this,hcell]
     rw[List.getElem?_take,if_pos hj] at hv
     simp[List.getD,hv]
  obtain⟨c,hcc⟩:∃c,grownCap w (n+m) cap e=c+1:=⟨grownCap w (n+m) cap e-1,by omega⟩
  refine⟨.slice (some ⟨w.heap.size,0,none⟩) (n+m) (grownCap w (n+m) cap e),
   w.drew.alloc (.cells ((xs.take (n*ty.kinds.length)).toArray++news.toArray++Builtin.zeroCells z.cells (grownCap w (n+m) cap e-(n+m))) e),?_,
   ⟨hxl, .inr ⟨w.heap.size,_,_,rfl,by omega, .of (heap_alloc_new w.drew _),hge,hcm,?_,?_⟩⟩,((KeptBut.refl _ w).drew.alloc _),fun g hg=>.inr ?_⟩
  ·rcases hu2 with⟨e2,hu2⟩ | hu2
   all_goals
    simp[Builtin.append_,run_underlying hu,run_underlying hu2,sizeOf,typeInfo,zeroValue,hi,hs,hb,hz,hll,hf,hold,hroom,h63',h48',Question.forced,newRow,grownCap]
    congr 2
    apply Array.ext'
    simp[List.append_assoc]
  ·simp only[Array.size_append,List.size_toArray,size_zeroCells,hzs,List.length_take,hl,Nat.min_eq_left hnm,←Nat.add_mul]
   congr 1;omega
  ·simp only[Array.toList_append,List.append_assoc]
   rw[←List.append_assoc,←hxl]
   exact List.take_left
  ·rw[hcc] at hg;simpa [Zr] using hg
end
end Go.Eng
namespace Go.Eng
section
variable {P:Program} {tab:Tab}
theorem Zhu (hp:ZaG) (K:List Nat) (id:Nat) (b:Blk):
  ZW hp (ended K++[(id,some b)])=fun i=>if i=id then some (some b) else if i∈K then some none else hp i:=by
 induction K generalizing hp with
 | nil=>funext i;simp[ended,ZW]
 | cons k K ih=>
  have:ended (k :: K)++[(id,some b)]=(k,none) :: (ended K++[(id,some b)]):=rfl
  rw[this]
  simp only[ZW]
  rw[ih]
  funext i
  by_cases h1:i=id
  ·simp[h1]
  ·by_cases h2:i∈K
   ·simp[h1,h2]
   ·by_cases h3:i=k <;> simp[h1,h2,h3]
theorem Zkg (M:Mem) (w':World) (K:List Nat) (id:Nat) (rb:RB) (b:Blk) (t n:List Nat):
  (M.put w' K id rb b t n).hp=ZW M.hp (ended K++[(id,some b)]):=by
 rw[Zhu];rfl
theorem Zmo {E:Entry} {M:Mem} (hM:MemOk tab E M) {nid:Nat} (hn:M.hp nid=none) (T TT:TypeId) (c:Array Value) (cs:List V) (hl:c.size=cs.length)
  (hr:∀j,j<cs.length→M.Rs tab E (cs.getD j .dead) (c.getD j undef)):
  ∃M',M'.w=M.w.alloc (.cells c TT)∧StepOk tab E M ⟨.bp nid 0,[(nid,some (.box T cs))]⟩ (.pointer (some ⟨M.w.heap.size,0,none⟩)) M':=by
 obtain⟨hρ,ht,hne⟩:=hM.fresh nid hn
 have hsz:(M.w.alloc (.cells c TT)).heap.size=M.w.heap.size+1:=by simp
 obtain⟨h2,h3⟩:=Zg7 hM (M.w.alloc (.cells c TT)) [] nid (.box M.w.heap.size) (.box T cs) [M.w.heap.size] [] (.inl hρ) rfl rfl rfl (by omega)
  (fun g hg _=>heap_alloc_old _ _ _ hg) (fun g hg=>.inr (by simp at hg;omega)) (fun g hg=>by simp at hg) (by simp) (fun g hg=>by simp at hg;omega)
  (fun hle=>⟨M.w.heap.size,c,TT,rfl,heap_alloc_new _ _,hl,fun j hj=>hle.rs (hr j hj),rfl,rfl⟩)
 exact⟨_,rfl,h2,h3,by rw[Zkg];rfl, .bp nid 0 _ (by simp[Mem.put])⟩
theorem Zkh {w:World} {ok:Nat→Prop} (k:Ck):Rp tab w ok (ZcJ k) (ZbY k):=by
 cases k with
 | int k=>exact .int k 0
 | bool=>exact .bool false
 | str=>exact .str [] ⟨#[]⟩ rfl
 | sl T=>exact .nil T none
 | _=>exact .dead _
theorem ZnK (k:Ck):(ZbY k).oneCell'=true:=by cases k <;> rfl
theorem ZoK (hT:ZB P tab) {E:Entry} {M:Mem} (hM:MemOk tab E M) {nid:Nat} (hn:M.hp nid=none) {T:TypeId} {ty:Ty} (ht:tab T=some ty):
  ∃M' val,(Instr.alloc T true (.tuple #[])).run P M.w = .ok val M'.w∧StepOk tab E M ⟨.bp nid 0,[(nid,some (.box T (ty.kinds.map ZcJ)))]⟩ val M':=by
 obtain⟨z,hz,hzc,-⟩:=(hT T ty ht).zero M.w
 have hl:z.cells.size=(ty.kinds.map ZcJ).length:=by rw[←Array.length_toList,hzc];simp
 have hg:∀j,j<(ty.kinds.map ZcJ).length→∃k,(ty.kinds.map ZcJ).getD j .dead=ZcJ k∧z.cells.getD j undef=ZbY k:=by
  intro j hj
  simp at hj
  refine⟨ty.kinds[j],by simp[List.getD,hj],?_⟩
  rw[←Zbj,hzc];simp[List.getD,hj]
 obtain⟨M',hw,hs⟩:=Zmo hM hn T T z.cells (ty.kinds.map ZcJ) hl
  (fun j hj=>by obtain⟨k,h1,h2⟩:=hg j hj;rw[h1,h2];exact .tree (Zkh k))
 refine⟨M',_,?_,hs⟩
 rw[hw]
 simp only[Instr.alloc,Sem.run_bind,hz,Result.andThen_ok,newVar,newRow,run_newObj,Sem.run_pure,World.alloc]
theorem Rs.typed {w:World} {ok:Nat→Prop} {ρ:Nat→Option RB} {t:TypeId} {x:V} {v:Value} (h:Rs tab w ok ρ x v):Rs tab w ok ρ (typed tab t x) v:=by
 cases x with
 | nil T=>
  obtain⟨a,rfl⟩:=h.nil
  simp only[Eng.typed]
  split
  ·exact .tree (.nil _ a)
  ·exact h
 | _=>exact h
theorem ZcY (ks:List Ck) (vs:List V):(Z2 tab ks vs).length=vs.length:=by
 induction ks generalizing vs with
 | nil=>cases vs <;> simp[Z2]
 | cons k ks ih=>
  cases vs with
  | nil=>cases k <;> simp[Z2]
  | cons v vs=>cases k <;> cases v <;> simp[Z2,ih]
theorem ZlU (ks:List Ck) (vs:List V) (j:Nat):(Z2 tab ks vs).getD j .dead=vs.getD j .dead∨∃T T',vs.getD j .dead = .nil T∧(Z2 tab ks vs).getD j .dead = .nil T':=by
 induction ks generalizing vs j with
 | nil=>left;cases vs <;> simp[Z2]
 | cons k ks ih=>
  cases vs with
  | nil=>left;cases k <;> simp[Z2]
  | cons v vs=>
   cases j with
   | zero=>cases k <;> cases v <;> simp[Z2]
   | succ j=>
    have:=ih vs j
    cases k <;> cases v <;> simpa [Z2] using this
theorem ZgN {w:World} {ok:Nat→Prop} {ρ:Nat→Option RB} (ks:List Ck) {vs:List V} {j:Nat} {u:Value} (h:Rs tab w ok ρ (vs.getD j .dead) u):Rs tab w ok ρ ((Z2 tab ks vs).getD j .dead) u:=by
 rcases ZlU (tab:=tab) ks vs j with e | ⟨T,T',e1,e2⟩
 ·rw[e];exact h
 ·rw[e1] at h;rw[e2]
  obtain⟨a,rfl⟩:=h.nil
  exact .tree (.nil T' a)
theorem Rs.one {w:World} {ok:Nat→Prop} {ρ:Nat→Option RB} {x:V} {v:Value} (h:Rs tab w ok ρ x v) (h1:∀cs,x≠.agg cs) (h2:∀cs,x≠.tup cs) (h3:x≠.dead) (h4:x≠.sk):v.oneCell'=true:=by
 cases h with
 | tree h=>cases h <;> first | rfl | (exact absurd rfl h3) | (exact absurd rfl h4) | (exact absurd rfl (h1 _))
 | agg cs=>exact absurd rfl (h1 cs)
 | tup cs=>exact absurd rfl (h2 cs)
 | _=>rfl
end
end Go.Eng
namespace Go.Eng
section
variable {P:Program} {tab:Tab}
theorem V.one_spec {x:V} (h:x.one=true):(∀cs,x≠.agg cs)∧(∀cs,x≠.tup cs)∧x≠.dead∧x≠.sk:=by
 cases x <;> simp_all [V.one]
theorem Rs.one' {w:World} {ok:Nat→Prop} {ρ:Nat→Option RB} {x:V} {v:Value} (h:Rs tab w ok ρ x v) (h1:x.one=true):v.oneCell'=true:=
 let ⟨a,b,c,d⟩:=V.one_spec h1;h.one a b c d
theorem Zc7 {w:World} {ok:Nat→Prop} {ρ:Nat→Option RB} {x:V} {v:Value} (h:Rs tab w ok ρ x v) (ha:x.cells.all V.one=true):
  v.cells.toList.length=x.cells.length∧(∀j,j<x.cells.length→Rs tab w ok ρ (x.cells.getD j .dead) (v.cells.toList.getD j undef))∧∀u∈v.cells.toList,u.oneCell'=true:=by
 have hx:(∀vs,x≠.tup vs)∧x≠.dead:=by
  constructor
  ·rintro vs rfl;simp[V.cells,V.one] at ha
  ·rintro rfl;simp[V.cells,V.one] at ha
 obtain⟨h1,h2⟩:=h.cells hx.1 hx.2
 refine⟨h1,h2,fun u hu=>?_⟩
 obtain⟨j,hj,rfl⟩:=List.mem_iff_getElem.1 hu
 have hj':j<x.cells.length:=by omega
 have:=h2 j hj'
 rw[Zcu _ _ _ hj] at this
 refine this.one' ?_
 rw[Zcu _ _ _ hj']
 exact(List.all_eq_true.1 ha) _ (List.getElem_mem hj')
theorem Zpo {E:Entry} {M:Mem} (hM:MemOk tab E M) {nid:Nat} (hn:M.hp nid=none) {T:TypeId} {x:V} {v:Value} (ks:List Ck) (hx:M.Rs tab E x v) (ha:x.cells.all V.one=true):
  ∃M' val,(Instr.box T v).run P M.w = .ok val M'.w∧StepOk tab E M ⟨.bp nid 0,[(nid,some (.box T (Z2 tab ks x.cells)))]⟩ val M':=by
 obtain⟨h1,h2,h3⟩:=Zc7 hx ha
 obtain⟨M',hw,hs⟩:=Zmo hM hn T T v.cells (Z2 tab ks x.cells) (by rw[ZcY,←h1,Array.length_toList])
  (fun j hj=>ZgN ks (by rw[←Zbj];exact h2 j (by rwa [ZcY] at hj)))
 refine⟨M',_,?_,hs⟩
 rw[hw]
 simp only[Instr.box,Sem.run_bind,Result.andThen_ok,newVar,newRow,run_newObj,Sem.run_pure,World.alloc]
theorem ZcQ (cs:List V) (off:Nat) (vs:List V) (h:off+vs.length≤cs.length):(Z6 cs off vs).length=cs.length:=by
 simp[Z6];omega
theorem Zb5 {α:Type} (cs vs:List α) (off j:Nat) (d:α) (h:off+vs.length≤cs.length):
  (cs.take off++vs++cs.drop (off+vs.length)).getD j d=if off≤j∧j<off+vs.length then vs.getD (j-off) d else cs.getD j d:=by
 simp only[List.getD]
 by_cases h1:j<off
 ·rw[List.append_assoc,List.getElem?_append_left (by simp;omega),List.getElem?_take,if_pos h1,if_neg (by omega)]
 ·by_cases h2:j<off+vs.length
  ·rw[if_pos ⟨by omega,h2⟩,List.getElem?_append_left (by simp;omega),List.getElem?_append_right (by simp;omega)]
   congr 2;simp;omega
  ·rw[if_neg (by omega),List.getElem?_append_right (by simp;omega),List.getElem?_drop]
   congr 2;simp;omega
theorem Zic {T:TypeId} {ty:Ty} (hty:TyOk P tab T ty) {w:World} {g o:Nat} {e:TypeId} {cur:Array Value} (hg:RowAt w g cur e) {v:Value}
  (hl:v.cells.toList.length=ty.kinds.length) (h1:∀u∈v.cells.toList,u.oneCell'=true) (hfit:o+ty.kinds.length≤cur.size):
  (Instr.storeAt T (.pointer (some ⟨g,o,none⟩)) v).run P w = .ok () (w.setRow g (cur.toList.take o++v.cells.toList++cur.toList.drop (o+v.cells.toList.length)).toArray):=by
 have hst:=Zeg P g o e v.cells.toList 0 cur w hg (by rw[hl];simpa using hfit) h1
 simp only[Nat.add_zero] at hst
 have hsz:v.cells.size=ty.kinds.length:=by rw[←Array.length_toList];exact hl
 simp only[Instr.storeAt,Instr.sureAddr,Sem.run_bind,Sem.run_pure,Result.andThen_ok,storeVar,hty.sizeOf w,hsz,ne_eq,not_true,if_false]
 exact hst
theorem Zlc (hT:ZB P tab) {E:Entry} {M:Mem} (hM:MemOk tab E M) {t:TypeId} {ty:Ty} (ht:tab t=some ty) {id off:Nat} {x:V} {pv v:Value} {T:TypeId} {cs:List V}
  (hp:M.Rs tab E (.bp id off) pv) (hx:M.Rs tab E x v) (hl:x.cells.length=ty.kinds.length) (ha:x.cells.all V.one=true) (hb:M.hp id=some (some (.box T cs))) (hfit:off+x.cells.length≤cs.length):
  ∃M',(Instr.storeAt t pv v).run P M.w = .ok () M'.w∧StepOk tab E M ⟨.dead,[(id,some (.box T (Z6 cs off (Z2 tab ty.kinds x.cells))))]⟩ undef M':=by
 obtain⟨h1,h2,h3⟩:=Zc7 hx ha
 obtain⟨g,c,TT,r1,r2,r3,r4,r6,r7⟩:=hM.box hb
 have hg:pv = .pointer (some ⟨g,off,none⟩):=by
  cases hp with
  | tree hp=>cases hp
  | bp _ _ g' hg=>cases r1.symm.trans hg;rfl
 subst hg
 have hrun:=Zic (P:=P) (hT t ty ht) (o:=off) (.of r2) (h1.trans hl) h3 (by rw[r3];omega)
 have hcl:c.toList.length=cs.length:=by rw[Array.length_toList,r3]
 have hvl:(Z2 tab ty.kinds x.cells).length=x.cells.length:=ZcY _ _
 have hal:(c.toList.take off++v.cells.toList++c.toList.drop (off+v.cells.toList.length)).length=c.toList.length:=by
  simp only[List.length_append,List.length_take,List.length_drop];omega
 have hcs:∀j,j<cs.length→M.Rs tab E ((Z6 cs off (Z2 tab ty.kinds x.cells)).getD j .dead) ((c.toList.take off++v.cells.toList++c.toList.drop (off+v.cells.toList.length)).toArray.getD j undef):=by
  intro j hj
  have e1:(Z6 cs off (Z2 tab ty.kinds x.cells)).getD j .dead=_:=Zb5 cs (Z2 tab ty.kinds x.cells) off j .dead (by omega)
  have e2:=Zb5 c.toList v.cells.toList off j undef (by omega)
  rw[e1,←Zbj]
  simp only[]
  rw[e2,hvl,h1]
  by_cases hc:off≤j∧j<off+x.cells.length
  ·rw[if_pos hc,if_pos hc];exact ZgN _ (h2 _ (by omega))
  ·rw[if_neg hc,if_neg hc,Zbj];exact r4 j hj
 obtain⟨k1,k2⟩:=Zg7 hM (M.w.setRow g (c.toList.take off++v.cells.toList++c.toList.drop (off+v.cells.toList.length)).toArray) [] id (.box g) (.box T (Z6 cs off (Z2 tab ty.kinds x.cells))) [g] []
  (.inr r1) rfl rfl rfl (by simp) (fun k hk hn=>setRow_other _ _ _ _ (fun e=>hn id (.inl rfl) (by rw[r6,e];simp)))
  (fun k hk=>.inl ⟨id, .inl rfl,by rw[r6];exact hk⟩) (fun k hk=>by simp at hk) (by simp)
  (fun k hk=>by simp at hk;subst hk;simpa using (Array.getElem?_eq_some_iff.1 r2).1)
  (fun hle=>⟨g,_,TT,rfl,setRow_heap _ _ _ _ _ _ r2,by rw[ZcQ _ _ _ (by omega),List.size_toArray,hal,hcl],fun j hj=>hle.rs (hcs j (by rwa [ZcQ _ _ _ (by omega)] at hj)),rfl,rfl⟩)
 exact⟨_,hrun,k1,k2,by rw[Zkg];rfl, .tree (.dead _)⟩
end
end Go.Eng
namespace Go.Eng
section
variable {P:Program} {tab:Tab}
theorem nodup_pieces {n:Nat} {f:Nat→List Nat}:((List.range n).flatMap f).Nodup↔(∀i,i<n→(f i).Nodup)∧∀i j,i<n→j<n→i≠j→∀g,g∈f i→g∉f j:=by
 unfold List.Nodup
 rw[List.pairwise_flatMap]
 constructor
 ·rintro⟨h1,h2⟩
  refine⟨fun i hi=>h1 i (List.mem_range.2 hi),fun i j hi hj hne g hg hg'=>?_⟩
  rw[List.pairwise_iff_getElem] at h2
  rcases Nat.lt_or_gt_of_ne hne with h | h
  ·exact h2 i j (by simpa using hi) (by simpa using hj) h g (by simpa using hg) g (by simpa using hg') rfl
  ·exact h2 j i (by simpa using hj) (by simpa using hi) h g (by simpa using hg') g (by simpa using hg) rfl
 ·rintro⟨h1,h2⟩
  refine⟨fun i hi=>h1 i (List.mem_range.1 hi),?_⟩
  rw[List.pairwise_iff_getElem]
  intro i j hi hj hlt x hx y hy e
  subst e
  simp at hi hj hx hy
  exact h2 i j hi hj (by omega) x hx hy
theorem nodup_flatF {n m:Nat} {F:Nat→Nat→List Nat}:(ZD n m F).Nodup↔(∀i j,i<n→j<m→(F i j).Nodup)∧
  ∀i j i' j',i<n→j<m→i'<n→j'<m→(i≠i'∨j≠j')→∀g,g∈F i j→g∉F i' j':=by
 unfold ZD
 rw[nodup_pieces]
 constructor
 ·rintro⟨h1,h2⟩
  refine⟨fun i j hi hj=>(nodup_pieces.1 (h1 i hi)).1 j hj,fun i j i' j' hi hj hi' hj' hne g hg hg'=>?_⟩
  by_cases e:i=i'
  ·subst e
   exact(nodup_pieces.1 (h1 i hi)).2 j j' hj hj' (by rcases hne with h | h;exact absurd rfl h;exact h) g hg hg'
  ·exact h2 i i' hi hi' e g (List.mem_flatMap.2 ⟨j,List.mem_range.2 hj,hg⟩) (List.mem_flatMap.2 ⟨j',List.mem_range.2 hj',hg'⟩)
 ·rintro⟨h1,h2⟩
  refine⟨fun i hi=>nodup_pieces.2 ⟨fun j hj=>h1 i j hi hj,fun j j' hj hj' hne=>h2 i j i j' hi hj hi hj' (.inr hne)⟩,fun i i' hi hi' hne g hg hg'=>?_⟩
  obtain⟨j,hj,hg⟩:=List.mem_flatMap.1 hg
  obtain⟨j',hj',hg'⟩:=List.mem_flatMap.1 hg'
  exact h2 i j i' j' hi (List.mem_range.1 hj) hi' (List.mem_range.1 hj') (.inl hne) g hg hg'
def Mem.foot (M:Mem) (K:List Nat):List Nat:=K.flatMap fun k=>M.top k++M.nest k
theorem Mem.mem_foot {M:Mem} {K:List Nat} {g:Nat}:g∈M.foot K↔∃k∈K,g∈M.top k++M.nest k:=by simp[Mem.foot]
theorem ZcR {l:List Nat} (h:ZbX l=true):l.Nodup:=by
 induction l with
 | nil=>exact List.nodup_nil
 | cons x l ih=>
  simp only[ZbX,Bool.and_eq_true,Bool.not_eq_true',List.contains_eq_mem,decide_eq_false_iff_not] at h
  exact List.nodup_cons.2 ⟨h.1,ih h.2⟩
theorem MemOk.foot_nodup {E:Entry} {M:Mem} (hM:MemOk tab E M) {K:List Nat} (hK:K.Nodup):(M.foot K).Nodup:=by
 unfold Mem.foot List.Nodup
 rw[List.pairwise_flatMap]
 refine⟨fun k _=>hM.nodup k,?_⟩
 refine List.Pairwise.imp_of_mem ?_ hK
 intro a b ha hb hne x hx y hy e
 subst e
 exact hM.apart a b hne x hx hy
theorem MemOk.foot_apart {E:Entry} {M:Mem} (hM:MemOk tab E M) {K K':List Nat} (h:∀k∈K,k∉K'):∀g∈M.foot K,g∉M.foot K':=by
 intro g hg hg'
 obtain⟨k,hk,hg⟩:=Mem.mem_foot.1 hg
 obtain⟨k',hk',hg'⟩:=Mem.mem_foot.1 hg'
 exact hM.apart k k' (fun e=>h k hk (e▸hk')) g hg hg'
theorem Zf7 {E:Entry} {M:Mem} (hM:MemOk tab E M) {id T off:Nat} {len:Option Nat} {v:Value} {T':TypeId} {own:Bool} {els:List V}
  (hx:M.Rs tab E (.sl id T off len) v) (hb:M.hp id=some (some (.row T' own els))) {ok':Nat→Prop} (hok:∀g,okS E M g→ok' g) (htop:∀g∈M.top id,ok' g):
  Rp tab M.w ok' (.inl T (cut els off len)) v:=by
 obtain rfl:=hM.sl_ty hx hb
 obtain⟨ty2,v2,xs,k1,k2,k3,k4,k5,k6,k7⟩:=hM.row hb
 obtain⟨ty',a,a',cap,m,q1,q2,q3,q4,q5,q6,q7,rfl,q8,q9⟩:=hM.sl hx hb
 obtain rfl:ty2=ty':=Option.some.inj (k1.symm.trans q1)
 have e2:=k2.symm.trans q2
 simp only[Option.some.injEq,RB.row.injEq,true_and] at e2
 subst e2
 have key:∀g,(0<m→a'=some ⟨g,off*ty2.kinds.length,none⟩∧ok' g∧a=some ⟨g,0,none⟩)→Rp tab M.w ok' (.inl T (cut els off len)) (.slice a' (cut els off len).length (cap-off)):=by
  intro g hg
  refine .inl T _ ty2 a' _ g (off*ty2.kinds.length) (fun i j=>xs.getD ((off+i)*ty2.kinds.length+j) undef) k1 (by rw[q8];omega) (fun hne=>?_) (fun i hi=>?_) (fun i j hi hj=>?_) (fun i j hi hj=>?_)
  ·have:0<m:=by rw[←q8];exact List.length_pos_iff.2 hne
   exact⟨(hg this).1,(hg this).2.1⟩
  ·rw[q8] at hi;rw[Zg9 q4 q5 hi];exact k4 _ (by omega)
  ·rw[q8] at hi
   obtain⟨-,-,rfl⟩:=hg (by omega)
   obtain⟨g',cap',e3,_,_,hc⟩:=k3.cell ((off+i)*ty2.kinds.length+j) (ZbK (by omega) hj)
   cases e3
   rw[show off*ty2.kinds.length+i*ty2.kinds.length+j=(off+i)*ty2.kinds.length+j from by rw[Nat.add_mul]]
   exact hc
  ·rw[q8] at hi;rw[Zg9 q4 q5 hi]
   exact(k7 (off+i) j (by omega) hj).keep hok fun _ _=>rfl
 rw[q8] at key
 by_cases hz:els.length=0
 ·exact key 0 fun h=>by omega
 ·obtain⟨g,rfl,qt,qc⟩:=q9 (by omega)
  exact key g fun h=>⟨by rw[q6 (by omega)];simp[ZcP],htop g (by rw[qt];simp),rfl⟩
theorem MemOk.drow {E:Entry} {M:Mem} (hM:MemOk tab E M) {id:Nat} {T:TypeId} {els:List V} (hb:M.hp id=some (some (.drow T els))):
  ∃ty v xs F,tab T=some ty∧M.ρ id=some (.row T ty.kinds.length els.length v)∧RowIs M.w T ty.kinds.length els.length v xs∧(∀i,i<els.length→ZbS ty (els.getD i .dead))∧
   (∀i j,i<els.length→j<ty.kinds.length→Ro tab M.w ((els.getD i .dead).cell j) (xs.getD (i*ty.kinds.length+j) undef) (F i j))∧M.top id=Zr v++ZD els.length ty.kinds.length F∧M.nest id=[]∧
   RowT tab M.w (fun _=>False) T true els v (ZD els.length ty.kinds.length F):=by
 obtain⟨ty,v,n,h1,h2,⟨ty',xs,q1,q2,q3,q4⟩,h4,h5⟩:=hM.blocks id _ hb
 obtain rfl:ty=ty':=Option.some.inj (h1.symm.trans q1)
 rcases q4 with⟨-,F,rfl,he⟩ | ⟨ho,-⟩
 ·exact⟨ty,v,xs,F,h1,h2,q2,q3,he,h4,h5,ty,xs,q1,q2,q3, .inl ⟨rfl,F,rfl,he⟩⟩
 ·cases ho
theorem sl_treeD {E:Entry} {M:Mem} (hM:MemOk tab E M) {id T off:Nat} {len:Option Nat} {v:Value} {T':TypeId} {els:List V}
  (hx:M.Rs tab E (.sl id T off len) v) (hb:M.hp id=some (some (.drow T' els))) {ok':Nat→Prop} (htop:∀g∈M.top id,ok' g):
  Rp tab M.w ok' (.inl T (cut els off len)) v:=by
 obtain⟨rfl,ty',a,a',cap,m,q1,q2,q3,q4,q5,q6,q7,rfl,q8,q9⟩:=hM.sl' hx hb rfl
 obtain⟨ty2,v2,xs,F,k1,k2,k3,k4,k5,k6,k7,k8⟩:=hM.drow hb
 obtain rfl:ty2=ty':=Option.some.inj (k1.symm.trans q1)
 have e2:=k2.symm.trans q2
 simp only[Option.some.injEq,RB.row.injEq,true_and] at e2
 subst e2
 have key:∀g,(0<m→a'=some ⟨g,off*ty2.kinds.length,none⟩∧ok' g∧a=some ⟨g,0,none⟩)→Rp tab M.w ok' (.inl T (cut els off len)) (.slice a' (cut els off len).length (cap-off)):=by
  intro g hg
  refine .inl T _ ty2 a' _ g (off*ty2.kinds.length) (fun i j=>xs.getD ((off+i)*ty2.kinds.length+j) undef) k1 (by rw[q8];omega) (fun hne=>?_) (fun i hi=>?_) (fun i j hi hj=>?_) (fun i j hi hj=>?_)
  ·have:0<m:=by rw[←q8];exact List.length_pos_iff.2 hne
   exact⟨(hg this).1,(hg this).2.1⟩
  ·rw[q8] at hi;rw[Zg9 q4 q5 hi];exact k4 _ (by omega)
  ·rw[q8] at hi
   obtain⟨-,-,rfl⟩:=hg (by omega)
   obtain⟨g',cap',e3,_,_,hc⟩:=k3.cell ((off+i)*ty2.kinds.length+j) (ZbK (by omega) hj)
   cases e3
   rw[show off*ty2.kinds.length+i*ty2.kinds.length+j=(off+i)*ty2.kinds.length+j from by rw[Nat.add_mul]]
   exact hc
  ·rw[q8] at hi;rw[Zg9 q4 q5 hi]
   exact(k5 (off+i) j (by omega) hj).tree fun g hg=>htop g (by rw[k6];exact List.mem_append_right _ (mem_flatF.2 ⟨off+i,by omega,j,hj,hg⟩))
 rw[q8] at key
 by_cases hz:els.length=0
 ·exact key 0 fun h=>by omega
 ·obtain⟨g,rfl,qt,qc⟩:=q9 (by omega)
  exact key g fun h=>⟨by rw[q6 (by omega)];simp[ZcP],htop g qt,rfl⟩
def Taken (tab:Tab) (E:Entry) (M:Mem) (c:V) (v:Value) (own:Bool) (K:List Nat):Prop:=
 (∀ok':Nat→Prop,(∀g,okS E M g→ok' g)→(∀k∈K,∀g∈M.top k,ok' g)→Rp tab M.w ok' c v)∧(own=true→Ro tab M.w c v (M.foot K))
theorem Zmp {E:Entry} {M:Mem} (hM:MemOk tab E M) {x c:V} {v:Value} {own:Bool} {K log:List Nat} (hx:M.Rs tab E x v) (h:ZiM tab x M.hp=some ((c,own,K),log)):
  Taken tab E M c v own K:=by
 cases x with
 | sl id T off len=>
  obtain⟨blk,l1,b1,l1',h6,h7,h8⟩:=Zj h
  cases h8
  obtain⟨h6,-⟩:=ZaH h6
  cases blk with
  | box T cs=>exact(Zo h7).elim
  | drow _ _=>exact(Zo h7).elim
  | hrow _ _ _ _ _=>exact(Zo h7).elim
  | grow _ _=>exact(Zo h7).elim
  | row T' own' els=>
   by_cases hfull:off=0∧len=none
   ·obtain⟨rfl,rfl⟩:=hfull
    cases Zm h7
    refine⟨fun ok' h1 h2=>Zf7 hM hx h6 h1 (h2 id (by simp)),fun ho=>?_⟩
    obtain rfl:=hM.sl_ty hx h6
    obtain⟨ty2,v2,xs,k1,k2,k3,k4,k5,k6,k7⟩:=hM.row h6
    obtain⟨ty',a,a',cap,m,q1,q2,q3,q4,q5,q6,q7,rfl,q8,q9⟩:=hM.sl hx h6
    obtain rfl:ty2=ty':=Option.some.inj (k1.symm.trans q1)
    have e2:=k2.symm.trans q2
    simp only[Option.some.injEq,RB.row.injEq,true_and] at e2
    subst e2
    obtain rfl:=q7 rfl
    simp only[Option.getD_none,Nat.sub_zero] at q4
    subst q4
    obtain⟨ty3,xs',t1,t2,t3,t4⟩:=k6
    obtain rfl:ty2=ty3:=Option.some.inj (k1.symm.trans t1)
    rcases t4 with⟨_,F,hF,he⟩ | ⟨hno,_⟩
    ·have:=Ro.inl T els ty2 _ xs' F k1 t2 t3 he
     simp only[Mem.foot,List.flatMap_cons,List.flatMap_nil,List.append_nil,Nat.sub_zero]
     rw[k5,hF];exact this
    ·rw[hno] at ho;cases ho
   ·have h7':RM.ret (V.inl T (cut els off len),false,[id]) M.hp=some ((c,own,K),l1'):=by
     rw[←h7]
     dsimp only
     split
     ·exact absurd ⟨rfl,rfl⟩ hfull
     ·rfl
    cases Zm h7'
    exact⟨fun ok' h1 h2=>Zf7 hM hx h6 h1 (h2 id (by simp)),fun ho=>by cases ho⟩
 | inl T l=>
  cases Zm (h:=M.hp) h
  exact⟨fun ok' h1 _=>hx.inl.keep h1 fun _ _=>rfl,fun ho=>by cases ho⟩
 | nil T=>
  have h:RM.bind (RM.lift (tab T)) (fun _=>RM.ret (V.inl T [],true,[])) M.hp=some ((c,own,K),log):=h
  obtain⟨ty,l1,b1,l1',h6,h7,h8⟩:=Zj h
  cases h8
  obtain⟨h6,-⟩:=Zu h6
  cases Zm h7
  obtain⟨a,rfl⟩:=hx.nil
  have hro:Ro tab M.w (.inl T []) (.slice a 0 0) (Zr (.slice a 0 0)++ZD 0 ty.kinds.length fun _ _=>[]):=
   Ro.inl T [] ty (.slice a 0 0) [] (fun _ _=>[]) h6 ⟨by simp, .inl ⟨a,rfl,rfl⟩⟩ (by simp) (by simp)
  have ht:Zr (.slice a 0 0)++ZD 0 ty.kinds.length (fun _ _=>[])=[]:=by cases a <;> simp[Zr,ZD]
  rw[ht] at hro
  exact⟨fun ok' _ _=>hro.tree (by simp),fun _=>hro⟩
 | int k n=>
  cases Zm (h:=M.hp) h
  rw[hx.int]
  exact⟨fun _ _ _=>.int _ _,fun _=>.int _ _⟩
 | bool b=>
  cases Zm (h:=M.hp) h
  rw[hx.bool]
  exact⟨fun _ _ _=>.bool _,fun _=>.bool _⟩
 | str l=>
  cases Zm (h:=M.hp) h
  obtain⟨s,rfl,hs⟩:=hx.str
  exact⟨fun _ _ _=>.str _ _ hs,fun _=>.str _ _ hs⟩
 | _=>exact(Zo (h:=M.hp) h).elim
theorem ZgO {E:Entry} {M:Mem} (hM:MemOk tab E M):∀(xs:List V) (vs:List Value) {cs:List V} {own:Bool} {K log:List Nat},vs.length=xs.length→
  (∀j,j<xs.length→M.Rs tab E (xs.getD j .dead) (vs.getD j undef))→Zg2 tab xs M.hp=some ((cs,own,K),log)→
  cs.length=xs.length∧∃Ks:Nat→List Nat,K=(List.range xs.length).flatMap Ks∧∀j,j<xs.length→∃o,(own=true→o=true)∧Taken tab E M (cs.getD j .dead) (vs.getD j undef) o (Ks j)
 | [],vs,cs,own,K,log,_,_,h=>by
  cases Zm (h:=M.hp) h
  exact⟨rfl,fun _=>[],by simp,by simp⟩
 | x :: xs,[],_,_,_,_,hl,_,_=>by simp at hl
 | x :: xs,v :: vs,cs,own,K,log,hl,hr,h=>by
  obtain⟨⟨c,o,k⟩,l1,b1,l1',h1,h2,h3⟩:=Zj h
  obtain⟨⟨cs',o',k'⟩,l2,b2,l2',h4,h5,h6⟩:=Zj h2
  cases Zm h5
  cases h3
  cases h6
  obtain⟨hlen,Ks,hK,hj⟩:=ZgO hM xs vs (by simpa using hl) (fun j hj=>by simpa using hr (j+1) (by simpa using hj)) h4
  have h0:=Zmp hM (hr 0 (by simp)) h1
  refine⟨by simp[hlen],fun j=>match j with | 0=>k | j+1=>Ks j,?_,fun j hjl=>?_⟩
  ·simp only[List.length_cons,List.range_succ_eq_map,List.flatMap_cons,List.flatMap_map]
   rw[hK]
  ·cases j with
   | zero=>exact⟨o,fun ho=>by simp at ho;exact ho.1,by simpa using h0⟩
   | succ j=>
    obtain⟨o2,ho2,ht⟩:=hj j (by simpa using hjl)
    exact⟨o2,fun ho=>ho2 (by simp at ho;exact ho.2),by simpa using ht⟩
end
end Go.Eng
namespace Go.Eng
section
variable {P:Program} {tab:Tab}
structure Elems (tab:Tab) (E:Entry) (M:Mem) (ty:Ty) (l:List V) (vals:List Value) (own:Bool) (F:Nat→Nat→List Nat) (K Kt:List Nat):Prop where
 len:vals.length=l.length*ty.kinds.length
 shape:∀i,i<l.length→ZbS ty (l.getD i .dead)
 tree:∀ok':Nat→Prop,(∀g,okS E M g→ok' g)→(∀k∈Kt,∀g∈M.top k,ok' g)→∀i j,i<l.length→j<ty.kinds.length→Rp tab M.w ok' ((l.getD i .dead).cell j) (vals.getD (i*ty.kinds.length+j) undef)
 mine:own=true→(∀i j,i<l.length→j<ty.kinds.length→Ro tab M.w ((l.getD i .dead).cell j) (vals.getD (i*ty.kinds.length+j) undef) (F i j))∧
  (ZD l.length ty.kinds.length F).Nodup∧∀g∈ZD l.length ty.kinds.length F,g∈M.foot K
theorem Zpp {w:World} {ok:Nat→Prop} {k:Ck} {x:V} {v:Value} (hk:kindOk k x) (hf:k.flat=true) (h:Rp tab w ok x v):Ro tab w x v []:=by
 cases h <;> cases k <;> simp_all [kindOk,Ck.flat]
 ·exact .int _ _
 ·exact .bool _
 ·exact .str _ _ ‹_›
theorem Elems.flat {E:Entry} {M:Mem} {ty:Ty} {l:List V} {vals:List Value} (hf:ty.kinds.all Ck.flat=true) (h:Flat tab M.w (okS E M) ty l vals):
  Elems tab E M ty l vals true (fun _ _=>[]) [] []:=by
 refine⟨h.1,h.2.1,fun ok' h1 _ i j hi hj=>(h.2.2 i j hi hj).keep h1 fun _ _=>rfl,fun _=>⟨fun i j hi hj=>?_,?_,?_⟩⟩
 ·refine Zpp ((h.2.1 i hi).2.2.2 j hj) ?_ (h.2.2 i j hi hj)
  rw[Zcu _ _ _ hj]
  exact(List.all_eq_true.1 hf) _ (List.getElem_mem hj)
 ·exact nodup_flatF.2 ⟨fun _ _ _ _=>List.nodup_nil,fun _ _ _ _ _ _ _ _ _ _ h=>by cases h⟩
 ·intro g hg;obtain⟨_,_,_,_,h⟩:=mem_flatF.1 hg;cases h
theorem Elems.nil {E:Entry} {M:Mem} {ty:Ty} (own:Bool):Elems tab E M ty [] [] own (fun _ _=>[]) [] []:=
 ⟨by simp,by simp,fun _ _ _ i j hi=>by simp at hi,fun _=>⟨fun i j hi=>by simp at hi,by simp[ZD],by simp[ZD]⟩⟩
theorem Elems.row {E:Entry} {M:Mem} (hM:MemOk tab E M) {id:Nat} {T:TypeId} {own:Bool} {els:List V} (hb:M.hp id=some (some (.row T own els))) {ty:Ty} (ht:tab T=some ty) (n:Nat) (hn:n≤els.length):
  ∃v xs F,M.ρ id=some (.row T ty.kinds.length els.length v)∧RowIs M.w T ty.kinds.length els.length v xs∧M.top id=Zr v∧
   Elems tab E M ty (els.take n) (xs.take (n*ty.kinds.length)) own F [id] []∧(own=true→∀g∈ZD n ty.kinds.length F,g∈M.nest id):=by
 obtain⟨ty2,v,xs,k1,k2,k3,k4,k5,k6,k7⟩:=hM.row hb
 obtain rfl:ty2=ty:=Option.some.inj (k1.symm.trans ht)
 obtain⟨ty3,xs',t1,t2,t3,t4⟩:=k6
 obtain rfl:ty2=ty3:=Option.some.inj (k1.symm.trans t1)
 have hln:(els.take n).length=n:=by simp;omega
 have hget:∀i,i<n→(els.take n).getD i .dead=els.getD i .dead:=fun i hi=>by simp[List.getD,hi]
 have hvget:∀i j,i<n→j<ty2.kinds.length→(xs.take (n*ty2.kinds.length)).getD (i*ty2.kinds.length+j) undef=xs.getD (i*ty2.kinds.length+j) undef:=fun i j hi hj=>by
  simp[List.getD,ZbK hi hj]
 have hxl:=k3.1
 have hnl:n*ty2.kinds.length≤els.length*ty2.kinds.length:=Nat.mul_le_mul_right _ hn
 have hxx:∀i j,i<els.length→j<ty2.kinds.length→xs.getD (i*ty2.kinds.length+j) undef=xs'.getD (i*ty2.kinds.length+j) undef:=by
  intro i j hi hj
  obtain⟨g,cap,e1,_,_,c1⟩:=k3.cell _ (ZbK hi hj)
  obtain⟨g',cap',e2,_,_,c2⟩:=t2.cell _ (ZbK hi hj)
  rw[e1] at e2;cases e2
  rw[c1] at c2;exact Option.some.inj c2
 have base:∀F,Elems tab E M ty2 (els.take n) (xs.take (n*ty2.kinds.length)) false F [id] []:=fun F=>
  ⟨by rw[hln];simp;omega,fun i hi=>by rw[hln] at hi;rw[hget i hi];exact k4 i (by omega),
   fun ok' h1 _ i j hi hj=>by rw[hln] at hi;rw[hget i hi,hvget i j hi hj];exact(k7 i j (by omega) hj).keep h1 fun _ _=>rfl,fun h=>by cases h⟩
 rcases t4 with⟨ho,F,hF,he⟩ | ⟨ho,_⟩
 ·subst ho
  refine⟨v,xs,F,k2,k3,k5,⟨(base F).len,(base F).shape,(base F).tree,fun _=>⟨fun i j hi hj=>?_,?_,fun g hg=>?_⟩⟩,fun _ g hg=>?_⟩
  ·rw[hln] at hi;rw[hget i hi,hvget i j hi hj,hxx i j (by omega) hj];exact he i j (by omega) hj
  ·have hnd:(M.nest id).Nodup:=(List.nodup_append.1 (hM.nodup id)).2.1
   rw[hF] at hnd
   obtain⟨h1,h2⟩:=nodup_flatF.1 hnd
   rw[hln]
   exact nodup_flatF.2 ⟨fun i j hi hj=>h1 i j (by omega) hj,fun i j i' j' hi hj hi' hj'=>h2 i j i' j' (by omega) hj (by omega) hj'⟩
  ·rw[hln] at hg
   obtain⟨i,hi,j,hj,hg⟩:=mem_flatF.1 hg
   exact Mem.mem_foot.2 ⟨id,by simp,List.mem_append_right _ (by rw[hF];exact mem_flatF.2 ⟨i,by omega,j,hj,hg⟩)⟩
  ·obtain⟨i,hi,j,hj,hg⟩:=mem_flatF.1 hg
   rw[hF];exact mem_flatF.2 ⟨i,by omega,j,hj,hg⟩
 ·subst ho
  exact⟨v,xs,fun _ _=>[],k2,k3,k5,base _,fun h=>by cases h⟩
theorem Elems.append {E:Entry} {M:Mem} (hM:MemOk tab E M) {ty:Ty} {l l':List V} {vals vals':List Value} {own own':Bool} {F F':Nat→Nat→List Nat} {K K' Kt Kt':List Nat}
  (h:Elems tab E M ty l vals own F K Kt) (h':Elems tab E M ty l' vals' own' F' K' Kt') (hK:(K++K').Nodup):
  Elems tab E M ty (l++l') (vals++vals') (own&&own') (fun i j=>if i<l.length then F i j else F' (i-l.length) j) (K++K') (Kt++Kt'):=by
 have hg1:∀i,i<l.length→(l++l').getD i .dead=l.getD i .dead:=fun i hi=>by simp[List.getD,List.getElem?_append_left hi]
 have hg2:∀i,¬i<l.length→(l++l').getD i .dead=l'.getD (i-l.length) .dead:=fun i hi=>by simp[List.getD,List.getElem?_append_right (by omega:l.length≤i)]
 have hv1:∀i j,i<l.length→j<ty.kinds.length→(vals++vals').getD (i*ty.kinds.length+j) undef=vals.getD (i*ty.kinds.length+j) undef:=fun i j hi hj=>by
  have:=ZbK hi hj
  simp[List.getD,List.getElem?_append_left (show i*ty.kinds.length+j<vals.length by rw[h.len];exact this)]
 have hv2:∀i j,¬i<l.length→(vals++vals').getD (i*ty.kinds.length+j) undef=vals'.getD ((i-l.length)*ty.kinds.length+j) undef:=fun i j hi=>by
  have hle:l.length*ty.kinds.length≤i*ty.kinds.length:=Nat.mul_le_mul_right _ (by omega)
  simp only[List.getD]
  rw[List.getElem?_append_right (by rw[h.len];omega),h.len,Nat.sub_mul]
  congr 2;omega
 refine⟨by simp[h.len,h'.len,Nat.add_mul],fun i hi=>?_,fun ok' a b i j hi hj=>?_,fun ho=>?_⟩
 ·by_cases hc:i<l.length
  ·rw[hg1 i hc];exact h.shape i hc
  ·rw[hg2 i hc];simp at hi;exact h'.shape _ (by omega)
 ·by_cases hc:i<l.length
  ·rw[hg1 i hc,hv1 i j hc hj];exact h.tree ok' a (fun k hk=>b k (List.mem_append_left _ hk)) i j hc hj
  ·rw[hg2 i hc,hv2 i j hc];simp at hi;exact h'.tree ok' a (fun k hk=>b k (List.mem_append_right _ hk)) _ j (by omega) hj
 ·simp only[Bool.and_eq_true] at ho
  obtain⟨a1,a2,a3⟩:=h.mine ho.1
  obtain⟨b1,b2,b3⟩:=h'.mine ho.2
  refine⟨fun i j hi hj=>?_,?_,fun g hg=>?_⟩
  ·by_cases hc:i<l.length
   ·rw[hg1 i hc,hv1 i j hc hj];simp only[hc,if_true];exact a1 i j hc hj
   ·rw[hg2 i hc,hv2 i j hc];simp only[hc,if_false];simp at hi;exact b1 _ j (by omega) hj
  ·obtain⟨c1,c2⟩:=nodup_flatF.1 a2
   obtain⟨d1,d2⟩:=nodup_flatF.1 b2
   have hap:=hM.foot_apart (K:=K) (K':=K') fun k hk hk'=>(List.nodup_append.1 hK).2.2 k hk k hk' rfl
   have hin1:∀i j,i<l.length→j<ty.kinds.length→∀g∈F i j,g∈M.foot K:=fun i j hi hj g hg=>a3 g (mem_flatF.2 ⟨i,hi,j,hj,hg⟩)
   have hin2:∀i j,i<l'.length→j<ty.kinds.length→∀g∈F' i j,g∈M.foot K':=fun i j hi hj g hg=>b3 g (mem_flatF.2 ⟨i,hi,j,hj,hg⟩)
   refine nodup_flatF.2 ⟨fun i j hi hj=>?_,fun i j i' j' hi hj hi' hj' hne g hg hg'=>?_⟩
   ·by_cases hc:i<l.length
    ·simp only[hc,if_true];exact c1 i j hc hj
    ·simp only[hc,if_false];simp at hi;exact d1 _ j (by omega) hj
   ·simp only[List.length_append] at hi hi'
    by_cases hc:i<l.length <;> by_cases hc':i'<l.length
    ·simp only[hc,hc',if_true] at hg hg';exact c2 i j i' j' hc hj hc' hj' hne g hg hg'
    ·simp only[hc,hc',if_true,if_false] at hg hg';exact hap g (hin1 i j hc hj g hg) (hin2 _ j' (by omega) hj' g hg')
    ·simp only[hc,hc',if_true,if_false] at hg hg';exact hap g (hin1 i' j' hc' hj' g hg') (hin2 _ j (by omega) hj g hg)
    ·simp only[hc,hc',if_false] at hg hg'
     exact d2 (i-l.length) j (i'-l.length) j' (by omega) hj (by omega) hj' (by rcases hne with h | h;left;omega;exact .inr h) g hg hg'
  ·obtain⟨i,hi,j,hj,hg⟩:=mem_flatF.1 hg
   obtain hc | hc:=Nat.lt_or_ge i l.length
   ·simp only[hc,if_true] at hg
    obtain⟨k,hk,hg⟩:=Mem.mem_foot.1 (a3 g (mem_flatF.2 ⟨i,hc,j,hj,hg⟩))
    exact Mem.mem_foot.2 ⟨k,List.mem_append_left _ hk,hg⟩
   ·have hc':¬i<l.length:=by omega
    simp only[hc',if_false] at hg
    simp only[List.length_append] at hi
    obtain⟨k,hk,hg⟩:=Mem.mem_foot.1 (b3 g (mem_flatF.2 ⟨i-l.length,by omega,j,hj,hg⟩))
    exact Mem.mem_foot.2 ⟨k,List.mem_append_right _ hk,hg⟩
theorem Zid {E:Entry} {M:Mem} (hM:MemOk tab E M) {nid:Nat} {e:TypeId} {ty:Ty} (he:tab e=some ty) {l:List V} {vals:List Value} {own:Bool} {F:Nat→Nat→List Nat} {K Kt:List Nat}
  (h:Elems tab E M ty l vals own F K Kt) (hKt:∀k∈Kt,k∈K) {w':World} {v:Value} (hrow:RowIs w' e ty.kinds.length l.length v vals)
  (hρ:M.ρ nid=none∨M.ρ nid=some (.row e ty.kinds.length l.length v))
  (os:w'.os=M.w.os) (tape:w'.tape=M.w.tape) (out:w'.output=M.w.output) (size:M.w.heap.size≤w'.heap.size)
  (top:List Nat) (htop:∀g∈top,∃k∈K,g∈M.top k) (same:∀g,g<M.w.heap.size→g∉top→w'.heap[g]? = M.w.heap[g]?)
  (hv:∀g∈Zr v,g∈top∨M.w.heap.size≤g)
  (hsep:own=true→∀g∈ZD l.length ty.kinds.length F,g∉top) (hsepT:∀k∈Kt,∀g∈M.top k,g∉top):
  ∃M',M'.w=w'∧StepOk tab E M ⟨.sl nid e 0 none,ended K++[(nid,some (.row e own l))]⟩ v M':=by
 have htl:∀g∈Zr v,g<w'.heap.size:=hrow.top_lt
 have hnd:(Zr v).Nodup:=by
  rcases hrow.2 with⟨a,rfl,_⟩ | ⟨g,cap,cur,rfl,_⟩
  ·cases a <;> simp[Zr]
  ·cases cap <;> simp[Zr]
 have hF:own=true→∀g∈ZD l.length ty.kinds.length F,g∈M.foot K∧g<M.w.heap.size:=by
  intro ho g hg
  have h1:=(h.mine ho).2.2 g hg
  obtain⟨k,hk,hgk⟩:=Mem.mem_foot.1 h1
  exact⟨h1,(hM.mine k g hgk).2⟩
 have hstep:=Zg7 hM w' K nid (.row e ty.kinds.length l.length v) (.row e own l) (Zr v) (if own=true then ZD l.length ty.kinds.length F else[]) hρ os tape out size
  (fun g hg hk=>same g hg fun hgt=>by obtain⟨k,hkK,hgk⟩:=htop g hgt;exact hk k (.inr hkK) hgk)
  (fun g hg=>(hv g hg).imp (fun hgt=>by obtain⟨k,hkK,hgk⟩:=htop g hgt;exact⟨k, .inr hkK,hgk⟩) id)
  (fun g hg=>by
   by_cases ho:own=true
   ·rw[if_pos ho] at hg
    obtain⟨k,hk,hgk⟩:=Mem.mem_foot.1 (hF ho g hg).1
    exact .inl ⟨k, .inr hk,hgk⟩
   ·rw[if_neg ho] at hg;cases hg)
  (by
   by_cases ho:own=true
   ·rw[if_pos ho]
    refine List.nodup_append.2 ⟨hnd,(h.mine ho).2.1,fun a ha b hb e=>?_⟩
    subst e
    rcases hv a ha with h1 | h1
    ·exact hsep ho a hb h1
    ·have:=(hF ho a hb).2;omega
   ·rw[if_neg ho,List.append_nil];exact hnd)
  (fun g hg=>by
   rcases List.mem_append.1 hg with hg | hg
   ·exact htl g hg
   ·by_cases ho:own=true
    ·rw[if_pos ho] at hg;have:=(hF ho g hg).2;omega
    ·rw[if_neg ho] at hg;cases hg)
  (fun hle=>by
   refine⟨ty,v,he,rfl,⟨ty,vals,he,hrow,h.shape,?_⟩,rfl⟩
   by_cases ho:own=true
   ·refine .inl ⟨ho,F,by rw[if_pos ho],fun i j hi hj=>((h.mine ho).1 i j hi hj).keep fun g hg=>?_⟩
    have hg':=mem_flatF.2 ⟨i,hi,j,hj,hg⟩
    exact same g (hF ho g hg').2 (hsep ho g hg')
   ·refine .inr ⟨by simpa using ho,by rw[if_neg ho],fun i j hi hj=>?_⟩
    refine(h.tree (fun g=>okS E M g∨∃k∈Kt,g∈M.top k) (fun g hg=>.inl hg) (fun k hk g hg=>.inr ⟨k,hk,hg⟩) i j hi hj).keep (fun g hg=>?_) (fun g hg=>?_)
    ·rcases hg with hg | ⟨k,hk,hg⟩
     ·exact hle.ok g hg
     ·have hm:=hM.mine k g (List.mem_append_left _ hg)
      refine⟨.inr hm.1,Nat.lt_of_lt_of_le hm.2 size,fun i' hi'=>?_⟩
      simp only[Mem.put] at hi'
      split at hi'
      ·rcases hv g hi' with h1 | h1
       ·exact hsepT k hk g hg h1
       ·omega
      ·split at hi'
       ·cases hi'
       ·rename_i h2
        exact hM.apart k i' (fun e=>h2 (e▸hKt k hk)) g (List.mem_append_left _ hg) (List.mem_append_left _ hi')
    ·rcases hg with hg | ⟨k,hk,hg⟩
     ·refine same g hg.2.1 fun hgt=>?_
      obtain⟨k,_,hgk⟩:=htop g hgt
      exact hg.2.2 k hgk
     ·exact same g (hM.mine k g (List.mem_append_left _ hg)).2 (hsepT k hk g hg))
 refine⟨_,rfl,hstep.1,hstep.2,by rw[Zkg],?_⟩
 have hnc:∃a cap,v = .slice a l.length cap∧l.length≤cap:=by
  rcases hrow.2 with⟨a,rfl,h0⟩ | ⟨g,cap,cur,rfl,_,_,hnc,_⟩
  ·exact⟨a,0,by rw[h0],by omega⟩
  ·exact⟨_,cap,rfl,hnc⟩
 obtain⟨a,cap,rfl,hc⟩:=hnc
 exact .sl nid e 0 none ty.kinds.length l.length a a cap l.length (by simp[Mem.put]) hc (by simp) (by omega) (fun _=>by cases a <;> simp[Addr.add_zero']) (fun _=>rfl)
theorem Zhv {E:Entry} {M:Mem} (hM:MemOk tab E M) {nid:Nat} (hn:M.hp nid=none) {e:TypeId} {ty:Ty} (he:tab e=some ty) {l:List V} {vals:List Value} {own:Bool} {F:Nat→Nat→List Nat} {K Kt:List Nat}
  (h:Elems tab E M ty l vals own F K Kt) (hKt:∀k∈Kt,k∈K) {w':World} {v:Value} (hrow:RowIs w' e ty.kinds.length l.length v vals)
  (os:w'.os=M.w.os) (tape:w'.tape=M.w.tape) (out:w'.output=M.w.output) (size:M.w.heap.size≤w'.heap.size)
  (top:List Nat) (htop:∀g∈top,∃k∈K,g∈M.top k) (same:∀g,g<M.w.heap.size→g∉top→w'.heap[g]? = M.w.heap[g]?)
  (hv:∀g∈Zr v,g∈top∨M.w.heap.size≤g)
  (hsep:own=true→∀g∈ZD l.length ty.kinds.length F,g∉top) (hsepT:∀k∈Kt,∀g∈M.top k,g∉top):
  ∃M',M'.w=w'∧StepOk tab E M ⟨.sl nid e 0 none,ended K++[(nid,some (.row e own l))]⟩ v M':=
 Zid hM he h hKt hrow (.inl (hM.fresh nid hn).1) os tape out size top htop same hv hsep hsepT
end
end Go.Eng
namespace Go.Eng
section
variable {P:Program} {tab:Tab}
theorem Zki (hT:ZB P tab) {t:TypeId} (h:isSeq tab t=true):(∃e,P.underlying t=some (.slice e))∨P.underlying t=some .string:=by
 unfold isSeq at h
 split at h
 ·rename_i e a b c h'
  exact .inl ⟨_,(hT t _ h').slice _ rfl rfl⟩
 ·rename_i a b c h'
  exact .inr ((hT t _ h').strs rfl rfl)
 ·cases h
theorem ZoL {E:Entry} {M:Mem} (hM:MemOk tab E M) {e:TypeId} {ty:Ty} (he:tab e=some ty) {s:V} {sv:Value} {l:List V} {own:Bool} {K log:List Nat}
  (hs:M.Rs tab E s sv) (h:baseV e s M.hp=some ((l,own,K),log)):
  ∃a N cap xs F,sv = .slice a l.length cap∧l.length≤N∧RowIs M.w e ty.kinds.length N (.slice a N cap) xs∧Elems tab E M ty l (xs.take (l.length*ty.kinds.length)) own F K []∧
   (∀g∈Zr (.slice a N cap),∃k∈K,g∈M.top k)∧(∀k∈K,M.top k=Zr (.slice a N cap))∧
   (own=true→∀g∈ZD l.length ty.kinds.length F,g∉Zr (.slice a N cap)):=by
 cases s with
 | nil T=>
  cases Zm (h:=M.hp) h
  obtain⟨a,rfl⟩:=hs.nil
  have ht:Zr (.slice a 0 0)=[]:=by cases a <;> rfl
  refine⟨a,0,0,[],fun _ _=>[],rfl,Nat.le_refl _,⟨by simp, .inl ⟨a,rfl,rfl⟩⟩,by simpa using Elems.nil true,by rw[ht];simp,by simp,fun _ g _=>by rw[ht];simp⟩
 | sl id T off len=>
  cases off with
  | succ n=>exact(Zo (h:=M.hp) h).elim
  | zero=>
   obtain⟨blk,l1,b1,l1',h6,h7,h8⟩:=Zj (h:=M.hp) h
   cases h8
   obtain⟨h6,-⟩:=ZaH h6
   cases blk with
   | box T cs=>exact(Zo h7).elim
   | drow _ _=>exact(Zo h7).elim
   | hrow _ _ _ _ _=>exact(Zo h7).elim
   | grow _ _=>exact(Zo h7).elim
   | row T' own' els=>
    obtain⟨hte,h7'⟩:=Zw h7
    obtain rfl:T'=e:=by simpa using hte
    cases Zm h7'
    obtain⟨ty',a,a',cap,m,q1,q2,q3,q4,q5,q6,q7,rfl,q8,q9⟩:=hM.sl hs h6
    obtain rfl:ty=ty':=Option.some.inj (he.symm.trans q1)
    obtain rfl:=q7 rfl
    have hm:m≤els.length:=by omega
    obtain⟨v,xs,F,k1,k2,k3,k4,k5⟩:=Elems.row hM h6 he m hm
    have e2:=k1.symm.trans q2
    simp only[Option.some.injEq,RB.row.injEq,true_and] at e2
    subst e2
    have hcut:cut els 0 len=els.take m:=by
     cases len with
     | none=>simp at q4;subst q4;simp[cut]
     | some n=>simp at q4;subst q4;simp[cut]
    rw[hcut] at q8 ⊢
    rw[q8]
    refine⟨a',els.length,cap,xs,F,by simp,hm,k2,k4,fun g hg=>⟨id,by simp,by rw[k3];exact hg⟩,fun k hk=>by simp at hk;rw[hk,k3],fun ho g hg hgt=>?_⟩
    rw[←k3] at hgt
    exact(List.nodup_append.1 (hM.nodup id)).2.2 g hgt g (k5 ho g hg) rfl
 | _=>exact(Zo (h:=M.hp) h).elim
theorem ZoM {E:Entry} {M:Mem} (hM:MemOk tab E M) {e:TypeId} {ty:Ty} (he:tab e=some ty) {x:V} {xv:Value} {l:List V} {own:Bool} {K log:List Nat}
  (hx:M.Rs tab E x xv) (h:Zj2 e ty x M.hp=some ((l,own,K),log)):
  ∃news F,Elems tab E M ty l news own F K []∧(∀v∈news,v.oneCell'=true)∧(∀w',(Builtin.lenOf xv).run P w' = .ok l.length w')∧
   (∀w',(∀g,g<M.w.heap.size→w'.heap[g]? = M.w.heap[g]?)→(Builtin.firstCells ty.kinds.length l.length xv).run P w' = .ok news.toArray w')∧
   (own=true→∀g∈ZD l.length ty.kinds.length F,∃k∈K,g∈M.nest k):=by
 have hlenw:∀(n:Nat),(Builtin.lenOf xv).run P M.w = .ok n M.w→∀w',(Builtin.lenOf xv).run P w' = .ok n w':=by
  intro n hn w'
  cases xv <;> simp[Builtin.lenOf] at hn ⊢ <;> exact hn
 unfold Zj2 at h
 split at h
 ·rename_i hflat
  obtain⟨r,l1,b1,l1',h1,h2,h3⟩:=Zj h
  cases Zm h2
  cases h3
  obtain⟨news,h4,h5,h6⟩:=Zd6 (P:=P) hM he hx h1
  refine⟨news,fun _ _=>[],Elems.flat hflat h4,h4.oneCell,hlenw _ h5,fun w' hw'=>?_,fun _ g hg=>?_⟩
  ·rw[h6 _ (Nat.le_refl _) w' hw',←h4.1,List.take_length]
  ·obtain⟨_,_,_,_,hg⟩:=mem_flatF.1 hg;cases hg
 ·cases x with
  | sl id T off len=>
   have hels:∃els own' T',M.hp id=some (some (.row T' own' els))∧T'=e∧((off=0∧len=none∧l=els∧own=own'∧K=[id])∨(own=false∧l=cut els off len∧K=[])):=by
    obtain⟨blk,l1,b1,l1',h6,h7,h8⟩:=Zj (h:=M.hp) h
    cases h8
    obtain⟨h6,-⟩:=ZaH h6
    cases blk with
    | box T cs=>exact(Zo h7).elim
    | drow _ _=>exact(Zo h7).elim
    | hrow _ _ _ _ _=>exact(Zo h7).elim
    | grow _ _=>exact(Zo h7).elim
    | row T' own' els=>
     obtain⟨hte,h7'⟩:=Zw h7
     refine⟨els,own',T',h6,by simpa using hte,?_⟩
     split at h7'
     ·cases Zm h7';exact .inl ⟨rfl,rfl,rfl,rfl,rfl⟩
     ·cases Zm h7';exact .inr ⟨rfl,rfl,rfl⟩
   obtain⟨els,own',T',hb,rfl,hcase⟩:=hels
   have hsl:ZeC T' ty (.sl id T off len) M.hp=some (cut els off len,[id]):=by
    rw[rm_at];simp[ZeC,RM.bind,RM.get,hb,RM.test,decide_true,RM.ret,ZdT,List.append_nil]
   obtain⟨news,h4,h5,h6⟩:=Zd6 (P:=P) hM he hx hsl
   have hfirst:∀w',(∀g,g<M.w.heap.size→w'.heap[g]? = M.w.heap[g]?)→(Builtin.firstCells ty.kinds.length (cut els off len).length xv).run P w' = .ok news.toArray w':=by
    intro w' hw'
    rw[h6 _ (Nat.le_refl _) w' hw',←h4.1,List.take_length]
   rcases hcase with⟨rfl,rfl,rfl,rfl,rfl⟩ | ⟨rfl,rfl,rfl⟩
   ·have hc:cut l 0 none=l:=rfl
    rw[hc] at h4 h5 hfirst
    obtain⟨v,xs,F,k1,k2,k3,k4,k5⟩:=Elems.row hM hb he l.length (Nat.le_refl _)
    rw[List.take_length] at k4
    have hxs:xs.take (l.length*ty.kinds.length)=xs:=by rw[←k2.1,List.take_length]
    rw[hxs] at k4
    obtain⟨ty',a,a',cap,m,q1,q2,q3,q4,q5,q6,q7,rfl,q8,q9⟩:=hM.sl hx hb
    have e2:=k1.symm.trans q2
    simp only[Option.some.injEq,RB.row.injEq,true_and] at e2
    have hnx:news=xs:=by
     have hh:=hfirst M.w fun _ _=>rfl
     obtain rfl:=q7 rfl
     simp only[Option.getD_none,Nat.sub_zero] at q4
     subst q4
     rw[e2.2] at k2
     have:(Builtin.firstCells ty.kinds.length l.length (.slice a' l.length (cap-0))).run P M.w = .ok xs.toArray M.w:=by
      rcases k2.2 with⟨b,e3,h0⟩ | ⟨g,cap',cur,e3,hc',hg,hNc,hcm,hcs,htk⟩
      ·have hx0:xs=[]:=List.eq_nil_of_length_eq_zero (by rw[k2.1,h0];simp)
       rw[h0,hx0]
       cases a' <;> simp[Builtin.firstCells,loadCells,loadCellsFrom]
      ·simp only[Value.slice.injEq] at e3
       obtain⟨rfl,-,rfl⟩:=e3
       refine run_firstCells_some (P:=P) M.w ty.kinds.length l.length _ _ _ _ k2.1 fun j v hv=>?_
       have hj:j<xs.length:=(List.getElem?_eq_some_iff.1 hv).1
       obtain⟨g',cap',e4,_,_,hcell⟩:=k2.cell j (by rw[←k2.1];exact hj)
       cases e4
       rw[Addr.add_none,Nat.zero_add,hcell]
       simp[List.getD,hv]
     rw[this] at hh
     simpa using hh.symm
    subst hnx
    exact⟨news,F,k4,h4.oneCell,hlenw _ h5,hfirst,fun ho g hg=>⟨id,by simp,k5 ho g hg⟩⟩
   ·exact⟨news,fun _ _=>[],⟨h4.1,h4.2.1,fun ok' h1 _ i j hi hj=>(h4.2.2 i j hi hj).keep h1 fun _ _=>rfl,fun h=>by cases h⟩,h4.oneCell,hlenw _ h5,hfirst,fun h=>by cases h⟩
  | inl T l'=>
   obtain⟨hte,h7'⟩:=Zw h
   obtain rfl:T=e:=by simpa using hte
   cases Zm h7'
   have hsl:ZeC T ty (.inl T l) M.hp=some (l,[]):=by rw[rm_at];simp[ZeC,RM.test,RM.ret,ZdT]
   obtain⟨news,h4,h5,h6⟩:=Zd6 (P:=P) hM he hx hsl
   refine⟨news,fun _ _=>[],⟨h4.1,h4.2.1,fun ok' h1 _ i j hi hj=>(h4.2.2 i j hi hj).keep h1 fun _ _=>rfl,fun h=>by cases h⟩,h4.oneCell,hlenw _ h5,fun w' hw'=>?_,fun h=>by cases h⟩
   rw[h6 _ (Nat.le_refl _) w' hw',←h4.1,List.take_length]
  | nil T=>
   cases Zm (h:=M.hp) h
   have hsl:ZeC e ty (.nil T) M.hp=some ([],[]):=by rw[rm_at];simp[ZeC,RM.ret,ZdT]
   obtain⟨news,h4,h5,h6⟩:=Zd6 (P:=P) hM he hx hsl
   obtain rfl:news=[]:=List.eq_nil_of_length_eq_zero (by simpa using h4.1)
   refine⟨[],fun _ _=>[],Elems.nil true,by simp,hlenw _ h5,fun w' hw'=>?_,fun _ g hg=>by simp[ZD] at hg⟩
   simpa using h6 _ (Nat.le_refl _) w' hw'
  | _=>exact(Zo (h:=M.hp) h).elim
theorem Zmq (hT:ZB P tab) {E:Entry} {M:Mem} (hM:MemOk tab E M) {nid:Nat} (hn:M.hp nid=none) {t t2 ot:TypeId} {s x:V} {sv xv:Value} {Ef:Eff} {log:List Nat}
  (hs:M.Rs tab E s sv) (hx:M.Rs tab E x xv) (h:Ze5 tab t t2 nid s x M.hp=some (Ef,log)):
  ∃M' val,(Builtin.append_ #[t,t2] ot #[sv,xv]).run P M.w = .ok val M'.w∧StepOk tab E M Ef val M':=by
 unfold Ze5 at h
 obtain⟨e,l1,b1,l1',h1,h2,h3⟩:=Zj h
 cases h3
 obtain⟨h1,-⟩:=Zu h1
 obtain⟨ty0,h0,h1⟩:=Option.bind_eq_some_iff.1 h1
 obtain⟨ty,l2,b2,l2',h3,h4,h5⟩:=Zj h2
 cases h5
 obtain⟨h3,-⟩:=Zu h3
 have hu:=((hT t ty0 h0).elem e h1).1
 obtain⟨⟨bl,bo,bK⟩,l3,b3,l3',h5,h6,h7⟩:=Zj h4
 cases h7
 obtain⟨⟨ml,mo,mK⟩,l4,b4,l4',h7,h8,h9⟩:=Zj h6
 cases h9
 obtain⟨h9,h10⟩:=Zw h8
 cases Zm h10
 simp only[Bool.and_eq_true] at h9
 obtain⟨hseq,hroom,hdis⟩:=h9
 have hroom':bl.length+ml.length≤9223372036854775807∧(bl.length+ml.length)*ty.bytes≤140737488355328:=by
  simpa [Zv] using hroom
 obtain⟨a,N,cap,xs,F,rfl,r1,r2,r3,r4,r5,r6⟩:=ZoL hM h3 hs h5
 obtain⟨news,F',m1,m2,m3,m4,m5⟩:=ZoM (P:=P) hM h3 hx h7
 have hKn:=ZcR hdis
 obtain⟨v',w',hr,k1,k2,k3⟩:=ZfV (P:=P) hu (hT e ty h3) (Zki hT hseq) (ot:=ot) r2 r1 m1.len m2 m3 m4 hroom'.1 hroom'.2
 have hE:=Elems.append hM r3 m1 hKn
 obtain⟨M',hw,hstep⟩:=Zhv hM hn h3 hE (by simp) (by rw[List.length_append];exact k1) k2.os k2.tape k2.output k2.size (Zr (.slice a N cap))
  (fun g hg=>by obtain⟨k,hk,hgk⟩:=r4 g hg;exact⟨k,List.mem_append_left _ hk,hgk⟩) (fun g hg hgt=>k2.block g hg hgt)
  (fun g hg=>(k3 g hg).imp id fun e=>by omega)
  (fun ho g hg hgt=>by
   simp only[Bool.and_eq_true] at ho
   obtain⟨i,hi,j,hj,hg⟩:=mem_flatF.1 hg
   by_cases hc:i<bl.length
   ·simp only[hc,if_true] at hg
    exact r6 ho.1 g (mem_flatF.2 ⟨i,hc,j,hj,hg⟩) hgt
   ·simp only[hc,if_false] at hg
    rw[List.length_append] at hi
    obtain⟨k,hk,hgk⟩:=m5 ho.2 g (mem_flatF.2 ⟨i-bl.length,by omega,j,hj,hg⟩)
    obtain⟨k',hk',hgk'⟩:=r4 g hgt
    have hne:k'≠k:=fun e=>(List.nodup_append.1 hKn).2.2 k' hk' k hk e
    exact hM.apart k' k hne g (List.mem_append_left _ hgk') (List.mem_append_right _ hgk))
  (fun k hk=>by simp at hk)
 exact⟨M',v',by rw[hw];exact hr,hstep⟩
theorem Zmr {w:World} (k:Ck) (hk:k≠.ptr∧k≠.fn∧k≠.other) (ht:∀T,k = .sl T→∃ty,tab T=some ty):
  kindOk k (ZdQ k)∧Ro tab w (ZdQ k) (ZbY k) []:=by
 cases k with
 | int k=>exact⟨rfl, .int _ _⟩
 | bool=>exact⟨trivial, .bool _⟩
 | str=>exact⟨trivial, .str _ _ rfl⟩
 | sl T=>
  obtain⟨ty,ht⟩:=ht T rfl
  refine⟨rfl,?_⟩
  have:=Ro.inl (tab:=tab) (w:=w) T [] ty (.slice none 0 0) [] (fun _ _=>[]) ht ⟨by simp, .inl ⟨none,rfl,rfl⟩⟩ (by simp) (by simp)
  simpa [Zr,ZD,ZbY,ZdQ] using this
 | ptr=>exact absurd rfl hk.1
 | fn=>exact absurd rfl hk.2.1
 | other=>exact absurd rfl hk.2.2
end
end Go.Eng
namespace Go.Eng
section
variable {P:Program} {tab:Tab}
theorem ZoN {k:Ck} {x:V} (h:kindB k x=true):kindOk k x:=by
 cases k <;> cases x <;> simp_all [kindB,kindOk]
theorem ZeU:∀{ks:List Ck} {vs:List V},ZdP ks vs=true→vs.length=ks.length∧∀j,j<ks.length→kindOk (ks.getD j .other) (vs.getD j .dead)
 | [],[],_=>by simp
 | [],_ :: _,h=>by simp[ZdP] at h
 | _ :: _,[],h=>by simp[ZdP] at h
 | k :: ks,v :: vs,h=>by
  simp only[ZdP,Bool.and_eq_true] at h
  obtain⟨h1,h2⟩:=ZeU h.2
  refine⟨by simp[h1],fun j hj=>?_⟩
  cases j with
  | zero=>simpa using ZoN h.1
  | succ j=>simpa using h2 j (by simpa using hj)
theorem ZlV {k:Ck} {x:V} (h:kindOk k x) (cs:List V):x≠.agg cs:=by
 rintro rfl;cases k <;> simp[kindOk] at h
theorem Zhw {P:Program} {T:TypeId} {ty:Ty} (hty:TyOk P tab T ty) {cs:List V} (hl:cs.length=ty.kinds.length) (hk:∀j,j<ty.kinds.length→kindOk (ty.kinds.getD j .other) (cs.getD j .dead)):
  ZbS ty (mk ty.agg cs)∧(mk ty.agg cs).cells=cs:=by
 cases ha:ty.agg with
 | true=>
  refine⟨⟨by simpa [mk,V.cells] using hl,fun _=>⟨cs,rfl⟩,fun h=>absurd (ha.symm.trans h) (by simp),fun j hj=>?_⟩,rfl⟩
  simpa [mk,V.cells,V.cell] using hk j hj
 | false=>
  have h1:=(hty.flat ha).1
  obtain⟨c,rfl⟩:∃c,cs=[c]:=by
   match cs,hl with
   | [c],_=>exact⟨c,rfl⟩
   | [],hl=>simp at hl;omega
   | _ :: _ :: _,hl=>simp at hl;omega
  have hk0:=hk 0 (by omega)
  have hna:=ZlV hk0
  have hcells:(mk false [c]).cells=[c]:=by
   have hna':∀cs,c≠.agg cs:=by simpa using hna
   simp only[mk,Bool.false_eq_true,if_false,List.headD_cons]
   cases c <;> first | rfl | exact absurd rfl (hna' _)
  refine⟨⟨by rw[hcells,h1];rfl,fun h=>absurd (ha.symm.trans h) (by simp),fun _ cs=>by simpa [mk] using hna cs,fun j hj=>?_⟩,hcells⟩
  rw[h1] at hj
  obtain rfl:j=0:=by omega
  rw[V.cell,hcells];exact hk0
theorem Zjc {vals vals':List Value} {sz n idx off:Nat} (hl:vals.length=n*sz) (hi:idx<n) (hfit:off+vals'.length≤sz) (i j:Nat) (hj:j<sz):
  (vals.take (idx*sz+off)++vals'++vals.drop (idx*sz+off+vals'.length)).getD (i*sz+j) undef =
   if i=idx∧off≤j∧j<off+vals'.length then vals'.getD (j-off) undef else vals.getD (i*sz+j) undef:=by
 have hle:idx*sz+sz≤n*sz:=by
  have:(idx+1)*sz≤n*sz:=Nat.mul_le_mul_right _ hi
  rwa [Nat.add_mul,Nat.one_mul] at this
 rw[Zb5 _ _ _ _ _ (by omega)]
 by_cases e:i=idx
 ·subst e
  by_cases hc:off≤j∧j<off+vals'.length
  ·rw[if_pos (by omega),if_pos ⟨rfl,hc.1,hc.2⟩];congr 1;omega
  ·rw[if_neg (by omega),if_neg (by omega)]
 ·rw[if_neg (c:=i=idx∧_) (fun h=>e h.1),if_neg]
  rintro⟨h1,h2⟩
  rcases Nat.lt_or_gt_of_ne e with h | h
  ·have:(i+1)*sz≤idx*sz:=Nat.mul_le_mul_right _ h
   rw[Nat.add_mul] at this;omega
  ·have:(idx+1)*sz≤i*sz:=Nat.mul_le_mul_right _ h
   rw[Nat.add_mul] at this;omega
theorem Elems.set {E:Entry} {M:Mem} (hM:MemOk tab E M) {T:TypeId} {ty:Ty} (hty:TyOk P tab T ty) {l:List V} {vals:List Value} {own own2:Bool} {F:Nat→Nat→List Nat} {K Kt K2:List Nat}
  (h:Elems tab E M ty l vals own F K Kt) {idx off:Nat} (hi:idx<l.length) {cs:List V} {us:List Value} (hu:us.length=cs.length) (hfit:off+cs.length≤ty.kinds.length)
  (hk:∀j,j<cs.length→kindOk (ty.kinds.getD (off+j) .other) (cs.getD j .dead)) {Ks:Nat→List Nat} (hK2:K2=(List.range cs.length).flatMap Ks)
  (ht:∀j,j<cs.length→∃o,(own2=true→o=true)∧Taken tab E M (cs.getD j .dead) (us.getD j undef) o (Ks j)) (hKn:(K++K2).Nodup):
  Elems tab E M ty (l.set idx (Eng.mk ty.agg (Z6 (ZV ty.kinds (l.getD idx .dead)) off cs))) (vals.take (idx*ty.kinds.length+off)++us++vals.drop (idx*ty.kinds.length+off+us.length)) (own&&own2)
   (fun i j=>if i=idx∧off≤j∧j<off+cs.length then M.foot (Ks (j-off)) else F i j) (K++K2) (Kt++K2):=by
 have hrc:ZV ty.kinds (l.getD idx .dead)=(l.getD idx .dead).cells:=Zfi (h.shape idx hi)
 have hrl:(ZV ty.kinds (l.getD idx .dead)).length=ty.kinds.length:=ZaT _ _ _
 have hsl:(Z6 (ZV ty.kinds (l.getD idx .dead)) off cs).length=ty.kinds.length:=by rw[ZcQ _ _ _ (by omega),hrl]
 have hsg:∀j,(Z6 (ZV ty.kinds (l.getD idx .dead)) off cs).getD j .dead=if off≤j∧j<off+cs.length then cs.getD (j-off) .dead else(l.getD idx .dead).cell j:=by
  intro j
  have:=Zb5 (ZV ty.kinds (l.getD idx .dead)) cs off j .dead (by omega)
  unfold Z6;rw[this,hrc];rfl
 have hkk:∀j,j<ty.kinds.length→kindOk (ty.kinds.getD j .other) ((Z6 (ZV ty.kinds (l.getD idx .dead)) off cs).getD j .dead):=by
  intro j hj
  rw[hsg]
  by_cases hc:off≤j∧j<off+cs.length
  ·rw[if_pos hc]
   have:=hk (j-off) (by omega)
   rwa [show off+(j-off)=j from by omega] at this
  ·rw[if_neg hc];exact(h.shape idx hi).2.2.2 j hj
 obtain⟨hshape,hcells⟩:=Zhw hty hsl hkk
 have hget:∀i,(l.set idx (Eng.mk ty.agg (Z6 (ZV ty.kinds (l.getD idx .dead)) off cs))).getD i .dead=if i=idx then Eng.mk ty.agg (Z6 (ZV ty.kinds (l.getD idx .dead)) off cs) else l.getD i .dead:=by
  intro i
  by_cases e:i=idx
  ·subst e;simp[List.getD,hi]
  ·simp[List.getD,e,Ne.symm e]
 have hcell:∀i j,((l.set idx (Eng.mk ty.agg (Z6 (ZV ty.kinds (l.getD idx .dead)) off cs))).getD i .dead).cell j =
   if i=idx∧off≤j∧j<off+cs.length then cs.getD (j-off) .dead else(l.getD i .dead).cell j:=by
  intro i j
  rw[hget]
  by_cases e:i=idx
  ·subst e
   rw[if_pos rfl,V.cell,hcells,hsg]
   by_cases hc:off≤j∧j<off+cs.length
   ·rw[if_pos hc,if_pos ⟨rfl,hc⟩]
   ·rw[if_neg hc,if_neg fun h=>hc h.2]
  ·rw[if_neg e,if_neg fun h=>e h.1]
 have hval:=fun i j (hj:j<ty.kinds.length)=>Zjc (sz:=ty.kinds.length) (off:=off) h.len hi (by omega:off+us.length≤ty.kinds.length) i j hj
 rw[hu] at hval
 have hle:idx*ty.kinds.length+ty.kinds.length≤l.length*ty.kinds.length:=by
  have:(idx+1)*ty.kinds.length≤l.length*ty.kinds.length:=Nat.mul_le_mul_right _ hi
  rwa [Nat.add_mul,Nat.one_mul] at this
 have hKs:∀j,j<cs.length→∀k∈Ks j,k∈K2:=fun j hj k hk=>by rw[hK2];exact List.mem_flatMap.2 ⟨j,List.mem_range.2 hj,hk⟩
 rw[hu]
 refine⟨?_,fun i hi'=>?_,fun ok' a b i j hi' hj=>?_,fun ho=>?_⟩
 ·have:=h.len
  simp only[List.length_append,List.length_take,List.length_drop,List.length_set];omega
 ·rw[List.length_set] at hi'
  rw[hget]
  split
  ·exact hshape
  ·exact h.shape i hi'
 ·rw[List.length_set] at hi'
  rw[hcell,hval i j hj]
  by_cases hc:i=idx∧off≤j∧j<off+cs.length
  ·rw[if_pos hc,if_pos hc]
   obtain⟨o,-,ht1,-⟩:=ht (j-off) (by omega)
   exact ht1 ok' a fun k hk=>b k (List.mem_append_right _ (hKs _ (by omega) k hk))
  ·rw[if_neg hc,if_neg hc]
   exact h.tree ok' a (fun k hk=>b k (List.mem_append_left _ hk)) i j hi' hj
 ·simp only[Bool.and_eq_true] at ho
  obtain⟨a1,a2,a3⟩:=h.mine ho.1
  have htm:∀j,j<cs.length→Ro tab M.w (cs.getD j .dead) (us.getD j undef) (M.foot (Ks j)):=fun j hj=>by
   obtain⟨o,ho2,-,ht2⟩:=ht j hj
   exact ht2 (ho2 ho.2)
  have hap:=hM.foot_apart (K:=K) (K':=K2) fun k hk hk'=>(List.nodup_append.1 hKn).2.2 k hk k hk' rfl
  have hK2n:K2.Nodup:=(List.nodup_append.1 hKn).2.1
  rw[hK2] at hK2n
  obtain⟨b1,b2⟩:=nodup_pieces.1 hK2n
  have hin2:∀j,j<cs.length→∀g∈M.foot (Ks j),g∈M.foot K2:=fun j hj g hg=>by
   obtain⟨k,hk,hgk⟩:=Mem.mem_foot.1 hg
   exact Mem.mem_foot.2 ⟨k,hKs j hj k hk,hgk⟩
  have hin1:∀i j,i<l.length→j<ty.kinds.length→∀g∈F i j,g∈M.foot K:=fun i j hi hj g hg=>a3 g (mem_flatF.2 ⟨i,hi,j,hj,hg⟩)
  obtain⟨c1,c2⟩:=nodup_flatF.1 a2
  refine⟨fun i j hi' hj=>?_,nodup_flatF.2 ⟨fun i j hi' hj=>?_,fun i j i' j' hi1 hj1 hi2 hj2 hne g hg hg'=>?_⟩,fun g hg=>?_⟩
  ·rw[List.length_set] at hi'
   rw[hcell,hval i j hj]
   by_cases hc:i=idx∧off≤j∧j<off+cs.length
   ·simp only[if_pos hc];exact htm _ (by omega)
   ·simp only[if_neg hc];exact a1 i j hi' hj
  ·rw[List.length_set] at hi'
   by_cases hc:i=idx∧off≤j∧j<off+cs.length
   ·simp only[if_pos hc];exact hM.foot_nodup (b1 _ (by omega))
   ·simp only[if_neg hc];exact c1 i j hi' hj
  ·rw[List.length_set] at hi1 hi2
   by_cases hc:i=idx∧off≤j∧j<off+cs.length <;> by_cases hc':i'=idx∧off≤j'∧j'<off+cs.length
   ·simp only[if_pos hc,if_pos hc'] at hg hg'
    have hjj:j-off≠j'-off:=by rcases hne with h | h <;> omega
    exact hM.foot_apart (fun k hk hk'=>b2 (j-off) (j'-off) (by omega) (by omega) hjj k hk hk') g hg hg'
   ·simp only[if_pos hc,if_neg hc'] at hg hg'
    exact hap g (hin1 i' j' hi2 hj2 g hg') (hin2 _ (by omega) g hg)
   ·simp only[if_neg hc,if_pos hc'] at hg hg'
    exact hap g (hin1 i j hi1 hj1 g hg) (hin2 _ (by omega) g hg')
   ·simp only[if_neg hc,if_neg hc'] at hg hg'
    exact c2 i j i' j' hi1 hj1 hi2 hj2 hne g hg hg'
  ·obtain⟨i,hi',j,hj,hg⟩:=mem_flatF.1 hg
   rw[List.length_set] at hi'
   by_cases hc:i=idx∧off≤j∧j<off+cs.length
   ·simp only[if_pos hc] at hg
    obtain⟨k,hk,hgk⟩:=Mem.mem_foot.1 (hin2 _ (by omega) g hg)
    exact Mem.mem_foot.2 ⟨k,List.mem_append_right _ hk,hgk⟩
   ·simp only[if_neg hc] at hg
    obtain⟨k,hk,hgk⟩:=Mem.mem_foot.1 (hin1 i j hi' hj g hg)
    exact Mem.mem_foot.2 ⟨k,List.mem_append_left _ hk,hgk⟩
end
end Go.Eng
namespace Go.Eng
section
variable {P:Program} {tab:Tab}
theorem Zlx {hp:ZaG} {K:List Nat} {id:Nat} {b:Blk}:ZW hp (ended (id :: K)++[(id,some b)])=ZW hp (ended K++[(id,some b)]):=by
 rw[Zhu,Zhu]
 funext i
 by_cases h:i=id
 ·simp[h]
 ·simp[h]
theorem ZgP {α:Type} (cs vs:List α) (off n:Nat) (h:off+vs.length≤n) (hn:n≤cs.length):
  (cs.take off++vs++cs.drop (off+vs.length)).take n=(cs.take n).take off++vs++(cs.take n).drop (off+vs.length):=by
 have h1:(cs.take off++vs).length=off+vs.length:=by simp;omega
 rw[List.take_append,h1,List.take_of_length_le (by omega),List.take_take,Nat.min_eq_left (by omega),List.drop_take]
theorem MemOk.cur {E:Entry} {M:Mem} (hM:MemOk tab E M) {id:Nat} {T:TypeId} {own:Bool} {els:List V} (hb:M.hp id=some (some (.row T own els))) {ty:Ty} (ht:tab T=some ty) (hpos:0<els.length) (hsz:0<ty.kinds.length):
  ∃g cap cur F,M.ρ id=some (.row T ty.kinds.length els.length (.slice (some ⟨g,0,none⟩) els.length cap))∧M.top id=[g]∧RowAt M.w g cur T∧
   els.length≤cap∧cap≤maxLen∧0<cap∧cur.size=cap*ty.kinds.length∧
   Elems tab E M ty els (cur.toList.take (els.length*ty.kinds.length)) own F [id] []∧(own=true→∀x∈ZD els.length ty.kinds.length F,x∈M.nest id):=by
 obtain⟨v,xs,F,k1,k2,k3,k4,k5⟩:=Elems.row hM hb ht els.length (Nat.le_refl _)
 rw[List.take_length] at k4
 have hxs:xs.take (els.length*ty.kinds.length)=xs:=by rw[←k2.1,List.take_length]
 rw[hxs] at k4
 rcases k2.2 with⟨b,e3,h0⟩ | ⟨g,cap,cur,rfl,hc,hg,hNc,hcm,hcs,htk⟩
 ·omega
 ·obtain⟨c,rfl⟩:∃c,cap=c+1:=⟨cap-1,by omega⟩
  rw[←htk] at k4
  exact⟨g,c+1,cur,F,k1,by rw[k3];rfl,hg,hNc,hcm,hc,hcs,k4,k5⟩
theorem Zld (hT:ZB P tab) {E:Entry} {M:Mem} (hM:MemOk tab E M) {t:TypeId} {ty:Ty} (ht:tab t=some ty) {id idx off:Nat} {x:V} {pv v:Value} {T:TypeId} {own:Bool} {els:List V} {tyT:Ty} (htT:tab T=some tyT)
  (hp:M.Rs tab E (.rp id idx off) pv) (hx:M.Rs tab E x v) (hl:x.cells.length=ty.kinds.length) (ha:x.cells.all V.one=true) (hb:M.hp id=some (some (.row T own els)))
  {cs:List V} {own2:Bool} {K2 log:List Nat} (hab:Zg2 tab x.cells M.hp=some ((cs,own2,K2),log)) (hfit:off+x.cells.length≤tyT.kinds.length) (hd:ZbX (id :: K2)=true) (hk:ZdP ((tyT.kinds.drop off).take x.cells.length) cs=true):
  ∃M',(Instr.storeAt t pv v).run P M.w = .ok () M'.w∧StepOk tab E M ⟨.dead,ended K2++[(id,some (.row T (own&&own2) (els.set idx (mk tyT.agg (Z6 (ZV tyT.kinds (els.getD idx .dead)) off cs)))))]⟩ undef M':=by
 obtain⟨h1,h2,h3⟩:=Zc7 hx ha
 obtain⟨hcl,Ks,hK2,hj⟩:=ZgO hM x.cells v.cells.toList h1 h2 hab
 have hKn:=ZcR hd
 have hpos:=(hT T tyT htT).pos
 cases hp with
 | tree hp=>cases hp
 | rp _ _ _ T' sz N g cap hg hi=>
  obtain⟨ty2,v2,xs2,r1,r2,r3,r4,r5,r6,r7⟩:=hM.row hb
  obtain rfl:tyT=ty2:=Option.some.inj (htT.symm.trans r1)
  have e:=r2.symm.trans hg
  simp only[Option.some.injEq,RB.row.injEq] at e
  obtain⟨rfl,rfl,rfl,rfl⟩:=e
  obtain⟨g',cap',cur,F,k1,k2,k3,k4,k5,k6,k7,k8,k9⟩:=hM.cur hb htT (by omega) hpos
  have e2:=k1.symm.trans hg
  simp only[Option.some.injEq,RB.row.injEq,Value.slice.injEq,Addr.mk.injEq,true_and,and_true] at e2
  obtain⟨rfl,rfl⟩:=e2
  obtain⟨hkl,hkk⟩:=ZeU hk
  have hle:idx*tyT.kinds.length+tyT.kinds.length≤els.length*tyT.kinds.length:=by
   have:(idx+1)*tyT.kinds.length≤els.length*tyT.kinds.length:=Nat.mul_le_mul_right _ hi
   rwa [Nat.add_mul,Nat.one_mul] at this
  have hcap:els.length*tyT.kinds.length≤cap'*tyT.kinds.length:=Nat.mul_le_mul_right _ k4
  have hrun:=Zic (P:=P) (hT t ty ht) (o:=idx*tyT.kinds.length+off) k3 (h1.trans hl) h3 (by rw[k7,←hl];omega)
  have hE:=Elems.set hM (hT T tyT htT) k8 (own2:=own2) (K2:=K2) hi (off:=off) (cs:=cs) (us:=v.cells.toList) (by rw[h1,hcl]) (by rw[hcl];exact hfit)
   (fun j hj'=>by
    rw[hcl] at hj'
    have:=hkk j (by simp;omega)
    simpa [List.getD,List.getElem?_take,hj',List.getElem?_drop] using this)
   (Ks:=Ks) (by rw[hcl];exact hK2) (fun j hj'=>hj j (by rw[hcl] at hj';exact hj')) (by simpa using hKn)
  have hnew:(cur.toList.take (idx*tyT.kinds.length+off)++v.cells.toList++cur.toList.drop (idx*tyT.kinds.length+off+v.cells.toList.length)).take (els.length*tyT.kinds.length) =
    (cur.toList.take (els.length*tyT.kinds.length)).take (idx*tyT.kinds.length+off)++v.cells.toList++(cur.toList.take (els.length*tyT.kinds.length)).drop (idx*tyT.kinds.length+off+v.cells.toList.length):=by
   have hcs:cur.toList.length=cap'*tyT.kinds.length:=by rw[Array.length_toList,k7]
   exact ZgP _ _ _ _ (by omega) (by omega)
  have hlen':(els.set idx (mk tyT.agg (Z6 (ZV tyT.kinds (els.getD idx .dead)) off cs))).length=els.length:=List.length_set
  have hrow:RowIs (M.w.setRow g' (cur.toList.take (idx*tyT.kinds.length+off)++v.cells.toList++cur.toList.drop (idx*tyT.kinds.length+off+v.cells.toList.length)).toArray) T tyT.kinds.length
    (els.set idx (mk tyT.agg (Z6 (ZV tyT.kinds (els.getD idx .dead)) off cs))).length (.slice (some ⟨g',0,none⟩) els.length cap')
    ((cur.toList.take (els.length*tyT.kinds.length)).take (idx*tyT.kinds.length+off)++v.cells.toList++(cur.toList.take (els.length*tyT.kinds.length)).drop (idx*tyT.kinds.length+off+v.cells.toList.length)):=by
   refine⟨hE.len, .inr ⟨g',cap',_,by rw[hlen'],k6,k3.setRow (by have:=Array.length_toList (xs:=cur);simp only[List.size_toArray,List.length_append,List.length_take,List.length_drop];omega),by rw[hlen'];exact k4,k5,?_,by rw[hlen'];exact hnew⟩⟩
   have hcs:cur.toList.length=cap'*tyT.kinds.length:=by rw[Array.length_toList,k7]
   simp only[List.size_toArray,List.length_append,List.length_take,List.length_drop];omega
  have htg:Zr (.slice (some ⟨g',0,none⟩) els.length cap')=[g']:=by
   obtain⟨c,rfl⟩:∃c,cap'=c+1:=⟨cap'-1,by omega⟩
   rfl
  obtain⟨M',hw,hs⟩:=Zid hM htT hE (fun k hk=>List.mem_cons_of_mem _ (by simpa using hk)) hrow (.inr (by rw[hlen'];exact hg)) rfl rfl rfl (by simp) [g'] (fun x hx=>⟨id,by simp,by rw[k2];exact hx⟩)
   (fun k _ hk=>setRow_other _ _ _ _ (fun e=>hk (by simp[e]))) (fun x hx=>.inl (by rw[htg] at hx;exact hx))
   (fun ho x hx hx'=>by
    simp only[Bool.and_eq_true] at ho
    obtain⟨i,hi',j,hjl,hxm⟩:=mem_flatF.1 hx
    rw[List.length_set] at hi'
    by_cases hc:i=idx∧off≤j∧j<off+cs.length
    ·simp only[if_pos hc] at hxm
     obtain⟨k,hk',hxk⟩:=Mem.mem_foot.1 hxm
     have hkK:k∈K2:=by rw[hK2];exact List.mem_flatMap.2 ⟨j-off,List.mem_range.2 (by omega),hk'⟩
     have hne:id≠k:=fun e=>(List.nodup_cons.1 hKn).1 (e▸hkK)
     exact hM.apart id k hne x (List.mem_append_left _ (by rw[k2];exact hx')) hxk
    ·simp only[if_neg hc] at hxm
     have:=k9 ho.1 x (mem_flatF.2 ⟨i,hi',j,hjl,hxm⟩)
     exact(List.nodup_append.1 (hM.nodup id)).2.2 x (by rw[k2];exact hx') x this rfl)
   (fun k hk x hx hx'=>by
    have hkK:k∈K2:=by simpa using hk
    have hne:id≠k:=fun e=>(List.nodup_cons.1 hKn).1 (e▸hkK)
    exact hM.apart id k hne x (List.mem_append_left _ (by rw[k2];exact hx')) (List.mem_append_left _ hx))
  refine⟨M',by rw[hw];exact hrun,hs.mem,hs.le,?_, .tree (.dead _)⟩
  rw[hs.hp]
  exact Zlx
end
end Go.Eng
namespace Go.Eng
section
variable {P:Program} {tab:Tab}
theorem Zly (off:Nat):∀(l:List Value) (k:Nat) (cells:Array Value),off+k+l.length≤cells.size→
  ((l.zipIdx k).foldl (fun cs p=>cs.setIfInBounds (off+p.2) p.1) cells).toList=cells.toList.take (off+k)++l++cells.toList.drop (off+k+l.length)
 | [],k,cells,_=>by simp
 | v :: l,k,cells,h=>by
  simp only[List.length_cons] at h
  simp only[List.zipIdx_cons,List.foldl_cons]
  rw[Zly off l (k+1) _ (by simp;omega)]
  simp only[Array.toList_setIfInBounds,List.length_cons]
  have hk:off+k<cells.toList.length:=by simp;omega
  have e1:(cells.toList.set (off+k) v).take (off+(k+1))=cells.toList.take (off+k)++[v]:=by
   rw[show off+(k+1)=off+k+1 from by omega,List.take_succ_eq_append_getElem (by simpa using hk)]
   simp[List.take_set_of_le]
  have e2:(cells.toList.set (off+k) v).drop (off+(k+1)+l.length)=cells.toList.drop (off+k+(l.length+1)):=by
   rw[show off+(k+1)+l.length=off+k+(l.length+1) from by omega,List.drop_set_of_lt (by omega)]
  rw[e1,e2];simp
theorem Zie (Zbx:Nat→Option (Nat×Nat)) (cells:Array Value) (i off size:Nat) (v:Value) (rest:List (Nat×Value)) (hp:Zbx i=some (off,size)) (hs:v.cells.size=size) (hfit:off+size≤cells.size):
  Instr.fill Zbx cells ((i,v) :: rest)=Instr.fill Zbx (cells.toList.take off++v.cells.toList++cells.toList.drop (off+v.cells.toList.length)).toArray rest:=by
 have hc:¬(v.cells.size≠size||off+v.cells.size > cells.size)=true:=by simp[hs];omega
 have hf:=Zly off v.cells.toList 0 cells (by simp;omega)
 simp only[Nat.add_zero] at hf
 simp only[Instr.fill,hp,hc,Bool.false_eq_true,if_false]
 congr 1
 apply Array.ext'
 rw[←Array.foldl_toList]
 simpa using hf
theorem Zkj {w:World} {ok:Nat→Prop} {ρ:Nat→Option RB} (Zbx:Nat→Option (Nat×Nat)):∀(ps:List (Nat×V)) (vs:List (Nat×Value)) (cs:List V) (cells:Array Value) {cs':List V},
  cells.size=cs.length→(∀j,j<cs.length→Rs tab w ok ρ (cs.getD j .dead) (cells.getD j undef))→vs.map (·.1)=ps.map (·.1)→
  (∀k,k<ps.length→Rs tab w ok ρ (ps.getD k (0, .dead)).2 (vs.getD k (0,undef)).2)→(∀p∈ps,p.2.cells.all V.one=true)→Zd1 Zbx cs ps=some cs'→
  ∃cells',Instr.fill Zbx cells vs=some cells'∧cells'.size=cs'.length∧∀j,j<cs'.length→Rs tab w ok ρ (cs'.getD j .dead) (cells'.getD j undef)
 | [],[],cs,cells,cs',hl,hr,_,_,_,h=>by
  simp only[Zd1,Option.some.injEq] at h
  subst h
  exact⟨cells,rfl,hl,hr⟩
 | [],_ :: _,_,_,_,_,_,hm,_,_,_=>by simp at hm
 | _ :: _,[],_,_,_,_,_,hm,_,_,_=>by simp at hm
 | (i,x) :: ps,(i',v) :: vs,cs,cells,cs',hl,hr,hm,hv,ha,h=>by
  simp only[List.map_cons,List.cons.injEq] at hm
  obtain⟨rfl,hm⟩:=hm
  simp only[Zd1] at h
  cases hp:Zbx i' with
  | none=>simp[hp] at h
  | some q=>
   obtain⟨off,n⟩:=q
   simp only[hp] at h
   split at h
   ·rename_i hc
    obtain⟨hn,hfit⟩:=hc
    have hx:=hv 0 (by simp)
    simp only[List.getD_cons_zero] at hx
    have hax:=ha (i',x) (by simp)
    obtain⟨h1,h2,-⟩:=Zc7 hx hax
    have hvs:v.cells.size=n:=by rw[←Array.length_toList,h1,hn]
    rw[Zie Zbx cells i' off n v vs hp hvs (by omega)]
    have hcl:cells.toList.length=cs.length:=by rw[Array.length_toList,hl]
    refine Zkj Zbx ps vs (Z6 cs off x.cells) _ ?_ ?_ hm (fun k hk=>by simpa using hv (k+1) (by simpa using hk)) (fun p hp=>ha p (by simp[hp])) h
    ·rw[ZcQ _ _ _ (by omega)]
     simp only[List.size_toArray,List.length_append,List.length_take,List.length_drop];omega
    ·intro j hj
     rw[ZcQ _ _ _ (by omega)] at hj
     have e1:(Z6 cs off x.cells).getD j .dead=_:=Zb5 cs x.cells off j .dead (by omega)
     have e2:=Zb5 cells.toList v.cells.toList off j undef (by omega)
     rw[e1,←Zbj]
     simp only[]
     rw[e2,h1]
     by_cases hc:off≤j∧j<off+x.cells.length
     ·rw[if_pos hc,if_pos hc];exact h2 _ (by omega)
     ·rw[if_neg hc,if_neg hc,Zbj];exact hr j hj
   ·cases h
theorem Zjd {w:World} (hT:ZB P tab) {T:TypeId} {ty:Ty} (ht:tab T=some ty) (hz:Zga tab ty=true):
  ZbS ty (ZdJ ty)∧(ZdJ ty).cells=ty.kinds.map ZdQ∧∀j,j<ty.kinds.length→Ro tab w ((ZdJ ty).cell j) (ZbY (ty.kinds.getD j .other)) []:=by
 have hall:∀j,j<ty.kinds.length→kindOk (ty.kinds.getD j .other) ((ty.kinds.map ZdQ).getD j .dead)∧Ro tab w ((ty.kinds.map ZdQ).getD j .dead) (ZbY (ty.kinds.getD j .other)) []:=by
  intro j hj
  have e:(ty.kinds.map ZdQ).getD j .dead=ZdQ ty.kinds[j]:=by simp[List.getD,hj]
  rw[e,Zcu _ _ _ hj]
  have hk:=(List.all_eq_true.1 hz) _ (List.getElem_mem hj)
  exact Zmr (tab:=tab) (w:=w) ty.kinds[j] (by cases hkk:ty.kinds[j] <;> simp_all) (fun T e=>by
   rw[e] at hk;simp only[Option.isSome_iff_exists] at hk;exact hk)
 obtain⟨h1,h2⟩:=Zhw (hT T ty ht) (cs:=ty.kinds.map ZdQ) (by simp) (fun j hj=>(hall j hj).1)
 refine⟨h1,h2,fun j hj=>?_⟩
 rw[V.cell,show(ZdJ ty).cells=_ from h2]
 exact(hall j hj).2
theorem Zle (z:Array Value) (n k:Nat) (hk:k<n):(madeCells z n).toList.getD k undef=z[k % z.size]!:=by
 simp[madeCells,List.getD,hk]
theorem Elems.zeros {E:Entry} {M:Mem} (hT:ZB P tab) {T:TypeId} {ty:Ty} (ht:tab T=some ty) (hz:Zga tab ty=true) (n:Nat) {z:Array Value} (hzc:z.toList=ty.kinds.map ZbY):
  Elems tab E M ty (List.replicate n (ZdJ ty)) (madeCells z (n*ty.kinds.length)).toList true (fun _ _=>[]) [] []:=by
 have hzs:z.size=ty.kinds.length:=by rw[←Array.length_toList,hzc];simp
 have hget:∀i,i<n→(List.replicate n (ZdJ ty)).getD i .dead=ZdJ ty:=fun i hi=>by simp[List.getD,hi]
 have hval:∀i j,i<n→j<ty.kinds.length→(madeCells z (n*ty.kinds.length)).toList.getD (i*ty.kinds.length+j) undef=ZbY (ty.kinds.getD j .other):=by
  intro i j hi hj
  rw[Zle _ _ _ (ZbK hi hj),hzs]
  have h2:(i*ty.kinds.length+j) % ty.kinds.length=j:=by
   rw[Nat.mul_comm,Nat.mul_add_mod];exact Nat.mod_eq_of_lt hj
  rw[h2]
  have hjz:j<z.size:=by omega
  have e1:z[j]! = z.toList.getD j undef:=by
   rw[Zbj];simp[Array.getD,hjz]
  rw[e1,hzc];simp[List.getD,hj]
 have hro:=fun(w:World)=>(Zjd (w:=w) hT ht hz).2.2
 refine⟨by simp[madeCells],fun i hi=>?_,fun ok' _ _ i j hi hj=>?_,fun _=>⟨fun i j hi hj=>?_,nodup_flatF.2 ⟨fun _ _ _ _=>List.nodup_nil,fun _ _ _ _ _ _ _ _ _ _ h=>by cases h⟩,fun g hg=>?_⟩⟩
 ·simp at hi;rw[hget i hi];exact(Zjd (w:=M.w) hT ht hz).1
 ·simp at hi;rw[hget i hi,hval i j hi hj];exact(hro M.w j hj).tree (by simp)
 ·simp at hi;rw[hget i hi,hval i j hi hj];exact hro M.w j hj
 ·obtain⟨_,_,_,_,h⟩:=mem_flatF.1 hg;cases h
theorem Zif {w:World} {T:TypeId} {sz n:Nat} {cur:Array Value} (hc:cur.size=n*sz) (hm:n≤maxLen):
  RowIs (w.alloc (.cells cur T)) T sz n (.slice (some ⟨w.heap.size,0,none⟩) n n) cur.toList:=by
 refine⟨by simpa using hc,?_⟩
 by_cases h0:n=0
 ·subst h0;exact .inl ⟨_,rfl,rfl⟩
 ·exact .inr ⟨w.heap.size,n,cur,rfl,by omega, .of (heap_alloc_new _ _),Nat.le_refl _,hm,hc,by rw[←hc,←Array.length_toList,List.take_length]⟩
theorem ZgQ {w:World} {n:Nat}:∀g∈Zr (.slice (some ⟨w.heap.size,0,none⟩) n n),g∈([]:List Nat)∨w.heap.size≤g:=by
 intro g hg
 cases n with
 | zero=>simp[Zr] at hg
 | succ n=>simp[Zr] at hg;subst hg;exact .inr (Nat.le_refl _)
theorem ZoO (hT:ZB P tab) {E:Entry} {M:Mem} (hM:MemOk tab E M) {nid:Nat} (hn:M.hp nid=none) {t:TypeId} {x y:V} {xv yv:Value} {Ef:Eff} {log:List Nat}
  (hx:M.Rs tab E x xv) (hy:M.Rs tab E y yv) (h:Zdy tab t nid x y M.hp=some (Ef,log)):
  ∃M' val,(Instr.makeSlice t xv yv).run P M.w = .ok val M'.w∧StepOk tab E M Ef val M':=by
 unfold Zdy at h
 obtain⟨e,l1,b1,l1',h1,h2,h3⟩:=Zj h
 cases h3
 obtain⟨h1,-⟩:=Zu h1
 obtain⟨ty0,h0,h1⟩:=Option.bind_eq_some_iff.1 h1
 obtain⟨ty,l2,b2,l2',h3,h4,h5⟩:=Zj h2
 cases h5
 obtain⟨h3,-⟩:=Zu h3
 have hu:=((hT t ty0 h0).elem e h1).1
 cases x with
 | int k a=>
  cases y with
  | int k' b=>
   obtain⟨h9,h10⟩:=Zw h4
   cases Zm h10
   simp only[Bool.and_eq_true,decide_eq_true_eq] at h9
   obtain⟨hzo,⟨ha0,rfl⟩,hroom⟩:=h9
   have hr':a.toNat≤9223372036854775807∧a.toNat*ty.bytes≤140737488355328:=by simpa [Zv] using hroom
   obtain⟨i,z,hi,hs,hb,hz,hzc,-⟩:=(hT e ty h3).info
   rw[hx.int,hy.int]
   have hbb:(i.bytes:Int)*a≤281474976710656:=by
    obtain⟨n,rfl⟩:=Int.eq_ofNat_of_zero_le ha0
    simp only[Int.toNat_natCast] at hr'
    have:((i.bytes*n:Nat):Int)≤281474976710656:=by rw[hb,Nat.mul_comm];omega
    rwa [Int.natCast_mul] at this
   have hrun:=run_make (P:=P) M.w t e i z hu hi hz k k' a a ha0 (Int.le_refl _) hbb (by omega)
   rw[hs] at hrun
   have hE:=Elems.zeros (E:=E) (M:=M) hT h3 hzo a.toNat hzc
   obtain⟨M',hw,hst⟩:=Zhv hM hn h3 hE (by simp) (w':=M.w.alloc (.cells (madeCells z.cells (a.toNat*ty.kinds.length)) e)) (v:=.slice (some ⟨M.w.heap.size,0,none⟩) a.toNat a.toNat)
    (by rw[List.length_replicate];exact Zif (by simp[madeCells]) (by simp only[maxLen];omega)) rfl rfl rfl (by simp) [] (by simp) (fun g hg _=>heap_alloc_old _ _ _ hg) ZgQ (by simp) (by simp)
   exact⟨M',_,by rw[hw];exact hrun,hst⟩
  | _=>exact(Zo h4).elim
 | _=>cases y <;> exact(Zo h4).elim
end
end Go.Eng
namespace Go.Eng
section
variable {P:Program} {tab:Tab}
theorem ZhW {E:Entry} {M:Mem} (hM:MemOk tab E M) {T:TypeId} {ty:Ty} (hty:TyOk P tab T ty):∀(ps:List (Nat×V)) (vs:List (Nat×Value)) (acc:List V) (vals:List Value) (own:Bool) (F:Nat→Nat→List Nat) (K Kt:List Nat)
  {res:List V} {own':Bool} {K' log:List Nat},Elems tab E M ty acc vals own F K Kt→vs.map (·.1)=ps.map (·.1)→(∀k,k<ps.length→M.Rs tab E (ps.getD k (0, .dead)).2 (vs.getD k (0,undef)).2)→
  Ze6 tab ty acc ps M.hp=some ((res,own',K'),log)→(K++K').Nodup→
  ∃vals' F',Elems tab E M ty res vals' (own&&own') F' (K++K') (Kt++K')∧res.length=acc.length∧Instr.fill (fun i=>some (i*ty.kinds.length,ty.kinds.length)) vals.toArray vs=some vals'.toArray
 | [],[],acc,vals,own,F,K,Kt,res,own',K',log,h,_,_,hp,_=>by
  cases Zm (h:=M.hp) hp
  exact⟨vals,F,by simpa using h,rfl,rfl⟩
 | [],_ :: _,_,_,_,_,_,_,_,_,_,_,_,hm,_,_,_=>by simp at hm
 | _ :: _,[],_,_,_,_,_,_,_,_,_,_,_,hm,_,_,_=>by simp at hm
 | (i,x) :: ps,(i',v) :: vs,acc,vals,own,F,K,Kt,res,own',K',log,h,hm,hv,hp,hK=>by
  simp only[List.map_cons,List.cons.injEq] at hm
  obtain⟨rfl,hm⟩:=hm
  obtain⟨⟨cs,o2,K2⟩,l1,b1,l1',h1,h2,h3⟩:=Zj (h:=M.hp) hp
  cases h3
  obtain⟨ht,h2⟩:=Zw h2
  obtain⟨⟨res',o3,K3⟩,l2,b2,l2',h4,h5,h6⟩:=Zj h2
  cases Zm h5
  cases h6
  simp only[Bool.and_eq_true,decide_eq_true_eq] at ht
  obtain⟨hi,hone,hkk⟩:=ht
  have hx:=hv 0 (by simp)
  simp only[List.getD_cons_zero] at hx
  obtain⟨c1,c2,c3⟩:=Zc7 hx hone
  obtain⟨hcl,Ks,hK2,hj⟩:=ZgO hM x.cells v.cells.toList c1 c2 h1
  obtain⟨hkl,hkk⟩:=ZeU hkk
  have hKn:(K++K2).Nodup:=by
   rw[←List.append_assoc] at hK
   exact(List.nodup_append.1 hK).1
  have hE:=Elems.set hM hty h (own2:=o2) (K2:=K2) hi (off:=0) (cs:=cs) (us:=v.cells.toList) (by rw[c1,hcl]) (by omega) (fun j hj'=>by rw[Nat.zero_add];exact hkk j (by omega))
   (Ks:=Ks) (by rw[hcl];exact hK2) (fun j hj'=>hj j (by omega)) hKn
  have hsp:Z6 (ZV ty.kinds (acc.getD i' .dead)) 0 cs=cs:=by
   have hr:(ZV ty.kinds (acc.getD i' .dead)).length=ty.kinds.length:=ZaT _ _ _
   unfold Z6
   rw[List.take_zero,List.nil_append,List.drop_of_length_le (by omega),List.append_nil]
  rw[hsp] at hE
  obtain⟨vals',F',e1,e2,e3⟩:=ZhW hM hty ps vs _ _ _ _ _ _ hE hm (fun k hk=>by simpa using hv (k+1) (by simpa using hk)) h4 (by rw[List.append_assoc];exact hK)
  refine⟨vals',F',by rw[Bool.and_assoc,List.append_assoc,List.append_assoc] at e1;exact e1,by rw[e2,List.length_set],?_⟩
  have hle:i'*ty.kinds.length+ty.kinds.length≤acc.length*ty.kinds.length:=by
   have:(i'+1)*ty.kinds.length≤acc.length*ty.kinds.length:=Nat.mul_le_mul_right _ hi
   rwa [Nat.add_mul,Nat.one_mul] at this
  have hvs:v.cells.size=ty.kinds.length:=by rw[←Array.length_toList,c1,←hcl,hkl]
  rw[Zie _ _ i' (i'*ty.kinds.length) ty.kinds.length v vs rfl hvs (by rw[List.size_toArray,h.len];exact hle)]
  simpa using e3
theorem ZjE (hT:ZB P tab) {E:Entry} {M:Mem} (hM:MemOk tab E M) {nid:Nat} (hn:M.hp nid=none) {t e:TypeId} {ty0 ty:Ty} (h0:tab t=some ty0) (h1:ty0.elem=some e) (h3:tab e=some ty) {n:Nat} {ps:List (Nat×V)} {vs:Array (Nat×Value)}
  (hz:Zga tab ty=true) (hcells:n*ty.kinds.length≤16777216) (hm:vs.toList.map (·.1)=ps.map (·.1)) (hv:∀k,k<ps.length→M.Rs tab E (ps.getD k (0, .dead)).2 (vs.toList.getD k (0,undef)).2)
  {res:List V} {own:Bool} {K log:List Nat} (hp:Ze6 tab ty (List.replicate n (ZdJ ty)) ps M.hp=some ((res,own,K),log)) (hd:ZbX K=true):
  ∃M' val,(Instr.buildSlice t n vs).run P M.w = .ok val M'.w∧StepOk tab E M ⟨.sl nid e 0 none,ended K++[(nid,some (.row e own res))]⟩ val M':=by
 have hu:=((hT t ty0 h0).elem e h1).1
 have hty:=hT e ty h3
 obtain⟨i,z,hi,hs,hb,hz',hzc,-⟩:=hty.info
 have hzs:z.cells.size=ty.kinds.length:=by rw[←Array.length_toList,hzc];simp
 have hE:=Elems.zeros (E:=E) (M:=M) hT h3 hz n hzc
 obtain⟨vals',F',e1,e2,e3⟩:=ZhW hM hty ps vs.toList _ _ _ _ [] [] hE hm hv hp (by simpa using ZcR hd)
 simp only[List.nil_append,Bool.true_and,List.length_replicate] at e1 e2
 have hc:¬(n*ty.kinds.length > 16777216):=by omega
 have hrun:(Instr.buildSlice t n vs).run P M.w = .ok (.slice (some ⟨M.w.heap.size,0,none⟩) n n) (M.w.alloc (.cells vals'.toArray e)):=by
  have hc2:¬(n*ty.kinds.length > 2 ^ 24):=by omega
  have hsz:=hty.sizeOf M.w
  have hzv:(zeroValue e).run P M.w = .ok z M.w:=by simp only[zeroValue,Sem.run_bind,typeInfo,run_program,Result.andThen_ok,hi,Sem.run_pure,hz']
  simp only[Array.toArray_toList] at e3
  by_cases hz0:n*ty.kinds.length=0
  ·have hv0:madeCells z.cells (n*ty.kinds.length)=(Array.range (n*ty.kinds.length)).map (fun x=>(#[]:Array Value)[x % (#[]:Array Value).size]!):=by
    rw[hz0];apply Array.ext' ;simp[madeCells]
   rw[hv0] at e3
   simp only[Instr.buildSlice,Sem.run_bind,run_underlying hu,Result.andThen_ok,hsz,Sem.run_ite,if_neg hc2,if_pos hz0,Sem.run_pure,e3,newRow,run_newObj,World.alloc]
  ·have hv0:madeCells z.cells (n*ty.kinds.length)=(Array.range (n*ty.kinds.length)).map (fun x=>z.cells[x % z.cells.size]!):=rfl
   rw[hv0] at e3
   simp only[Instr.buildSlice,Sem.run_bind,run_underlying hu,Result.andThen_ok,hsz,Sem.run_ite,if_neg hc2,if_neg hz0,hzv,Sem.run_pure,e3,newRow,run_newObj,World.alloc]
 have hlen:=e1.len
 rw[e2] at hlen
 obtain⟨M',hw,hst⟩:=Zhv hM hn h3 e1 (by simp) (w':=M.w.alloc (.cells vals'.toArray e)) (v:=.slice (some ⟨M.w.heap.size,0,none⟩) n n)
  (by
   rw[e2]
   have:=Zif (w:=M.w) (T:=e) (sz:=ty.kinds.length) (n:=n) (cur:=vals'.toArray) (by simpa using hlen) (by
    simp only[maxLen]
    have hpos:=hty.pos
    have:n≤n*ty.kinds.length:=Nat.le_mul_of_pos_right _ hpos
    omega)
   simpa using this)
  rfl rfl rfl (by simp) [] (by simp) (fun g hg _=>heap_alloc_old _ _ _ hg) ZgQ (by simp) (by simp)
 exact⟨M',_,by rw[hw];exact hrun,hst⟩
end
end Go.Eng
namespace Go.Eng
section
variable {P:Program} {tab:Tab}
theorem Elems.over {E:Entry} {M:Mem} {ty:Ty} {l:List V} {vals:List Value} {own:Bool} {F:Nat→Nat→List Nat} {K Kt:List Nat}
  (h:Elems tab E M ty l vals own F K Kt) {l2:List V} {us:List Value} (h2:Elems tab E M ty l2 us true (fun _ _=>[]) [] []) {off:Nat} (hfit:off+l2.length≤l.length):
  Elems tab E M ty (l.take off++l2++l.drop (off+l2.length)) (vals.take (off*ty.kinds.length)++us++vals.drop (off*ty.kinds.length+us.length)) own
   (fun i j=>if off≤i∧i<off+l2.length then[] else F i j) K Kt:=by
 have hget:=fun i=>Zb5 l l2 off i .dead hfit
 have hul:=h2.len
 have hle:off*ty.kinds.length+us.length≤vals.length:=by
  rw[hul,h.len,←Nat.add_mul];exact Nat.mul_le_mul_right _ hfit
 have hll:(l.take off++l2++l.drop (off+l2.length)).length=l.length:=by simp;omega
 have hval:∀i j,j<ty.kinds.length→(vals.take (off*ty.kinds.length)++us++vals.drop (off*ty.kinds.length+us.length)).getD (i*ty.kinds.length+j) undef =
   if off≤i∧i<off+l2.length then us.getD ((i-off)*ty.kinds.length+j) undef else vals.getD (i*ty.kinds.length+j) undef:=by
  intro i j hj
  rw[Zb5 _ _ _ _ _ hle]
  by_cases hc:off≤i∧i<off+l2.length
  ·have h1:off*ty.kinds.length≤i*ty.kinds.length:=Nat.mul_le_mul_right _ hc.1
   have h2':(i-off)*ty.kinds.length+j<l2.length*ty.kinds.length:=ZbK (by omega) hj
   rw[Nat.sub_mul] at h2'
   rw[if_pos (by omega),if_pos hc,Nat.sub_mul]
   congr 1;omega
  ·rw[if_neg hc,if_neg]
   rintro⟨h1,h2'⟩
   by_cases h3:i<off
   ·have:(i+1)*ty.kinds.length≤off*ty.kinds.length:=Nat.mul_le_mul_right _ h3
    rw[Nat.add_mul] at this;omega
   ·have:(off+l2.length)*ty.kinds.length≤i*ty.kinds.length:=Nat.mul_le_mul_right _ (by omega)
    rw[Nat.add_mul] at this;omega
 refine⟨?_,fun i hi=>?_,fun ok' a b i j hi hj=>?_,fun ho=>?_⟩
 ·rw[hll,←h.len];simp;omega
 ·rw[hll] at hi;rw[hget]
  by_cases hc:off≤i∧i<off+l2.length
  ·rw[if_pos hc];exact h2.shape _ (by omega)
  ·rw[if_neg hc];exact h.shape i hi
 ·rw[hll] at hi;rw[hget,hval i j hj]
  by_cases hc:off≤i∧i<off+l2.length
  ·rw[if_pos hc,if_pos hc];exact h2.tree ok' a (by simp) _ j (by omega) hj
  ·rw[if_neg hc,if_neg hc];exact h.tree ok' a b i j hi hj
 ·obtain⟨a1,a2,a3⟩:=h.mine ho
  obtain⟨b1,-,-⟩:=h2.mine rfl
  obtain⟨c1,c2⟩:=nodup_flatF.1 a2
  refine⟨fun i j hi hj=>?_,nodup_flatF.2 ⟨fun i j hi hj=>?_,fun i j i' j' hi hj hi' hj' hne g hg hg'=>?_⟩,fun g hg=>?_⟩
  ·rw[hll] at hi;rw[hget,hval i j hj]
   by_cases hc:off≤i∧i<off+l2.length
   ·simp only[if_pos hc];exact b1 _ j (by omega) hj
   ·simp only[if_neg hc];exact a1 i j hi hj
  ·rw[hll] at hi
   by_cases hc:off≤i∧i<off+l2.length
   ·simp only[if_pos hc];exact List.nodup_nil
   ·simp only[if_neg hc];exact c1 i j hi hj
  ·rw[hll] at hi hi'
   by_cases hc:off≤i∧i<off+l2.length
   ·simp only[if_pos hc] at hg;cases hg
   ·by_cases hc':off≤i'∧i'<off+l2.length
    ·simp only[if_pos hc'] at hg';cases hg'
    ·simp only[if_neg hc] at hg;simp only[if_neg hc'] at hg'
     exact c2 i j i' j' hi hj hi' hj' hne g hg hg'
  ·obtain⟨i,hi,j,hj,hg⟩:=mem_flatF.1 hg
   rw[hll] at hi
   by_cases hc:off≤i∧i<off+l2.length
   ·simp only[if_pos hc] at hg;cases hg
   ·simp only[if_neg hc] at hg;exact a3 g (mem_flatF.2 ⟨i,hi,j,hj,hg⟩)
theorem Zpq (hT:ZB P tab) {E:Entry} {M:Mem} (hM:MemOk tab E M) {id:Nat} {T:TypeId} {own:Bool} {els:List V} (hb:M.hp id=some (some (.row T own els))) {ty:Ty} (ht:tab T=some ty)
  {l2:List V} {us:List Value} (h2:Elems tab E M ty l2 us true (fun _ _=>[]) [] []) (h1:∀u∈us,u.oneCell'=true) {off:Nat} (hfit:off+l2.length≤els.length) (hne:0<l2.length):
  ∃M' g,M.top id=[g]∧(storeCells ⟨g,off*ty.kinds.length,none⟩ us).run P M.w = .ok () M'.w∧StepOk tab E M ⟨.dead,[(id,some (.row T own (els.take off++l2++els.drop (off+l2.length))))]⟩ undef M':=by
 have hpos:=(hT T ty ht).pos
 obtain⟨g,cap,cur,F,k1,k2,k3,k4,k5,k6,k7,k8,k9⟩:=hM.cur hb ht (by omega) hpos
 have hE:=Elems.over k8 h2 hfit
 have hul:=h2.len
 have hle:off*ty.kinds.length+us.length≤els.length*ty.kinds.length:=by
  rw[hul,←Nat.add_mul];exact Nat.mul_le_mul_right _ hfit
 have hcap:els.length*ty.kinds.length≤cap*ty.kinds.length:=Nat.mul_le_mul_right _ k4
 have hst:=Zeg P g (off*ty.kinds.length) T us 0 cur M.w k3 (by omega) h1
 simp only[Nat.add_zero] at hst
 have hcs:cur.toList.length=cap*ty.kinds.length:=by rw[Array.length_toList,k7]
 have hll:(els.take off++l2++els.drop (off+l2.length)).length=els.length:=by simp;omega
 have hnew:=ZgP cur.toList us (off*ty.kinds.length) (els.length*ty.kinds.length) hle (by omega)
 have hrow:RowIs (M.w.setRow g (cur.toList.take (off*ty.kinds.length)++us++cur.toList.drop (off*ty.kinds.length+us.length)).toArray) T ty.kinds.length
   (els.take off++l2++els.drop (off+l2.length)).length (.slice (some ⟨g,0,none⟩) els.length cap)
   ((cur.toList.take (els.length*ty.kinds.length)).take (off*ty.kinds.length)++us++(cur.toList.take (els.length*ty.kinds.length)).drop (off*ty.kinds.length+us.length)):=by
  refine⟨hE.len, .inr ⟨g,cap,_,by rw[hll],k6,k3.setRow (by have:=Array.length_toList (xs:=cur);simp only[List.size_toArray,List.length_append,List.length_take,List.length_drop];omega),by rw[hll];exact k4,k5,?_,by rw[hll];exact hnew⟩⟩
  simp only[List.size_toArray,List.length_append,List.length_take,List.length_drop];omega
 have htg:Zr (.slice (some ⟨g,0,none⟩) els.length cap)=[g]:=by
  obtain⟨c,rfl⟩:∃c,cap=c+1:=⟨cap-1,by omega⟩
  rfl
 obtain⟨M',hw,hs⟩:=Zid hM ht hE (by simp) hrow (.inr (by rw[hll];exact k1)) rfl rfl rfl (by simp) [g] (fun x hx=>⟨id,by simp,by rw[k2];exact hx⟩)
  (fun k _ hk=>setRow_other _ _ _ _ (fun e=>hk (by simp[e]))) (fun x hx=>.inl (by rw[htg] at hx;exact hx))
  (fun ho x hx hx'=>by
   obtain⟨i,hi',j,hjl,hxm⟩:=mem_flatF.1 hx
   rw[hll] at hi'
   by_cases hc:off≤i∧i<off+l2.length
   ·simp only[if_pos hc] at hxm;cases hxm
   ·simp only[if_neg hc] at hxm
    have:=k9 ho x (mem_flatF.2 ⟨i,hi',j,hjl,hxm⟩)
    exact(List.nodup_append.1 (hM.nodup id)).2.2 x (by rw[k2];exact hx') x this rfl)
  (by simp)
 refine⟨M',g,k2,by rw[hw];exact hst,hs.mem,hs.le,?_, .tree (.dead _)⟩
 rw[hs.hp]
 exact Zlx (K:=[])
theorem StepOk.val' {E:Entry} {M M':Mem} {Ef:Eff} {v:Value} (h:StepOk tab E M Ef v M') {x:V} {u:Value} (hx:M'.Rs tab E x u):StepOk tab E M ⟨x,Ef.upd⟩ u M':=
 ⟨h.mem,h.le,h.hp,hx⟩
theorem StepOk.again {E:Entry} {M:Mem} (hM:MemOk tab E M) {id:Nat} {b:Blk} (hb:M.hp id=some (some b)) {x:V} {v:Value} (hx:M.Rs tab E x v):StepOk tab E M ⟨x,[(id,some b)]⟩ v M:=by
 refine⟨hM, .refl E M,?_,hx⟩
 funext i
 by_cases h:i=id
 ·subst h;simp[ZW,hb]
 ·simp[ZW,h]
theorem Elems.take {E:Entry} {M:Mem} {ty:Ty} {l:List V} {vals:List Value} (h:Elems tab E M ty l vals true (fun _ _=>[]) [] []) (n:Nat) (hn:n≤l.length):
  Elems tab E M ty (l.take n) (vals.take (n*ty.kinds.length)) true (fun _ _=>[]) [] []:=by
 have hl:(l.take n).length=n:=by simp;omega
 have hle:n*ty.kinds.length≤l.length*ty.kinds.length:=Nat.mul_le_mul_right _ hn
 have hg:∀i,i<n→(l.take n).getD i .dead=l.getD i .dead:=fun i hi=>by simp[List.getD,hi]
 have hv:∀i j,i<n→j<ty.kinds.length→(vals.take (n*ty.kinds.length)).getD (i*ty.kinds.length+j) undef=vals.getD (i*ty.kinds.length+j) undef:=fun i j hi hj=>by
  simp[List.getD,ZbK hi hj]
 refine⟨by rw[hl];have:=h.len;simp;omega,fun i hi=>?_,fun ok' a b i j hi hj=>?_,fun _=>⟨fun i j hi hj=>?_,nodup_flatF.2 ⟨fun _ _ _ _=>List.nodup_nil,fun _ _ _ _ _ _ _ _ _ _ h=>by cases h⟩,fun g hg=>?_⟩⟩
 ·rw[hl] at hi;rw[hg i hi];exact h.shape i (by omega)
 ·rw[hl] at hi;rw[hg i hi,hv i j hi hj];exact h.tree ok' a b i j (by omega) hj
 ·rw[hl] at hi;rw[hg i hi,hv i j hi hj];exact(h.mine rfl).1 i j (by omega) hj
 ·obtain⟨_,_,_,_,h⟩:=mem_flatF.1 hg;cases h
def Zgg (a:Option Addr) (us:List Value):Sem Unit:=
 match a with
 | some a=>storeCells a us
 | none=>pure ()
theorem Zms (hT:ZB P tab) {E:Entry} {M:Mem} (hM:MemOk tab E M) {id:Nat} {T:TypeId} {own:Bool} {els:List V} (hb:M.hp id=some (some (.row T own els))) {ty:Ty} (ht:tab T=some ty)
  {l2:List V} {us:List Value} (h2:Elems tab E M ty l2 us true (fun _ _=>[]) [] []) (h1:∀u∈us,u.oneCell'=true) {off:Nat} (hfit:off+l2.length≤els.length)
  {a:Option Addr} (ha:0<l2.length→∀g,M.top id=[g]→a=some ⟨g,off*ty.kinds.length,none⟩):
  ∃M',(Zgg a us).run P M.w = .ok () M'.w∧StepOk tab E M ⟨.dead,[(id,some (.row T own (els.take off++l2++els.drop (off+l2.length))))]⟩ undef M':=by
 by_cases hne:0<l2.length
 ·obtain⟨M',g,k1,k2,k3⟩:=Zpq hT hM hb ht h2 h1 hfit hne
  rw[ha hne g k1]
  exact⟨M',k2,k3⟩
 ·have h0:l2=[]:=List.eq_nil_of_length_eq_zero (by omega)
  subst h0
  have hu:us=[]:=List.eq_nil_of_length_eq_zero (by simpa using h2.len)
  subst hu
  refine⟨M,by cases a <;> rfl,?_⟩
  have:els.take off++[]++els.drop (off+([]:List V).length)=els:=by simp
  rw[this]
  exact StepOk.again hM hb (.tree (.dead _))
theorem ZoP (hT:ZB P tab) {E:Entry} {M:Mem} (hM:MemOk tab E M) {t t2 ot:TypeId} {d s:V} {dv sv:Value} {Ef:Eff} {log:List Nat}
  (hd:M.Rs tab E d dv) (hs:M.Rs tab E s sv) (h:Zj3 tab t d s M.hp=some (Ef,log)):
  ∃M' val,(Builtin.copy_ #[t,t2] ot #[dv,sv]).run P M.w = .ok val M'.w∧StepOk tab E M Ef val M':=by
 unfold Zj3 at h
 obtain⟨e,l1,b1,l1',h1,h2,h3⟩:=Zj h
 cases h3
 obtain⟨h1,-⟩:=Zu h1
 obtain⟨ty0,h0,h1⟩:=Option.bind_eq_some_iff.1 h1
 obtain⟨ty,l2,b2,l2',h3,h4,h5⟩:=Zj h2
 cases h5
 obtain⟨h3,-⟩:=Zu h3
 obtain⟨hflat,h4⟩:=Zw h4
 have hu:=((hT t ty0 h0).elem e h1).1
 have hsz:=(hT e ty h3).sizeOf M.w
 cases d with
 | sl id T off len=>
  obtain⟨blk,l,b,l',h6,h7,h8⟩:=Zj h4
  cases h8
  obtain⟨h6,-⟩:=ZaH h6
  cases blk with
  | box T cs=>exact(Zo h7).elim
  | drow _ _=>exact(Zo h7).elim
  | hrow _ _ _ _ _=>exact(Zo h7).elim
  | grow _ _=>exact(Zo h7).elim
  | row T' own els=>
   obtain⟨r,l5,b5,l5',h8,h9,h10⟩:=Zj h7
   cases h10
   obtain⟨hte,h9'⟩:=Zw h9
   obtain rfl:T'=e:=by simpa using hte
   cases Zm h9'
   obtain⟨news,n1,n2,n3⟩:=Zd6 (P:=P) hM h3 hs h8
   obtain⟨ty',a,a',cap,m,q1,q2,q3,q4,q5,q6,q7,rfl,q8,q9⟩:=hM.sl hd h6
   obtain rfl:ty=ty':=Option.some.inj (h3.symm.trans q1)
   rw[q8]
   have hE:=(Elems.flat hflat n1).take (min r.length m) (Nat.min_le_left _ _)
   have hl2:(r.take (min r.length m)).length=min r.length m:=by simp
   obtain⟨M',hst,hok⟩:=Zms hT hM h6 h3 hE (fun u hu=>n1.oneCell u (List.mem_of_mem_take hu)) (off:=off) (by rw[hl2];omega) (a:=a') (fun hp g hg=>by
    rw[hl2] at hp
    obtain⟨g',rfl,e1,e2⟩:=q9 (by omega)
    rw[e1] at hg;cases hg
    rw[q6 (by omega)];simp[ZcP])
   rw[hl2] at hok
   refine⟨M', .int .i64 (min r.length m:Nat),?_,hok.val' (.tree (.int _ _))⟩
   have hf:=n3 (min r.length m) (Nat.min_le_left _ _) M.w fun _ _=>rfl
   have hcopy:(Builtin.copy_ #[t,t2] ot #[.slice a' m (cap-off),sv]).run P M.w=(do Zgg a' (news.take (min r.length m*ty.kinds.length));pure (goInt (min r.length m:Nat)):Sem Value).run P M.w:=by
    simp only[Builtin.copy_,Sem.run_bind,run_underlying hu,Result.andThen_ok,n2,hsz,List.getElem?_toArray,List.getElem?_cons_zero,List.getElem?_cons_succ]
    rw[show Nat.min r.length m=min r.length m from rfl,hf]
    simp only[Result.andThen_ok]
    cases a' <;> simp[Zgg]
   rw[hcopy,Sem.run_bind,hst]
   rfl
 | _=>exact(Zo (h:=M.hp) h4).elim
theorem ZnL (hT:ZB P tab) {E:Entry} {M:Mem} (hM:MemOk tab E M) {t ot:TypeId} {d:V} {dv:Value} {Ef:Eff} {log:List Nat}
  (hd:M.Rs tab E d dv) (h:Zh5 tab t d M.hp=some (Ef,log)):
  ∃M' val,(Builtin.clear_ #[t] ot #[dv]).run P M.w = .ok val M'.w∧StepOk tab E M Ef val M':=by
 unfold Zh5 at h
 obtain⟨e,l1,b1,l1',h1,h2,h3⟩:=Zj h
 cases h3
 obtain⟨h1,-⟩:=Zu h1
 obtain⟨ty0,h0,h1⟩:=Option.bind_eq_some_iff.1 h1
 obtain⟨ty,l2,b2,l2',h3,h4,h5⟩:=Zj h2
 cases h5
 obtain⟨h3,-⟩:=Zu h3
 have hu:=((hT t ty0 h0).elem e h1).1
 have hty:=hT e ty h3
 obtain⟨z,hz,hzc,-⟩:=hty.zero M.w
 have htup:∀(M':Mem),M'.Rs tab E (.tup []) (.tuple #[]):=fun M'=>.tup [] [] rfl (by simp)
 cases d with
 | sl id T off len=>
  obtain⟨blk,l,b,l',h6,h7,h8⟩:=Zj h4
  cases h8
  obtain⟨h6,-⟩:=ZaH h6
  cases blk with
  | box T cs=>exact(Zo h7).elim
  | drow _ _=>exact(Zo h7).elim
  | hrow _ _ _ _ _=>exact(Zo h7).elim
  | grow _ _=>exact(Zo h7).elim
  | row T' own els=>
   obtain⟨hte,h9⟩:=Zw h7
   simp only[Bool.and_eq_true,decide_eq_true_eq] at hte
   obtain⟨rfl,hzo⟩:=hte
   cases Zm h9
   obtain⟨ty',a,a',cap,m,q1,q2,q3,q4,q5,q6,q7,rfl,q8,q9⟩:=hM.sl hd h6
   obtain rfl:ty=ty':=Option.some.inj (h3.symm.trans q1)
   rw[q8]
   have hE:=Elems.zeros (E:=E) (M:=M) hT h3 hzo m hzc
   obtain⟨M',hst,hok⟩:=Zms hT hM h6 h3 hE (fun u hu=>by
     simp only[madeCells,Array.toList_map,List.mem_map] at hu
     obtain⟨k,hk,rfl⟩:=hu
     have hzs:z.cells.size=ty.kinds.length:=by rw[←Array.length_toList,hzc];simp
     have hlt:k % z.cells.size<z.cells.toList.length:=by
      rw[Array.length_toList];exact Nat.mod_lt _ (by rw[hzs];exact hty.pos)
     have e1:z.cells[k % z.cells.size]! = z.cells.toList[k % z.cells.size]:=by
      have:k % z.cells.size<z.cells.size:=by simpa using hlt
      simp[this]
     rw[e1]
     have:z.cells.toList[k % z.cells.size]∈ty.kinds.map ZbY:=by rw[←hzc];exact List.getElem_mem hlt
     obtain⟨kk,_,hkk⟩:=List.mem_map.1 this
     rw[←hkk];exact ZnK kk) (off:=off) (by simp;omega) (a:=a') (fun hp g hg=>by
    simp at hp
    obtain⟨g',rfl,e1,e2⟩:=q9 (by omega)
    rw[e1] at hg;cases hg
    rw[q6 (by omega)];simp[ZcP])
   simp only[List.length_replicate] at hok
   refine⟨M', .tuple #[],?_,hok.val' (htup M')⟩
   by_cases hm:m=0
   ·subst hm
    have hw:M'.w=M.w:=by
     have e0:(madeCells z.cells (0*ty.kinds.length)).toList=[]:=by simp[madeCells]
     rw[e0] at hst
     cases a' <;> (simp[Zgg,storeCells] at hst;exact hst.symm)
    rw[hw]
    cases a' <;> simp[Builtin.clear_,run_underlying hu]
   ·obtain⟨g',rfl,e1,e2⟩:=q9 (by omega)
    have ha:a'=some ⟨g',off*ty.kinds.length,none⟩:=by rw[q6 (by omega)];simp[ZcP]
    subst ha
    obtain⟨m',rfl⟩:∃k,m=k+1:=⟨m-1,by omega⟩
    have hzc2:Builtin.zeroCells z.cells (m'+1)=madeCells z.cells ((m'+1)*ty.kinds.length):=by
     have hzs:z.cells.size=ty.kinds.length:=by rw[←Array.length_toList,hzc];simp
     simp[Builtin.zeroCells,madeCells,hzs]
    simp only[Builtin.clear_,Sem.run_bind,run_underlying hu,Result.andThen_ok,List.getElem?_toArray,List.getElem?_cons_zero,hz,hzc2]
    simp only[Zgg] at hst
    rw[hst]
    rfl
 | nil T=>
  cases Zm (h:=M.hp) h4
  obtain⟨a,rfl⟩:=hd.nil
  refine⟨M, .tuple #[],?_,StepOk.same hM (htup M)⟩
  cases a <;> simp[Builtin.clear_,run_underlying hu]
 | _=>exact(Zo (h:=M.hp) h4).elim
end
end Go.Eng
namespace Go.Eng
section
variable {P:Program} {tab:Tab}
theorem ZnM (hT:ZB P tab) {w:World} {ok:Nat→Prop} {ρ:Nat→Option RB} {T:TypeId} {ty:Ty} (ht:tab T=some ty) (ha:ty.agg=true) {ps:List (Nat×V)} {vs:Array (Nat×Value)}
  (hm:vs.toList.map (·.1)=ps.map (·.1)) (hv:∀k,k<ps.length→Rs tab w ok ρ (ps.getD k (0, .dead)).2 (vs.toList.getD k (0,undef)).2) (hone:∀p∈ps,p.2.cells.all V.one=true) {cs:List V}
  (hf:Zd1 (fun i=>ty.fields[i]?.bind fun(fd:Nat×TypeId)=>(tab fd.2).map fun ft=>(fd.1,ft.kinds.length)) (ty.kinds.map ZcJ) ps=some cs):
  ∃v,(Instr.build T vs).run P w = .ok v w∧Rs tab w ok ρ (.agg (Z2 tab ty.kinds cs)) v:=by
 obtain⟨i,z,hi,hs,hb,hz,hzc,-⟩:=(hT T ty ht).info
 obtain⟨fs,hu,hfs,hinf⟩:=(hT T ty ht).agg ha
 have hl:z.cells.size=(ty.kinds.map ZcJ).length:=by rw[←Array.length_toList,hzc];simp
 obtain⟨cells,h1,h2,h3⟩:=Zkj (tab:=tab) (w:=w) (ok:=ok) (ρ:=ρ) (fun i=>ty.fields[i]?.bind fun(fd:Nat×TypeId)=>(tab fd.2).map fun ft=>(fd.1,ft.kinds.length)) ps vs.toList (ty.kinds.map ZcJ) z.cells hl
  (fun j hj=>by
   simp at hj
   have e1:(ty.kinds.map ZcJ).getD j .dead=ZcJ ty.kinds[j]:=by simp[List.getD,hj]
   have e2:z.cells.getD j undef=ZbY ty.kinds[j]:=by rw[←Zbj,hzc];simp[List.getD,hj]
   rw[e1,e2];exact .tree (Zkh _))
  hm hv hone hf
 obtain⟨places,hpl⟩:∃places,fs.toList.mapM (fun f=>(P.info? f.type).map fun i=>(f.offset,i.size))=some places:=by
  generalize fs.toList=l at hinf
  clear hfs
  induction l with
  | nil=>exact⟨[],rfl⟩
  | cons f l ih=>
   obtain⟨i,hi⟩:=hinf f (by simp)
   obtain⟨r,hr⟩:=ih fun g hg=>hinf g (by simp[hg])
   exact⟨(f.offset,i.size) :: r,by simp[List.mapM_cons,hi,hr]⟩
 have hplace:∀(k:Nat) (q:Nat×Nat),(ty.fields[k]?.bind fun(fd:Nat×TypeId)=>(tab fd.2).map fun ft=>(fd.1,ft.kinds.length))=some q→places.toArray[k]? = some q:=by
  intro k q hq0
  obtain⟨fd,hfd,hq1⟩:=Option.bind_eq_some_iff.1 hq0
  clear hq0
  obtain⟨ft,hft,rfl⟩:=Option.map_eq_some_iff.1 hq1
  clear hq1
  obtain⟨fi,fz,hfi,hfs',_⟩:=(hT fd.2 ft hft).info
  rw[←hfs] at hfd
  clear hfs hinf h1
  generalize fs.toList=l at hfd hpl
  induction l generalizing k places with
  | nil=>simp at hfd
  | cons f l ih=>
   simp only[List.mapM_cons,Option.bind_eq_bind,Option.pure_def] at hpl
   cases hi':P.info? f.type with
   | none=>simp[hi'] at hpl
   | some i'=>
    cases hr:l.mapM (fun f=>(P.info? f.type).map fun i=>(f.offset,i.size)) with
    | none=>simp[hi',hr] at hpl
    | some rest=>
     simp[hi',hr] at hpl
     subst hpl
     cases k with
     | zero=>
      simp at hfd
      subst hfd
      simp at hfi
      rw[hi'] at hfi;cases hfi
      simp[hfs']
     | succ k=>simpa using ih rest k (by simpa using hfd) hr
 have hfill:∀(vs:List (Nat×Value)) (c c':Array Value),Instr.fill (fun i=>ty.fields[i]?.bind fun(fd:Nat×TypeId)=>(tab fd.2).map fun ft=>(fd.1,ft.kinds.length)) c vs=some c'→Instr.fill (places.toArray[·]?) c vs=some c':=by
  intro vs
  induction vs with
  | nil=>intro c c' h;simpa [Instr.fill] using h
  | cons p vs ih=>
   obtain⟨i,v⟩:=p
   intro c c' h
   simp only[Instr.fill] at h ⊢
   cases hq:(ty.fields[i]?.bind fun(fd:Nat×TypeId)=>(tab fd.2).map fun ft=>(fd.1,ft.kinds.length)) with
   | none=>simp[hq] at h
   | some q=>
    rw[hq] at h
    rw[hplace i q hq]
    simp only[] at h ⊢
    split at h
    ·cases h
    ·rename_i hc;rw[if_neg hc];exact ih _ _ h
 have hbuilt:P.built T vs.toList=some cells:=by
  unfold Program.built
  rw[hi,hu]
  simp only[hz,hpl]
  exact hfill _ _ _ h1
 refine⟨_,run_build (P:=P) w T vs cells hbuilt,?_⟩
 have:Rs tab w ok ρ (.agg (Z2 tab ty.kinds cs)) (.agg cells.toList.toArray):=
  .agg _ cells.toList (by rw[ZcY,Array.length_toList,h2]) fun j hj=>ZgN _ (by rw[Zbj];exact h3 j (by rwa [ZcY] at hj))
 simpa using this
theorem ZlW (hT:ZB P tab) {w:World} {ok:Nat→Prop} {ρ:Nat→Option RB} {t:TypeId} {x r:V} {xv:Value} {f:Nat} (hx:Rs tab w ok ρ x xv) (h:ZiN tab t x f=some r):
  ∃v,(Instr.field t xv f).run P w = .ok v w∧Rs tab w ok ρ r v:=by
 unfold ZiN at h
 obtain⟨ty,h1,h⟩:=Option.bind_eq_some_iff.1 h
 obtain⟨fd,h2,h⟩:=Option.bind_eq_some_iff.1 h
 obtain⟨fs,fx,hu,hfx,ho,hty⟩:=TyOk.field hT h1 h2
 cases x with
 | agg cs=>
  obtain⟨ft,h3,h4⟩:=Option.bind_eq_some_iff.1 h
  obtain⟨vals,rfl,hl,hj⟩:=hx.agg_inv
  obtain⟨k1,k2,rfl⟩:=Zhp h4
  have hft:=hT fd.2 ft h3
  have hlen:((vals.drop fd.1).take ft.kinds.length).length=ft.kinds.length:=by simp;omega
  have hlen':((cs.drop fd.1).take ft.kinds.length).length=ft.kinds.length:=by simp;omega
  refine⟨Zho ft.agg ((vals.drop fd.1).take ft.kinds.length),?_,mk_rs (by rw[hlen,hlen']) (by rw[hlen'];exact k2) fun j hjl=>?_⟩
  ·have hsz:=hft.sizeOf w
   have hag:=hft.isAgg w
   simp only[Instr.field,Sem.run_bind,run_underlying hu,Result.andThen_ok,hfx,asAgg,Sem.run_pure,part,hty,hag,ho]
   cases ha:ft.agg with
   | true=>
    simp only[if_true,Sem.run_bind,hsz,Result.andThen_ok,Sem.run_pure,Zho]
    congr 2
    apply Array.ext'
    simp
   | false=>
    have h1':=(hft.flat ha).1
    have hlt:fd.1<vals.length:=by omega
    have:vals.toArray[fd.1]? = some vals[fd.1]:=by simp[hlt]
    simp only[Bool.false_eq_true,if_false,this,Sem.run_pure,Zho,h1']
    congr 1
    have:(vals.drop fd.1).take 1=[vals[fd.1]]:=by rw[List.drop_eq_getElem_cons hlt];rfl
    rw[this];rfl
  ·rw[hlen'] at hjl
   have:=hj (fd.1+j) (by omega)
   simpa [List.getD,List.getElem?_take,hjl,List.getElem?_drop] using this
 | _=>cases h
theorem ZnN (ns:List Int) (s:ByteArray):Z9 (ns.foldl (fun r n=>r.push (UInt8.ofNat n.toNat)) s)=Z9 s++ns.map (fun n=>V.int .u8 ((n.toNat % 256:Nat):Int)):=by
 induction ns generalizing s with
 | nil=>simp
 | cons n ns ih=>
  rw[List.foldl_cons,ih]
  have:Z9 (s.push (UInt8.ofNat n.toNat))=Z9 s++[V.int .u8 ((n.toNat % 256:Nat):Int)]:=by
   simp only[Z9,ByteArray.push,Array.toList_push,List.map_append,List.map_cons,List.map_nil]
   congr 3
  rw[this];simp
theorem Rp.int_eq {w:World} {ok:Nat→Prop} {k:IntKind} {n:Int} {v:Value} (h:Rp tab w ok (.int k n) v):v = .int k n:=by cases h;rfl
theorem Zkk (hT:ZB P tab) {E:Entry} {M:Mem} (hM:MemOk tab E M) {src dst:TypeId} {x r:V} {xv:Value} {log:List Nat} (hx:M.Rs tab E x xv) (h:Zgy tab src dst x M.hp=some (r,log)):
  ∃v,(convert src dst xv).run P M.w = .ok v M.w∧M.Rs tab E r v:=by
 unfold Zgy at h
 obtain⟨s,l1,b1,l1',h1,h2,h3⟩:=Zj h
 cases h3
 obtain⟨h1,-⟩:=Zu h1
 obtain⟨d,l2,b2,l2',h3,h4,h5⟩:=Zj h2
 cases h5
 obtain⟨h3,-⟩:=Zu h3
 by_cases hint:∃k n,x = .int k n
 ·obtain⟨k1,n,rfl⟩:=hint
  simp only at h4
  obtain⟨k0,l3,b3,l3',h5,h6,h7⟩:=Zj h4
  cases h7
  obtain⟨k,l4,b4,l4',h7,h8,h9⟩:=Zj h6
  cases h9
  obtain⟨h5,-⟩:=Zu h5
  obtain⟨h7,-⟩:=Zu h7
  obtain⟨ht,h8⟩:=Zw h8
  cases Zm h8
  simp only[Bool.and_eq_true,Bool.not_eq_true'] at ht
  have hone:∀ks k,Zj6 ks=some k→ks=[.int k]:=by
   intro ks k h
   unfold Zj6 at h
   split at h
   ·cases h;rfl
   ·cases h
  have hu1:=(hT src s h1).int k0 ht.1 (hone _ _ h5)
  have hu2:=(hT dst d h3).int k ht.2 (hone _ _ h7)
  rw[hx.int]
  refine⟨.int k (k.wrap n),?_, .tree (.int _ _)⟩
  simp[convert,run_underlying hu1,run_underlying hu2,Conv.intToInt]
 ·have h4':RM.bind (RM.lift (Zj7 s.kinds)) (fun e=>RM.bind (RM.lift (tab e)) fun et=>
    RM.test (!s.agg&&(!d.agg&&(!et.agg&&(decide (d.kinds=[.str])&&decide (et.kinds=[.int .u8]))))) (RM.bind (ZeC e et x) fun r=>RM.ret (V.str (r.map ZaS)))) M.hp=some (r,l2')∧∀l,x≠.str l:=by
   cases x <;> first | exact absurd ⟨_,_,rfl⟩ hint | exact⟨h4,by simp⟩ | exact(Zo h4).elim
  obtain⟨h4',hns⟩:=h4'
  obtain⟨e,l3,b3,l3',h5,h6,h7⟩:=Zj h4'
  cases h7
  obtain⟨hse,-⟩:=Zu h5
  have hs:s.kinds=[.sl e]:=by
   unfold Zj7 at hse
   split at hse
   ·cases hse;assumption
   ·cases hse
  obtain⟨et,l4,b4,l4',h5a,h6a,h7a⟩:=Zj h6
  cases h7a
  obtain⟨h5,-⟩:=Zu h5a
  obtain⟨ht,h6b⟩:=Zw h6a
  obtain⟨l,l5,b5,l5',h7,h8,h9⟩:=Zj h6b
  cases h9
  cases Zm h8
  simp only[Bool.and_eq_true,Bool.not_eq_true',decide_eq_true_eq] at ht
  obtain⟨hsa,hda,hea,hd,hek⟩:=ht
  have hu1:=(hT src s h1).slice e hsa hs
  have hu2:=(hT dst d h3).strs hda hd
  have hu3:=(hT e et h5).int .u8 hea hek
  obtain⟨news,n1,n2,n3⟩:=Zd6 (P:=P) hM h5 hx h7
  have hk1:et.kinds.length=1:=by rw[hek];rfl
  have hsl:∃a n c,xv = .slice a n c:=by
   cases x with
   | sl=>cases hx with
    | tree hx=>cases hx
    | sl=>exact⟨_,_,_,rfl⟩
   | inl=>cases hx.inl with | inl=>exact⟨_,_,_,rfl⟩
   | nil=>obtain⟨a,rfl⟩:=hx.nil;exact⟨_,_,_,rfl⟩
   | str l'=>exact absurd rfl (hns _)
   | _=>exact(Zo (h:=M.hp) h7).elim
  obtain⟨a,n,c,rfl⟩:=hsl
  have hn:n=l.length:=by simpa [Builtin.lenOf] using n2
  subst hn
  rw[run_convert_bytes_string (P:=P) M.w src dst e a l.length c hu1 hu3 hu2]
  have hf:=n3 l.length (Nat.le_refl _) M.w fun _ _=>rfl
  rw[hk1,Nat.mul_one] at hf
  have hnl:news.length=l.length:=by rw[n1.1,hk1,Nat.mul_one]
  rw[←hnl,List.take_length] at hf
  have hall:news=(l.map V.I).map (Value.int .u8):=by
   refine List.ext_getElem (by simp[hnl]) fun i hi1 hi2=>?_
   have hi:i<l.length:=by rw[←hnl];exact hi1
   have hk:=(n1.2.1 i hi).2.2.2 0 (by rw[hk1];exact Nat.one_pos)
   have hr:=n1.2.2 i 0 hi (by rw[hk1];exact Nat.one_pos)
   rw[hk1,Nat.mul_one,Nat.add_zero,Zcu _ _ _ hi1] at hr
   have hkk:et.kinds.getD 0 .other = .int .u8:=by rw[hek];rfl
   rw[hkk] at hk
   have hsh:=n1.2.1 i hi
   have hc0:(l.getD i .dead).cell 0=l.getD i .dead:=by
    have hna:=hsh.2.2.1 hea
    cases hx:l.getD i .dead <;> first | rfl | exact absurd hx (hna _)
   rw[hc0,Zcu _ _ _ hi] at hk hr
   cases hx:l[i] <;> rw[hx] at hk hr <;> simp[kindOk] at hk
   subst hk
   rw[hr.int_eq]
   simp[hx,V.I]
  have key:∀s,Z9 s=(l.map V.I).map (fun n=>V.int .u8 ((n.toNat % 256:Nat):Int))→M.Rs tab E (.str (l.map ZaS)) (.string s):=by
   intro s hs
   refine .tree (.str _ _ ?_)
   rw[hs];simp[ZaS]
  cases a with
  | none=>
   have h0:news=[]:=by
    rw[run_firstCells_none] at hf
    simpa using hf.symm
   have hl0:l=[]:=List.eq_nil_of_length_eq_zero (by rw[←hnl,h0];rfl)
   refine⟨.string .empty,by simp[Conv.bytesToString],key _ ?_⟩
   rw[hl0];rfl
  | some a=>
   have hlc:(loadCells a l.length).run P M.w = .ok ((l.map V.I).map (Value.int .u8)).toArray M.w:=by
    have:=hf
    simp only[Builtin.firstCells,Nat.mul_one] at this
    rw[hnl] at this
    rw[this,←hall]
   refine⟨_,run_bytesToString (P:=P) M.w a l.length c (l.map V.I) hlc,key _ ?_⟩
   rw[ZnN];rfl
end
end Go.Eng
