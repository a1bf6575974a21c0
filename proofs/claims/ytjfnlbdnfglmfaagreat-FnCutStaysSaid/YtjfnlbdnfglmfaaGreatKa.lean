/- A small machine over plain lists, and the proof that what it computes is what the Go function computes. -/
import Derived.Calls
import Derived.Laws.Sem
import Derived.Below
import Derived.Orders
import Derived.Laws.Cells
import Derived.Laws.IdiomCopy
import Derived.Laws.StructEq
import Derived.Laws.Strings
import Derived.Laws.Slices
import Derived.Laws.Tables
import Derived.Laws.BytesArg
import Derived.DataShut
set_option linter.all false
namespace Go.Kn
universe u
theorem gd_ {α : Type u} (l : List α) (i:Nat) (a:α):l.getD i a=l[i]?.getD a:=List.getD_eq_getElem?_getD
theorem ge_ {α : Type u} {l : List α} {i:Nat} (h:i<l.length):l[i]?=some l[i]:=List.getElem?_eq_getElem h
theorem sj_ {α : Type u} (a b:α):(some a=some b)=(a=b):=Option.some.injEq a b
inductive ET where
 | i (k:IntKind) | b | s | er | u | sl (x:ET) | p (x y:ET)
 deriving DecidableEq
@[reducible] def ET.val:ET→Type
 | .i _=>Int
 | .b=>Bool
 | .s=>ByteArray
 | .er=>Bool
 | .u=>Unit
 | .sl x=>List x.val
 | .p x y=>x.val×y.val
def ET.cells:ET→Nat
 | .p x y=>x.cells+y.cells
 | .u=>0
 | _=>1
def ET.zero:(e:ET)→e.val
 | .i _=>(0:Int)
 | .b=>false
 | .s=>ByteArray.empty
 | .er=>false
 | .u=>()
 | .sl _=>[]
 | .p x y=>(x.zero,y.zero)
inductive Md where
 | f | r | x (t:Nat)
 deriving DecidableEq
structure Pl where
 bx:Bool
 n:Nat
 c:Nat
 deriving DecidableEq
inductive Cell where
 | val (m:Md) (e:ET) (v:e.val)
 | ref (h : Pl) (t : Nat)                       -- reads as the place's own row, if that still bears the stamp
 | win (h : Pl) (t : Nat) (lo hi : Nat)         -- a part of it
 | nil (x : ET)                                 -- the nil slice
 | ptr (n t off : Nat)                          -- the address of a cell of a variable in memory, born under a stamp
 | dead
inductive SC where
 | dead
 | one (c:Cell)
 | agg (cs:List Cell)
 | tup (xs:List (Bool×List Cell))
 | pe (e : ET) (v : e.val) (off : Nat)          -- the address of a cell of a frozen row's element
 | ph (h : Pl) (t idx off : Nat)                -- the address of a cell of an own row's element
 | fn (f:FuncId) (cap:List SC)
structure St where
 sl:List SC
 bx:List (Option (Nat×List Cell))
inductive Loc where
 | sl (n:Nat)
 | bx (n:Nat)
 deriving DecidableEq
inductive Wr where
 | sl (n:Nat) (x:SC)
 | bc (n c:Nat) (x:Cell)
 | nb (n t:Nat) (cs:List Cell)
def gets (st:St) (n:Nat):SC:=st.sl.getD n .dead
def getb (st:St) (n c:Nat):Option (Nat×Cell):=(st.bx.getD n none).bind fun b=>(b.2[c]?).map fun x=>(b.1,x)
def Wr.put (st:St):Wr→St
 | .sl n x=> { st with sl:=st.sl.set n x }
 | .bc n c x=> { st with bx:=st.bx.modify n fun b=>b.map fun q=>(q.1,q.2.set c x) }
 | .nb n t cs=> { st with bx:=st.bx.set n (some (t,cs)) }
def puts (st:St) (ws:List Wr):St:=ws.foldl Wr.put st
inductive Pr (α : Type) where
 | ret (a : α)
 | fail
 | chk (b:Bool) (k:Pr α)
 | br (b:Bool) (x y:Pr α)
 | cal (e:ET) (x:Option e.val) (k:e.val→Pr α)
 | rs (n:Nat) (k:SC→Pr α)
 | rb (n c:Nat) (k:Nat×Cell→Pr α)
 | wr (w:Wr) (k:Pr α)
 | ln (n c:Nat) (k:Pr α)
def Pr.bind {α β : Type}:Pr α→(α→Pr β)→Pr β
 | .ret a,f=>f a
 | .fail,_=> .fail
 | .chk b k,f=> .chk b (k.bind f)
 | .br b x y,f=> .br b (x.bind f) (y.bind f)
 | .cal e x k,f=> .cal e x fun v=>(k v).bind f
 | .rs n k,f=> .rs n fun x=>(k x).bind f
 | .rb n c k,f=> .rb n c fun x=>(k x).bind f
 | .wr w k,f=> .wr w (k.bind f)
 | .ln n c k,f=> .ln n c (k.bind f)
noncomputable def Pr.run {α R:Type}:Pr α→St→List Loc→List Wr→(α→St→List Loc→List Wr→Option R)→Option R
 | .ret a,st,tr,ws,k=>k a st tr ws
 | .fail,_,_,_,_=>none
 | .chk b p,st,tr,ws,k=> @Bool.rec (fun _=>Option R) none (p.run st tr ws k) b
 | .br b x y,st,tr,ws,k=> @Bool.rec (fun _=>Option R) (y.run st tr ws k) (x.run st tr ws k) b
 | .cal _ x p,st,tr,ws,k=>x.bind fun v=>(p v).run st tr ws k
 | .rs n p,st,tr,ws,k=>(p (gets st n)).run st (.sl n::tr) ws k
 | .rb n c p,st,tr,ws,k=>match getb st n c with
  | some x=>(p x).run st (.bx n::tr) ws k
  | none=>none
 | .wr w p,st,tr,ws,k=>p.run (w.put st) tr (ws++[w]) k
 | .ln n c p,st,tr,ws,k=>match st.bx.getD n none with
  | some b=> @Bool.rec (fun _=>Option R) none (p.run st (.bx n::tr) ws k) (b.2.length == c)
  | none=>none
def ofOpt {α : Type}:Option α→Pr α
 | some a=> .ret a
 | none=> .fail
structure TInf where
 agg:Bool
 e:ET
 bytes:Nat
 el:Nat:=0
 fs:List (Nat×Nat×Bool):=[]
 eq:Bool:=false
 ptr:Bool:=false
def TInf.n (i:TInf):Nat:=if i.ptr then 1 else i.e.cells
def x_so (x y:ET) (v:x.val):Option y.val:=if h:x=y then some (h▸v) else none
def LV:=(e:ET)×e.val
def lv:(e:ET)→e.val→List LV
 | .p x y,v=>lv x v.1++lv y v.2
 | .u,_=>[]
 | .sl x,v=>[⟨.sl x,v⟩]
 | .i k,v=>[⟨.i k,v⟩]
 | .b,v=>[⟨.b,v⟩]
 | .s,v=>[⟨.s,v⟩]
 | .er,v=>[⟨.er,v⟩]
def x_e6:(e:ET)→List LV→Option (e.val×List LV)
 | .p x y,cs=>(x_e6 x cs).bind fun a=>(x_e6 y a.2).map fun b=>((a.1,b.1),b.2)
 | .u,cs=>some ((),cs)
 | .sl x,c::cs=>(x_so c.1 (.sl x) c.2).map fun v=>(v,cs)
 | .i k,c::cs=>(x_so c.1 (.i k) c.2).map fun v=>(v,cs)
 | .b,c::cs=>(x_so c.1 .b c.2).map fun v=>(v,cs)
 | .s,c::cs=>(x_so c.1 .s c.2).map fun v=>(v,cs)
 | .er,c::cs=>(x_so c.1 .er c.2).map fun v=>(v,cs)
 | _,[]=>none
def ofLV (e:ET) (l:List LV):Option e.val:=(x_e6 e l).bind fun a=>match a.2 with | []=>some a.1 | _=>none
def x_id (x:LV):Cell:= .val .f x.1 x.2
def SC.cells:SC→List Cell
 | .one c=>[c]
 | .agg cs=>cs
 | .tup xs=>xs.flatMap (·.2)
 | _=>[]
def x_ux:Nat→Cell→List (Bool×List Cell)→List (Bool×List Cell)
 | _,_,[]=>[]
 | n,c,x::xs=>if n<x.2.length then (x.1,x.2.set n c)::xs else x::x_ux (n-x.2.length) c xs
def setNth:Nat→Cell→SC→SC
 | _,c, .one _=> .one c
 | n,c, .agg cs=> .agg (cs.set n c)
 | n,c, .tup xs=> .tup (x_ux n c xs)
 | _,_,x=>x
def atPl (h:Pl):Pr Cell:=
 if h.bx then .rb h.n h.c fun x=> .ret x.2 else .rs h.n fun x=>ofOpt (x.cells[h.c]?)
def toPl (h:Pl) (c:Cell):Pr Unit:=
 if h.bx then .wr (.bc h.n h.c c) (.ret ()) else .rs h.n fun x=> .wr (.sl h.n (setNth h.c c x)) (.ret ())
def home (h:Pl) (t:Nat):Pr ((x:ET)×List x.val):=(atPl h).bind fun
 | .val (.x t') (.sl x) v=>if t'=t then .ret ⟨x,v⟩ else .fail
 | _=> .fail
def look:Cell→Pr LV
 | .val _ e v=> .ret ⟨e,v⟩
 | .ref h t=>(home h t).bind fun x=> .ret ⟨.sl x.1,x.2⟩
 | .win h t lo hi=>(home h t).bind fun x=> .ret ⟨.sl x.1,(x.2.take hi).drop lo⟩
 | .nil x=> .ret ⟨.sl x,[]⟩
 | _=> .fail
def mapP {α β : Type} (f : α→Pr β):List α→Pr (List β)
 | []=> .ret []
 | a::l=>(f a).bind fun b=>(mapP f l).bind fun r=> .ret (b::r)
def x_ml (bx:Bool) (n:Nat):Nat→List Cell→List Cell
 | _,[]=>[]
 | c, .val (.x t) _ _::l=> .ref ⟨bx,n,c⟩ t::x_ml bx n (c+1) l
 | c,x::l=>x::x_ml bx n (c+1) l
def copyT (n:Nat):Nat→List (Bool×List Cell)→List (Bool×List Cell)
 | _,[]=>[]
 | k,x::xs=>(x.1,x_ml false n k x.2)::copyT n (k+x.2.length) xs
def x_t3 (n:Nat):SC→SC
 | .one c=> .one ((x_ml false n 0 [c]).headD .dead)
 | .agg cs=> .agg (x_ml false n 0 cs)
 | .tup xs=> .tup (copyT n 0 xs)
 | x=>x
def claim (t:Nat) (keep:Bool) (p:Pl):Pr Unit:=(atPl p).bind fun
 | .ref h s=>if keep then .ret () else (home h s).bind fun x=>(toPl p (.val (.x t) (.sl x.1) x.2)).bind fun _=>toPl h (.ref p t)
 | .win h s lo hi=>(home h s).bind fun x=>(toPl p (.val (.x t) (.sl x.1) ((x.2.take hi).drop lo))).bind fun _=>toPl h .dead
 | .nil x=>toPl p (.val (.x t) (.sl x) [])
 | _=> .ret ()
def x_uu (t:Nat) (keep:Bool) (bx:Bool) (n:Nat):Nat→Nat→Pr Unit
 | _,0=> .ret ()
 | c,k+1=>(claim t keep ⟨bx,n,c⟩).bind fun _=>x_uu t keep bx n (c+1) k
def x_rc (c:Cell):Pr LV:=match c with
 | .val .f e v=> .ret ⟨e,v⟩
 | .ref h s=>(home h s).bind fun x=>(toPl h (.val .f (.sl x.1) x.2)).bind fun _=> .ret ⟨.sl x.1,x.2⟩
 | .win h s lo hi=>(home h s).bind fun x=>(toPl h (.val .f (.sl x.1) x.2)).bind fun _=> .ret ⟨.sl x.1,(x.2.take hi).drop lo⟩
 | .nil x=> .ret ⟨.sl x,[]⟩
 | _=> .fail
def x_rz (c:Cell):Pr LV:=match c with
 | .ref h s=>(home h s).bind fun x=>(toPl h .dead).bind fun _=> .ret ⟨.sl x.1,x.2⟩
 | .win h s lo hi=>(home h s).bind fun x=>(toPl h .dead).bind fun _=> .ret ⟨.sl x.1,(x.2.take hi).drop lo⟩
 | .nil x=> .ret ⟨.sl x,[]⟩
 | _=> .fail
structure Env where
 ti:TypeId→Option TInf
def scOf (agg:Bool) (cs:List Cell):SC:=if agg then .agg cs else .one (cs.headD .dead)
def oneOf:Cell→Pr SC
 | .ref h t=>(home h t).bind fun _=> .ret (.one (.ref h t))
 | .win h t lo hi=>(home h t).bind fun _=> .ret (.one (.win h t lo hi))
 | .ptr n t off=> .rb n 0 fun x=> .chk (x.1 == t) (.ret (.one (.ptr n t off)))
 | .dead=> .ret .dead
 | c=> .ret (.one c)
def cutS (agg:Bool) (cs:List Cell):Pr SC:=if agg then .ret (.agg cs) else match cs with
 | [c]=>oneOf c
 | _=> .fail
def constS (E:Env) (ty:TypeId):Value→Pr SC
 | .int k n=> .ret (.one (.val .f (.i k) n))
 | .bool b=> .ret (.one (.val .f .b b))
 | .string s=> .ret (.one (.val .f .s s))
 | .nilIface=> .ret (.one (.val .f .er false))
 | .slice none 0 0=>match E.ti ty with
  | some ti=>match ti.e with
   | .sl e=> .ret (.one (.nil e))
   | _=> .fail
  | none=> .fail
 | .pointer none=> .ret .dead
 | _=> .fail
def opnd (E:Env) (ty:TypeId):Operand→Pr SC
 | .tmp n=> .rs n fun x=> .ret (x_t3 n x)
 | .const v=>constS E ty v
 | .func f=> .ret (.fn f [])
 | .global _=> .fail
def asOne (x:SC):Pr LV:=match x with
 | .one c=>look c
 | _=> .fail
def asI (x:SC):Pr (IntKind×Int):=(asOne x).bind fun
 | ⟨.i k,v⟩=> .ret (k,v)
 | _=> .fail
def asB (x:SC):Pr Bool:=(asOne x).bind fun
 | ⟨.b,v⟩=> .ret v
 | _=> .fail
def asS (x:SC):Pr ByteArray:=(asOne x).bind fun
 | ⟨.s,v⟩=> .ret v
 | _=> .fail
def x_kl (e:ET) (l:List LV):Pr e.val:=ofOpt (ofLV e l)
def x_ot (n b:Nat):Nat→Nat→Pr (List Cell)
 | _,0=> .ret []
 | off,k+1=> .rb n off fun x=> .chk (x.1 == b) ((x_ot n b (off+1) k).bind fun r=>
   .ret ((match x.2 with | .val (.x t) _ _=> .ref ⟨true,n,off⟩ t | c=>c)::r))
def loadR (E:Env) (t:TypeId) (a:SC):Pr SC:=match E.ti t with
 | none=> .fail
 | some ti=>if ti.n != 0 && (ti.agg || ti.n == 1) then match a with
  | .one (.ptr n b off)=>(x_ot n b off ti.n).bind fun cs=>cutS ti.agg cs
  | .pe e v off=>if off+ti.n≤e.cells then .ret (scOf ti.agg ((((lv e v).drop off).take ti.n).map x_id)) else .fail
  | .ph h s idx off=>(home h s).bind fun x=>if off+ti.n≤x.1.cells then
    .ret (scOf ti.agg ((((lv x.1 (x.2.getD idx x.1.zero)).drop off).take ti.n).map x_id)) else .fail
  | _=> .fail
  else .fail
def known:Cell→Pr Unit
 | .ref h t=>(home h t).bind fun _=> .ret ()
 | .win h t _ _=>(home h t).bind fun _=> .ret ()
 | .ptr n t _=> .rb n 0 fun x=> .chk (x.1 == t) (.ret ())
 | .dead=> .fail
 | _=> .ret ()
def wrBox (n:Nat):Nat→List Cell→Pr Unit
 | _,[]=> .ret ()
 | off,c::l=>(known c).bind fun _=>match c with
  | .ref h _=>if h=⟨true,n,off⟩ then wrBox n (off+1) l else .wr (.bc n off c) (wrBox n (off+1) l)
  | c=> .wr (.bc n off c) (wrBox n (off+1) l)
def storeR (i:Nat) (keep:Bool) (a:SC) (x:List Cell):Pr Unit:=match a with
 | .one (.ptr n b off)=>if x.length=0 then .fail else (x_ot n b off x.length).bind fun _=>(wrBox n off x).bind fun _=>x_uu (i+1) keep true n off x.length
 | .ph h s idx off=>(mapP x_rc x).bind fun r=>(home h s).bind fun y=>if y.1.cells<off+x.length then .fail else
   (x_kl y.1 (((lv y.1 (y.2.getD idx y.1.zero)).take off)++r++((lv y.1 (y.2.getD idx y.1.zero)).drop (off+x.length)))).bind fun v=>
   toPl h (.val (.x s) (.sl y.1) (y.2.set idx v))
 | _=> .fail
def zeroCells (t:Nat):ET→List Cell
 | .p x y=>zeroCells t x++zeroCells t y
 | .u=>[]
 | .sl x=>[.val (.x t) (.sl x) []]
 | e=>(lv e e.zero).map x_id
def x_d9:ET→List Cell
 | .p x y=>x_d9 x++x_d9 y
 | .u=>[]
 | .sl x=>[.nil x]
 | e=>(lv e e.zero).map x_id
def x_co (s:ByteArray):List Int:=s.data.toList.map fun b=>(b.toNat:Int)
def x_jo (l:List Int):ByteArray:=⟨(l.map fun n=>UInt8.ofNat n.toNat).toArray⟩
def x_fc (s:ByteArray) (i:Int):Int:=((s.data.toList.getD i.toNat 0).toNat:Int)
def eqv:(e:ET)→e.val→e.val→Bool
 | .p x y,v,v'=>eqv x v.1 v'.1 && eqv y v.2 v'.2
 | .i _,v,v'=>decide ((v:Int)=v')
 | .b,v,v'=>v == v'
 | .s,v,v'=>decide ((v:ByteArray).data.toList=(v':ByteArray).data.toList)
 | _,_,_=>true
def x_o6 (b:Bool):SC:= .one (.val .f .b b)
def intS (k:IntKind) (n:Int):SC:= .one (.val .f (.i k) n)
def strS (s:ByteArray):SC:= .one (.val .f .s s)
def sapp (a b:ByteArray):ByteArray:=⟨(a.data.toList++b.data.toList).toArray⟩
def sfit (a b:ByteArray):Bool:=Nat.ble (a.data.toList.length+b.data.toList.length) 9223372036854775807
def intOp (op:BinOp) (k:IntKind) (x y:Int):Pr SC:=
 match op with
 | .add=> .ret (intS k (k.wrap (x+y)))
 | .sub=> .ret (intS k (k.wrap (x-y)))
 | .mul=> .ret (intS k (k.wrap (x*y)))
 | .quo=> .chk (decide (y≠0)) (.ret (intS k (k.wrap (x.tdiv y))))
 | .rem=> .chk (decide (y≠0)) (.ret (intS k (x.tmod y)))
 | .and=> .ret (intS k (k.wrap ((BitVec.ofInt k.bits x &&& BitVec.ofInt k.bits y).toNat:Int)))
 | .or=> .ret (intS k (k.wrap ((BitVec.ofInt k.bits x ||| BitVec.ofInt k.bits y).toNat:Int)))
 | .xor=> .ret (intS k (k.wrap ((BitVec.ofInt k.bits x ^^^ BitVec.ofInt k.bits y).toNat:Int)))
 | .eql=> .ret (x_o6 (decide (x=y)))
 | .neq=> .ret (x_o6 (!decide (x=y)))
 | .lss=> .ret (x_o6 (decide (x<y)))
 | .leq=> .ret (x_o6 (decide (x≤y)))
 | .gtr=> .ret (x_o6 (decide (x>y)))
 | .geq=> .ret (x_o6 (decide (x≥y)))
 | _=> .fail
def binLV (op:BinOp) (a b:LV):Pr SC:=match op,a,b with
 | .shl,⟨.i k,v⟩,⟨.i _,n⟩=> .chk (decide (0≤n)) (.ret (intS k (k.wrap (v*2 ^ (min n.toNat k.bits)))))
 | .shr,⟨.i k,v⟩,⟨.i _,n⟩=> .chk (decide (0≤n)) (.ret (intS k (v.fdiv (2 ^ (min n.toNat k.bits)))))
 | op,⟨.i k,v⟩,⟨.i k',v'⟩=>if k=k' then intOp op k v v' else .fail
 | .add,⟨.s,v⟩,⟨.s,v'⟩=> .chk (sfit v v') (.ret (strS (sapp v v')))
 | .eql,⟨.s,v⟩,⟨.s,v'⟩=> .ret (x_o6 (decide (v.data.toList=v'.data.toList)))
 | .neq,⟨.s,v⟩,⟨.s,v'⟩=> .ret (x_o6 (!decide (v.data.toList=v'.data.toList)))
 | _,_,_=> .fail
def isNil:Operand→Bool
 | .const .nilIface=>true
 | _=>false
def isTy (E:Env) (t:TypeId) (e:ET):Bool:=match E.ti t with
 | some ti=>decide (ti.e=e) && !ti.ptr && !ti.agg
 | none=>false
def elT (E:Env) (t:TypeId) (e:ET):Bool:=match E.ti t with
 | some ti=> !ti.agg && !ti.ptr && decide (ti.e= .sl e)
 | none=>false
def x_ya (E:Env) (t:TypeId):Bool:=elT E t (.i .u8) && match (E.ti t).bind fun ti=>E.ti ti.el with
 | some te=> !te.agg
 | none=>false
def fieldI (E:Env) (t:TypeId) (f:Nat):Option (Nat×Nat×Bool):=(E.ti t).bind fun ti=>if ti.agg then ti.fs[f]? else none
def scalR (E:Env) (op:BinOp) (t:TypeId) (nl:Bool) (a b:LV):Pr SC:=
  if nl && isTy E t .er then match op,a with
   | .eql,⟨.er,v⟩=> .ret (x_o6 (!v))
   | .neq,⟨.er,v⟩=> .ret (x_o6 v)
   | _,_=> .fail
  else if isTy E t .b then match op,a,b with
   | .eql,⟨.b,v⟩,⟨.b,v'⟩=> .ret (x_o6 (v == v'))
   | .neq,⟨.b,v⟩,⟨.b,v'⟩=> .ret (x_o6 (!(v == v')))
   | _,_,_=> .fail
  else binLV op a b
def binR (E:Env) (op:BinOp) (t:TypeId) (nl:Bool) (x y:SC):Pr SC:=match x,y with
 | .agg cs, .agg ds=>match E.ti t with
  | some ti=>if ti.eq && ti.agg then (mapP look cs).bind fun a=>(x_kl ti.e a).bind fun v=>(mapP look ds).bind fun b=>(x_kl ti.e b).bind fun v'=>match op with
   | .eql=> .ret (x_o6 (eqv ti.e v v'))
   | .neq=> .ret (x_o6 (!eqv ti.e v v'))
   | _=> .fail
   else .fail
  | none=> .fail
 | _,_=>(asOne x).bind fun a=>(asOne y).bind fun b=>scalR E op t nl a b
def unR (op:UnOp) (x:SC):Pr SC:=(asOne x).bind fun a=>match op,a with
 | .neg,⟨.i k,v⟩=> .ret (intS k (k.wrap (0-v)))
 | .not,⟨.b,v⟩=> .ret (x_o6 (!v))
 | _,_=> .fail
def x_06:SC→Pr Unit
 | .one (.ptr n b _)=> .rb n 0 fun x=> .chk (x.1 == b) (.ret ())
 | .ph h s _ _=>(home h s).bind fun _=> .ret ()
 | .pe .. => .ret ()
 | _=> .fail
def bound (o:Option SC) (d:Int):Pr Int:=match o with | some s=>(asI s).bind fun a=> .ret a.2 | none=> .ret d
def sliceR (E:Env) (t:TypeId) (x:SC) (lo hi mx:Option SC):Pr SC:=match x with
 | .one c=>(look c).bind fun v=>match v with
  | ⟨.s,s⟩=>if mx.isSome || !isTy E t .s then .fail else (bound lo 0).bind fun l=>(bound hi s.size).bind fun h=>
    .chk (decide (0≤l)) (.chk (decide (l≤h)) (.chk (decide (h≤(s.size:Int))) (.ret (strS (s.extract l.toNat h.toNat)))))
  | ⟨.sl e,xs⟩=>if !elT E t e || (mx.isSome && !hi.isSome) then .fail else (bound lo 0).bind fun l=>(bound hi xs.length).bind fun h=>(bound mx h).bind fun m=>
    .chk (decide (m=h)) (.chk (decide (0≤l)) (.chk (decide (l≤h)) (.chk (decide (h≤(xs.length:Int))) (match c with
     | .val .f _ _=> .ret (.one (.val .f (.sl e) ((xs.take h.toNat).drop l.toNat)))
     | .val .r _ _=> .ret (.one (.val .r (.sl e) ((xs.take h.toNat).drop l.toNat)))
     | .ref p t=> .ret (.one (.win p t l.toNat h.toNat))
     | .nil x=> .ret (.one (.nil x))
     | _=> .fail))))
  | _=> .fail
 | _=> .fail
def x_en:Nat:=70368744177664
def x_00 (E:Env) (i:Nat) (t u:TypeId) (x y:SC):Pr SC:=match x with
 | .one c=>(look c).bind fun a=>(asOne y).bind fun b=>match a with
  | ⟨.sl e,v⟩=>if !elT E t e then .fail else (match b with
    | ⟨.s,s⟩=>if isTy E u .s then ofOpt (x_so (.sl (.i .u8)) (.sl e) (x_co s)) else .fail
    | ⟨.i .i64,n⟩=>if isTy E u (.i .i64) then .chk (decide (0≤n)) (.ret (List.replicate n.toNat e.zero)) else .fail
    | ⟨e',v'⟩=>if elT E u e then ofOpt (x_so e' (.sl e) v') else .fail).bind fun (v':List e.val)=>match (E.ti t).bind fun t=>E.ti t.el with
   | some te=> .chk (decide ((v.length+v'.length)*(te.bytes+1)≤x_en)) ((x_rz c).bind fun _=> .ret (.one (.val (.x (i+1)) (.sl e) (v++v'))))
   | none=> .fail
  | _=> .fail
 | _=> .fail
def x_jz (E:Env) (i:Nat) (b:Builtin) (tys:List TypeId) (xs:List SC):Pr SC:=match b,xs with
 | .len,[x]=>(asOne x).bind fun
  | ⟨.s,v⟩=>if isTy E (tys.headD 0) .s then .ret (intS .i64 (v.size:Int)) else .fail
  | ⟨.sl e,v⟩=>if elT E (tys.headD 0) e then .ret (intS .i64 (v.length:Int)) else .fail
  | _=> .fail
 | .cap,[.one (.nil e)]=>if elT E (tys.headD 0) e then .ret (intS .i64 0) else .fail
 | .min,[x,y]=>(asI x).bind fun a=>(asI y).bind fun c=>if a.1=c.1 then .ret (intS a.1 (min a.2 c.2)) else .fail
 | .max,[x,y]=>(asI x).bind fun a=>(asI y).bind fun c=>if a.1=c.1 then .ret (intS a.1 (max a.2 c.2)) else .fail
 | .append,[x,y]=>x_00 E i (tys.headD 0) ((tys.drop 1).headD 0) x y
 | _,_=> .fail
inductive Par where
 | val (agg:Bool) (e:ET) (ms:List Md)
 | ptr (e:ET) (ms:List Md) (off:Nat)
 | via (j : Nat)                                -- a variable that holds the address of another parameter's variable
 | nl (x : ET)                                  -- the nil slice
def argE:List Par→ET
 | []=> .u
 | .val _ e _::ps=> .p e (argE ps)
 | .ptr e _ _::ps=> .p e (argE ps)
 | .via _::ps=>argE ps
 | .nl _::ps=>argE ps
def ptrE:List Par→ET
 | []=> .u
 | .val _ _ _::ps=>ptrE ps
 | .ptr e _ _::ps=> .p e (ptrE ps)
 | .via _::ps=>ptrE ps
 | .nl _::ps=>ptrE ps
def resE (ps:List Par):List (Bool×ET×List Md)→ET
 | []=>ptrE ps
 | r::rs=> .p r.2.1 (resE ps rs)
inductive Pk where
 | one | fn (f:FuncId) (m:Nat) | gh (c:Nat)
def x_pc:List Pk→List Value→List Value
 | .one::pk,v::vs=>v::x_pc pk vs
 | .fn f m::pk,vs=> .func (.func f) #[] (vs.take m).toArray::x_pc pk (vs.drop m)
 | .gh _::pk,_::vs=>x_pc pk vs
 | _,vs=>vs
structure FSp where
 ps:List Par
 rs:List (Bool×ET×List Md)
 pk:List Pk:=[]
 fn:(argE ps).val→Option (resE ps rs).val
 nv : Bool := false                             -- what it gives lies in a new variable, whose address it returns
def give1 (x:Md×Cell):Pr (Option LV):=match x.1 with
 | .f=>(x_rc x.2).bind fun a=> .ret (some a)
 | .x _=>(x_rz x.2).bind fun a=> .ret (some a)
 | .r=> .ret none
def give2 (x:(Md×Cell)×Option LV):Pr LV:=match x.2 with
 | some a=> .ret a
 | none=>look x.1.2
def giveCs (l:List (Md×Cell)):Pr (List LV):=(mapP give1 l).bind fun as=>mapP give2 (l.zip as)
def noR:Md→Bool
 | .r=>false
 | _=>true
def zipV (agg:Bool) (ms:List Md) (x:SC):Pr (List (Md×Cell)):=match agg,x with
 | true, .agg cs=>if ms.length=cs.length then .ret (ms.zip cs) else .fail
 | false, .one c=>if ms.length=1 then .ret (ms.zip [c]) else .fail
 | _,_=> .fail
def x_qf:List Par→List SC→Pr (List (Md×Cell)×List (Nat×Nat))
 | [],[]=> .ret ([],[])
 | .val agg _ ms::ps,x::xs=>(zipV agg ms x).bind fun a=>(x_qf ps xs).bind fun b=> .ret (a++b.1,b.2)
 | .ptr _ ms o::ps, .one (.ptr n t o')::xs=>if (ms.length=0 || !ms.all noR) || !(o' == o) then .fail else .ln n ms.length ((x_ot n t 0 ms.length).bind fun cs=>
   (x_qf ps xs).bind fun b=> .ret (ms.zip cs++b.1,(n,ms.length)::b.2))
 | .nl x::ps, .one (.nil y)::xs=>if y=x then x_qf ps xs else .fail
 | .via _::ps, .one (.ptr n t 0)::xs=> .ln n 1 (.rb n 0 fun x=> .chk (x.1 == t) ((x_qf ps xs).bind fun b=> .ret (b.1,(n,1)::b.2)))
 | _,_=> .fail
def madeC (t:Nat):Md→LV→Cell
 | .x _,a=> .val (.x t) a.1 a.2
 | .f,a=> .val .f a.1 a.2
 | .r,_=> .val .f .u ()
def x_jn (t:Nat) (ms:List Md) (l:List LV):List Cell:=(ms.zip l).map fun x=>madeC t x.1 x.2
def x_lc (t:Nat):List (Bool×ET×List Md)→List LV→List (Bool×List Cell)
 | [],_=>[]
 | r::rs,l=>(r.1,x_jn t r.2.2 (l.take r.2.2.length))::x_lc t rs (l.drop r.2.2.length)
def resN (rs:List (Bool×ET×List Md)):Nat:=(rs.flatMap fun r=>r.2.2).length
def x_yn (n:Nat):Nat→List Cell→Pr Unit
 | _,[]=> .ret ()
 | off,c::l=> .wr (.bc n off c) (x_yn n (off+1) l)
def kills:List (Nat×Nat)→Pr Unit
 | []=> .ret ()
 | x::l=>(x_yn x.1 0 (List.replicate x.2 .dead)).bind fun _=>kills l
def x_xh (t:Nat):List Par→List (Nat×Nat)→List LV→Pr Unit
 | .ptr _ ms _::ps,n::ns,l=>(x_yn n.1 0 (x_jn t ms (l.take ms.length))).bind fun _=>x_xh t ps ns (l.drop ms.length)
 | .val _ _ _::ps,ns,l=>x_xh t ps ns l
 | .via _::ps,_::ns,l=>x_xh t ps ns l
 | .nl _::ps,ns,l=>x_xh t ps ns l
 | _,_,_=> .ret ()
def prs:Nat→List Par→List (Nat×Nat)→List (Nat×Nat)
 | k, .val _ _ _::ps,ns=>prs (k+1) ps ns
 | k, .ptr _ _ _::ps,n::ns=>(k,n.1)::prs (k+1) ps ns
 | k, .via _::ps,n::ns=>(k,n.1)::prs (k+1) ps ns
 | k, .nl _::ps,ns=>prs (k+1) ps ns
 | _,_,_=>[]
def viaP (K:List (Nat×Nat)):List Par→List (Nat×Nat)→Pr (List (Nat×Cell))
 | .val _ _ _::ps,ns=>viaP K ps ns
 | .nl _::ps,ns=>viaP K ps ns
 | .ptr _ _ _::ps,_::ns=>viaP K ps ns
 | .via j::ps,n::ns=> .ln n.1 1 (.rb n.1 0 fun x=>match x.2 with
   | .ptr m t 0=>if K.contains (j,m) then .rb m 0 fun y=> .chk (y.1 == t) ((viaP K ps ns).bind fun r=> .ret ((n.1, .ptr m t 0)::r)) else .fail
   | _=> .fail)
 | _,_=> .ret []
def backs:List (Nat×Cell)→Pr Unit
 | []=> .ret ()
 | (n, .ptr m t off)::l=> .rb m 0 fun y=> .chk (y.1 == t) (.wr (.bc n 0 (.ptr m t off)) (backs l))
 | _::_=> .fail
def x_uf:List Nat→Bool
 | []=>true
 | n::l=> !l.contains n && x_uf l
def capR:List SC→Pr (List SC)
 | []=> .ret []
 | .one (.ptr n t off)::l=> .rb n 0 fun x=> .chk (x.1 == t) ((capR l).bind fun r=> .ret (.one (.ptr n t off)::r))
 | _=> .fail
def x_n4:List SC→List Pk→List SC→Pr (List SC)
 | _,[],xs=> .ret xs
 | acc, .one::pk,x::xs=>(x_n4 (acc++[x]) pk xs).bind fun r=> .ret (x::r)
 | acc, .fn f m::pk, .fn f' cs::xs=>if f'=f∧cs.length=m then (capR cs).bind fun c=>(x_n4 (acc++c) pk xs).bind fun r=> .ret (c++r) else .fail
 | acc, .gh c::pk,xs=>match acc[c]? with
  | some (.one (.ptr n _ _))=> .rb n 0 fun x=>match x.2 with
   | .ptr m s off=> .rb m 0 fun y=> .chk (y.1 == s) ((x_n4 acc pk xs).bind fun r=> .ret (.one (.ptr m s off)::r))
   | _=> .fail
  | _=> .fail
 | _,_,_=> .fail
def callR (i:Nat) (F:FSp) (ys:List SC):Pr SC:=
 (x_n4 [] F.pk ys).bind fun xs=>(x_qf F.ps xs).bind fun a=>if x_uf (a.2.map (·.1)) then (giveCs a.1).bind fun ls=>(x_kl (argE F.ps) ls).bind fun v=>(viaP (prs 0 F.ps a.2) F.ps a.2).bind fun bk=>(kills a.2).bind fun _=>
  .cal (resE F.ps F.rs) (F.fn v) fun r=>
   (x_xh (i+1) F.ps a.2 ((lv _ r).drop (resN F.rs))).bind fun _=>(backs bk).bind fun _=>
   .ret (match x_lc (i+1) F.rs (lv _ r) with | [x]=>scOf x.1 x.2 | l=> .tup l) else .fail
def frz (x:SC):Pr LV:=match x with
 | .one (.val .f e v)=> .ret ⟨e,v⟩
 | _=> .fail
structure Tab extends Env where
 fs:FuncId→Option FSp
 ff : FuncId → FuncId → Option FSp := fun _ _ => none   -- .. when it is given a function
 frz : Nat → Bool := fun _ => false             -- slots that are given frozen copies only
 sh : Nat := 0                                  -- how far behind its slot's number a new variable is noted
def fnOf:List SC→Option FuncId
 | []=>none
 | .fn g _::_=>some g
 | _::l=>fnOf l
def Tab.of (T:Tab) (f:FuncId) (xs:List SC):Option FSp:=match fnOf xs with
 | none=>T.fs f
 | some g=>match T.ff f g with
  | none=>T.fs f
  | some F=>some F
def opnds (E:Env):List TypeId→List Operand→Pr (List SC)
 | t::ts,x::xs=>(opnd E t x).bind fun a=>(opnds E ts xs).bind fun b=> .ret (a::b)
 | [],[]=> .ret []
 | _,_=> .fail
def putD (o:Oper) (x:SC):Pr Unit:=match o.dst with
 | some d=> .wr (.sl d x) (.ret ())
 | none=> .ret ()
def partR (E:Env) (fs:List (Nat×Nat×Bool)):List (Nat×Operand)→List Cell→Pr (List Cell)
 | [],cs=> .ret cs
 | (f,x)::l,cs=>match fs[f]? with
  | some (off,n,agg)=>(opnd E 0 x).bind fun a=>match agg,a with
    | true, .agg ys=>if ys.length=n then partR E fs l (cs.take off++ys++cs.drop (off+n)) else .fail
    | false, .one y=>if n=1 then partR E fs l (cs.take off++[y]++cs.drop (off+n)) else .fail
    | _,_=> .fail
  | none=> .fail
def elemsR (E:Env) (t:TypeId) (agg:Bool) (e:ET):Nat→List (Nat×Operand)→Pr (List e.val)
 | _,[]=> .ret []
 | j,(q,x)::l=>if q=j then (opnd E t x).bind fun a=>(match agg,a with
    | true, .agg ys=>mapP x_rc ys
    | false, .one y=>mapP x_rc [y]
    | _,_=> .fail).bind fun r=>(x_kl e r).bind fun v=>(elemsR E t agg e (j+1) l).bind fun s=> .ret (v::s) else .fail
def optR (E:Env):Option Operand→Pr (Option SC)
 | some y=>(opnd E 0 y).bind fun b=> .ret (some b)
 | none=> .ret none
def dx (sh:Nat) (o:Oper):Option Nat:=match o.dst with
 | some d=>some (d+sh)
 | none=>none
def callM (sh i:Nat) (F:FSp) (o:Oper) (ys:List SC):Pr Unit:=match dx sh o with
 | some n=>(mapP frz ys).bind fun ls=>(x_kl (argE F.ps) ls).bind fun v=>
   .cal (resE F.ps F.rs) (F.fn v) fun r=> .wr (.nb n (i+1) ((lv _ r).map x_id)) (putD o (.one (.ptr n (i+1) 0)))
 | none=> .fail
def callO (sh i:Nat) (F:FSp) (o:Oper) (ys:List SC):Pr Unit:=if F.nv then callM sh i F o ys else (callR i F ys).bind (putD o)
def frzA (a:SC):Pr SC:=match a with
 | .one c=>(x_rc c).bind fun r=> .ret (.one (x_id r))
 | .agg cs=>(mapP x_rc cs).bind fun r=> .ret (.agg (r.map x_id))
 | _=> .fail
def frzD (T:Tab) (o:Oper):Bool:=match o.dst with
 | some d=>T.frz d
 | none=>false
def frzP (T:Tab):SC→Bool
 | .one (.ptr n _ _)=>T.frz n
 | _=>false
def selfW (i:Nat) (o:Oper) (x:Operand):Pr Unit:=match x,o.dst with
 | .tmp k,some d=>if k=d then .ret () else .rs k fun
  | .one (.win h _ _ _)=>if h=⟨false,d,0⟩ then x_uu (i+1) false false k 0 1 else .ret ()
  | _=> .ret ()
 | _,_=> .ret ()
def selfS (i:Nat) (p:SC) (x:Operand):Pr Unit:=match x,p with
 | .tmp k, .one (.ptr n _ off)=> .rs k fun
  | .one (.win h _ _ _)=>if h=⟨true,n,off⟩ then x_uu (i+1) false false k 0 1 else .ret ()
  | _=> .ret ()
 | _,_=> .ret ()
def claimD (i:Nat) (keep:Bool) (o:Oper) (x:SC):Pr Unit:=match o.dst with
 | some d=>x_uu (i+1) keep false d 0 x.cells.length
 | none=> .ret ()
def opR (T:Tab) (keep:Bool) (i:Nat) (o:Oper):Pr Unit:=
 let E:=T.toEnv
 match o.op with
 | .move x=>(opnd E o.type x).bind (putD o)
 | .assign x=>if frzD T o then (opnd E o.type x).bind fun a=>(frzA a).bind (putD o) else (selfW i o x).bind fun _=>(opnd E o.type x).bind fun a=>(putD o a).bind fun _=>claimD i keep o a
 | .pick c a b=>(opnd E 0 c).bind fun x=>(asB x).bind fun v=> .br v ((opnd E o.type a).bind (putD o)) ((opnd E o.type b).bind (putD o))
 | .alloc t=>match dx T.sh o,E.ti t with
  | some n,some ti=>if ti.ptr then .wr (.nb n (i+1) [.dead]) (putD o (.one (.ptr n (i+1) 0))) else .wr (.nb n (i+1) (zeroCells (i+1) ti.e)) (putD o (.one (.ptr n (i+1) 0)))
  | _,_=> .fail
 | .box t x=>match dx T.sh o with
  | some n=>(opnd E t x).bind fun a=>(match a with | .one c=>Pr.ret [c] | .agg cs=>Pr.ret cs | _=>Pr.fail).bind fun cs=>
    .wr (.nb n (i+1) cs) ((x_uu (i+1) keep true n 0 cs.length).bind fun _=>putD o (.one (.ptr n (i+1) 0)))
  | _=> .fail
 | .build t ps=>match E.ti t with
  | some ti=>if ti.agg then (partR E ti.fs ps.toList (x_d9 ti.e)).bind fun cs=>putD o (.agg cs) else .fail
  | none=> .fail
 | .buildSlice t n ps=>match E.ti t with
  | some ti=>match E.ti ti.el with
   | some te=>if ps.size=n && !te.ptr && elT E t te.e && decide (n*te.e.cells≤16777216) then (elemsR E ti.el te.agg te.e 0 ps.toList).bind fun r=>putD o (.one (.val (.x (i+1)) (.sl te.e) r)) else .fail
   | none=> .fail
  | none=> .fail
 | .load t a=>(opnd E 0 a).bind fun x=>(loadR E t x).bind (putD o)
 | .store t a x=>match E.ti t with
  | some ti=>(opnd E 0 a).bind fun p=>(selfS i p x).bind fun _=>(opnd E t x).bind fun v0=>(if frzP T p then frzA v0 else .ret v0).bind fun v=>match v with
   | .one c=>if ti.n=1 then (storeR i keep p [c]).bind fun _=>putD o .dead else .fail
   | .agg cs=>if ti.n=cs.length then (storeR i keep p cs).bind fun _=>putD o .dead else .fail
   | _=> .fail
  | none=> .fail
 | .nilCheck x=>(opnd E 0 x).bind fun a=>(x_06 a).bind fun _=>putD o a
 | .binOp op t x y ty=>(opnd E t x).bind fun a=>(opnd E ty y).bind fun b=>(binR E op t (isNil y) a b).bind (putD o)
 | .unOp op t x=>(opnd E t x).bind fun a=>(unR op a).bind (putD o)
 | .convert s t x=>(opnd E s x).bind fun a=>(asOne a).bind fun v=>match v,E.ti s,E.ti t with
  | a,some ts,some tt=>if ts.agg || tt.agg || ts.ptr || tt.ptr then .fail else match a,ts.e,tt.e with
   | ⟨.i _,n⟩, .i _, .i k=>putD o (intS k (k.wrap n))
   | ⟨.s,w⟩, .s, .s=>putD o (strS w)
   | ⟨.s,w⟩, .s, .sl (.i .u8)=>if x_ya E t then putD o (.one (.val (.x (i+1)) (.sl (.i .u8)) (x_co w))) else .fail
   | ⟨.sl (.i .u8),w⟩, .sl (.i .u8), .s=>if x_ya E s then putD o (strS (x_jo w)) else .fail
   | _,_,_=> .fail
  | _,_,_=> .fail
 | .makeSlice t n m=>match E.ti t with
  | some ti=>match E.ti ti.el with
   | some te=>if te.ptr || !elT E t te.e then .fail else (opnd E 0 n).bind fun a=>(asI a).bind fun l=>(opnd E 0 m).bind fun b=>(asI b).bind fun c=>
    .chk (decide (l.2=c.2)) (.chk (decide (0≤l.2)) (.chk (decide (l.2.toNat*(te.bytes+1)≤x_en)) (putD o (.one (.val (.x (i+1)) (.sl te.e) (List.replicate l.2.toNat te.e.zero))))))
   | none=> .fail
  | none=> .fail
 | .slice t x lo hi mx=>(opnd E t x).bind fun a=>(optR E lo).bind fun l=>(optR E hi).bind fun h=>(optR E mx).bind fun m=>(sliceR E t a l h m).bind (putD o)
 | .fieldAddr t x f=>match fieldI E t f with
  | some (off,n,_)=>if n=0 then .fail else (opnd E 0 x).bind fun a=>(x_06 a).bind fun _=>match a with
   | .one (.ptr n b q)=>putD o (.one (.ptr n b (q+off)))
   | .pe e v q=>putD o (.pe e v (q+off))
   | .ph h s j q=>putD o (.ph h s j (q+off))
   | _=> .fail
  | none=> .fail
 | .field t x f=>match fieldI E t f with
  | some (off,n,agg)=>(opnd E t x).bind fun
   | .agg cs=>if off+n≤cs.length then (cutS agg ((cs.drop off).take n)).bind (putD o) else .fail
   | _=> .fail
  | none=> .fail
 | .indexAddr t x ix=>(opnd E t x).bind fun a=>(opnd E 0 ix).bind fun b=>(asI b).bind fun j=>match a with
  | .one (.val _ (.sl e) v)=>if !elT E t e then .fail else .chk (decide (0≤j.2)) (.chk (decide (j.2<(v.length:Int))) (putD o (.pe e (v.getD j.2.toNat e.zero) 0)))
  | .one (.ref h s)=>(home h s).bind fun y=>if !elT E t y.1 then .fail else .chk (decide (0≤j.2)) (.chk (decide (j.2<(y.2.length:Int))) (putD o (.ph h s j.2.toNat 0)))
  | _=> .fail
 | .index t x ix=>if !isTy E t .s then .fail else (opnd E t x).bind fun a=>(asS a).bind fun s=>(opnd E 0 ix).bind fun b=>(asI b).bind fun j=>
   .chk (decide (0≤j.2)) (.chk (decide (j.2<(s.size:Int))) (putD o (intS .u8 (x_fc s j.2))))
 | .extract x j=>match x with
  | .tmp n=> .rs n fun a=>match a with
   | .tup xs=>match xs[j]? with
    | some y=>putD o (scOf y.1 (x_ml false n ((xs.take j).flatMap fun (z:Bool×List Cell)=>z.2).length y.2))
    | none=> .fail
   | _=> .fail
  | _=> .fail
 | .makeFunc fn first cap=>match fn with
  | .func f=>if first.size=0 then (mapP (opnd E 0) cap.toList).bind fun cs=>putD o (.fn f cs) else .fail
  | _=> .fail
 | .call c=>match c.callee with
  | .builtin b=>(opnds E c.argTypes.toList c.args.toList).bind fun xs=>(x_jz E i b c.argTypes.toList xs).bind (putD o)
  | .value (.func f)=>(opnds E c.argTypes.toList c.args.toList).bind fun xs=>match T.of f xs with
   | some F=>callO T.sh i F o xs
   | none=> .fail
  | .value (.tmp n)=> .rs n fun z=>match z with
   | .fn f cs=>match T.fs f with
    | some F=>(capR cs).bind fun ys=>(opnds E c.argTypes.toList c.args.toList).bind fun xs=>callO T.sh i F o (xs++ys)
    | none=> .fail
   | _=> .fail
  | _=> .fail
 | _=> .fail
def setb (st:St) (n:Nat) (b:Bool):St:= { st with sl:=st.sl.set n (x_o6 b) }
structure Ent where
 i:Nat
 tr:List Loc
 ws:List Wr
noncomputable def rops {R:Type} (T:Tab) (keep:Nat→Bool) (all:List Oper):Nat→List Oper→St→List Ent→(St→List Ent→Option R)→Option R
 | _,[],st,lg,k=>k st lg
 | i,o::os,st,lg,k=>
  let does (st:St) (tr:List Loc):Option R:=(opR T (keep i) (i+1) o).run st tr [] fun _ st tr ws=>rops T keep all (i+1) os st (⟨i,tr,ws⟩::lg) k
  let skips (st:St) (tr:List Loc):Option R:=(putD o (.tup [])).run st tr [] fun _ st tr ws=>rops T keep all (i+1) os st (⟨i,tr,ws⟩::lg) k
  match o.guard with
  | none=>does st []
  | some (j,want)=>match (all[j]?).bind (·.dst) with
   | none=>none
   | some s=>match gets st s with
    | .one (.val .f .b b)=>if want then @Bool.rec (fun _=>Option R) (skips (setb st s false) [.sl s]) (does (setb st s true) [.sl s]) b
      else @Bool.rec (fun _=>Option R) (does (setb st s false) [.sl s]) (skips (setb st s true) [.sl s]) b
    | .tup []=>skips st [.sl s]
    | _=>none
def Wr.loc:Wr→Loc
 | .sl n _=> .sl n
 | .bc n _ _=> .bx n
 | .nb n _ _=> .bx n
def meets (a b:List Loc):Bool:=a.any fun x=>b.contains x
def reach (ops:List Oper):List (List Nat):=
 ops.foldl (init:=[]) fun acc o=>acc++[(o.after.toList.filter (Region.binds .any)).flatMap fun e=>e.on::acc.getD e.on []]
def fwd (ops:List Oper):Bool:=ops.zipIdx.all fun x=>x.1.after.all fun e=> !Region.binds .any e || decide (e.on<x.2)
def x_y0 (rch:List (List Nat)):List Ent→Bool
 | []=>true
 | y::l=>(l.all fun x=>(rch.getD y.i []).contains x.i ||
   !(meets (x.ws.map Wr.loc) (y.tr++y.ws.map Wr.loc) || meets (y.ws.map Wr.loc) x.tr)) && x_y0 rch l
def Loc.code:Loc→Nat
 | .sl n=>2*n
 | .bx n=>2*n+1
def x_y7 (l:List Loc):Nat:=l.foldr (fun x m=>m ||| (1 <<< x.code)) 0
def reachM (ops:List Oper):List Nat:=
 ops.foldl (init:=[]) fun acc o=>acc++[o.after.toList.foldr (fun e m=>if Region.binds .any e then m ||| ((1 <<< e.on) ||| acc.getD e.on 0) else m) 0]
def masks (lg:List Ent):List (Nat×Nat×Nat):=lg.map fun e=>(e.i,x_y7 e.tr,x_y7 (e.ws.map Wr.loc))
def indepM (rch:List Nat):List (Nat×Nat×Nat)→Bool
 | []=>true
 | y::l=>(l.all fun x=>(rch.getD y.1 0).testBit x.1 || ((x.2.2 &&& (y.2.1 ||| y.2.2)) == 0 && (y.2.2 &&& x.2.1) == 0)) && indepM rch l
def okPl (st:St) (h:Pl) (t:Nat):Bool:=
 match (if h.bx then (getb st h.n h.c).map (·.2) else (gets st h.n).cells[h.c]?) with
 | some (.val (.x t') _ _)=>t' == t
 | _=>false
def okBx (st:St) (n t:Nat):Bool:=match st.bx.getD n none with | some b=>b.1 == t | none=>false
def x_ic (st:St):Cell→Cell
 | .val (.x _) e v=> .val (.x 0) e v
 | .ref h t=>if okPl st h t then .ref h 0 else .dead
 | .win h t lo hi=>if okPl st h t then .win h 0 lo hi else .dead
 | .ptr n t off=>if okBx st n t then .ptr n (min t 1) off else .dead
 | c=>c
def x_xy (st:St):SC→SC
 | .one c=> .one (x_ic st c)
 | .agg cs=> .agg (cs.map (x_ic st))
 | .tup xs=> .tup (xs.map fun x=>(x.1,x.2.map (x_ic st)))
 | .ph h t j off=>if okPl st h t then .ph h 0 j off else .dead
 | .fn f cs=> .fn f (cs.map fun | .one c=> .one (x_ic st c) | _=> .dead)
 | x=>x
def drops (keep:Nat→Bool):Nat→List SC→List SC
 | _,[]=>[]
 | n,x::l=>(if keep n then x else .dead)::drops keep (n+1) l
def dropb (keep:Nat→Bool):Nat→List (Option (Nat×List Cell))→List (Option (Nat×List Cell))
 | _,[]=>[]
 | n,x::l=>(if keep n then x else none)::dropb keep (n+1) l
def settle (keep:Nat→Bool) (st:St):St:=
 let s:St:= { sl:=drops keep 0 st.sl,bx:=dropb keep 0 st.bx }
 {sl:=s.sl.map (x_xy s),bx:=s.bx.map fun b=>b.map fun q=>(min q.1 1,q.2.map (x_ic s)) }
def unkC (st:St):Cell→Cell
 | .val _ _ _=> .val .f .u ()
 | .nil _=> .val .f .u ()
 | .ref h t=>if okPl st h t then .val .f .u () else .dead
 | .win h t _ _=>if okPl st h t then .val .f .u () else .dead
 | .ptr n t _=>if okBx st n t then .val .f .u () else .dead
 | .dead=> .dead
def forgb (f:Nat→Bool) (st:St):Nat→List (Option (Nat×List Cell))→List (Option (Nat×List Cell))
 | _,[]=>[]
 | n,x::l=>(if f n then x.map fun q=>(q.1,q.2.map (unkC st)) else x)::forgb f st (n+1) l
def forget (f:Option (Nat→Bool)) (st:St):St:=match f with
 | none=>st
 | some f=> { sl:=st.sl,bx:=forgb f st 0 st.bx }
def fN {R:Type} (n:Nat) (k:Nat→R):R:=match n with | 0=>k 0 | m+1=>k (m+1)
def fB {R:Type} (b:Bool) (k:Bool→R):R:=match b with | true=>k true | false=>k false
def fMd {R:Type} (m:Md) (k:Md→R):R:=match m with | .f=>k .f | .r=>k .r | .x t=>fN t fun t=>k (.x t)
def fPl {R:Type} (p:Pl) (k:Pl→R):R:=match p with | ⟨b,n,c⟩=>fB b fun b=>fN n fun n=>fN c fun c=>k ⟨b,n,c⟩
def fCell {R:Type} (c:Cell) (k:Cell→R):R:=match c with
 | .val m e v=>fMd m fun m=>k (.val m e v)
 | .ref h t=>fPl h fun h=>fN t fun t=>k (.ref h t)
 | .win h t lo hi=>fPl h fun h=>fN t fun t=>k (.win h t lo hi)
 | .nil x=>k (.nil x)
 | .ptr n t off=>fN n fun n=>fN t fun t=>fN off fun off=>k (.ptr n t off)
 | .dead=>k .dead
def fList {α R:Type} (f : α→(α→R)→R):List α→(List α→R)→R
 | [],k=>k []
 | x::l,k=>f x fun y=>fList f l fun m=>k (y::m)
def fTup {R:Type} (y:Bool×List Cell) (k:Bool×List Cell→R):R:=match y with | (b,cs)=>fB b fun b=>fList fCell cs fun cs=>k (b,cs)
def fCap {R:Type} (x:SC) (k:SC→R):R:=match x with
 | .one c=>fCell c fun c=>k (.one c)
 | x=>k x
def fSC {R:Type} (x:SC) (k:SC→R):R:=match x with
 | .one c=>fCell c fun c=>k (.one c)
 | .agg cs=>fList fCell cs fun cs=>k (.agg cs)
 | .tup xs=>fList fTup xs fun xs=>k (.tup xs)
 | .pe e v off=>fN off fun off=>k (.pe e v off)
 | .ph h t j off=>fPl h fun h=>fN t fun t=>fN off fun off=>k (.ph h t j off)
 | .fn f cs=>fList fCap cs fun cs=>k (.fn f cs)
 | .dead=>k .dead
def fBx {R:Type} (x:Option (Nat×List Cell)) (k:Option (Nat×List Cell)→R):R:=match x with
 | none=>k none
 | some (t,cs)=>fN t fun t=>fList fCell cs fun cs=>k (some (t,cs))
def fSt {R:Type} (st:St) (k:St→R):R:=fList fSC st.sl fun sl=>fList fBx st.bx fun bx=>k ⟨sl,bx⟩
section
variable {R:Type}
theorem fN_eq (n:Nat) (k:Nat→R):fN n k=k n:=by cases n<;>rfl
theorem fB_eq (b:Bool) (k:Bool→R):fB b k=k b:=by cases b<;>rfl
theorem fMd_eq (m:Md) (k:Md→R):fMd m k=k m:=by cases m<;>simp [fMd,fN_eq]
theorem fPl_eq (p:Pl) (k:Pl→R):fPl p k=k p:=by simp [fPl,fN_eq,fB_eq]
theorem x_ny (c:Cell) (k:Cell→R):fCell c k=k c:=by cases c<;>simp [fCell,fN_eq,fMd_eq,fPl_eq]
theorem x_i3 {α : Type} {f : α→(α→R)→R} (h:∀ x k,f x k=k x):∀ (l:List α) (k:List α→R),fList f l k=k l
 | [],k=>rfl
 | x::l,k=>by simp [fList,h,x_i3 h l]
theorem fTup_eq (y:Bool×List Cell) (k:Bool×List Cell→R):fTup y k=k y:=by simp [fTup,fB_eq,x_i3 x_ny]
theorem fCap_eq (x:SC) (k:SC→R):fCap x k=k x:=by cases x<;>simp [fCap,x_ny]
theorem fSC_eq (x:SC) (k:SC→R):fSC x k=k x:=by cases x<;>simp [fSC,x_ny,x_i3 x_ny,x_i3 fTup_eq,x_i3 fCap_eq,fN_eq,fPl_eq]
theorem fBx_eq (x:Option (Nat×List Cell)) (k:Option (Nat×List Cell)→R):fBx x k=k x:=by
 cases x with
 | none=>rfl
 | some x=>simp [fBx,fN_eq,x_i3 x_ny]
theorem fSt_eq (st:St) (k:St→R):fSt st k=k st:=by simp [fSt,x_i3 fSC_eq,x_i3 fBx_eq]
end
inductive Ex where
 | normal | exit (id:Nat) | ret
 deriving DecidableEq
structure Hint where
 lasts:Nat→Nat→Bool
 keeps:Nat→Nat→Bool
 stays : Nat → Bool := fun _ => false           -- a condition that is asked again: what it was is known in its branches
 drp : Nat → Option (Nat → Bool) := fun _ => none -- variables that are forgotten behind a region
def condS (H:Hint) (n:Nat) (b:Bool) (st:St):St:=if H.stays n then setb st n b else { st with sl:=st.sl.set n .dead }
def loopN {R:Type} (body:St→(Ex→St→Option R)→Option R):Nat→St→(Ex→St→Option R)→Option R
 | 0,_,_=>none
 | n+1,st,k=>body st fun e st'=>match e with
  | .normal=>loopN body n st' k
  | e=>k e st'
noncomputable def run {R:Type} (T:Tab) (H:Hint) (K:Nat):Code→St→(Ex→St→Option R)→Option R
 | .skip,st,k=>k .normal st
 | .seq a b,st,k=>run T H K a st fun e st'=>match e with
  | .normal=>run T H K b st' k
  | e=>k e st'
 | .region id ops draw,st,k=>rops T (H.keeps id) ops.toList 0 ops.toList st [] fun st' lg=>
   if !draw || (fwd ops.toList && indepM (reachM ops.toList) (masks lg)) then fSt (forget (H.drp id) (settle (H.lasts id) st')) (k .normal) else none
 | .cond (.tmp n) x y,st,k=>match gets st n with
  | .one (.val .f .b b)=> @Bool.rec (fun _=>Option R) (run T H K y (condS H n false st) k) (run T H K x (condS H n true st) k) b
  | _=>none
 | .block id c,st,k=>run T H K c st fun e st'=>match e with
  | .exit j=>if j=id then k .normal st' else k (.exit j) st'
  | e=>k e st'
 | .loop c,st,k=>loopN (fun st k=>run T H K c st k) K st k
 | .exit id,st,k=>k (.exit id) st
 | .ret,st,k=>k .ret st
 | _,_,_=>none
end Go.Kn
namespace Go.Kn
inductive Tg where
 | out | lent | fr | bx (n:Nat) | row (h:Pl)
 deriving DecidableEq
def x_br {α : Type} (w:World) (ok:Nat→Prop) (wr:Bool) (R : α→List Value→Prop) (sz:Nat) (xs:List α) (sv:Value):Prop:=
 (∃ a,sv= .slice a 0 0∧xs=[]∧(wr=true→a=none))∨ ∃ b o cap cs ty fz,sv= .slice (some ⟨b,o,none⟩) xs.length cap∧ok b∧xs.length≤cap∧
  w.heap[b]?=some (.cells cs ty fz)∧o+(if wr then cap else xs.length)*sz≤cs.size∧
  (wr=true→ ∀ j,j<cs.size→ ¬ (fz.1≤j∧j<fz.2))∧
  ∀ i (h:i<xs.length),R xs[i] ((cs.toList.drop (o+i*sz)).take sz)
def isErr:Value→Bool→Prop
 | .nilIface,b=>b=false
 | .iface _ _,b=>b=true
 | _,_=>False
def x_d7 (v:Value):Prop:=(∀ a,v≠ .agg a)∧ ∀ a,v≠ .tuple a
def rep (w:World) (fr:Nat→Prop):(e:ET)→e.val→List Value→Prop
 | .i k,n,cs=>cs=[.int k n]
 | .b,v,cs=>cs=[.bool v]
 | .s,v,cs=>cs=[.string v]
 | .er,v,cs=> ∃ x,cs=[x]∧isErr x v
 | .u,_,cs=>cs=[]
 | .p x y,v,cs=> ∃ c d,cs=c++d∧rep w fr x v.1 c∧rep w fr y v.2 d
 | .sl x,v,cs=> ∃ sv,cs=[sv]∧x_br w fr false (rep w fr x) x.cells v sv
theorem x_br.nil {α : Type} {w:World} {ok:Nat→Prop} {wr:Bool} {R : α→List Value→Prop} {sz:Nat} {xs:List α} {sv:Value} (h:sv= .slice none 0 0) (hx:xs=[]):x_br w ok wr R sz xs sv:= .inl ⟨none,h,hx,fun _=>rfl⟩
theorem x_br.mono {α : Type} {w w':World} {ok ok':Nat→Prop} {wr:Bool} {R R' : α→List Value→Prop} {sz:Nat} {xs:List α} {sv:Value}
  (h:x_br w ok wr R sz xs sv) (hok:∀ b,ok b→ok' b) (hw:∀ b,ok b→w'.heap[b]?=w.heap[b]?) (hR:∀ x cs,x∈xs→R x cs→R' x cs) :
  x_br w' ok' wr R' sz xs sv:=by
 rcases h with h | ⟨b,o,cap,cs,ty,fz,h1,h2,h3,h4,h5,h6,h7⟩
 ·exact .inl h
 ·exact .inr ⟨b,o,cap,cs,ty,fz,h1,hok b h2,h3,(hw b h2).trans h4,h5,h6,fun i h=>hR _ _ (List.getElem_mem h) (h7 i h)⟩
theorem rep.mono {w w':World} {fr fr':Nat→Prop} (hfr:∀ b,fr b→fr' b) (hw:∀ b,fr b→w'.heap[b]?=w.heap[b]?) :
  ∀ (e:ET) (v:e.val) (cs:List Value),rep w fr e v cs→rep w' fr' e v cs
 | .i _,_,_,h=>h
 | .b,_,_,h=>h
 | .s,_,_,h=>h
 | .er,_,_,h=>h
 | .u,_,_,h=>h
 | .p x y,v,cs,h=>by
  obtain ⟨c,d,rfl,h1,h2⟩:=h
  exact ⟨c,d,rfl,rep.mono hfr hw x v.1 c h1,rep.mono hfr hw y v.2 d h2⟩
 | .sl x,v,cs,h=>by
  obtain ⟨sv,rfl,h⟩:=h
  exact ⟨sv,rfl,h.mono hfr hw fun a cs _ h=>rep.mono hfr hw x a cs h⟩
theorem rep.length {w:World} {fr:Nat→Prop}:∀ (e:ET) (v:e.val) (cs:List Value),rep w fr e v cs→cs.length=e.cells
 | .i _,_,_,h=>by simp only [rep] at h;subst h;rfl
 | .b,_,_,h=>by simp only [rep] at h;subst h;rfl
 | .s,_,_,h=>by simp only [rep] at h;subst h;rfl
 | .er,_,_,h=>by obtain ⟨x,rfl,_⟩:=h;rfl
 | .u,_,_,h=>by simp only [rep] at h;subst h;rfl
 | .p x y,v,cs,h=>by
  obtain ⟨c,d,rfl,h1,h2⟩:=h
  simp [ET.cells,rep.length x v.1 c h1,rep.length y v.2 d h2]
 | .sl x,v,cs,h=>by obtain ⟨sv,rfl,h⟩:=h;rfl
def vcs:Value→List Value
 | .agg cs=>cs.toList
 | .tuple vs=>vs.toList.flatMap fun | .agg cs=>cs.toList | v=>[v]
 | v=>[v]
structure Gh where
 γ : Nat→Tg
 bb:Nat→Nat
def bcell (w:World) (b o:Nat):Option Value:=match w.heap[b]? with
 | some (.cells c _ _)=>c[o]?
 | _=>none
def cAt (tm:Array Value) (w:World) (g:Gh) (h:Pl):Option Value:=
 if h.bx then bcell w (g.bb h.n) h.c else (vcs (tm.getD h.n undef))[h.c]?
def aAt (st:St) (h:Pl):Option Cell:=
 if h.bx then (getb st h.n h.c).map (·.2) else (gets st h.n).cells[h.c]?
def Gh.fr (g:Gh) (b:Nat):Prop:=g.γ b= .fr
def Gh.ro (g:Gh) (b:Nat):Prop:=g.γ b= .fr∨g.γ b= .lent
def Gh.own (g:Gh) (h:Pl) (b:Nat):Prop:=g.γ b= .row h
def lrep (w:World) (g:Gh) (ok:Nat→Prop) (wr:Bool) (e:ET) (v:e.val) (cv:Value):Prop:=match e,v with
 | .sl x,v=>x_br w ok wr (rep w g.fr x) x.cells v cv
 | .p _ _,_=>False
 | .u,_=>wr=false∧x_d7 cv
 | e,v=>wr=false∧rep w g.fr e v [cv]
def winRel (sz:Nat) (hv:Value) (lo hi:Nat) (cv:Value):Prop:=
 ((∃ a,hv= .slice a 0 0∧cv= .slice a 0 0)∧lo=0∧hi=0)∨
 ∃ b o len cap cap',hv= .slice (some ⟨b,o,none⟩) len cap∧lo≤hi∧hi≤len∧lo+cap'≤cap∧hi≤lo+cap'∧
  (cv= .slice (some ⟨b,o+lo*sz,none⟩) (hi-lo) cap'∨(hi=lo∧cv= .slice (some ⟨b,o,none⟩) 0 0))
def x_b5 (st:St) (tm:Array Value) (w:World) (g:Gh) (h:Pl):Cell→Value→Prop
 | .val .f e v,cv=>lrep w g g.fr false e v cv
 | .val .r e v,cv=>lrep w g g.ro false e v cv
 | .val (.x _) e v,cv=> ∃ x,e= .sl x∧lrep w g (g.own h) true e v cv
 | .ref p t,cv=> ∀ x (v:List x.val),aAt st p=some (.val (.x t) (.sl x) v)→cAt tm w g p=some cv
 | .win p t lo hi,cv=> ∀ x (v:List x.val),aAt st p=some (.val (.x t) (.sl x) v)→ ∃ hv,cAt tm w g p=some hv∧winRel x.cells hv lo hi cv
 | .nil _,cv=>cv= .slice none 0 0
 | .ptr n t off,cv=>okBx st n t=true→cv= .pointer (some ⟨g.bb n,off,none⟩)
 | .dead,_=>True
def shape (st:St) (tm:Array Value) (w:World) (g:Gh):SC→Value→Prop
 | .dead,_=>True
 | .one _,v=>(∀ a,v≠ .agg a)∧ ∀ a,v≠ .tuple a
 | .agg cs,v=> ∃ vs,v= .agg vs∧vs.size=cs.length
 | .tup xs,v=> ∃ vs:Array Value,v= .tuple vs∧vs.size=xs.length∧ ∀ i (h:i<xs.length) (h':i<vs.size),
   if xs[i].1 then ∃ c,vs[i]= .agg c∧c.size=xs[i].2.length else xs[i].2.length=1∧(∀ a,vs[i]≠ .agg a)∧ ∀ a,vs[i]≠ .tuple a
 | .pe e v off,cv=> ∃ b o cs ty fz,cv= .pointer (some ⟨b,o+off,none⟩)∧g.ro b∧w.heap[b]?=some (.cells cs ty fz)∧o+e.cells≤cs.size∧
   rep w g.fr e v ((cs.toList.drop o).take e.cells)
 | .ph p t idx off,cv=> ∀ x (v:List x.val),aAt st p=some (.val (.x t) (.sl x) v)→
   idx<v.length∧ ∃ b o len cap,cAt tm w g p=some (.slice (some ⟨b,o,none⟩) len cap)∧cv= .pointer (some ⟨b,o+idx*x.cells+off,none⟩)
 | .fn f cs,v=> ∃ vs:Array Value,v= .func (.func f) #[] vs∧vs.size=cs.length∧ ∀ i (h:i<cs.length) (h':i<vs.size),
   match cs[i] with | .one (.ptr n t off)=>okBx st n t=true→vs[i]= .pointer (some ⟨g.bb n,off,none⟩) | _=>True
inductive Key where
 | c (p:Pl) | b (n:Nat)
 deriving DecidableEq
def stC (q:Pl):Cell→List (Key×Nat)
 | .val (.x t) _ _=>[(.c q,t)]
 | .ref p t=>[(.c p,t)]
 | .win p t _ _=>[(.c p,t)]
 | .ptr n t _=>[(.b n,t)]
 | _=>[]
def stS:SC→List (Key×Nat)
 | .ph p t _ _=>[(.c p,t)]
 | .fn _ cs=>cs.flatMap fun | .one (.ptr n t _)=>[(.b n,t)] | _=>[]
 | _=>[]
class Ctx where
 at_:Nat→Prop
 ok:World→Prop
 stable:∀ w w':World,(∀ b,at_ b→w'.heap[b]?=w.heap[b]?)→ok w→ok w'
variable [Ctx]
def LibOk (w:World) (g:Gh):Prop:=(∀ b,Ctx.at_ b→g.γ b= .fr)∧Ctx.ok w
theorem LibOk.of {w w':World} {g g':Gh} (hfr:∀ b,g.γ b= .fr→g'.γ b= .fr∧w'.heap[b]?=w.heap[b]?) (h:LibOk w g):LibOk w' g':=
 ⟨fun b hb=>(hfr b (h.1 b hb)).1,Ctx.stable w w' (fun b hb=>(hfr b (h.1 b hb)).2) h.2⟩
theorem LibOk.tag {w:World} {g g':Gh} (hfr:∀ b,g.γ b= .fr→g'.γ b= .fr) (h:LibOk w g):LibOk w g':=⟨fun b hb=>hfr b (h.1 b hb),h.2⟩
structure Inv (D:Key×Nat→Prop) (st:St) (tm:Array Value) (w:World) (g:Gh):Prop where
 len:st.sl.length=tm.size
 shp:∀ n,n<tm.size→shape st tm w g (gets st n) (tm.getD n undef)
 cel:∀ h c,aAt st h=some c→ ∃ cv,cAt tm w g h=some cv∧x_b5 st tm w g h c cv
 box:∀ n t cs,st.bx.getD n none=some (t,cs)→D (.b n,t)∧g.γ (g.bb n)= .bx n∧ ∃ vals ty,w.heap[g.bb n]?=some (.cells vals ty (0,0))∧vals.size=cs.length
 uni:∀ b,g.γ b≠ .out→b<w.heap.size
 stm:∀ n, ∀ t∈stS (gets st n),D t
 stb:∀ h c,aAt st h=some c→ ∀ t∈stC h c,D t
 lib:LibOk w g
theorem x_ek {st:St} {n t:Nat}:okBx st n t=true↔ ∃ cs,st.bx.getD n none=some (t,cs):=by
 unfold okBx
 cases h:st.bx.getD n none with
 | none=>simp
 | some b=>obtain ⟨t',cs⟩:=b;simp
theorem lrep.mono {w w':World} {g g':Gh} {ok ok':Nat→Prop} {wr:Bool} {e:ET} {v:e.val} {cv:Value} (h:lrep w g ok wr e v cv)
  (hok:∀ b,ok b→ok' b∧w'.heap[b]?=w.heap[b]?) (hfr:∀ b,g.γ b= .fr→g'.γ b= .fr∧w'.heap[b]?=w.heap[b]?):lrep w' g' ok' wr e v cv:=by
 have hm:=fun (x:ET) v cs=>rep.mono (w:=w) (w':=w') (fr:=g.fr) (fr':=g'.fr) (fun b hb=>(hfr b hb).1) (fun b hb=>(hfr b hb).2) x v cs
 cases e with
 | sl x=>exact x_br.mono h (fun b hb=>(hok b hb).1) (fun b hb=>(hok b hb).2) fun a cs _ hr=>hm x a cs hr
 | p _ _=>exact h
 | u=>exact h
 | i k=>exact ⟨h.1,hm _ _ _ h.2⟩
 | b=>exact ⟨h.1,hm _ _ _ h.2⟩
 | s=>exact ⟨h.1,hm _ _ _ h.2⟩
 | er=>exact ⟨h.1,hm _ _ _ h.2⟩
inductive Like:SC→SC→Prop
 | same (x:SC):Like x x
 | one (c d:Cell):Like (.one c) (.one d)
 | agg (a b:List Cell) (h:a.length=b.length):Like (.agg a) (.agg b)
 | tup (a b:List (Bool×List Cell)) (h:a.map (fun x=>(x.1,x.2.length))=b.map (fun x=>(x.1,x.2.length))):Like (.tup a) (.tup b)
structure Chg (D D':Key×Nat→Prop) (st st':St) (tm tm':Array Value) (w w':World) (g g':Gh) (chg:Pl→Prop) (chs:Nat→Prop):Prop where
 len:st'.sl.length=tm'.size
 sz:tm'.size=tm.size
 a:∀ q, ¬ chg q→aAt st' q=aAt st q
 c:∀ q, ¬ chg q→ ∀ c,aAt st q=some c→cAt tm' w' g' q=cAt tm w g q
 fr:∀ b,g.γ b= .fr→g'.γ b= .fr∧w'.heap[b]?=w.heap[b]?
 lent:∀ b,g.γ b= .lent→g'.γ b= .lent∧w'.heap[b]?=w.heap[b]?
 row:∀ q t x (v:List x.val), ¬ chg q→aAt st q=some (.val (.x t) (.sl x) v)→ ∀ b,g.γ b= .row q→g'.γ b= .row q∧w'.heap[b]?=w.heap[b]?
 s:∀ n, ¬ chs n→n<tm.size→Like (gets st n) (gets st' n)∧tm'.getD n undef=tm.getD n undef
 s':∀ n,chs n→n<tm.size→shape st' tm' w' g' (gets st' n) (tm'.getD n undef)∧ ∀ t∈stS (gets st' n),D' t
 n:∀ q,chg q→ ∀ c,aAt st' q=some c→(∀ t∈stC q c,D' t)∧ ∃ cv,cAt tm' w' g' q=some cv∧x_b5 st' tm' w' g' q c cv
 x:∀ q,chg q→ ∀ t x (v:List x.val),aAt st' q=some (.val (.x t) (.sl x) v)→ ¬ D (.c q,t)∨
   ∃ v0:List x.val,aAt st q=some (.val (.x t) (.sl x) v0)∧cAt tm' w' g' q=cAt tm w g q∧v0.length≤v.length
 b:∀ n t cs,st'.bx.getD n none=some (t,cs)→(¬ D (.b n,t)∨ ∃ cs0,st.bx.getD n none=some (t,cs0)∧g'.bb n=g.bb n)∧
   D' (.b n,t)∧g'.γ (g'.bb n)= .bx n∧ ∃ vals ty,w'.heap[g'.bb n]?=some (.cells vals ty (0,0))∧vals.size=cs.length
 u:∀ b,g'.γ b≠ .out→b<w'.heap.size
 d:∀ t,D t→D' t
def noX:Cell→Prop
 | .val (.x _) _ _=>False
 | _=>True
section
variable {D D':Key×Nat→Prop} {st st':St} {tm tm':Array Value} {w w':World} {g g':Gh} {chg:Pl→Prop} {chs:Nat→Prop}
theorem Chg.ro (C:Chg D D' st st' tm tm' w w' g g' chg chs) (b:Nat) (hb:g.ro b):g'.ro b∧w'.heap[b]?=w.heap[b]?:=by
 rcases hb with hb | hb
 ·exact ⟨.inl (C.fr b hb).1,(C.fr b hb).2⟩
 ·exact ⟨.inr (C.lent b hb).1,(C.lent b hb).2⟩
theorem Chg.okb (C:Chg D D' st st' tm tm' w w' g g' chg chs) (n t:Nat) (ht:D (.b n,t)) (h:okBx st' n t=true):okBx st n t=true∧g'.bb n=g.bb n:=by
 obtain ⟨cs,hcs⟩:=x_ek.1 h
 rcases (C.b n t cs hcs).1 with hn | ⟨cs0,h0,hb⟩
 ·exact absurd ht hn
 ·exact ⟨x_ek.2 ⟨cs0,h0⟩,hb⟩
theorem Chg.ref (C:Chg D D' st st' tm tm' w w' g g' chg chs) (p:Pl) (t:Nat) (ht:D (.c p,t)) (x:ET) (v:List x.val) (hp:aAt st' p=some (.val (.x t) (.sl x) v)) :
  ∃ v0:List x.val,aAt st p=some (.val (.x t) (.sl x) v0)∧cAt tm' w' g' p=cAt tm w g p∧v0.length≤v.length:=by
 by_cases hc:chg p
 ·rcases C.x p hc t x v hp with hn | h
  ·exact absurd ht hn
  ·exact h
 ·have:=C.a p hc
  rw [hp] at this
  exact ⟨v,this.symm,C.c p hc _ this.symm,Nat.le_refl _⟩
theorem Chg.cell (C:Chg D D' st st' tm tm' w w' g g' chg chs) (q:Pl) (c:Cell) (cv:Value) (hq:(¬ chg q∧aAt st q=some c)∨noX c) (ht:∀ t∈stC q c,D t)
  (h:x_b5 st tm w g q c cv):x_b5 st' tm' w' g' q c cv:=by
 match c,h with
 | .val .f e v,h=>exact lrep.mono h (fun b hb=>C.fr b hb) C.fr
 | .val .r e v,h=>exact lrep.mono h C.ro C.fr
 | .val (.x t) e v,⟨x,he,h⟩=>
  rcases hq with ⟨hq,ha⟩ | hq
  ·subst he;exact ⟨x,rfl,lrep.mono h (fun b hb=>C.row q t x v hq ha b hb) C.fr⟩
  ·exact hq.elim
 | .ref p t,h=>intro x v hp;obtain ⟨v0,h0,hc,_⟩:=C.ref p t (ht _ (by simp [stC])) x v hp;rw [hc];exact h x v0 h0
 | .win p t lo hi,h=>intro x v hp;obtain ⟨v0,h0,hc,_⟩:=C.ref p t (ht _ (by simp [stC])) x v hp;rw [hc];exact h x v0 h0
 | .nil _,h=>exact h
 | .ptr n t off,h=>intro ho;obtain ⟨h1,h2⟩:=C.okb n t (ht _ (by simp [stC])) ho;rw [h2];exact h h1
 | .dead,_=>trivial
theorem Chg.shape (C:Chg D D' st st' tm tm' w w' g g' chg chs) {a a':SC} {v:Value} (hs:shape st tm w g a v) (hl:Like a a') (hD0:∀ t∈stS a,D t) :
  shape st' tm' w' g' a' v:=by
 cases hl with
 | one c d=>exact hs
 | agg cs ds hl=>obtain ⟨vs,h1,h2⟩:=hs;exact ⟨vs,h1,h2.trans hl⟩
 | tup xs ys hl=>
  obtain ⟨vs,h1,h2,h3⟩:=hs
  have hlen':xs.length=ys.length:=by have:=congrArg List.length hl;simpa using this
  refine ⟨vs,h1,h2.trans hlen',fun i h h'=>?_⟩
  have hi:=h3 i (by omega) h'
  have e1:(xs.map (fun x=>(x.1,x.2.length)))[i]'(by simp;omega)=(ys.map (fun x=>(x.1,x.2.length)))[i]'(by simp;omega):=by simp only [hl]
  simp only [List.getElem_map,Prod.mk.injEq] at e1
  rw [←e1.1, ←e1.2]
  exact hi
 | same=>
  cases a with
  | dead=>trivial
  | one c=>exact hs
  | agg cs=>exact hs
  | tup xs=>exact hs
  | pe e v' off=>
   obtain ⟨b,o,cs,ty,fz,h1,h2,h3,h4,h5⟩:=hs
   exact ⟨b,o,cs,ty,fz,h1,(C.ro b h2).1,(C.ro b h2).2.trans h3,h4,rep.mono (fun b hb=>(C.fr b hb).1) (fun b hb=>(C.fr b hb).2) _ _ _ h5⟩
  | ph p t idx off=>
   intro x v hp
   obtain ⟨v0,h0,hc,hl⟩:=C.ref p t (hD0 _ (by simp [stS])) x v hp
   obtain ⟨h1,b,o,len,cap,h2,h3⟩:=hs x v0 h0
   exact ⟨by omega,b,o,len,cap,hc.trans h2,h3⟩
  | fn f cs=>
   obtain ⟨vs,h1,h2,h3⟩:=hs
   refine ⟨vs,h1,h2,fun i h h'=>?_⟩
   have h4:=h3 i h h'
   have hm:cs[i]∈cs:=List.getElem_mem h
   revert h4 hm
   generalize cs[i]=c
   intro h4 hm
   match c,h4 with
   | .one (.ptr n t off),h4=>
    intro ho
    obtain ⟨h5,h6⟩:=C.okb n t (hD0 _ (by simp only [stS,List.mem_flatMap];exact ⟨_,hm,by simp⟩)) ho
    rw [h6]
    exact h4 h5
   | .one (.val ..),_ | .one (.ref ..),_ | .one (.win ..),_ | .one (.nil ..),_ | .one .dead,_ | .agg _,_ | .tup _,_ | .pe ..,_ | .ph ..,_ | .fn ..,_ | .dead,_=>trivial
theorem Chg.inv (C:Chg D D' st st' tm tm' w w' g g' chg chs) (I:Inv D st tm w g):Inv D' st' tm' w' g':=by
 have hst:∀ q c, ¬ chg q→aAt st' q=some c→aAt st q=some c:=fun q c hq h=>by rw [←C.a q hq];exact h
 refine ⟨C.len,?_,?_,fun n t cs h=>(C.b n t cs h).2,C.u,?_,?_,LibOk.of C.fr I.lib⟩
 ·intro n hn
  by_cases hc:chs n
  ·exact (C.s' n hc (by have:=C.sz;omega)).1
  obtain ⟨hl,htm⟩:=C.s n hc (by have:=C.sz;omega)
  rw [htm]
  exact C.shape (I.shp n (by have:=C.sz;omega)) hl (I.stm n)
 ·intro q c hc
  by_cases hq:chg q
  ·exact (C.n q hq c hc).2
  ·obtain ⟨cv,h1,h2⟩:=I.cel q c (hst q c hq hc)
   exact ⟨cv,by rw [C.c q hq c (hst q c hq hc)];exact h1,C.cell q c cv (.inl ⟨hq,hst q c hq hc⟩) (I.stb q c (hst q c hq hc)) h2⟩
 ·intro n t ht
  by_cases hn:n<tm.size
  ·by_cases hc:chs n
   ·exact (C.s' n hc hn).2 t ht
   ·obtain ⟨hl,_⟩:=C.s n hc hn
    have hD0:=I.stm n
    revert hl hD0 ht
    generalize gets st n=a
    generalize gets st' n=a'
    intro ht hl hD0
    cases hl with
    | same=>exact C.d t (hD0 t ht)
    | one c d=>simp [stS] at ht
    | agg cs ds hl=>simp [stS] at ht
    | tup xs ys hl=>simp [stS] at ht
  ·simp [gets,gd_,List.getElem?_eq_none (show st'.sl.length≤n by have:=C.sz;have:=C.len;omega),stS] at ht
 ·intro q c hc t ht
  by_cases hq:chg q
  ·exact (C.n q hq c hc).1 t ht
  ·exact C.d t (I.stb q c (hst q c hq hc) t ht)
end
structure Opd (D:Key×Nat→Prop) (st:St) (tm:Array Value) (w:World) (g:Gh) (sc:SC) (v:Value):Prop where
 shp:shape st tm w g sc v
 cel:∀ (j:Nat) c,sc.cells[j]?=some c→noX c∧(∀ t∈stC ⟨true,0,0⟩ c,D t)∧ ∃ cv,(vcs v)[j]?=some cv∧x_b5 st tm w g ⟨true,0,0⟩ c cv
 stm:∀ t∈stS sc,D t
theorem Chg.opd {D D':Key×Nat→Prop} {st st':St} {tm tm':Array Value} {w w':World} {g g':Gh} {chg:Pl→Prop} {chs:Nat→Prop}
  (C:Chg D D' st st' tm tm' w w' g g' chg chs) {sc:SC} {v:Value} (O:Opd D st tm w g sc v):Opd D' st' tm' w' g' sc v:=
 ⟨C.shape O.shp (.same _) O.stm,fun j c h=>by
  obtain ⟨h1,h2,cv,h3,h4⟩:=O.cel j c h
  exact ⟨h1,fun t ht=>C.d t (h2 t ht),cv,h3,C.cell _ c cv (.inr h1) h2 h4⟩,fun t ht=>C.d t (O.stm t ht)⟩
end Go.Kn
namespace Go.Kn
variable [Ctx]
def Pr.Ev {α : Type}:Pr α→St→α→List Loc→List Wr→Prop
 | .ret a',_,a,tr,ws=>a=a'∧tr=[]∧ws=[]
 | .fail,_,_,_,_=>False
 | .chk b p,st,a,tr,ws=>b=true∧p.Ev st a tr ws
 | .br b x y,st,a,tr,ws=>(b=true∧x.Ev st a tr ws)∨(b=false∧y.Ev st a tr ws)
 | .cal _ x p,st,a,tr,ws=> ∃ v,x=some v∧(p v).Ev st a tr ws
 | .rs n p,st,a,tr,ws=> ∃ tr',tr= .sl n::tr'∧(p (gets st n)).Ev st a tr' ws
 | .rb n c p,st,a,tr,ws=> ∃ x tr',getb st n c=some x∧tr= .bx n::tr'∧(p x).Ev st a tr' ws
 | .wr w p,st,a,tr,ws=> ∃ ws',ws=w::ws'∧p.Ev (w.put st) a tr ws'
 | .ln n c p,st,a,tr,ws=> ∃ tr',(∃ t cs,st.bx.getD n none=some (t,cs)∧cs.length=c)∧tr= .bx n::tr'∧p.Ev st a tr' ws
theorem x_qn (st:St) (w:Wr) (ws:List Wr):puts st (w::ws)=puts (w.put st) ws:=rfl
theorem x_hk (st:St) (a b:List Wr):puts st (a++b)=puts (puts st a) b:=by simp [puts]
theorem Pr.run_ev {α R:Type} (p:Pr α):∀ (st:St) (tr:List Loc) (ws:List Wr) (k : α→St→List Loc→List Wr→Option R) (r:R),
  p.run st tr ws k=some r→ ∃ a tr' ws',p.Ev st a tr' ws'∧k a (puts st ws') (tr'.reverse++tr) (ws++ws')=some r:=by
 induction p with
 | ret a=>intro st tr ws k r h;exact ⟨a,[],[],⟨rfl,rfl,rfl⟩,by simpa [Pr.run,puts] using h⟩
 | fail=>intro st tr ws k r h;simp [Pr.run] at h
 | chk b p ih=>
  intro st tr ws k r h
  cases b with
  | true=>obtain ⟨a,t,s,h1,h2⟩:=ih st tr ws k r h;exact ⟨a,t,s,⟨rfl,h1⟩,h2⟩
  | false=>simp [Pr.run] at h
 | br b x y ihx ihy=>
  intro st tr ws k r h
  cases b with
  | true=>obtain ⟨a,t,s,h1,h2⟩:=ihx st tr ws k r h;exact ⟨a,t,s, .inl ⟨rfl,h1⟩,h2⟩
  | false=>obtain ⟨a,t,s,h1,h2⟩:=ihy st tr ws k r h;exact ⟨a,t,s, .inr ⟨rfl,h1⟩,h2⟩
 | cal e x p ih=>
  intro st tr ws k r h
  cases x with
  | none=>simp [Pr.run] at h
  | some v=>obtain ⟨a,t,s,h1,h2⟩:=ih v st tr ws k r h;exact ⟨a,t,s,⟨v,rfl,h1⟩,h2⟩
 | rs n p ih=>
  intro st tr ws k r h
  obtain ⟨a,t,s,h1,h2⟩:=ih (gets st n) st _ ws k r h
  exact ⟨a, .sl n::t,s,⟨t,rfl,h1⟩,by simpa using h2⟩
 | rb n c p ih=>
  intro st tr ws k r h
  simp only [Pr.run] at h
  cases hb:getb st n c with
  | none=>simp [hb] at h
  | some x=>
   rw [hb] at h
   obtain ⟨a,t,s,h1,h2⟩:=ih x st _ ws k r h
   exact ⟨a, .bx n::t,s,⟨x,t,hb,rfl,h1⟩,by simpa using h2⟩
 | wr w p ih=>
  intro st tr ws k r h
  obtain ⟨a,t,s,h1,h2⟩:=ih (w.put st) tr _ k r h
  exact ⟨a,t,w::s,⟨s,rfl,h1⟩,by simpa [x_qn] using h2⟩
 | ln n c p ih=>
  intro st tr ws k r h
  simp only [Pr.run] at h
  cases hb:st.bx.getD n none with
  | none=>simp only [hb] at h;simp at h
  | some b=>
   simp only [hb] at h
   cases hc:b.2.length == c with
   | false=>rw [hc] at h;simp at h
   | true=>
    rw [hc] at h
    obtain ⟨a,t,s,h1,h2⟩:=ih st _ ws k r h
    exact ⟨a, .bx n::t,s,⟨t,⟨b.1,b.2,hb,beq_iff_eq.1 hc⟩,rfl,h1⟩,by simpa using h2⟩
theorem Pr.ev_bind {α β : Type} (p:Pr α) (f : α→Pr β):∀ (st:St) (b : β) (tr:List Loc) (ws:List Wr),(p.bind f).Ev st b tr ws→
  ∃ a tr1 ws1 tr2 ws2,p.Ev st a tr1 ws1∧(f a).Ev (puts st ws1) b tr2 ws2∧tr=tr1++tr2∧ws=ws1++ws2:=by
 induction p with
 | ret a=>intro st b tr ws h;exact ⟨a,[],[],tr,ws,⟨rfl,rfl,rfl⟩,h,rfl,rfl⟩
 | fail=>intro st b tr ws h;exact h.elim
 | chk c p ih=>intro st b tr ws ⟨hc,h⟩;obtain ⟨a,t1,w1,t2,w2,h1,h2⟩:=ih st b tr ws h;exact ⟨a,t1,w1,t2,w2,⟨hc,h1⟩,h2⟩
 | br c x y ihx ihy=>
  intro st b tr ws h
  rcases h with ⟨hc,h⟩ | ⟨hc,h⟩
  ·obtain ⟨a,t1,w1,t2,w2,h1,h2⟩:=ihx st b tr ws h;exact ⟨a,t1,w1,t2,w2, .inl ⟨hc,h1⟩,h2⟩
  ·obtain ⟨a,t1,w1,t2,w2,h1,h2⟩:=ihy st b tr ws h;exact ⟨a,t1,w1,t2,w2, .inr ⟨hc,h1⟩,h2⟩
 | cal e x p ih=>
  intro st b tr ws ⟨v,hv,h⟩
  obtain ⟨a,t1,w1,t2,w2,h1,h2⟩:=ih v st b tr ws h
  exact ⟨a,t1,w1,t2,w2,⟨v,hv,h1⟩,h2⟩
 | rs n p ih=>
  intro st b tr ws h
  obtain ⟨t,rfl,h⟩:=h
  obtain ⟨a,t1,w1,t2,w2,h1,h2,rfl,rfl⟩:=ih _ st b t ws h
  exact ⟨a,_::t1,w1,t2,w2,⟨t1,rfl,h1⟩,h2,rfl,rfl⟩
 | rb n c p ih=>
  intro st b tr ws h
  obtain ⟨x,t,hx,rfl,h⟩:=h
  obtain ⟨a,t1,w1,t2,w2,h1,h2,rfl,rfl⟩:=ih _ st b t ws h
  exact ⟨a,_::t1,w1,t2,w2,⟨x,t1,hx,rfl,h1⟩,h2,rfl,rfl⟩
 | wr w p ih=>
  intro st b tr ws h
  obtain ⟨s,rfl,h⟩:=h
  obtain ⟨a,t1,w1,t2,w2,h1,h2,rfl,rfl⟩:=ih (w.put st) b tr s h
  exact ⟨a,t1,w::w1,t2,w2,⟨w1,rfl,h1⟩,h2,rfl,rfl⟩
 | ln n c p ih=>
  intro st b tr ws h
  obtain ⟨t,hc,rfl,h⟩:=h
  obtain ⟨a,t1,w1,t2,w2,h1,h2,rfl,rfl⟩:=ih st b t ws h
  exact ⟨a,_::t1,w1,t2,w2,⟨t1,hc,rfl,h1⟩,h2,rfl,rfl⟩
def Pr.Ends {α : Type} (p:Pr α) (st:St) (a : α) (st':St):Prop:= ∃ tr ws,p.Ev st a tr ws∧st'=puts st ws
theorem Pr.eb {α β : Type} {p:Pr α} {f : α→Pr β} {st st':St} {b : β} (h:(p.bind f).Ends st b st'):∃ a s,p.Ends st a s∧(f a).Ends s b st':=by
 obtain ⟨tr,ws,h,rfl⟩:=h
 obtain ⟨a,t1,w1,t2,w2,h1,h2,rfl,rfl⟩:=p.ev_bind f st b tr ws h
 exact ⟨a,_,⟨t1,w1,h1,rfl⟩,t2,w2,h2,x_hk ..⟩
theorem Pr.er {α : Type} {x a : α} {st st':St} (h:(Pr.ret x).Ends st a st'):a=x∧st'=st:=by
 obtain ⟨tr,ws,⟨h,rfl,rfl⟩,rfl⟩:=h;exact ⟨h,rfl⟩
theorem Pr.ef {α : Type} {a : α} {st st':St} (h:(Pr.fail:Pr α).Ends st a st'):False:=by obtain ⟨tr,ws,h,rfl⟩:=h;exact h
theorem Pr.ek {α : Type} {b:Bool} {p:Pr α} {a : α} {st st':St} (h:(Pr.chk b p).Ends st a st'):b=true∧p.Ends st a st':=by
 obtain ⟨tr,ws,h,rfl⟩:=h;exact ⟨h.1,tr,ws,h.2,rfl⟩
theorem Pr.ends_br {α : Type} {b:Bool} {x y:Pr α} {a : α} {st st':St} (h:(Pr.br b x y).Ends st a st'):(b=true∧x.Ends st a st')∨(b=false∧y.Ends st a st'):=by
 obtain ⟨tr,ws,h,rfl⟩:=h
 rcases h with ⟨hb,h⟩ | ⟨hb,h⟩
 ·exact .inl ⟨hb,tr,ws,h,rfl⟩
 ·exact .inr ⟨hb,tr,ws,h,rfl⟩
theorem Pr.ends_cal {α : Type} {e:ET} {x:Option e.val} {p:e.val→Pr α} {a : α} {st st':St} (h:(Pr.cal e x p).Ends st a st'):∃ v,x=some v∧(p v).Ends st a st':=by
 obtain ⟨tr,ws,⟨v,hv,h⟩,rfl⟩:=h;exact ⟨v,hv,tr,ws,h,rfl⟩
theorem Pr.ends_rs {α : Type} {n:Nat} {p:SC→Pr α} {a : α} {st st':St} (h:(Pr.rs n p).Ends st a st'):(p (gets st n)).Ends st a st':=by
 obtain ⟨tr,ws,⟨t,_,h⟩,rfl⟩:=h;exact ⟨t,ws,h,rfl⟩
theorem Pr.ends_rb {α : Type} {n c:Nat} {p:Nat×Cell→Pr α} {a : α} {st st':St} (h:(Pr.rb n c p).Ends st a st'):∃ x,getb st n c=some x∧(p x).Ends st a st':=by
 obtain ⟨tr,ws,⟨x,t,hx,_,h⟩,rfl⟩:=h;exact ⟨x,hx,t,ws,h,rfl⟩
theorem Pr.ends_wr {α : Type} {w:Wr} {p:Pr α} {a : α} {st st':St} (h:(Pr.wr w p).Ends st a st'):p.Ends (w.put st) a st':=by
 obtain ⟨tr,ws,⟨s,rfl,h⟩,rfl⟩:=h;exact ⟨tr,s,h,rfl⟩
theorem Pr.ends_ln {α : Type} {n c:Nat} {p:Pr α} {a : α} {st st':St} (h:(Pr.ln n c p).Ends st a st'):(∃ t cs,st.bx.getD n none=some (t,cs)∧cs.length=c)∧p.Ends st a st':=by
 obtain ⟨tr,ws,⟨t,hc,_,h⟩,rfl⟩:=h;exact ⟨hc,t,ws,h,rfl⟩
theorem x_fq {α : Type} {x:Option α} {a : α} {st st':St} (h:(ofOpt x).Ends st a st'):x=some a∧st'=st:=by
 cases x with
 | none=>exact (Pr.ef h).elim
 | some y=>obtain ⟨rfl,rfl⟩:=Pr.er h;exact ⟨rfl,rfl⟩
theorem x_oj (c:Cell):∀ (n:Nat) (xs:List (Bool×List Cell)),(x_ux n c xs).flatMap (·.2)=(xs.flatMap (·.2)).set n c
 | n,[]=>by simp [x_ux]
 | n,x::xs=>by
  simp only [x_ux]
  by_cases h:n<x.2.length
  ·rw [if_pos h];simp [h]
  ·rw [if_neg h];simp [List.set_append,h,x_oj c (n-x.2.length) xs]
theorem x_pd (c:Cell):∀ (n:Nat) (xs:List (Bool×List Cell)),xs.map (fun x=>(x.1,x.2.length))=(x_ux n c xs).map (fun x=>(x.1,x.2.length))
 | n,[]=>rfl
 | n,x::xs=>by
  simp only [x_ux]
  by_cases h:n<x.2.length
  ·rw [if_pos h];simp
  ·rw [if_neg h];simp [x_pd c (n-x.2.length) xs]
theorem x_ni {n:Nat} {c:Cell} {s:SC} (h:n<s.cells.length):(setNth n c s).cells=s.cells.set n c:=by
 cases s with
 | one d=>
  have:n=0:=by simpa [SC.cells] using h
  subst this;rfl
 | agg cs=>rfl
 | tup xs=>exact x_oj c n xs
 | _=>simp [SC.cells] at h
theorem x_xe (n:Nat) (c:Cell) (s:SC):Like s (setNth n c s):=by
 cases s with
 | one d=>exact .one _ _
 | agg cs=>exact .agg _ _ (by simp)
 | tup xs=>exact .tup _ _ (x_pd c n xs)
 | _=>exact .same _
theorem x_0n {st:St} {n:Nat} {x:SC} (hn:n<st.sl.length) (q:Pl) :
  aAt { st with sl:=st.sl.set n x } q=if q.bx=false∧q.n=n then x.cells[q.c]? else aAt st q:=by
 unfold aAt
 cases hq:q.bx with
 | true=>simp [getb]
 | false=>
  by_cases h:q.n=n
  ·subst h;simp [gets,gd_,List.getElem?_set_self hn]
  ·simp [gets,gd_,List.getElem?_set_ne (Ne.symm h),h]
theorem x_0t {st:St} {n:Nat} {x:SC} (hn:n<st.sl.length) (m:Nat):gets { st with sl:=st.sl.set n x } m=if m=n then x else gets st m:=by
 by_cases h:m=n
 ·subst h;simp [gets,gd_,List.getElem?_set_self hn]
 ·simp [gets,gd_,List.getElem?_set_ne (Ne.symm h),h]
def x_xr (st:St) (n c:Nat) (x:Cell):St:= { st with bx:=st.bx.modify n fun b=>b.map fun q=>(q.1,q.2.set c x) }
theorem x_kq {st:St} {n c:Nat} {x:Cell} (m:Nat) :
  (x_xr st n c x).bx.getD m none=if m=n then (st.bx.getD m none).map fun q=>(q.1,q.2.set c x) else st.bx.getD m none:=by
 simp only [x_xr,gd_,List.getElem?_modify]
 by_cases h:n=m
 ·subst h;cases hb:st.bx[n]? with
  | none=>simp [hb]
  | some b=>cases b<;>simp [hb]
 ·cases hb:st.bx[m]?<;>simp [h,Ne.symm h,hb]
theorem x_xw {st:St} {n c:Nat} {x:Cell} (h:aAt st ⟨true,n,c⟩≠none) (q:Pl):aAt (x_xr st n c x) q=if q=⟨true,n,c⟩ then some x else aAt st q:=by
 obtain ⟨b,m,d⟩:=q
 cases b with
 | false=>simp [aAt,gets,x_xr]
 | true=>
  simp only [aAt,getb,if_true] at h ⊢
  rw [x_kq]
  by_cases hm:m=n
  ·subst hm
   generalize st.bx.getD m none=B at h ⊢
   cases B with
   | none=>simp at h
   | some b=>
    obtain ⟨t,cs⟩:=b
    simp only [Option.bind_some,Option.map_map,if_true,Option.map_some] at h ⊢
    by_cases hd:d=c
    ·subst hd
     have hl:d<cs.length:=by
      rcases Nat.lt_or_ge d cs.length with h' | h'
      ·exact h'
      ·simp [List.getElem?_eq_none h'] at h
     simp [List.getElem?_set_self hl]
    ·simp [List.getElem?_set_ne (Ne.symm hd),hd]
  ·simp [hm]
theorem toPl_ends {h:Pl} {c:Cell} {st st':St} (he:(toPl h c).Ends st () st') (hp:aAt st h≠none) :
  st'=if h.bx then x_xr st h.n h.c c else { st with sl:=st.sl.set h.n (setNth h.c c (gets st h.n)) } :=by
 unfold toPl at he
 cases hb:h.bx with
 | true=>rw [hb] at he;simp only [if_true] at he ⊢;obtain ⟨_,rfl⟩:=Pr.er (Pr.ends_wr he);rfl
 | false=>rw [hb] at he;obtain ⟨_,rfl⟩:=Pr.er (Pr.ends_wr (Pr.ends_rs he));rfl
structure Turns (st st':St) (f:Pl→Option Cell):Prop where
 at_:∀ q,aAt st' q=match f q with | some c=>some c | none=>aAt st q
 has:∀ q c,f q=some c→aAt st q≠none
 like:∀ n,Like (gets st n) (gets st' n)
 len:st'.sl.length=st.sl.length
 blen:st'.bx.length=st.bx.length
 bx:∀ n,((st'.bx.getD n none).map fun b=>(b.1,b.2.length))=((st.bx.getD n none).map fun b=>(b.1,b.2.length))
theorem lt_of_aAt {st:St} {h:Pl} (hb:h.bx=false) (hp:aAt st h≠none):h.n<st.sl.length∧h.c<(gets st h.n).cells.length:=by
 simp only [aAt,hb] at hp
 constructor
 ·rcases Nat.lt_or_ge h.n st.sl.length with h' | h'
  ·exact h'
  ·simp [gets,gd_,List.getElem?_eq_none h',SC.cells] at hp
 ·rcases Nat.lt_or_ge h.c (gets st h.n).cells.length with h' | h'
  ·exact h'
  ·simp [List.getElem?_eq_none h'] at hp
theorem x_do {h:Pl} {c:Cell} {st st':St} (he:(toPl h c).Ends st () st') (hp:aAt st h≠none) :
  Turns st st' fun q=>if q=h then some c else none:=by
 have he:=toPl_ends he hp
 obtain ⟨b,n,j⟩:=h
 cases b with
 | true=>
  simp only [if_true] at he
  subst he
  refine ⟨fun q=>?_,fun q d hq=>?_,fun m=>?_,rfl,?_,fun m=>?_⟩
  ·rw [x_xw hp];by_cases h:q=⟨true,n,j⟩<;>simp [h]
  ·by_cases h:q=⟨true,n,j⟩
   ·rw [h];exact hp
   ·simp [h] at hq
  ·exact .same _
  ·simp [x_xr]
  ·rw [x_kq]
   by_cases hm:m=n
   ·subst hm;cases st.bx.getD m none<;>simp
   ·simp [hm]
 | false=>
  have hl:=lt_of_aAt rfl hp
  simp only at hl
  simp only [Bool.false_eq_true,if_false] at he
  subst he
  refine ⟨fun q=>?_,fun q d hq=>?_,fun m=>?_,by simp,rfl,fun m=>rfl⟩
  ·rw [x_0n hl.1]
   by_cases h:q=⟨false,n,j⟩
   ·subst h;simp [x_ni hl.2,List.getElem?_set_self hl.2]
   ·rw [if_neg h]
    by_cases h2:q.bx=false∧q.n=n
    ·rw [if_pos h2,x_ni hl.2,List.getElem?_set_ne]
     ·simp [aAt,h2.1,h2.2]
     ·intro hj;apply h;obtain ⟨b,m,d⟩:=q;simp only at h2 hj;rw [h2.1,h2.2,hj]
    ·simp [h2]
  ·by_cases h:q=⟨false,n,j⟩
   ·rw [h];exact hp
   ·simp [h] at hq
  ·rw [x_0t hl.1]
   by_cases hm:m=n
   ·rw [if_pos hm,hm];exact x_xe _ _ _
   ·rw [if_neg hm];exact .same _
end Go.Kn
namespace Go.Kn
variable [Ctx]
structure Stp (w:World) (g:Gh) (w':World) (g':Gh):Prop where
 fr:∀ b,g.γ b= .fr→g'.γ b= .fr∧w'.heap[b]?=w.heap[b]?
 lent:∀ b,g.γ b= .lent→g'.γ b= .lent∧w'.heap[b]?=w.heap[b]?
 out:∀ b,b<w.heap.size→g.γ b= .out→g'.γ b= .out∧w'.heap[b]?=w.heap[b]?
 size:w.heap.size≤w'.heap.size
 oth:w'.os=w.os∧w'.tape=w.tape∧w'.output=w.output
theorem Stp.refl (w:World) (g:Gh):Stp w g w g:=⟨fun _ h=>⟨h,rfl⟩,fun _ h=>⟨h,rfl⟩,fun _ _ h=>⟨h,rfl⟩,Nat.le_refl _,rfl,rfl,rfl⟩
theorem Stp.trans {w w' w'':World} {g g' g'':Gh} (h:Stp w g w' g') (k:Stp w' g' w'' g''):Stp w g w'' g'':=
 ⟨fun b hb=>⟨(k.fr b (h.fr b hb).1).1,(k.fr b (h.fr b hb).1).2.trans (h.fr b hb).2⟩,
  fun b hb=>⟨(k.lent b (h.lent b hb).1).1,(k.lent b (h.lent b hb).1).2.trans (h.lent b hb).2⟩,
  fun b hl hb=>⟨(k.out b (Nat.lt_of_lt_of_le hl h.size) (h.out b hl hb).1).1,(k.out b (Nat.lt_of_lt_of_le hl h.size) (h.out b hl hb).1).2.trans (h.out b hl hb).2⟩,
  Nat.le_trans h.size k.size,k.oth.1.trans h.oth.1,k.oth.2.1.trans h.oth.2.1,k.oth.2.2.trans h.oth.2.2⟩
theorem Inv.turn {D D':Key×Nat→Prop} {st st':St} {tm:Array Value} {w:World} {g g':Gh} (I:Inv D st tm w g) {f:Pl→Option Cell} (T:Turns st st' f)
  (hbb:g'.bb=g.bb)
  (hfr:∀ b,g.γ b= .fr→g'.γ b= .fr) (hlent:∀ b,g.γ b= .lent→g'.γ b= .lent) (hbx:∀ b n,g.γ b= .bx n→g'.γ b= .bx n)
  (hout:∀ b,g'.γ b≠ .out→g.γ b≠ .out) (hrow:∀ q,f q=none→ ∀ b,g.γ b= .row q→g'.γ b= .row q)
  (hN:∀ q c,f q=some c→(∀ t∈stC q c,D' t)∧ ∀ cv,cAt tm w g q=some cv→x_b5 st' tm w g' q c cv)
  (hX:∀ q t x (v:List x.val),f q=some (.val (.x t) (.sl x) v)→ ¬ D (.c q,t)) (hD:∀ t,D t→D' t) :
  Chg D D' st st' tm tm w w g g' (fun q=>f q≠none) (fun _=>False):=by
 have hc:∀ q,cAt tm w g' q=cAt tm w g q:=fun q=>by simp [cAt,hbb]
 refine ⟨by rw [T.len];exact I.len,rfl,?_,(fun q _ c _=>hc q),(fun b h=>⟨hfr b h,rfl⟩),(fun b h=>⟨hlent b h,rfl⟩),
  (fun q t x v hq _ b hb=>⟨hrow q (Classical.not_not.1 hq) b hb,rfl⟩),(fun n _ _=>⟨T.like n,rfl⟩),(fun _ h=>h.elim),?_,?_,?_,?_,hD⟩
 ·intro q hq
  have:=T.at_ q
  rw [Classical.not_not.1 hq] at this
  exact this
 ·intro q hq c hqc
  have ha:=T.at_ q
  cases hf:f q with
  | none=>exact absurd hf hq
  | some d=>
   rw [hf] at ha
   simp only at ha
   rw [ha] at hqc
   obtain rfl:=Option.some.inj hqc
   have hp:=T.has q d hf
   cases hs:aAt st q with
   | none=>exact absurd hs hp
   | some e=>
    obtain ⟨cv,h1,_⟩:=I.cel q e hs
    exact ⟨(hN q d hf).1,cv,(hc q).trans h1,(hN q d hf).2 cv h1⟩
 ·intro q hq t x v hqc
  have ha:=T.at_ q
  cases hf:f q with
  | none=>exact absurd hf hq
  | some d=>
   rw [hf] at ha
   simp only at ha
   rw [ha] at hqc
   obtain rfl:=Option.some.inj hqc
   exact .inl (hX q t x v hf)
 ·intro n t cs hb
  have hm:=T.bx n
  rw [hb] at hm
  cases h0:st.bx.getD n none with
  | none=>rw [h0] at hm;simp at hm
  | some b=>
   obtain ⟨t0,cs0⟩:=b
   rw [h0] at hm
   simp only [Option.map_some,sj_,Prod.mk.injEq] at hm
   obtain ⟨rfl,hl⟩:=hm
   obtain ⟨h1,h2,vals,ty,h3,h4⟩:=I.box n _ cs0 h0
   exact ⟨.inr ⟨cs0,rfl,by rw [hbb]⟩,hD _ h1,by rw [hbb];exact hbx _ _ h2,vals,ty,by rw [hbb];exact h3,by omega⟩
 ·intro b hb
  exact I.uni b (hout b hb)
theorem x_br.weaken {α : Type} {w:World} {ok:Nat→Prop} {wr:Bool} {R : α→List Value→Prop} {sz:Nat} {xs:List α} {sv:Value}
  (h:x_br w ok wr R sz xs sv):x_br w ok false R sz xs sv:=by
 rcases h with h | ⟨b,o,cap,cs,ty,fz,h1,h2,h3,h4,h5,h6,h7⟩
 ·obtain ⟨a,h1,h2,_⟩:=h;exact .inl ⟨a,h1,h2,fun h=>by simp at h⟩
 ·refine .inr ⟨b,o,cap,cs,ty,fz,h1,h2,h3,h4,?_,fun h=>by simp at h,h7⟩
  cases wr with
  | false=>exact h5
  | true=>
   simp only [if_true,Bool.false_eq_true,if_false] at h5 ⊢
   have:=Nat.mul_le_mul_right sz h3
   omega
theorem x_br.win {α : Type} {w:World} {ok:Nat→Prop} {wr:Bool} {R : α→List Value→Prop} {sz:Nat} {xs:List α} {hv cv:Value} {lo hi:Nat}
  (h:x_br w ok wr R sz xs hv) (hw:winRel sz hv lo hi cv):x_br w ok wr R sz ((xs.take hi).drop lo) cv:=by
 rcases hw with ⟨⟨a,rfl,rfl⟩,rfl,rfl⟩ | ⟨b,o,len,cap,cap',rfl,h1,h2,h3,h4,hcv⟩
 ·rcases h with ⟨a',h,hx,hwr⟩ | ⟨b0,o0,cap0,cs,ty,fz,he,k2,k3,k4,k5,k6,k7⟩
  ·exact .inl ⟨a',h,by simp,hwr⟩
  ·have h0:xs=[]:=List.length_eq_zero_iff.1 (by simp only [Value.slice.injEq] at he;omega)
   subst h0
   simp only [Value.slice.injEq] at he
   obtain ⟨rfl,_,rfl⟩:=he
   exact .inr ⟨b0,o0,0,cs,ty,fz,rfl,k2,k3,k4,k5,k6,k7⟩
 ·rcases h with ⟨a',h,hx,hwr⟩ | ⟨b0,o0,cap0,cs,ty,fz,he,k2,k3,k4,k5,k6,k7⟩
  ·simp only [Value.slice.injEq] at h
   obtain ⟨rfl,rfl,rfl⟩:=h
   obtain rfl:hi=0:=by omega
   obtain rfl:lo=0:=by omega
   obtain rfl:cap'=0:=by omega
   rcases hcv with rfl | ⟨_,rfl⟩
   ·exact .inl ⟨some ⟨b,o+0*sz,none⟩,rfl,by simp,fun h=>by have:=hwr h;simp at this⟩
   ·exact .inl ⟨some ⟨b,o,none⟩,rfl,by simp,fun h=>by have:=hwr h;simp at this⟩
  ·simp only [Value.slice.injEq,sj_,Addr.mk.injEq,and_true] at he
   obtain ⟨⟨rfl,rfl⟩,rfl,rfl⟩:=he
   have hlen:((xs.take hi).drop lo).length=hi-lo:=by simp;omega
   have hcap:hi≤cap:=by omega
   rcases hcv with rfl | ⟨rfl,rfl⟩
   ·refine .inr ⟨b,o+lo*sz,cap',cs,ty,fz,by rw [hlen],k2,by omega,k4,?_,k6,?_⟩
    ·rw [hlen]
     cases wr with
     | true=>
      simp only [if_true] at k5 ⊢
      have:(lo+cap')*sz≤cap*sz:=Nat.mul_le_mul_right sz h3
      rw [Nat.add_mul] at this
      omega
     | false=>
      simp only [Bool.false_eq_true,if_false] at k5 ⊢
      have:(lo+(hi-lo))*sz≤xs.length*sz:=Nat.mul_le_mul_right sz (by omega)
      rw [Nat.add_mul] at this
      omega
    ·intro i hi'
     have h8:=k7 (lo+i) (by rw [hlen] at hi';omega)
     simp only [List.getElem_drop,List.getElem_take]
     have:o+lo*sz+i*sz=o+(lo+i)*sz:=by rw [Nat.add_mul];omega
     rw [this]
     exact h8
   ·refine .inr ⟨b,o,0,cs,ty,fz,by rw [hlen];simp,k2,by omega,k4,?_,k6,?_⟩
    ·rw [hlen]
     have:o≤cs.size:=by omega
     cases wr<;>simp<;>omega
    ·intro i hi'
     rw [hlen] at hi'
     omega
def Gh.rd (g:Gh) (b:Nat):Prop:=g.γ b= .fr∨g.γ b= .lent∨ ∃ h,g.γ b= .row h
theorem lrep.weaken {w:World} {g:Gh} {ok ok':Nat→Prop} {wr:Bool} {e:ET} {v:e.val} {cv:Value} (h:lrep w g ok wr e v cv)
  (hok:∀ b,ok b→ok' b):lrep w g ok' false e v cv:=by
 cases e with
 | sl x=>exact (x_br.weaken h).mono hok (fun _ _=>rfl) fun _ _ _ h=>h
 | p _ _=>exact h
 | u=>exact ⟨rfl,h.2⟩
 | i k=>exact ⟨rfl,h.2⟩
 | b=>exact ⟨rfl,h.2⟩
 | s=>exact ⟨rfl,h.2⟩
 | er=>exact ⟨rfl,h.2⟩
theorem x_vk {h:Pl} {st st':St} {c:Cell} (he:(atPl h).Ends st c st'):aAt st h=some c∧st'=st:=by
 unfold atPl at he
 unfold aAt
 cases hb:h.bx with
 | true=>
  rw [hb] at he
  obtain ⟨x,hx,he⟩:=Pr.ends_rb he
  obtain ⟨rfl,rfl⟩:=Pr.er he
  simp [hx]
 | false=>
  rw [hb] at he
  obtain ⟨hx,rfl⟩:=x_fq (Pr.ends_rs he)
  exact ⟨hx,rfl⟩
theorem x_bn {h:Pl} {t:Nat} {st st':St} {x:(e:ET)×List e.val} (he:(home h t).Ends st x st') :
  aAt st h=some (.val (.x t) (.sl x.1) x.2)∧st'=st:=by
 obtain ⟨c,s,h1,h2⟩:=Pr.eb he
 obtain ⟨h1,rfl⟩:=x_vk h1
 match c,h1,h2 with
 | .val (.x t') (.sl y) v,h1,h2=>
  by_cases ht:t'=t
  ·simp only [ht,if_true] at h2
   obtain ⟨rfl,rfl⟩:=Pr.er h2
   exact ⟨by rw [h1,ht],rfl⟩
  ·simp only [ht,if_false] at h2
   exact (Pr.ef h2).elim
 | .val (.x _) (.i _) _,_,h2 | .val (.x _) .b _,_,h2 | .val (.x _) .s _,_,h2 | .val (.x _) .er _,_,h2 | .val (.x _) .u _,_,h2 | .val (.x _) (.p _ _) _,_,h2
 | .val .f _ _,_,h2 | .val .r _ _,_,h2 | .ref ..,_,h2 | .win ..,_,h2 | .nil _,_,h2 | .ptr ..,_,h2 | .dead,_,h2=>exact (Pr.ef h2).elim
theorem Inv.own {D:Key×Nat→Prop} {st:St} {tm:Array Value} {w:World} {g:Gh} (I:Inv D st tm w g) {h:Pl} {t:Nat} {x:ET} {v:List x.val}
  (ha:aAt st h=some (.val (.x t) (.sl x) v)):∃ hv,cAt tm w g h=some hv∧x_br w (g.own h) true (rep w g.fr x) x.cells v hv:=by
 obtain ⟨cv,h1,y,he,h2⟩:=I.cel h _ ha
 exact ⟨cv,h1,h2⟩
theorem x_mu {D:Key×Nat→Prop} {st st':St} {tm:Array Value} {w:World} {g:Gh} (I:Inv D st tm w g) {c:Cell} {a:LV} {q:Pl} {cv:Value}
  (he:(look c).Ends st a st') (hc:x_b5 st tm w g q c cv):st'=st∧lrep w g g.rd false a.1 a.2 cv:=by
 match c,he,hc with
 | .val .f e v,he,hc=>obtain ⟨rfl,rfl⟩:=Pr.er he;exact ⟨rfl,lrep.weaken hc fun b hb=> .inl hb⟩
 | .val .r e v,he,hc=>obtain ⟨rfl,rfl⟩:=Pr.er he;exact ⟨rfl,lrep.weaken hc fun b hb=>hb.elim .inl fun h=> .inr (.inl h)⟩
 | .val (.x _) e v,he,hc=>obtain ⟨rfl,rfl⟩:=Pr.er he;obtain ⟨_,_,hc⟩:=hc;exact ⟨rfl,lrep.weaken hc fun b hb=> .inr (.inr ⟨_,hb⟩)⟩
 | .ref h t,he,hc=>
  obtain ⟨x,s,h1,h2⟩:=Pr.eb he
  obtain ⟨h1,rfl⟩:=x_bn h1
  obtain ⟨rfl,rfl⟩:=Pr.er h2
  obtain ⟨hv,h3,h4⟩:=I.own h1
  have h5:=hc _ _ h1
  rw [h3] at h5
  obtain rfl:=Option.some.inj h5
  exact ⟨rfl,lrep.weaken (e:= .sl x.1) h4 fun b hb=> .inr (.inr ⟨_,hb⟩)⟩
 | .win h t lo hi,he,hc=>
  obtain ⟨x,s,h1,h2⟩:=Pr.eb he
  obtain ⟨h1,rfl⟩:=x_bn h1
  obtain ⟨rfl,rfl⟩:=Pr.er h2
  obtain ⟨hv,h3,h4⟩:=I.own h1
  obtain ⟨hv',h5,h6⟩:=hc _ _ h1
  rw [h3] at h5
  obtain rfl:=Option.some.inj h5
  exact ⟨rfl,lrep.weaken (e:= .sl x.1) (x_br.win h4 h6) fun b hb=> .inr (.inr ⟨_,hb⟩)⟩
 | .nil x,he,hc=>obtain ⟨rfl,rfl⟩:=Pr.er he;exact ⟨rfl, .nil hc rfl⟩
 | .ptr ..,he,_=>exact (Pr.ef he).elim
 | .dead,he,_=>exact (Pr.ef he).elim
structure Goes (D D':Key×Nat→Prop) (st:St) (tm:Array Value) (w:World) (g:Gh) (st':St) (tm':Array Value) (w':World) (g':Gh):Prop where
 inv:Inv D' st' tm' w' g'
 stp:Stp w g w' g'
 opd:∀ sc v,Opd D st tm w g sc v→Opd D' st' tm' w' g' sc v
 cel:∀ q c cv,noX c→(∀ t∈stC q c,D t)→x_b5 st tm w g q c cv→x_b5 st' tm' w' g' q c cv
 d:∀ t,D t→D' t
theorem Goes.refl {D:Key×Nat→Prop} {st:St} {tm:Array Value} {w:World} {g:Gh} (I:Inv D st tm w g):Goes D D st tm w g st tm w g:=
 ⟨I, .refl w g,fun _ _ h=>h,fun _ _ _ _ _ h=>h,fun _ h=>h⟩
theorem Goes.trans {D D' D'':Key×Nat→Prop} {st st' st'':St} {tm tm' tm'':Array Value} {w w' w'':World} {g g' g'':Gh}
  (h:Goes D D' st tm w g st' tm' w' g') (k:Goes D' D'' st' tm' w' g' st'' tm'' w'' g''):Goes D D'' st tm w g st'' tm'' w'' g'':=
 ⟨k.inv,h.stp.trans k.stp,fun sc v o=>k.opd sc v (h.opd sc v o),fun q c cv hx ht hc=>k.cel q c cv hx (fun t hh=>h.d t (ht t hh)) (h.cel q c cv hx ht hc),fun t ht=>k.d t (h.d t ht)⟩
theorem Chg.goes {D D':Key×Nat→Prop} {st st':St} {tm tm':Array Value} {w w':World} {g g':Gh} {chg:Pl→Prop} {chs:Nat→Prop}
  (C:Chg D D' st st' tm tm' w w' g g' chg chs) (I:Inv D st tm w g) (S:Stp w g w' g'):Goes D D' st tm w g st' tm' w' g':=
 ⟨C.inv I,S,fun _ _ o=>C.opd o,fun q c cv hx ht hc=>C.cell q c cv (.inr hx) ht hc,C.d⟩
def Gh.tag (g:Gh) (h:Pl) (t:Tg):Gh:= { g with γ:=fun b=>if g.γ b= .row h then t else g.γ b }
theorem Stp.tag {w:World} {g:Gh} {h:Pl} {t:Tg} (ht:t≠ .out):Stp w g w (g.tag h t):=by
 refine ⟨fun b hb=>⟨?_,rfl⟩,fun b hb=>⟨?_,rfl⟩,fun b _ hb=>⟨?_,rfl⟩,Nat.le_refl _,rfl,rfl,rfl⟩<;>simp [Gh.tag,hb]
theorem tag_fr {g:Gh} {h:Pl} {t:Tg} {b:Nat} (hb:g.γ b= .fr):(g.tag h t).γ b= .fr:=by simp [Gh.tag,hb]
theorem x_1e {g:Gh} {h q:Pl} {t:Tg} {b:Nat} (hq:q≠h) (hb:g.γ b= .row q):(g.tag h t).γ b= .row q:=by simp [Gh.tag,hb,hq]
theorem x_t2 {g:Gh} {h:Pl} {t:Tg} {b:Nat} (hb:g.γ b= .row h):(g.tag h t).γ b=t:=by simp [Gh.tag,hb]
theorem x_pv {w:World} {g:Gh} {h:Pl} {t:Tg} {e:ET} {v:e.val} {cs:List Value} (hr:rep w g.fr e v cs):rep w (g.tag h t).fr e v cs:=
 rep.mono (fun b hb=>tag_fr hb) (fun _ _=>rfl) e v cs hr
section
variable {D:Key×Nat→Prop} {st st':St} {tm:Array Value} {w:World} {g:Gh}
theorem x_jg (I:Inv D st tm w g) {h:Pl} {t:Nat} {x:ET} {v:List x.val} (ha:aAt st h=some (.val (.x t) (.sl x) v))
  (he:(toPl h (.val .f (.sl x) v)).Ends st () st'):Goes D D st tm w g st' tm w (g.tag h .fr):=by
 obtain ⟨hv,h1,h2⟩:=I.own ha
 have T:=x_do he (by rw [ha];simp)
 refine (I.turn (g':=g.tag h .fr) T rfl (fun b hb=>tag_fr hb) ?_ ?_ ?_ ?_ ?_ ?_ (fun _ h=>h)).goes I (Stp.tag (by simp))
 ·intro b hb;simp [Gh.tag,hb]
 ·intro b n hb;simp [Gh.tag,hb]
 ·intro b hb h0;simp [Gh.tag,h0] at hb
 ·intro q hq b hb
  by_cases hqh:q=h
  ·simp [hqh] at hq
  ·exact x_1e hqh hb
 ·intro q c hq
  by_cases hqh:q=h
  ·subst hqh
   simp only [if_true,sj_] at hq
   subst hq
   refine ⟨by simp [stC],fun cv hcv=>?_⟩
   rw [h1] at hcv
   obtain rfl:=Option.some.inj hcv
   exact (x_br.weaken h2).mono (fun b hb=>x_t2 hb) (fun _ _=>rfl) fun a cs _ hr=>x_pv hr
  ·simp [hqh] at hq
 ·intro q t' y v' hq
  by_cases hqh:q=h<;>simp [hqh] at hq
theorem x_nf (I:Inv D st tm w g) {h:Pl} {t:Nat} {x:ET} {v:List x.val} (ha:aAt st h=some (.val (.x t) (.sl x) v))
  (he:(toPl h .dead).Ends st () st'):Goes D D st tm w g st' tm w g:=by
 have T:=x_do he (by rw [ha];simp)
 refine (I.turn (g':=g) T rfl (fun b hb=>hb) (fun b hb=>hb) (fun b n hb=>hb) (fun b hb=>hb) (fun q _ b hb=>hb) ?_ ?_ (fun _ h=>h)).goes I (Stp.refl w g)
 ·intro q c hq
  by_cases hqh:q=h
  ·simp only [hqh,if_true,sj_] at hq
   subst hq
   exact ⟨by simp [stC],fun cv _=>trivial⟩
  ·simp [hqh] at hq
 ·intro q t' y v' hq
  by_cases hqh:q=h<;>simp [hqh] at hq
theorem x_pm (I:Inv D st tm w g) {c:Cell} {a:LV} {q:Pl} {cv:Value} (he:(x_rc c).Ends st a st') (hc:x_b5 st tm w g q c cv) :
  ∃ g',Goes D D st tm w g st' tm w g'∧lrep w g' g'.fr false a.1 a.2 cv:=by
 match c,he,hc with
 | .val .f e v,he,hc=>obtain ⟨rfl,rfl⟩:=Pr.er he;exact ⟨g, .refl I,hc⟩
 | .val .r e v,he,hc=>exact (Pr.ef he).elim
 | .val (.x _) e v,he,hc=>exact (Pr.ef he).elim
 | .ref h t,he,hc=>
  obtain ⟨x,s,h1,h2⟩:=Pr.eb he
  obtain ⟨h1,rfl⟩:=x_bn h1
  obtain ⟨⟨⟩,s2,h2,h3⟩:=Pr.eb h2
  obtain ⟨rfl,rfl⟩:=Pr.er h3
  obtain ⟨hv,h4,h5⟩:=I.own h1
  have h6:=hc _ _ h1
  rw [h4] at h6
  obtain rfl:=Option.some.inj h6
  exact ⟨g.tag h .fr,x_jg I h1 h2,(x_br.weaken h5).mono (fun b hb=>x_t2 hb) (fun _ _=>rfl) fun a cs _ hr=>x_pv hr⟩
 | .win h t lo hi,he,hc=>
  obtain ⟨x,s,h1,h2⟩:=Pr.eb he
  obtain ⟨h1,rfl⟩:=x_bn h1
  obtain ⟨⟨⟩,s2,h2,h3⟩:=Pr.eb h2
  obtain ⟨rfl,rfl⟩:=Pr.er h3
  obtain ⟨hv,h4,h5⟩:=I.own h1
  obtain ⟨hv',h6,h7⟩:=hc _ _ h1
  rw [h4] at h6
  obtain rfl:=Option.some.inj h6
  exact ⟨g.tag h .fr,x_jg I h1 h2,(x_br.weaken (x_br.win h5 h7)).mono (fun b hb=>x_t2 hb) (fun _ _=>rfl) fun a cs _ hr=>x_pv hr⟩
 | .nil x,he,hc=>obtain ⟨rfl,rfl⟩:=Pr.er he;exact ⟨g, .refl I,x_br.nil hc rfl⟩
 | .ptr ..,he,_=>exact (Pr.ef he).elim
 | .dead,he,_=>exact (Pr.ef he).elim
theorem x_uj (I:Inv D st tm w g) {c:Cell} {a:LV} {q:Pl} {cv:Value} (he:(x_rz c).Ends st a st') (hc:x_b5 st tm w g q c cv) :
  Goes D D st tm w g st' tm w g∧ ∃ x, ∃ v:List x.val,a=⟨.sl x,v⟩∧((cv= .slice none 0 0∧v=[])∨
   ∃ h,aAt st' h=some .dead∧x_br w (g.own h) true (rep w g.fr x) x.cells v cv):=by
 match c,he,hc with
 | .val _ e v,he,hc=>exact (Pr.ef he).elim
 | .ref h t,he,hc=>
  obtain ⟨x,s,h1,h2⟩:=Pr.eb he
  obtain ⟨h1,rfl⟩:=x_bn h1
  obtain ⟨⟨⟩,s2,h2,h3⟩:=Pr.eb h2
  obtain ⟨rfl,rfl⟩:=Pr.er h3
  obtain ⟨hv,h4,h5⟩:=I.own h1
  have h6:=hc _ _ h1
  rw [h4] at h6
  obtain rfl:=Option.some.inj h6
  have T:=x_do h2 (by rw [h1];simp)
  exact ⟨x_nf I h1 h2,x.1,x.2,rfl, .inr ⟨h,by rw [T.at_];simp,h5⟩⟩
 | .win h t lo hi,he,hc=>
  obtain ⟨x,s,h1,h2⟩:=Pr.eb he
  obtain ⟨h1,rfl⟩:=x_bn h1
  obtain ⟨⟨⟩,s2,h2,h3⟩:=Pr.eb h2
  obtain ⟨rfl,rfl⟩:=Pr.er h3
  obtain ⟨hv,h4,h5⟩:=I.own h1
  obtain ⟨hv',h6,h7⟩:=hc _ _ h1
  rw [h4] at h6
  obtain rfl:=Option.some.inj h6
  have T:=x_do h2 (by rw [h1];simp)
  exact ⟨x_nf I h1 h2,x.1,_,rfl, .inr ⟨h,by rw [T.at_];simp,x_br.win h5 h7⟩⟩
 | .nil x,he,hc=>obtain ⟨rfl,rfl⟩:=Pr.er he;exact ⟨.refl I,x,[],rfl, .inl ⟨hc,rfl⟩⟩
 | .ptr ..,he,_=>exact (Pr.ef he).elim
 | .dead,he,_=>exact (Pr.ef he).elim
end
def plus (D:Key×Nat→Prop) (s:Key×Nat) (t:Key×Nat):Prop:=D t∨t=s
section
variable {D:Key×Nat→Prop} {st st':St} {tm:Array Value} {w:World} {g:Gh}
theorem Like.trans {a b c:SC} (h:Like a b) (k:Like b c):Like a c:=by
 cases h with
 | same=>exact k
 | one x y=>cases k<;>exact .one _ _
 | agg x y hl=>cases k with
  | same=>exact .agg _ _ hl
  | agg _ z hl'=>exact .agg _ _ (hl.trans hl')
 | tup x y hl=>cases k with
  | same=>exact .tup _ _ hl
  | tup _ z hl'=>exact .tup _ _ (hl.trans hl')
theorem Turns.two {s1 s2 s3:St} {p h:Pl} {c1 c2:Cell} (T1:Turns s1 s2 fun q=>if q=p then some c1 else none) (T2:Turns s2 s3 fun q=>if q=h then some c2 else none)
  (hne:h≠p) (hh:aAt s1 h≠none) (hp:aAt s1 p≠none):Turns s1 s3 fun q=>if q=h then some c2 else if q=p then some c1 else none:=by
 refine ⟨fun q=>?_,fun q c hq=>?_,fun n=>(T1.like n).trans (T2.like n),T2.len.trans T1.len,T2.blen.trans T1.blen,fun n=>(T2.bx n).trans (T1.bx n)⟩
 ·rw [T2.at_ q,T1.at_ q]
  by_cases e1:q=h
  ·simp [e1]
  ·by_cases e2:q=p
   ·subst e2;simp [e1]
   ·simp [e1,e2]
 ·by_cases e1:q=h
  ·rw [e1];exact hh
  ·by_cases e2:q=p
   ·rw [e2];exact hp
   ·simp [e1,e2] at hq
theorem x_st (I:Inv D st tm w g) {s t:Nat} {p h:Pl} {x:(x:ET)×List x.val} {v:List x.1.val} {c2:Cell} {cv0:Value} (hs:¬ D (.c p,s))
  (h3:aAt st h=some (.val (.x t) (.sl x.1) x.2)) (hne:h≠p)
  (T:Turns st st' fun q=>if q=h then some c2 else if q=p then some (.val (.x s) (.sl x.1) v) else none)
  (hc0:cAt tm w g p=some cv0) (k2:x_br w (g.own h) true (rep w g.fr x.1) x.1.cells v cv0) (hx2:noX c2) (hs2:∀ t∈stC h c2,plus D (.c p,s) t)
  (hc2:∀ cv,cAt tm w g h=some cv→x_b5 st' tm w (g.tag h (.row p)) h c2 cv) :
  Goes D (plus D (.c p,s)) st tm w g st' tm w (g.tag h (.row p)):=by
 refine (I.turn (D':=plus D (.c p,s)) (g':=g.tag h (.row p)) T rfl (fun b hb=>tag_fr hb) ?_ ?_ ?_ ?_ ?_ ?_ (fun t=> .inl)).goes I (Stp.tag (by simp))
 ·intro b hb;simp [Gh.tag,hb]
 ·intro b n hb;simp [Gh.tag,hb]
 ·intro b hb h0;simp [Gh.tag,h0] at hb
 ·intro q hq b hb
  by_cases hqh:q=h
  ·simp [hqh] at hq
  ·exact x_1e hqh hb
 ·intro q c hq
  by_cases e1:q=h
  ·subst e1
   simp only [if_true,sj_] at hq
   subst hq
   exact ⟨hs2,hc2⟩
  ·by_cases e2:q=p
   ·subst e2
    simp only [e1,if_false,if_true,sj_] at hq
    subst hq
    refine ⟨by simp [stC,plus],fun cv hcv=>⟨x.1,rfl,?_⟩⟩
    rw [hc0] at hcv
    obtain rfl:=Option.some.inj hcv
    exact x_br.mono k2 (fun b hb=>x_t2 hb) (fun _ _=>rfl) fun a cs _ hr=>x_pv hr
   ·simp [e1,e2] at hq
 ·intro q t' y v' hq
  by_cases e1:q=h
  ·simp only [e1,if_true,sj_] at hq
   rw [hq] at hx2
   exact hx2.elim
  ·by_cases e2:q=p
   ·rw [if_neg e1,if_pos e2] at hq
    simp only [sj_,Cell.val.injEq,Md.x.injEq] at hq
    rw [←hq.1,e2]
    exact hs
   ·simp [e1,e2] at hq
theorem x_zw (I:Inv D st tm w g) {s:Nat} {keep:Bool} {p:Pl} (hs:¬ D (.c p,s)) (he:(claim s keep p).Ends st () st') :
  ∃ g',Goes D (plus D (.c p,s)) st tm w g st' tm w g':=by
 have wk:∀ {D D':Key×Nat→Prop} {st:St} {g:Gh},Inv D st tm w g→(∀ t,D t→D' t)→Goes D D' st tm w g st tm w g:=fun I h=>
  ⟨⟨I.len,I.shp,I.cel,fun n t cs hb=>⟨h _ (I.box n t cs hb).1,(I.box n t cs hb).2⟩,I.uni,fun n t ht=>h _ (I.stm n t ht),fun q c hc t ht=>h _ (I.stb q c hc t ht),I.lib⟩, .refl _ _,
   fun sc v o=>⟨o.shp,fun j c hc=>⟨(o.cel j c hc).1,fun t ht=>h _ ((o.cel j c hc).2.1 t ht),(o.cel j c hc).2.2⟩,fun t ht=>h _ (o.stm t ht)⟩,fun _ _ _ _ _ h=>h,h⟩
 have hpl:∀ t,D t→plus D (.c p,s) t:=fun t=> .inl
 obtain ⟨c,s0,h1,h2⟩:=Pr.eb he
 obtain ⟨hp,rfl⟩:=x_vk h1
 match c,hp,h2 with
 | .val .f _ _,_,h2 | .val .r _ _,_,h2 | .val (.x _) _ _,_,h2 | .ptr ..,_,h2 | .dead,_,h2=>obtain ⟨_,rfl⟩:=Pr.er h2;exact ⟨g,wk I hpl⟩
 | .nil x,hp,h2=>
  have T:=x_do h2 (by rw [hp];simp)
  obtain ⟨cv0,hc0,hr0⟩:=I.cel p _ hp
  refine ⟨g,(I.turn (D':=plus D (.c p,s)) (g':=g) T rfl (fun b hb=>hb) (fun b hb=>hb) (fun b n hb=>hb) (fun b hb=>hb) (fun q _ b hb=>hb) ?_ ?_ hpl).goes I (Stp.refl w g)⟩
  ·intro q c hq
   by_cases hqh:q=p
   ·subst hqh
    simp only [if_true,sj_] at hq
    subst hq
    refine ⟨by simp [stC,plus],fun cv hcv=>⟨x,rfl,x_br.nil ?_ rfl⟩⟩
    rw [hc0] at hcv
    obtain rfl:=Option.some.inj hcv
    exact hr0
   ·simp [hqh] at hq
  ·intro q t' y v' hq
   by_cases hqh:q=p
   ·simp only [hqh,if_true,sj_,Cell.val.injEq,Md.x.injEq] at hq
    rw [←hq.1,hqh];exact hs
   ·simp [hqh] at hq
 | .ref h t,hp,h2=>
  cases keep with
  | true=>obtain ⟨_,rfl⟩:=Pr.er h2;exact ⟨g,wk I hpl⟩
  | false=>
   simp only [Bool.false_eq_true,if_false] at h2
   obtain ⟨x,s1,h3,h4⟩:=Pr.eb h2
   obtain ⟨h3,rfl⟩:=x_bn h3
   obtain ⟨⟨⟩,s2,h4,h5⟩:=Pr.eb h4
   have hne:h≠p:=fun e=>by rw [e,hp] at h3;simp at h3
   have T1:=x_do h4 (by rw [hp];simp)
   have hh:aAt s2 h≠none:=by rw [T1.at_];simp [hne,h3]
   have T2:=x_do h5 hh
   obtain ⟨hv,k1,k2⟩:=I.own h3
   obtain ⟨cv0,hc0,hr0⟩:=I.cel p _ hp
   have hpv:=hr0 _ _ h3
   rw [k1] at hpv
   obtain rfl:=Option.some.inj hpv
   exact ⟨g.tag h (.row p),x_st I hs h3 hne (T1.two T2 hne (by rw [h3];simp) (by rw [hp];simp)) hc0 k2 (by simp [noX]) (by simp [stC,plus]) fun cv hcv y v' hy=>by
    have:cv=hv:=by rw [k1] at hcv;exact (Option.some.inj hcv).symm
    subst this
    exact hc0⟩
 | .win h t lo hi,hp,h2=>
  obtain ⟨x,s1,h3,h4⟩:=Pr.eb h2
  obtain ⟨h3,rfl⟩:=x_bn h3
  obtain ⟨⟨⟩,s2,h4,h5⟩:=Pr.eb h4
  have hne:h≠p:=fun e=>by rw [e,hp] at h3;simp at h3
  have T1:=x_do h4 (by rw [hp];simp)
  have hh:aAt s2 h≠none:=by rw [T1.at_];simp [hne,h3]
  have T2:=x_do h5 hh
  obtain ⟨hv,k1,k2⟩:=I.own h3
  obtain ⟨cv0,hc0,hr0⟩:=I.cel p _ hp
  obtain ⟨hv',k3,k4⟩:=hr0 _ _ h3
  rw [k1] at k3
  obtain rfl:=Option.some.inj k3
  exact ⟨g.tag h (.row p),x_st I hs h3 hne (T1.two T2 hne (by rw [h3];simp) (by rw [hp];simp)) hc0 (x_br.win k2 k4) (by simp [noX]) (by simp [stC,plus]) fun cv hcv=>trivial⟩
end
end Go.Kn
namespace Go.Kn
variable [Ctx]
def x_v2 (st:St) (d:Nat) (sc:SC):St:= { st with sl:=st.sl.set d sc }
theorem x_yw {tm:Array Value} {d n:Nat} {v:Value} (hd:d<tm.size):(tm.setIfInBounds d v).getD n undef=if n=d then v else tm.getD n undef:=by
 by_cases h:n=d
 ·subst h;simp [Array.getD,hd]
 ·rw [if_neg h]
  by_cases hn:n<tm.size
  ·simp [Array.getD,hn,Array.getElem_setIfInBounds,Ne.symm h]
  ·simp [Array.getD,hn]
theorem x_04 {tm:Array Value} {w:World} {g:Gh} {d:Nat} {v:Value} (hd:d<tm.size) (q:Pl) :
  cAt (tm.setIfInBounds d v) w g q=if q.bx=false∧q.n=d then (vcs v)[q.c]? else cAt tm w g q:=by
 unfold cAt
 cases hq:q.bx with
 | true=>simp
 | false=>
  simp only [Bool.false_eq_true,if_false,x_yw hd]
  by_cases h:q.n=d<;>simp [h]
structure Mem (D:Key×Nat→Prop) (st:St) (tm:Array Value) (w:World) (g:Gh) (w':World) (g':Gh) (but:Pl→Prop):Prop where
 stp:Stp w g w' g'
 bb:g'.bb=g.bb
 live:∀ q t x (v:List x.val), ¬ but q→aAt st q=some (.val (.x t) (.sl x) v)→ ∀ b,g.γ b= .row q→g'.γ b= .row q∧w'.heap[b]?=w.heap[b]?
 box:∀ n b,g.γ b= .bx n→g'.γ b= .bx n∧w'.heap[b]?=w.heap[b]?
 uni:∀ b,g'.γ b≠ .out→b<w'.heap.size
theorem Mem.refl {D:Key×Nat→Prop} {st:St} {tm:Array Value} {w:World} {g:Gh} (I:Inv D st tm w g) (but:Pl→Prop):Mem D st tm w g w g but:=
 ⟨.refl _ _,rfl,fun _ _ _ _ _ _ _ h=>⟨h,rfl⟩,fun _ _ h=>⟨h,rfl⟩,I.uni⟩
theorem x_ig {w w':World} {b:Nat} (h:w'.heap[b]?=w.heap[b]?) (o:Nat):bcell w' b o=bcell w b o:=by simp [bcell,h]
theorem Inv.bcell {D:Key×Nat→Prop} {st:St} {tm:Array Value} {w w':World} {g g':Gh} (I:Inv D st tm w g) (hbb:g'.bb=g.bb)
  (hb:∀ n b,g.γ b= .bx n→g'.γ b= .bx n∧w'.heap[b]?=w.heap[b]?) {q:Pl} {c:Cell} (hq:q.bx=true) (ha:aAt st q=some c) :
  cAt tm w' g' q=cAt tm w g q:=by
 simp only [aAt,hq,if_true,getb] at ha
 cases hs:st.bx.getD q.n none with
 | none=>rw [hs] at ha;simp at ha
 | some b=>
  obtain ⟨t,cs⟩:=b
  obtain ⟨_,h2,_⟩:=I.box q.n t cs hs
  simp only [cAt,hq,if_true,hbb]
  exact x_ig (hb _ _ h2).2 _
section
variable {D D':Key×Nat→Prop} {st:St} {tm:Array Value} {w w':World} {g g':Gh} {d:Nat} {sc:SC} {v:Value}
theorem setG (I:Inv D st tm w g) (hd:d<tm.size) (M:Mem D st tm w g w' g' fun q=>q.bx=false∧q.n=d)
  (hsh:shape (x_v2 st d sc) (tm.setIfInBounds d v) w' g' sc v∧ ∀ t∈stS sc,D' t)
  (hcl:∀ (j:Nat) c,sc.cells[j]?=some c→(∀ t∈stC ⟨false,d,j⟩ c,D' t)∧ ∃ cv,(vcs v)[j]?=some cv∧
   x_b5 (x_v2 st d sc) (tm.setIfInBounds d v) w' g' ⟨false,d,j⟩ c cv)
  (hX:∀ (j:Nat) t x (v:List x.val),sc.cells[j]?=some (.val (.x t) (.sl x) v)→ ¬ D (.c ⟨false,d,j⟩,t))
  (hD:∀ t,D t→D' t) :
  Chg D D' st (x_v2 st d sc) tm (tm.setIfInBounds d v) w w' g g' (fun q=>q.bx=false∧q.n=d) (fun n=>n=d):=by
 have hd':d<st.sl.length:=by rw [I.len];exact hd
 refine ⟨by simp [x_v2,I.len],by simp,fun q hq=>?_,fun q hq c hc=>?_,M.stp.fr,M.stp.lent,fun q t x v hq ha b hb=>M.live q t x v hq ha b hb,fun n hn hl=>?_,
  fun n hn _=>?_,fun q hq c hc=>?_,fun q hq t x v' hc=>?_,fun n t cs hb=>?_,M.uni,hD⟩
 ·rw [x_v2,x_0n hd',if_neg hq]
 ·rw [x_04 hd,if_neg hq]
  cases hb:q.bx with
  | true=>exact I.bcell M.bb M.box hb hc
  | false=>simp [cAt,hb]
 ·exact ⟨by rw [x_v2,x_0t hd',if_neg hn];exact .same _,by rw [x_yw hd,if_neg hn]⟩
 ·subst hn;rw [x_yw hd,if_pos rfl,x_v2,x_0t hd',if_pos rfl];exact hsh
 ·rw [x_v2,x_0n hd',if_pos hq] at hc
  obtain ⟨bx,n,j⟩:=q
  simp only at hq
  obtain ⟨rfl,rfl⟩:=hq
  obtain ⟨h1,cv,h2,h3⟩:=hcl j c hc
  exact ⟨h1,cv,by rw [x_04 hd,if_pos ⟨rfl,rfl⟩];exact h2,h3⟩
 ·rw [x_v2,x_0n hd',if_pos hq] at hc
  obtain ⟨bx,n,j⟩:=q
  simp only at hq
  obtain ⟨rfl,rfl⟩:=hq
  exact .inl (hX j t x v' hc)
 ·obtain ⟨h1,h2,vals,ty,h3,h4⟩:=I.box n t cs hb
  exact ⟨.inr ⟨cs,hb,by rw [M.bb]⟩,hD _ h1,by rw [M.bb];exact (M.box _ _ h2).1,vals,ty,by rw [M.bb,(M.box _ _ h2).2];exact h3,h4⟩
theorem x_vg (I:Inv D st tm w g) (hd:d<tm.size) (O:Opd D st tm w g sc v):Goes D D st tm w g (x_v2 st d sc) (tm.setIfInBounds d v) w g:=by
 have hd':d<st.sl.length:=by rw [I.len];exact hd
 have hlive:∀ p t x (v':List x.val),aAt (x_v2 st d sc) p=some (.val (.x t) (.sl x) v')→aAt st p=some (.val (.x t) (.sl x) v')∧cAt (tm.setIfInBounds d v) w g p=cAt tm w g p:=by
  intro p t x v' hp
  rw [x_v2,x_0n hd'] at hp
  by_cases h:p.bx=false∧p.n=d
  ·rw [if_pos h] at hp;exact ((O.cel _ _ hp).1).elim
  ·rw [if_neg h] at hp;exact ⟨hp,by rw [x_04 hd,if_neg h]⟩
 have hcell:∀ q q' c cv,noX c→x_b5 st tm w g q c cv→x_b5 (x_v2 st d sc) (tm.setIfInBounds d v) w g q' c cv:=by
  intro q q' c cv hx h
  match c,hx,h with
  | .val .f e v,_,h=>exact h
  | .val .r e v,_,h=>exact h
  | .ref p t,_,h=>intro x v' hp;obtain ⟨h1,h2⟩:=hlive p t x v' hp;rw [h2];exact h x v' h1
  | .win p t lo hi,_,h=>intro x v' hp;obtain ⟨h1,h2⟩:=hlive p t x v' hp;rw [h2];exact h x v' h1
  | .nil _,_,h=>exact h
  | .ptr n t off,_,h=>exact h
  | .dead,_,_=>trivial
 have hstC:∀ q q' c,noX c→stC q c=stC q' c:=by
  intro q q' c hx
  cases c with
  | val m e v=>cases m<;>first | rfl | exact hx.elim
  | _=>rfl
 refine (setG (D':=D) I hd (Mem.refl I _) ⟨?_,O.stm⟩ ?_ ?_ fun _ h=>h).goes I (Stp.refl w g)
 ·have hs:=O.shp
  revert hs
  cases sc with
  | dead=>intro hs;trivial
  | one c=>intro hs;exact hs
  | agg cs=>intro hs;exact hs
  | tup xs=>intro hs;exact hs
  | pe e v' off=>intro hs;exact hs
  | ph p t idx off=>
   intro hs x v' hp
   obtain ⟨h1,h2⟩:=hlive p t x v' hp
   rw [h2]
   exact hs x v' h1
  | fn f cs=>intro hs;exact hs
 ·intro j c hc
  obtain ⟨h1,h2,cv,h3,h4⟩:=O.cel j c hc
  exact ⟨by rw [hstC _ ⟨true,0,0⟩ c h1];exact h2,cv,h3,hcell _ _ _ _ h1 h4⟩
 ·intro j t x v' hc
  exact ((O.cel j _ hc).1).elim
theorem x_u1 (I:Inv D st tm w g) (hd:d<tm.size) (M:Mem D st tm w g w' g' fun q=>q.bx=false∧q.n=d) {s:Nat} {x:ET} {xs:List x.val}
  (hs:¬ D (.c ⟨false,d,0⟩,s)) (hr:x_br w' (g'.own ⟨false,d,0⟩) true (rep w' g'.fr x) x.cells xs v) :
  Goes D (plus D (.c ⟨false,d,0⟩,s)) st tm w g (x_v2 st d (.one (.val (.x s) (.sl x) xs))) (tm.setIfInBounds d v) w' g':=by
 have hv:(∀ a,v≠ .agg a)∧(∀ a,v≠ .tuple a)∧vcs v=[v]:=by
  rcases hr with ⟨_,rfl,_⟩ | ⟨b,o,cap,cs,ty,fz,rfl,_⟩<;>simp [vcs]
 refine (setG (D':=plus D (.c ⟨false,d,0⟩,s)) (sc:= .one (.val (.x s) (.sl x) xs)) (v:=v) I hd M ⟨⟨hv.1,hv.2.1⟩,by simp [stS]⟩ ?_ ?_ fun _ h=> .inl h).goes I M.stp
 ·intro j c hc
  cases j with
  | zero=>
   simp only [SC.cells,List.getElem?_cons_zero,sj_] at hc
   subst hc
   exact ⟨by simp [stC,plus],v,by rw [hv.2.2];rfl,x,rfl,hr⟩
  | succ j=>simp [SC.cells] at hc
 ·intro j t y v' hc
  cases j with
  | zero=>
   simp only [SC.cells,List.getElem?_cons_zero,sj_,Cell.val.injEq,Md.x.injEq] at hc
   rw [←hc.1]
   exact hs
  | succ j=>simp [SC.cells] at hc
end
def x_o5 (D:Key×Nat→Prop) (s:Nat):Prop:= ∀ k, ¬ D (k,s)
theorem x_gj {w:World} {s:Nat} {keep bx:Bool} {n:Nat}:∀ (k c:Nat) {D:Key×Nat→Prop} {st st':St} {tm:Array Value} {g:Gh},Inv D st tm w g→
  (∀ j,c≤j→ ¬ D (.c ⟨bx,n,j⟩,s))→(x_uu s keep bx n c k).Ends st () st'→
  ∃ D' g',Goes D D' st tm w g st' tm w g'∧(∀ q t,D' (q,t)→D (q,t)∨t=s∧ ∃ j,c≤j∧j<c+k∧q= .c ⟨bx,n,j⟩)
 | 0,c,D,st,st',tm,g,I,hf,he=>by
  obtain ⟨_,rfl⟩:=Pr.er he
  exact ⟨D,g, .refl I,fun q t h=> .inl h⟩
 | k+1,c,D,st,st',tm,g,I,hf,he=>by
  obtain ⟨⟨⟩,s1,h1,h2⟩:=Pr.eb he
  obtain ⟨g1,G1⟩:=x_zw I (hf c (Nat.le_refl _)) h1
  obtain ⟨D',g',G2,h3⟩:=x_gj k (c+1) G1.inv (fun j hj h=>by
   rcases h with h | h
   ·exact hf j (by omega) h
   ·simp only [Prod.mk.injEq,Key.c.injEq,Pl.mk.injEq,true_and,and_true] at h
    omega) h2
  refine ⟨D',g',G1.trans G2,fun q t h=>?_⟩
  rcases h3 q t h with (h | h) | ⟨h,j,h4,h5,h6⟩
  ·exact .inl h
  ·simp only [Prod.mk.injEq] at h
   exact .inr ⟨h.2,c,Nat.le_refl _,by omega,h.1⟩
  ·exact .inr ⟨h,j,by omega,by omega,h6⟩
end Go.Kn
namespace Go.Kn
variable [Ctx]
theorem x_q1 {st:St} {h:Pl} {t:Nat}:okPl st h t=true↔ ∃ e v,aAt st h=some (.val (.x t) e v):=by
 unfold okPl
 show (match aAt st h with | some (.val (.x t') _ _)=>t' == t | _=>false)=true↔_
 cases ha:aAt st h with
 | none=>simp
 | some c=>
  cases c with
  | val m e v=>
   cases m with
   | x t'=>
    simp only [beq_iff_eq]
    constructor
    ·rintro rfl;exact ⟨e,v,rfl⟩
    ·rintro ⟨e',v',h⟩;simp only [sj_,Cell.val.injEq,Md.x.injEq] at h;exact h.1
   | f=>simp
   | r=>simp
  | _=>simp
theorem x_vc (keep:Nat→Bool):∀ (k:Nat) (l:List SC) (n:Nat),(drops keep k l).getD n .dead=if keep (k+n) then l.getD n .dead else .dead
 | k,[],n=>by simp [drops]
 | k,x::l,0=>by simp [drops]
 | k,x::l,n+1=>by
  have:=x_vc keep (k+1) l n
  simp only [gd_] at this
  simp only [drops,gd_,List.getElem?_cons_succ,this]
  rw [show k+1+n=k+(n+1) by omega]
theorem x_m7 (keep:Nat→Bool):∀ (k:Nat) (l:List (Option (Nat×List Cell))) (n:Nat),(dropb keep k l).getD n none=if keep (k+n) then l.getD n none else none
 | k,[],n=>by simp [dropb]
 | k,x::l,0=>by simp [dropb]
 | k,x::l,n+1=>by
  have:=x_m7 keep (k+1) l n
  simp only [gd_] at this
  simp only [dropb,gd_,List.getElem?_cons_succ,this]
  rw [show k+1+n=k+(n+1) by omega]
theorem x_vm (keep:Nat→Bool):∀ (k:Nat) (l:List SC),(drops keep k l).length=l.length
 | _,[]=>rfl
 | k,x::l=>by simp [drops,x_vm keep (k+1) l]
def x_mf (keep:Nat→Bool) (st:St):St:= { sl:=drops keep 0 st.sl,bx:=dropb keep 0 st.bx }
def x_o9 (s:St):St:= { sl:=s.sl.map (x_xy s),bx:=s.bx.map fun b=>b.map fun q=>(min q.1 1,q.2.map (x_ic s)) }
theorem settle_eq (keep:Nat→Bool) (st:St):settle keep st=x_o9 (x_mf keep st):=rfl
theorem x_p9 (keep:Nat→Bool) (st:St) (n:Nat):gets (x_mf keep st) n=if keep n then gets st n else .dead:=by
 simp only [gets,x_mf,x_vc,Nat.zero_add]
theorem aAt_drop (keep:Nat→Bool) (st:St) (q:Pl):aAt (x_mf keep st) q=if keep q.n then aAt st q else none:=by
 unfold aAt
 cases q.bx with
 | true=>
  simp only [if_true,getb,x_mf,x_m7,Nat.zero_add]
  by_cases h:keep q.n=true<;>simp [h]
 | false=>
  simp only [Bool.false_eq_true,if_false,x_p9]
  by_cases h:keep q.n=true<;>simp [h,SC.cells]
variable {D:Key×Nat→Prop} {st:St} {tm:Array Value} {w:World} {g:Gh}
theorem x_pq {s:St} (ha:∀ p t e v,aAt s p=some (.val (.x t) e v)→aAt st p=some (.val (.x t) e v)) (hb:∀ n t,okBx s n t=true→okBx st n t=true) {q:Pl} {c:Cell} {cv:Value}
  (h:x_b5 st tm w g q c cv):x_b5 s tm w g q c cv:=by
 match c,h with
 | .val .f e v,h=>exact h
 | .val .r e v,h=>exact h
 | .val (.x t) e v,h=>exact h
 | .ref p t,h=>intro x v hp;exact h x v (ha _ _ _ _ hp)
 | .win p t lo hi,h=>intro x v hp;exact h x v (ha _ _ _ _ hp)
 | .nil _,h=>exact h
 | .ptr n t off,h=>intro ho;exact h (hb _ _ ho)
 | .dead,_=>trivial
theorem Inv.drop (I:Inv D st tm w g) (keep:Nat→Bool):Inv D (x_mf keep st) tm w g:=by
 have hbx:∀ n,(x_mf keep st).bx.getD n none=if keep n then st.bx.getD n none else none:=fun n=>by simp only [x_mf,x_m7,Nat.zero_add]
 have ha:∀ p c,aAt (x_mf keep st) p=some c→aAt st p=some c:=fun p c h=>by
  rw [aAt_drop] at h
  by_cases hk:keep p.n=true<;>simp [hk] at h
  exact h
 have hb:∀ n t,okBx (x_mf keep st) n t=true→okBx st n t=true:=fun n t h=>by
  rw [x_ek] at h ⊢
  obtain ⟨cs,h⟩:=h
  rw [hbx] at h
  by_cases hk:keep n=true<;>simp only [hk,if_true,Bool.false_eq_true,if_false] at h
  ·exact ⟨cs,h⟩
  ·simp at h
 refine ⟨by simp [x_mf,x_vm,I.len],fun n hn=>?_,fun q c hc=>?_,fun n t cs h=>?_,I.uni,fun n t ht=>?_,fun q c hc=>I.stb q c (ha q c hc),I.lib⟩
 ·rw [x_p9]
  by_cases hk:keep n=true
  ·rw [if_pos hk]
   have hs:=I.shp n hn
   revert hs
   generalize gets st n=a
   cases a with
   | ph p t idx off=>intro hs x v hp;exact hs x v (ha _ _ hp)
   | fn f cs=>
    intro hs
    obtain ⟨vs,h1,h2,h3⟩:=hs
    refine ⟨vs,h1,h2,fun i h h'=>?_⟩
    have h4:=h3 i h h'
    revert h4
    generalize cs[i]=c
    intro h4
    match c,h4 with
    | .one (.ptr n t off),h4=>exact fun ho=>h4 (hb _ _ ho)
    | .one (.val ..),_ | .one (.ref ..),_ | .one (.win ..),_ | .one (.nil ..),_ | .one .dead,_ | .agg _,_ | .tup _,_ | .pe ..,_ | .ph ..,_ | .fn ..,_ | .dead,_=>trivial
   | _=>intro hs;exact hs
  ·rw [if_neg hk];trivial
 ·obtain ⟨cv,h1,h2⟩:=I.cel q c (ha q c hc)
  exact ⟨cv,h1,x_pq (fun p t e v=>ha p _) hb h2⟩
 ·rw [hbx] at h
  by_cases hk:keep n=true
  ·rw [if_pos hk] at h;exact I.box n t cs h
  ·rw [if_neg hk] at h;simp at h
 ·rw [x_p9] at ht
  by_cases hk:keep n=true
  ·rw [if_pos hk] at ht;exact I.stm n t ht
  ·rw [if_neg hk] at ht;simp [stS] at ht
theorem x_xk (s:St) (a:SC):(x_xy s a).cells=a.cells.map (x_ic s):=by
 cases a with
 | ph p t idx off=>simp only [x_xy];split<;>simp [SC.cells]
 | tup xs=>simp [x_xy,SC.cells,List.flatMap_map,List.map_flatMap]
 | _=>simp [x_xy,SC.cells]
theorem x_qx (s:St) (n:Nat):gets (x_o9 s) n=x_xy s (gets s n):=by
 simp only [gets,x_o9,gd_,List.getElem?_map]
 cases s.sl[n]? with
 | none=>simp [x_xy]
 | some a=>simp
theorem x_x1 (s:St) (n:Nat):(x_o9 s).bx.getD n none=(s.bx.getD n none).map fun q=>(min q.1 1,q.2.map (x_ic s)):=by
 simp only [x_o9,gd_,List.getElem?_map]
 cases s.bx[n]? with
 | none=>simp
 | some a=>simp
theorem x_uo (s:St) (q:Pl):aAt (x_o9 s) q=(aAt s q).map (x_ic s):=by
 unfold aAt
 cases q.bx with
 | true=>
  simp only [if_true,getb,x_x1]
  cases s.bx.getD q.n none with
  | none=>rfl
  | some b=>simp;rfl
 | false=>simp [x_qx,x_xk]
theorem normC_x {s:St} {c:Cell} {t:Nat} {x:ET} {v:List x.val} (h:x_ic s c= .val (.x t) (.sl x) v):t=0∧ ∃ t',c= .val (.x t') (.sl x) v:=by
 cases c with
 | val m e v'=>
  cases m with
  | x t'=>
   simp only [x_ic,Cell.val.injEq,Md.x.injEq] at h
   obtain ⟨h1,h2,h3⟩:=h
   subst h2
   simp only [heq_eq_eq] at h3
   subst h3
   exact ⟨h1.symm,t',rfl⟩
  | f=>simp [x_ic] at h
  | r=>simp [x_ic] at h
 | ref p t'=>simp only [x_ic] at h;split at h<;>simp at h
 | win p t' lo hi=>simp only [x_ic] at h;split at h<;>simp at h
 | nil y=>simp [x_ic] at h
 | ptr n t' off=>simp only [x_ic] at h;split at h<;>simp at h
 | dead=>simp [x_ic] at h
theorem Inv.norm (I:Inv D st tm w g):Inv (fun k=>k.2≤1) (x_o9 st) tm w g:=by
 have hown:∀ p t x (v:List x.val),aAt (x_o9 st) p=some (.val (.x t) (.sl x) v)→ ∃ t',aAt st p=some (.val (.x t') (.sl x) v):=fun p t x v h=>by
  rw [x_uo] at h
  cases ha:aAt st p with
  | none=>rw [ha] at h;simp at h
  | some c=>
   rw [ha] at h
   obtain ⟨_,t',rfl⟩:=normC_x (Option.some.inj h)
   exact ⟨t',rfl⟩
 have hcell:∀ q c cv,x_b5 st tm w g q c cv→x_b5 (x_o9 st) tm w g q (x_ic st c) cv:=fun q c cv h=>by
  match c,h with
  | .val .f e v,h=>exact h
  | .val .r e v,h=>exact h
  | .val (.x t) e v,h=>exact h
  | .ref p t,h=>
   simp only [x_ic]
   by_cases ho:okPl st p t=true
   ·rw [if_pos ho]
    intro x v hp
    obtain ⟨t',h1⟩:=hown p 0 x v hp
    obtain ⟨e0,v0,h2⟩:=x_q1.1 ho
    rw [h1] at h2
    simp only [sj_,Cell.val.injEq,Md.x.injEq] at h2
    rw [h2.1] at h1
    exact h x v h1
   ·rw [if_neg ho];trivial
  | .win p t lo hi,h=>
   simp only [x_ic]
   by_cases ho:okPl st p t=true
   ·rw [if_pos ho]
    intro x v hp
    obtain ⟨t',h1⟩:=hown p 0 x v hp
    obtain ⟨e0,v0,h2⟩:=x_q1.1 ho
    rw [h1] at h2
    simp only [sj_,Cell.val.injEq,Md.x.injEq] at h2
    rw [h2.1] at h1
    exact h x v h1
   ·rw [if_neg ho];trivial
  | .nil _,h=>exact h
  | .ptr n t off,h=>
   simp only [x_ic]
   by_cases ho:okBx st n t=true
   ·rw [if_pos ho];exact fun _=>h ho
   ·rw [if_neg ho];trivial
  | .dead,_=>trivial
 refine ⟨by simp [x_o9,I.len],fun n hn=>?_,fun q c hc=>?_,fun n t cs h=>?_,I.uni,fun n t ht=>?_,fun q c hc t ht=>?_,I.lib⟩
 ·rw [x_qx]
  have hs:=I.shp n hn
  revert hs
  generalize gets st n=a
  generalize tm.getD n undef=v
  intro hs
  cases a with
  | dead=>trivial
  | one c=>exact hs
  | agg cs=>obtain ⟨vs,h1,h2⟩:=hs;exact ⟨vs,h1,by simpa using h2⟩
  | tup xs=>
   obtain ⟨vs,h1,h2,h3⟩:=hs
   refine ⟨vs,h1,by simpa using h2,fun i h h'=>?_⟩
   have:=h3 i (by simpa using h) h'
   simpa using this
  | pe e v' off=>exact hs
  | ph p t idx off=>
   simp only [x_xy]
   by_cases ho:okPl st p t=true
   ·rw [if_pos ho]
    intro x v hp
    obtain ⟨t',h1⟩:=hown p 0 x v hp
    obtain ⟨e0,v0,h2⟩:=x_q1.1 ho
    rw [h1] at h2
    simp only [sj_,Cell.val.injEq,Md.x.injEq] at h2
    rw [h2.1] at h1
    exact hs x v h1
   ·rw [if_neg ho];trivial
  | fn f cs=>
   obtain ⟨vs,h1,h2,h3⟩:=hs
   refine ⟨vs,h1,by simpa using h2,fun i h h'=>?_⟩
   have h4:=h3 i (by simpa using h) h'
   simp only [List.getElem_map]
   revert h4
   generalize cs[i]'(by simpa using h)=c
   intro h4
   match c,h4 with
   | .one (.ptr n t off),h4=>
    simp only [x_ic]
    by_cases ho:okBx st n t=true
    ·rw [if_pos ho];exact fun _=>h4 ho
    ·rw [if_neg ho];trivial
   | .one (.val m e v),_=>cases m<;>simp [x_ic]
   | .one (.ref p t),_=>simp only [x_ic];by_cases ho:okPl st p t=true<;>simp [ho]
   | .one (.win p t lo hi),_=>simp only [x_ic];by_cases ho:okPl st p t=true<;>simp [ho]
   | .one (.nil ..),_ | .one .dead,_ | .agg _,_ | .tup _,_ | .pe ..,_ | .ph ..,_ | .fn ..,_ | .dead,_=>trivial
 ·rw [x_uo] at hc
  cases ha:aAt st q with
  | none=>rw [ha] at hc;simp at hc
  | some c0=>
   rw [ha] at hc
   obtain rfl:=Option.some.inj hc
   obtain ⟨cv,h1,h2⟩:=I.cel q c0 ha
   exact ⟨cv,h1,hcell q c0 cv h2⟩
 ·rw [x_x1] at h
  cases hb:st.bx.getD n none with
  | none=>rw [hb] at h;simp at h
  | some b=>
   rw [hb] at h
   simp only [Option.map_some,sj_,Prod.mk.injEq] at h
   obtain ⟨_,h2,vals,ty,h3,h4⟩:=I.box n b.1 b.2 hb
   exact ⟨by rw [←h.1];show min b.1 1≤1;omega,h2,vals,ty,h3,by rw [←h.2,List.length_map];exact h4⟩
 ·rw [x_qx] at ht
  revert ht
  generalize gets st n=a
  intro ht
  cases a with
  | ph p t' idx off=>
   simp only [x_xy] at ht
   by_cases ho:okPl st p t'=true
   ·rw [if_pos ho] at ht;simp only [stS,List.mem_singleton] at ht;rw [ht];show (0:Nat)≤1;omega
   ·rw [if_neg ho] at ht;simp [stS] at ht
  | fn f cs=>
   simp only [x_xy,stS,List.mem_flatMap,List.mem_map] at ht
   obtain ⟨_,⟨c,_,rfl⟩,ht⟩:=ht
   cases c with
   | one c=>
    cases c with
    | ptr n' t' off=>
     simp only [x_ic] at ht
     by_cases ho:okBx st n' t'=true
     ·rw [if_pos ho] at ht;simp only [List.mem_singleton] at ht;rw [ht];show min t' 1≤1;omega
     ·rw [if_neg ho] at ht;simp at ht
    | val m e v=>cases m<;>simp [x_ic] at ht
    | ref p t'=>simp only [x_ic] at ht;by_cases ho:okPl st p t'=true<;>simp [ho] at ht
    | win p t' lo hi=>simp only [x_ic] at ht;by_cases ho:okPl st p t'=true<;>simp [ho] at ht
    | nil _=>simp [x_ic] at ht
    | dead=>simp [x_ic] at ht
   | _=>simp at ht
  | _=>simp [x_xy,stS] at ht
 ·rw [x_uo] at hc
  cases ha:aAt st q with
  | none=>rw [ha] at hc;simp at hc
  | some c0=>
   rw [ha] at hc
   obtain rfl:=Option.some.inj hc
   cases c0 with
   | val m e v=>cases m<;>simp [x_ic,stC] at ht;rw [ht];show (0:Nat)≤1;omega
   | ref p t'=>simp only [x_ic] at ht;by_cases ho:okPl st p t'=true<;>simp [ho,stC] at ht;rw [ht];show (0:Nat)≤1;omega
   | win p t' lo hi=>simp only [x_ic] at ht;by_cases ho:okPl st p t'=true<;>simp [ho,stC] at ht;rw [ht];show (0:Nat)≤1;omega
   | nil _=>simp [x_ic,stC] at ht
   | ptr n' t' off=>simp only [x_ic] at ht;by_cases ho:okBx st n' t'=true<;>simp [ho,stC] at ht;rw [ht];show min t' 1≤1;omega
   | dead=>simp [x_ic,stC] at ht
theorem Inv.settle (I:Inv D st tm w g) (keep:Nat→Bool):Inv (fun k=>k.2≤1) (settle keep st) tm w g:=(I.drop keep).norm
theorem x_wb (f:Nat→Bool) (s:St):∀ (k:Nat) (l:List (Option (Nat×List Cell))) (n:Nat),(forgb f s k l).getD n none=if f (k+n) then (l.getD n none).map fun q=>(q.1,q.2.map (unkC s)) else l.getD n none
 | k,[],n=>by simp [forgb]
 | k,x::l,0=>by simp [forgb]
 | k,x::l,n+1=>by
  have:=x_wb f s (k+1) l n
  simp only [gd_] at this
  simp only [forgb,gd_,List.getElem?_cons_succ,this]
  rw [show k+1+n=k+(n+1) by omega]
theorem unkC_x (s:St) (c:Cell) (t:Nat) (e:ET) (v:e.val):unkC s c≠ .val (.x t) e v:=by
 cases c<;>simp only [unkC]<;>(try split)<;>simp
theorem unkC_st (s:St) (c:Cell) (q:Pl):stC q (unkC s c)=[]:=by
 cases c<;>simp only [unkC]<;>(try split)<;>rfl
theorem x_p7 (f:Nat→Bool) (n:Nat):(forget (some f) st).bx.getD n none=if f n then (st.bx.getD n none).map fun q=>(q.1,q.2.map (unkC st)) else st.bx.getD n none:=by
 simp only [forget,x_wb,Nat.zero_add]
theorem x_pe (f:Option (Nat→Bool)) {n t:Nat} (h:okBx (forget f st) n t=true):okBx st n t=true:=by
 cases f with
 | none=>exact h
 | some f=>
  rw [x_ek] at h ⊢
  obtain ⟨cs,h⟩:=h
  rw [x_p7] at h
  split at h
  ·cases hb:st.bx.getD n none with
   | none=>rw [hb] at h;simp at h
   | some b=>
    rw [hb] at h
    simp only [Option.map_some,sj_,Prod.mk.injEq] at h
    exact ⟨b.2,by rw [←h.1]⟩
  ·exact ⟨cs,h⟩
theorem x_eb {ok:Nat→Prop} {wr:Bool} {e:ET} {v:e.val} {cv:Value} (h:lrep w g ok wr e v cv):x_d7 cv:=by
 cases e with
 | sl x=>rcases h with ⟨_,h,_⟩ | ⟨b,o,cap,cs,ty,fz,h,_⟩<;>subst h<;>simp [x_d7]
 | p _ _=>exact h.elim
 | u=>exact h.2
 | i k=>obtain ⟨_,h⟩:=h;have:[cv]=_:=h;simp only [List.cons.injEq,and_true] at this;subst this;simp [x_d7]
 | b=>obtain ⟨_,h⟩:=h;have:[cv]=_:=h;simp only [List.cons.injEq,and_true] at this;subst this;simp [x_d7]
 | s=>obtain ⟨_,h⟩:=h;have:[cv]=_:=h;simp only [List.cons.injEq,and_true] at this;subst this;simp [x_d7]
 | er=>
  obtain ⟨_,x,h,hx⟩:=h
  simp only [List.cons.injEq,and_true] at h
  subst h
  cases cv<;>simp [isErr,x_d7] at hx ⊢
theorem unk_rep (I:Inv D st tm w g) {s:St} {q:Pl} {c:Cell} {cv:Value} (h:x_b5 st tm w g q c cv):x_b5 s tm w g q (unkC st c) cv:=by
 have fin:x_d7 cv→x_b5 s tm w g q (.val .f .u ()) cv:=fun hp=>⟨rfl,hp⟩
 have home:∀ p t,okPl st p t=true→ ∃ x, ∃ v:List x.val,aAt st p=some (.val (.x t) (.sl x) v):=fun p t ho=>by
  obtain ⟨e,v,hp⟩:=x_q1.1 ho
  obtain ⟨cv',_,h2⟩:=I.cel p _ hp
  obtain ⟨x,rfl,_⟩:=h2
  exact ⟨x,v,hp⟩
 match c,h with
 | .val .f e v,h=>exact fin (x_eb h)
 | .val .r e v,h=>exact fin (x_eb h)
 | .val (.x t) e v,h=>obtain ⟨x,rfl,h⟩:=h;exact fin (x_eb h)
 | .nil _,h=>have h:cv= .slice none 0 0:=h;subst h;exact fin (by simp [x_d7])
 | .ref p t,h=>
  simp only [unkC]
  split
  ·rename_i ho
   obtain ⟨x,v,hp⟩:=home p t ho
   have h1:=h x v hp
   obtain ⟨cv',h2,h3⟩:=I.cel p _ hp
   rw [h1] at h2
   obtain rfl:=Option.some.inj h2
   obtain ⟨x',hx,h3⟩:=h3
   exact fin (x_eb h3)
  ·trivial
 | .win p t lo hi,h=>
  simp only [unkC]
  split
  ·rename_i ho
   obtain ⟨x,v,hp⟩:=home p t ho
   obtain ⟨hv,_,h2⟩:=h x v hp
   refine fin ?_
   rcases h2 with ⟨⟨a,_,rfl⟩,_⟩ | ⟨b,o,len,cap,cap',_,_,_,_,_,rfl | ⟨_,rfl⟩⟩<;>simp [x_d7]
  ·trivial
 | .ptr n t off,h=>
  simp only [unkC]
  split
  ·rename_i ho
   have h:=h ho
   subst h
   exact fin (by simp [x_d7])
  ·trivial
 | .dead,_=>trivial
theorem Inv.forget (I:Inv D st tm w g) (f:Option (Nat→Bool)):Inv D (forget f st) tm w g:=by
 cases f with
 | none=>exact I
 | some f=>
  have ha:∀ p c,aAt (Go.Kn.forget (some f) st) p=some c→aAt st p=some c∨ ∃ c0,aAt st p=some c0∧c=unkC st c0:=fun p c h=>by
   unfold aAt at h ⊢
   cases hp:p.bx with
   | true=>
    rw [hp] at h
    simp only [if_true,getb,x_p7] at h ⊢
    cases hb:st.bx.getD p.n none with
    | none=>rw [hb] at h;left;revert h;split<;>exact id
    | some b=>
     rw [hb] at h
     split at h
     ·simp only [Option.map_some,Option.bind_some,List.getElem?_map] at h ⊢
      cases hc:b.2[p.c]? with
      | none=>rw [hc] at h;simp at h
      | some c0=>rw [hc] at h;right;exact ⟨c0,by simp,(Option.some.inj h).symm⟩
     ·exact .inl h
   | false=>rw [hp] at h;exact .inl h
  have hx:∀ p t e v,aAt (Go.Kn.forget (some f) st) p=some (.val (.x t) e v)→aAt st p=some (.val (.x t) e v):=fun p t e v h=>by
   rcases ha p _ h with h | ⟨c0,_,h⟩
   ·exact h
   ·exact absurd h.symm (unkC_x st c0 t e v)
  have hb:∀ n t,okBx (Go.Kn.forget (some f) st) n t=true→okBx st n t=true:=fun n t h=>x_pe _ h
  refine ⟨I.len,fun n hn=>?_,fun q c hc=>?_,fun n t cs h=>?_,I.uni,I.stm,fun q c hc t ht=>?_,I.lib⟩
  ·show shape _ tm w g (gets st n) _
   have hs:=I.shp n hn
   revert hs
   generalize gets st n=a
   cases a with
   | ph p t idx off=>intro hs x v hp;exact hs x v (hx _ _ _ _ hp)
   | fn f cs=>
    intro hs
    obtain ⟨vs,h1,h2,h3⟩:=hs
    refine ⟨vs,h1,h2,fun i h h'=>?_⟩
    have h4:=h3 i h h'
    revert h4
    generalize cs[i]=c
    intro h4
    match c,h4 with
    | .one (.ptr n t off),h4=>exact fun ho=>h4 (hb _ _ ho)
    | .one (.val ..),_ | .one (.ref ..),_ | .one (.win ..),_ | .one (.nil ..),_ | .one .dead,_ | .agg _,_ | .tup _,_ | .pe ..,_ | .ph ..,_ | .fn ..,_ | .dead,_=>trivial
   | _=>intro hs;exact hs
  ·rcases ha q c hc with h | ⟨c0,h,rfl⟩
   ·obtain ⟨cv,h1,h2⟩:=I.cel q c h
    exact ⟨cv,h1,x_pq hx hb h2⟩
   ·obtain ⟨cv,h1,h2⟩:=I.cel q c0 h
    exact ⟨cv,h1,unk_rep I h2⟩
  ·rw [x_p7] at h
   split at h
   ·cases hb:st.bx.getD n none with
    | none=>rw [hb] at h;simp at h
    | some b=>
     rw [hb] at h
     simp only [Option.map_some,sj_,Prod.mk.injEq] at h
     obtain ⟨h1,h2,vals,ty,h3,h4⟩:=I.box n b.1 b.2 hb
     exact ⟨by rw [←h.1];exact h1,h2,vals,ty,h3,by rw [←h.2,List.length_map];exact h4⟩
   ·exact I.box n t cs h
  ·rcases ha q c hc with h | ⟨c0,h,rfl⟩
   ·exact I.stb q c h t ht
   ·rw [unkC_st] at ht;simp at ht
end Go.Kn
namespace Go.Kn
variable [Ctx]
def x_gz:ET→List Value→Option (List Value)
 | .p x y,l=>(x_gz x l).bind (x_gz y)
 | .u,l=>some l
 | .i k, .int k' n::l=>if k=k'∧n=0 then some l else none
 | .b, .bool b::l=>if b=false then some l else none
 | .s, .string s::l=>if s.data.toList=[] then some l else none
 | .er, .nilIface::l=>some l
 | .sl _, .slice none 0 0::l=>some l
 | _,_=>none
def aggOf (P:Program) (t:TypeId):Bool:=match P.underlying t with
 | some (.struct _) | some (.array ..)=>true
 | _=>false
def x_iv (P:Program) (ti:TypeId→Option TInf) (i:TInf):TypeDesc→Bool
 | .struct fields=>i.agg && !i.ptr && decide (i.fs.length=fields.size) && (i.fs.zipIdx.all fun (x,f)=>match fields[f]? with
   | some fld=>fld.offset == x.1 && (P.info? fld.type).map (·.size) == some x.2.1 && aggOf P fld.type == x.2.2 && decide (x.1+x.2.1≤i.e.cells) && (P.underlying fld.type).isSome
   | none=>false)
 | .slice e=> !i.agg && !i.ptr && i.el == e && match ti e,i.e with
   | some te, .sl x=>decide (te.e=x) && !te.ptr
   | _,_=>false
 | .int k=> !i.agg && !i.ptr && decide (i.e= .i k)
 | .bool=> !i.agg && !i.ptr && decide (i.e= .b)
 | .string=> !i.agg && !i.ptr && decide (i.e= .s)
 | .interface _=> !i.agg && !i.ptr && decide (i.e= .er)
 | .pointer _=> !i.agg && i.ptr
 | .func .. => !i.agg && i.ptr
 | _=>false
def isP:ET→Bool
 | .p _ _=>true
 | _=>false
def x_sx (P:Program) (q:TypeId→ET→Bool) (f:Field) (e:ET) (off:Nat):Bool:=
 f.name != "_" && f.offset == off && (P.info? f.type).map (·.size) == some e.cells && (aggOf P f.type == isP e) && (P.underlying f.type).isSome && q f.type e
def eqFs (P:Program) (q:TypeId→ET→Bool):List Field→ET→Nat→Bool
 | [f],e,off=>x_sx P q f e off
 | f::h::fs, .p x y,off=>x_sx P q f x off && eqFs P q (h::fs) y (off+x.cells)
 | _,_,_=>false
def eqTy (P:Program):Nat→TypeId→ET→Bool
 | 0,_,_=>false
 | d+1,t,e=>match P.underlying t,e with
  | some (.int _), .i _=>true
  | some .bool, .b=>true
  | some .string, .s=>true
  | some (.struct fs), .p x y=> !P.stoodInHeld t && eqFs P (eqTy P d) fs.toList (.p x y) 0
  | _,_=>false
def x_pn (P:Program) (ti:TypeId→Option TInf) (t:TypeId) (i:TInf):Bool:=
 (match P.info? t with
 | some inf=>inf.size == i.n && inf.bytes == i.bytes && (match inf.zero with
   | some z=>if i.ptr then z.cells.size == 1 else (match x_gz i.e z.cells.toList with | some []=>true | _=>false) && (match z with | .agg _=>i.agg | _=> !i.agg)
   | none=>false)
 | none=>false) && (match P.underlying t with
  | some d=>x_iv P ti i d
  | none=>false) && (!i.eq || (eqTy P 10000 t i.e && !P.eqGuardType P.depth t))
def x_fu (P:Program) (ti:TypeId→Option TInf):Prop:= ∀ t i,ti t=some i→x_pn P ti t i=true
variable {P:Program} {ti:TypeId→Option TInf}
theorem x_fu.info (T:x_fu P ti) {t:TypeId} {i:TInf} (h:ti t=some i):∃ inf,P.info? t=some inf∧inf.size=i.n∧inf.bytes=i.bytes∧
  (i.ptr=false→ ∃ z,inf.zero=some z∧x_gz i.e z.cells.toList=some []∧(∀ c,z= .agg c→i.agg=true)∧(i.agg=true→ ∃ c,z= .agg c)):=by
 have:=T t i h
 unfold x_pn at this
 rw [Bool.and_eq_true,Bool.and_eq_true] at this
 replace this:=this.1
 cases hi:P.info? t with
 | none=>rw [hi] at this;simp at this
 | some inf=>
  rw [hi] at this
  simp only [Bool.and_eq_true,beq_iff_eq] at this
  refine ⟨inf,rfl,this.1.1.1,this.1.1.2,fun hp=>?_⟩
  have h2:=this.1.2
  rw [hp] at h2
  simp only [Bool.false_eq_true,if_false] at h2
  cases hz:inf.zero with
  | none=>rw [hz] at h2;simp at h2
  | some z=>
   rw [hz] at h2
   simp only [Bool.and_eq_true] at h2
   refine ⟨z,rfl,?_,?_,?_⟩
   ·have h3:=h2.1
    revert h3
    cases x_gz i.e z.cells.toList with
    | none=>simp
    | some l=>cases l<;>simp
   ·rintro c rfl;exact h2.2
   ·intro ha
    cases z<;>simp [ha] at h2
    exact ⟨_,rfl⟩
theorem x_fu.zptr (T:x_fu P ti) {t:TypeId} {i:TInf} (h:ti t=some i) (hp:i.ptr=true):∃ inf z,P.info? t=some inf∧inf.zero=some z∧z.cells.size=1:=by
 have:=T t i h
 unfold x_pn at this
 rw [Bool.and_eq_true,Bool.and_eq_true] at this
 replace this:=this.1.1
 cases hi:P.info? t with
 | none=>rw [hi] at this;simp at this
 | some inf=>
  rw [hi] at this
  simp only [Bool.and_eq_true,beq_iff_eq] at this
  have h2:=this.2
  rw [hp] at h2
  cases hz:inf.zero with
  | none=>rw [hz] at h2;simp at h2
  | some z=>rw [hz] at h2;exact ⟨inf,z,rfl,hz,by simpa using h2⟩
theorem x_fu.desc (T:x_fu P ti) {t:TypeId} {i:TInf} (h:ti t=some i):∃ d,P.underlying t=some d∧x_iv P ti i d=true:=by
 have:=T t i h
 unfold x_pn at this
 rw [Bool.and_eq_true,Bool.and_eq_true] at this
 replace this:=this.1
 cases hd:P.underlying t with
 | none=>rw [hd] at this;simp at this
 | some d=>rw [hd] at this;exact ⟨d,rfl,this.2⟩
theorem x_fu.eq (T:x_fu P ti) {t:TypeId} {i:TInf} (h:ti t=some i) (he:i.eq=true):eqTy P 10000 t i.e=true∧P.eqGuardType P.depth t=false:=by
 have:=T t i h
 unfold x_pn at this
 rw [Bool.and_eq_true] at this
 have:=this.2
 rw [he] at this
 simpa using this
theorem x_fu.sizeOf (T:x_fu P ti) {t:TypeId} {i:TInf} (h:ti t=some i) (w:World):(Go.sizeOf t).run P w= .ok i.n w:=by
 obtain ⟨inf,h1,h2,_⟩:=T.info h
 simp [Go.sizeOf,typeInfo,h1,h2]
theorem x_fu.aggOf (T:x_fu P ti) {t:TypeId} {i:TInf} (h:ti t=some i):Kn.aggOf P t=i.agg:=by
 obtain ⟨d,h1,h2⟩:=T.desc h
 unfold Kn.aggOf
 rw [h1]
 cases d<;>simp_all [x_iv]
theorem x_qz {t:TypeId} {d:TypeDesc} (h:P.underlying t=some d) (w:World):(isAgg t).run P w= .ok (aggOf P t) w:=by
 unfold isAgg underlying aggOf
 simp only [Sem.run_bind,run_program,Result.andThen_ok,h]
 cases d<;>simp
theorem x_fu.isAgg (T:x_fu P ti) {t:TypeId} {i:TInf} (h:ti t=some i) (w:World):(Go.isAgg t).run P w= .ok i.agg w:=by
 obtain ⟨d,h1,h2⟩:=T.desc h
 rw [x_qz h1,T.aggOf h]
theorem x_fu.underlying (T:x_fu P ti) {t:TypeId} {d:TypeDesc} (h:P.underlying t=some d) (w:World):(Go.underlying t).run P w= .ok d w:=by
 simp [Go.underlying,h]
theorem x_f6 {w:World} {fr:Nat→Prop}:∀ (e:ET) (l r:List Value),x_gz e l=some r→ ∃ c,l=c++r∧rep w fr e e.zero c
 | .p x y,l,r,h=>by
  simp only [x_gz,Option.bind_eq_some_iff] at h
  obtain ⟨m,h1,h2⟩:=h
  obtain ⟨c,rfl,hc⟩:=x_f6 x l m h1
  obtain ⟨d,rfl,hd⟩:=x_f6 y m r h2
  exact ⟨c++d,by simp,c,d,rfl,hc,hd⟩
 | .u,l,r,h=>by simp only [x_gz,sj_] at h;exact ⟨[],by simp [h],rfl⟩
 | .i k,l,r,h=>by
  cases l with
  | nil=>simp [x_gz] at h
  | cons a l=>
   cases a<;>simp [x_gz] at h
   obtain ⟨⟨rfl,rfl⟩,rfl⟩:=h
   exact ⟨_,rfl,rfl⟩
 | .b,l,r,h=>by
  unfold x_gz at h
  split at h<;>simp_all
  exact ⟨_,rfl,rfl⟩
 | .s,l,r,h=>by
  unfold x_gz at h
  split at h<;>simp_all
  rename_i s l'
  have:s=ByteArray.empty:=by
   cases s;simp_all;rfl
  subst this
  exact ⟨_,rfl,rfl⟩
 | .er,l,r,h=>by
  unfold x_gz at h
  split at h<;>simp_all
  exact ⟨[.nilIface],rfl, .nilIface,rfl,rfl⟩
 | .sl x,l,r,h=>by
  unfold x_gz at h
  split at h<;>simp_all
  exact ⟨_,rfl,_,rfl,x_br.nil rfl rfl⟩
variable {D:Key×Nat→Prop} {st st':St} {tm:Array Value} {w:World} {g:Gh}
theorem x_rr (bx:Bool) (n:Nat):∀ (k:Nat) (cs:List Cell) (j:Nat) (c:Cell),(x_ml bx n k cs)[j]?=some c→
  ∃ c0,cs[j]?=some c0∧((∃ t e v,c0= .val (.x t) e v∧c= .ref ⟨bx,n,k+j⟩ t)∨(noX c0∧c=c0))
 | k,[],j,c,h=>by simp [x_ml] at h
 | k,a::cs,j,c,h=>by
  have hcons:∃ b,x_ml bx n k (a::cs)=b::x_ml bx n (k+1) cs∧((∃ t e v,a= .val (.x t) e v∧b= .ref ⟨bx,n,k⟩ t)∨(noX a∧b=a)):=by
   cases a with
   | val m e v=>
    cases m with
    | x t=>exact ⟨_,rfl, .inl ⟨t,e,v,rfl,rfl⟩⟩
    | f=>exact ⟨_,rfl, .inr ⟨trivial,rfl⟩⟩
    | r=>exact ⟨_,rfl, .inr ⟨trivial,rfl⟩⟩
   | ref p t=>exact ⟨_,rfl, .inr ⟨trivial,rfl⟩⟩
   | win p t lo hi=>exact ⟨_,rfl, .inr ⟨trivial,rfl⟩⟩
   | nil x=>exact ⟨_,rfl, .inr ⟨trivial,rfl⟩⟩
   | ptr n t off=>exact ⟨_,rfl, .inr ⟨trivial,rfl⟩⟩
   | dead=>exact ⟨_,rfl, .inr ⟨trivial,rfl⟩⟩
  obtain ⟨b,hb,hab⟩:=hcons
  rw [hb] at h
  cases j with
  | zero=>
   simp only [List.getElem?_cons_zero,sj_] at h
   subst h
   exact ⟨a,rfl,hab⟩
  | succ j=>
   simp only [List.getElem?_cons_succ] at h ⊢
   obtain ⟨c0,h1,h2⟩:=x_rr bx n (k+1) cs j c h
   rw [show k+1+j=k+(j+1) by omega] at h2
   exact ⟨c0,h1,h2⟩
theorem x_e9 (bx:Bool) (n:Nat):∀ (k:Nat) (cs:List Cell),(x_ml bx n k cs).length=cs.length
 | _,[]=>rfl
 | k,a::cs=>by
  cases a with
  | val m e v=>cases m<;>simp [x_ml,x_e9 bx n (k+1) cs]
  | _=>simp [x_ml,x_e9 bx n (k+1) cs]
theorem x_ov (bx:Bool) (n:Nat):∀ (k:Nat) (a b:List Cell),x_ml bx n k (a++b)=x_ml bx n k a++x_ml bx n (k+a.length) b
 | k,[],b=>by simp [x_ml]
 | k,x::a,b=>by
  have ih:=x_ov bx n (k+1) a b
  rw [show k+1+a.length=k+(x::a).length by simp;omega] at ih
  cases x with
  | val m e v=>cases m<;>simp [x_ml,ih]
  | _=>simp [x_ml,ih]
theorem x_p0 (n:Nat):∀ (k:Nat) (xs:List (Bool×List Cell)),(copyT n k xs).flatMap (·.2)=x_ml false n k (xs.flatMap (·.2))
 | k,[]=>by simp [copyT,x_ml]
 | k,x::xs=>by simp [copyT,x_ov,x_p0 n _ xs]
theorem x_td (n:Nat):∀ (k:Nat) (xs:List (Bool×List Cell)),(copyT n k xs).map (fun x=>(x.1,x.2.length))=xs.map (fun x=>(x.1,x.2.length))
 | k,[]=>rfl
 | k,x::xs=>by simp [copyT,x_e9,x_td n _ xs]
theorem x_jd (I:Inv D st tm w g) {q:Pl} {c0 c:Cell} (ha:aAt st q=some c0)
  (h:(∃ t e v,c0= .val (.x t) e v∧c= .ref q t)∨(noX c0∧c=c0)) (q':Pl) :
  noX c∧(∀ t∈stC q' c,D t)∧ ∃ cv,cAt tm w g q=some cv∧x_b5 st tm w g q' c cv:=by
 obtain ⟨cv,h1,h2⟩:=I.cel q c0 ha
 have hs:=I.stb q c0 ha
 rcases h with ⟨t,e,v,rfl,rfl⟩ | ⟨hx,rfl⟩
 ·exact ⟨trivial,fun k hk=>hs k (by simpa [stC] using hk),cv,h1,fun _ _ _=>h1⟩
 ·refine ⟨hx,fun k hk=>hs k ?_,cv,h1,?_⟩
  ·cases c with
   | val m e v=>cases m<;>first | exact hk | exact hx.elim
   | _=>exact hk
  ·match c,hx,h2 with
   | .val .f e v,_,h=>exact h
   | .val .r e v,_,h=>exact h
   | .ref p t,_,h=>exact h
   | .win p t lo hi,_,h=>exact h
   | .nil _,_,h=>exact h
   | .ptr n t off,_,h=>exact h
   | .dead,_,_=>trivial
theorem x_t9 (I:Inv D st tm w g) (n:Nat):Opd D st tm w g (x_t3 n (gets st n)) (tm.getD n undef):=by
 have hdead:∀ v,Opd D st tm w g .dead v:=fun v=>⟨trivial,fun j c h=>by simp [SC.cells] at h,by simp [stS]⟩
 by_cases hn:n<tm.size
 ·have hs:=I.shp n hn
  have hm:=I.stm n
  have hcel:∀ (j:Nat) c,(x_ml false n 0 (gets st n).cells)[j]?=some c→noX c∧(∀ t∈stC ⟨true,0,0⟩ c,D t)∧ ∃ cv,(vcs (tm.getD n undef))[j]?=some cv∧x_b5 st tm w g ⟨true,0,0⟩ c cv:=by
   intro j c h
   obtain ⟨c0,h1,h2⟩:=x_rr false n 0 _ j c h
   rw [Nat.zero_add] at h2
   have ha:aAt st ⟨false,n,j⟩=some c0:=h1
   obtain ⟨k1,k2,cv,k3,k4⟩:=x_jd I ha h2 ⟨true,0,0⟩
   exact ⟨k1,k2,cv,k3,k4⟩
  revert hs hm hcel
  generalize gets st n=a
  intro hs hm hcel
  cases a with
  | dead=>exact hdead _
  | one c=>
   refine ⟨hs,fun j d h=>?_,by simp [x_t3,stS]⟩
   have hl:=x_e9 false n 0 [c]
   refine hcel j d ?_
   simp only [SC.cells] at h ⊢
   revert h
   cases hc:x_ml false n 0 [c] with
   | nil=>rw [hc] at hl;simp at hl
   | cons b l=>
    rw [hc] at hl
    simp only [List.length_cons,List.length_nil] at hl
    obtain rfl:l=[]:=List.length_eq_zero_iff.1 (by omega)
    simp [x_t3,hc,SC.cells]
  | agg cs=>
   refine ⟨?_,fun j d h=>hcel j d h,by simp [x_t3,stS]⟩
   obtain ⟨vs,h1,h2⟩:=hs
   exact ⟨vs,h1,by rw [x_e9];exact h2⟩
  | tup xs=>
   refine ⟨?_,fun j d h=>?_,by simp [x_t3,stS]⟩
   ·obtain ⟨vs,h1,h2,h3⟩:=hs
    have hf:=x_td n 0 xs
    have hl:(copyT n 0 xs).length=xs.length:=by have:=congrArg List.length hf;simpa using this
    refine ⟨vs,h1,by rw [hl];exact h2,fun i h h'=>?_⟩
    have hi:=h3 i (by omega) h'
    have e1:((copyT n 0 xs).map (fun x=>(x.1,x.2.length)))[i]'(by simp;omega)=(xs.map (fun x=>(x.1,x.2.length)))[i]'(by simp;omega):=by simp only [hf]
    simp only [List.getElem_map,Prod.mk.injEq] at e1
    rw [e1.1,e1.2]
    exact hi
   ·simp only [x_t3,SC.cells,x_p0] at h
    exact hcel j d h
  | pe e v off=>exact ⟨hs,fun j c h=>by simp [x_t3,SC.cells] at h,hm⟩
  | ph p t idx off=>exact ⟨hs,fun j c h=>by simp [x_t3,SC.cells] at h,hm⟩
  | fn f cs=>exact ⟨hs,fun j c h=>by simp [x_t3,SC.cells] at h,hm⟩
 ·have:gets st n= .dead:=by simp [gets,gd_,List.getElem?_eq_none (show st.sl.length≤n by have:=I.len;omega)]
  rw [this]
  exact hdead _
end Go.Kn
namespace Go.Kn
variable [Ctx]
variable {P:Program} {D:Key×Nat→Prop} {st st':St} {tm:Array Value} {w w':World} {g:Gh} {ds:List Deferred} {E:Env}
theorem x_eu {c:Cell} {v:Value} (hv:(∀ a,v≠ .agg a)∧ ∀ a,v≠ .tuple a) (hx:noX c) (hs:∀ t∈stC ⟨true,0,0⟩ c,D t) (hc:x_b5 st tm w g ⟨true,0,0⟩ c v) :
  Opd D st tm w g (.one c) v:=by
 refine ⟨hv,fun j d h=>?_,by simp [stS]⟩
 cases j with
 | zero=>
  simp only [SC.cells,List.getElem?_cons_zero,sj_] at h
  subst h
  refine ⟨hx,hs,v,?_,hc⟩
  cases v<;>simp [vcs] at hv ⊢
 | succ j=>simp [SC.cells] at h
theorem x_ze {v:Value} (hv:(∀ a,v≠ .agg a)∧ ∀ a,v≠ .tuple a):vcs v=[v]:=by cases v<;>simp [vcs] at hv ⊢
theorem Opd.one {c:Cell} {v:Value} (O:Opd D st tm w g (.one c) v) :
  ((∀ a,v≠ .agg a)∧ ∀ a,v≠ .tuple a)∧noX c∧(∀ t∈stC ⟨true,0,0⟩ c,D t)∧x_b5 st tm w g ⟨true,0,0⟩ c v:=by
 obtain ⟨h1,h2,cv,h3,h4⟩:=O.cel 0 c rfl
 rw [x_ze O.shp] at h3
 obtain rfl:=Option.some.inj h3
 exact ⟨O.shp,h1,h2,h4⟩
theorem x_ht (k:IntKind) (n:Int):Opd D st tm w g (intS k n) (.int k n):=x_eu (by simp) trivial (by simp [stC]) ⟨rfl,rfl⟩
theorem x_f2 (b:Bool):Opd D st tm w g (x_o6 b) (.bool b):=x_eu (by simp) trivial (by simp [stC]) ⟨rfl,rfl⟩
theorem x_se (s:ByteArray):Opd D st tm w g (strS s) (.string s):=x_eu (by simp) trivial (by simp [stC]) ⟨rfl,rfl⟩
theorem x_bp (I:Inv D st tm w g) {ty:TypeId} {x:Operand} {sc:SC} (he:(opnd E ty x).Ends st sc st') :
  st'=st∧Opd D st tm w g sc ((⟨tm,ds⟩ : Act).eval x):=by
 cases x with
 | tmp n=>
  obtain ⟨rfl,rfl⟩:=Pr.er (Pr.ends_rs (p:=fun x=>Pr.ret (x_t3 n x)) he)
  exact ⟨rfl,x_t9 I n⟩
 | global n=>exact (Pr.ef he).elim
 | func f=>
  obtain ⟨rfl,rfl⟩:=Pr.er he
  exact ⟨rfl,⟨#[],rfl,rfl,fun i h=>by simp at h⟩,fun j c h=>by simp [SC.cells] at h,by simp [stS]⟩
 | const v=>
  simp only [opnd] at he
  unfold constS at he
  split at he
  ·obtain ⟨rfl,rfl⟩:=Pr.er he;exact ⟨rfl,x_ht _ _⟩
  ·obtain ⟨rfl,rfl⟩:=Pr.er he;exact ⟨rfl,x_f2 _⟩
  ·obtain ⟨rfl,rfl⟩:=Pr.er he;exact ⟨rfl,x_se _⟩
  ·obtain ⟨rfl,rfl⟩:=Pr.er he;exact ⟨rfl,x_eu (by simp [Act.eval]) trivial (by simp [stC]) ⟨rfl,_,rfl,rfl⟩⟩
  ·split at he
   ·split at he
    ·obtain ⟨rfl,rfl⟩:=Pr.er he;exact ⟨rfl,x_eu (by simp [Act.eval]) trivial (by simp [stC]) rfl⟩
    ·exact (Pr.ef he).elim
   ·exact (Pr.ef he).elim
  ·obtain ⟨rfl,rfl⟩:=Pr.er he
   exact ⟨rfl,trivial,fun j c h=>by simp [SC.cells] at h,by simp [stS]⟩
  ·exact (Pr.ef he).elim
theorem x_fn (I:Inv D st tm w g) {sc:SC} {v:Value} {a:LV} (O:Opd D st tm w g sc v) (he:(asOne sc).Ends st a st') :
  st'=st∧lrep w g g.rd false a.1 a.2 v:=by
 cases sc with
 | one c=>exact x_mu I he O.one.2.2.2
 | _=>exact (Pr.ef he).elim
theorem x_p6 {ok:Nat→Prop} {k:IntKind} {n:Int} {v:Value} (h:lrep w g ok false (.i k) n v):v= .int k n:=by
 have:=h.2;simp only [rep,List.cons.injEq,and_true] at this;exact this
theorem x_pa {ok:Nat→Prop} {n:Bool} {v:Value} (h:lrep w g ok false .b n v):v= .bool n:=by
 have:=h.2;simp only [rep,List.cons.injEq,and_true] at this;exact this
theorem x_mi {ok:Nat→Prop} {n:ByteArray} {v:Value} (h:lrep w g ok false .s n v):v= .string n:=by
 have:=h.2;simp only [rep,List.cons.injEq,and_true] at this;exact this
theorem x_zj {ok:Nat→Prop} {n:Bool} {v:Value} (h:lrep w g ok false .er n v):isErr v n:=by
 obtain ⟨x,h1,h2⟩:=h.2;simp only [List.cons.injEq,and_true] at h1;rw [h1];exact h2
theorem x_kh (I:Inv D st tm w g) {sc:SC} {v:Value} {a:IntKind×Int} (O:Opd D st tm w g sc v) (he:(asI sc).Ends st a st'):st'=st∧v= .int a.1 a.2:=by
 obtain ⟨b,s,h1,h2⟩:=Pr.eb he
 obtain ⟨rfl,hl⟩:=x_fn I O h1
 obtain ⟨e,x⟩:=b
 cases e with
 | i k=>obtain ⟨rfl,rfl⟩:=Pr.er h2;exact ⟨rfl,x_p6 hl⟩
 | _=>exact (Pr.ef h2).elim
theorem asB_ends (I:Inv D st tm w g) {sc:SC} {v:Value} {a:Bool} (O:Opd D st tm w g sc v) (he:(asB sc).Ends st a st'):st'=st∧v= .bool a:=by
 obtain ⟨b,s,h1,h2⟩:=Pr.eb he
 obtain ⟨rfl,hl⟩:=x_fn I O h1
 obtain ⟨e,x⟩:=b
 cases e with
 | b=>obtain ⟨rfl,rfl⟩:=Pr.er h2;exact ⟨rfl,x_pa hl⟩
 | _=>exact (Pr.ef h2).elim
theorem asS_ends (I:Inv D st tm w g) {sc:SC} {v:Value} {a:ByteArray} (O:Opd D st tm w g sc v) (he:(asS sc).Ends st a st'):st'=st∧v= .string a:=by
 obtain ⟨b,s,h1,h2⟩:=Pr.eb he
 obtain ⟨rfl,hl⟩:=x_fn I O h1
 obtain ⟨e,x⟩:=b
 cases e with
 | s=>obtain ⟨rfl,rfl⟩:=Pr.er h2;exact ⟨rfl,x_mi hl⟩
 | _=>exact (Pr.ef h2).elim
def Nx (D:Key×Nat→Prop) (st:St) (tm:Array Value) (w:World) (g:Gh) (st':St) (s:Nat) (ds:List Deferred) (a':Act) (w':World):Prop:=
 ∃ D' g',a'.defers=ds∧Goes D D' st tm w g st' a'.tmps w' g'∧ ∀ k t,D' (k,t)→D (k,t)∨t=s
def OpOk (P:Program) (o:Oper) (D:Key×Nat→Prop) (st:St) (tm:Array Value) (w:World) (g:Gh) (st':St) (s:Nat) (ds:List Deferred):Prop:=
 o.wp P ⟨tm,ds⟩ w (Nx D st tm w g st' s ds) (fun _ _ _=>False)
def dput (o:Oper) (tm:Array Value) (v:Value):Array Value:=match o.dst with
 | some d=>tm.setIfInBounds d v
 | none=>tm
theorem x_ua (o:Oper) (v:Value):(⟨tm,ds⟩ : Act).put o.dst v=⟨dput o tm v,ds⟩:=by
 unfold Act.put dput
 cases o.dst<;>rfl
theorem x_gr {o:Oper} {s:Nat} {v:Value} {w':World} (h:(execOp (⟨tm,ds⟩ : Act).eval o).run P w= .ok (.value v) w')
  (hn:Nx D st tm w g st' s ds ⟨dput o tm v,ds⟩ w'):OpOk P o D st tm w g st' s ds:=by
 unfold OpOk Oper.wp
 rw [h,Oper.upon_value,x_ua]
 exact hn
theorem x_gh (I:Inv D st tm w g) {o:Oper} {sc:SC} {v:Value} (O:Opd D st tm w g sc v) (he:(putD o sc).Ends st () st') :
  Goes D D st tm w g st' (dput o tm v) w g:=by
 unfold putD at he
 unfold dput
 cases hd:o.dst with
 | none=>rw [hd] at he;obtain ⟨_,rfl⟩:=Pr.er he;exact .refl I
 | some d=>
  rw [hd] at he
  obtain ⟨_,rfl⟩:=Pr.er (Pr.ends_wr he)
  by_cases h:d<tm.size
  ·exact x_vg I h O
  ·have h1:tm.setIfInBounds d v=tm:=by simp [Array.setIfInBounds,h]
   have h2:Wr.put st (.sl d sc)=st:=by
    have hl:st.sl.length≤d:=by rw [I.len];exact Nat.le_of_not_lt h
    simp [Wr.put,List.set_eq_of_length_le hl]
   simp only [h1,h2]
   exact .refl I
theorem x_dd (I:Inv D st tm w g) {o:Oper} {s:Nat} {sc:SC} {v:Value} (h:(execOp (⟨tm,ds⟩ : Act).eval o).run P w= .ok (.value v) w)
  (O:Opd D st tm w g sc v) (he:(putD o sc).Ends st () st'):OpOk P o D st tm w g st' s ds:=
 x_gr h ⟨D,g,rfl,x_gh I O he,fun _ _ h=> .inl h⟩
variable {T:Tab} {keep:Bool} {i:Nat} {o:Oper}
theorem ok_move {x:Operand} (ho:o.op= .move x) (I:Inv D st tm w g) (he:(opR T keep i o).Ends st () st'):OpOk P o D st tm w g st' (i+1) ds:=by
 simp only [opR,ho] at he
 obtain ⟨a,s,h1,h2⟩:=Pr.eb he
 obtain ⟨rfl,O⟩:=x_bp (ds:=ds) I h1
 exact x_dd I (by simp [execOp,ho]) O h2
theorem ok_pick {c a b:Operand} (ho:o.op= .pick c a b) (I:Inv D st tm w g) (he:(opR T keep i o).Ends st () st'):OpOk P o D st tm w g st' (i+1) ds:=by
 simp only [opR,ho] at he
 obtain ⟨x,s,h1,h2⟩:=Pr.eb he
 obtain ⟨rfl,O⟩:=x_bp (ds:=ds) I h1
 obtain ⟨v,s,h3,h4⟩:=Pr.eb h2
 obtain ⟨rfl,hv⟩:=asB_ends I O h3
 rcases Pr.ends_br h4 with ⟨rfl,h5⟩ | ⟨rfl,h5⟩
 ·obtain ⟨y,s,h6,h7⟩:=Pr.eb h5
  obtain ⟨rfl,O'⟩:=x_bp (ds:=ds) I h6
  exact x_dd I (by simp [execOp,ho,hv,asBool]) O' h7
 ·obtain ⟨y,s,h6,h7⟩:=Pr.eb h5
  obtain ⟨rfl,O'⟩:=x_bp (ds:=ds) I h6
  exact x_dd I (by simp [execOp,ho,hv,asBool]) O' h7
theorem x_fx (I:Inv D st tm w g) {n c:Nat} {x:Nat×Cell} (h:getb st n c=some x):∃ cs,st.bx.getD n none=some (x.1,cs)∧cs[c]?=some x.2:=by
 unfold getb at h
 cases hb:st.bx.getD n none with
 | none=>rw [hb] at h;simp at h
 | some b=>
  rw [hb] at h
  simp only [Option.bind_some,Option.map_eq_some_iff] at h
  obtain ⟨y,h1,rfl⟩:=h
  exact ⟨b.2,rfl,h1⟩
theorem x_n1 (I:Inv D st tm w g) {sc:SC} {v:Value} (O:Opd D st tm w g sc v) (he:(x_06 sc).Ends st () st'):st'=st∧ ∃ a,v= .pointer (some a)∧a.spot=none:=by
 cases sc with
 | one c=>
  cases c with
  | ptr n b off=>
   obtain ⟨x,hx,he⟩:=Pr.ends_rb he
   obtain ⟨hb,he⟩:=Pr.ek he
   obtain ⟨_,rfl⟩:=Pr.er he
   obtain ⟨cs,h1,_⟩:=x_fx I hx
   have:=O.one.2.2.2 (x_ek.2 ⟨cs,by rw [h1,beq_iff_eq.1 hb]⟩)
   exact ⟨rfl,_,this,rfl⟩
  | _=>exact (Pr.ef he).elim
 | ph p t idx off=>
  obtain ⟨x,s,h1,h2⟩:=Pr.eb he
  obtain ⟨h1,rfl⟩:=x_bn h1
  obtain ⟨_,rfl⟩:=Pr.er h2
  obtain ⟨_,b,o,len,cap,_,h3⟩:=O.shp _ _ h1
  exact ⟨rfl,_,h3,rfl⟩
 | pe e v' off=>
  obtain ⟨_,rfl⟩:=Pr.er he
  obtain ⟨b,o,cs,ty,fz,h1,_⟩:=O.shp
  exact ⟨rfl,_,h1,rfl⟩
 | _=>exact (Pr.ef he).elim
theorem x_xt {x:Operand} (ho:o.op= .nilCheck x) (I:Inv D st tm w g) (he:(opR T keep i o).Ends st () st'):OpOk P o D st tm w g st' (i+1) ds:=by
 simp only [opR,ho] at he
 obtain ⟨a,s,h1,h2⟩:=Pr.eb he
 obtain ⟨rfl,O⟩:=x_bp (ds:=ds) I h1
 obtain ⟨⟨⟩,s,h3,h4⟩:=Pr.eb h2
 obtain ⟨rfl,ad,h5,_⟩:=x_n1 I O h3
 exact x_dd I (by simp [execOp,ho,h5]) O h4
end Go.Kn
namespace Go.Kn
variable [Ctx]
variable {P:Program} {D:Key×Nat→Prop} {st st':St} {tm:Array Value} {w w':World} {g:Gh} {ds:List Deferred} {E:Env}
variable {T:Tab} {keep:Bool} {i:Nat} {o:Oper}
theorem x_hq {sc a:SC} {v:Value} (he:(Pr.ret sc).Ends st a st') (O:Opd D st tm w g sc v):st'=st∧Opd D st tm w g a v:=by
 obtain ⟨rfl,rfl⟩:=Pr.er he;exact ⟨rfl,O⟩
theorem x_0a {op:BinOp} {k:IntKind} {x y:Int} {sc:SC} (t:TypeId) (he:(intOp op k x y).Ends st sc st') :
  st'=st∧ ∃ v,(binOp op t (.int k x) (.int k y)).run P w= .ok v w∧Opd D st tm w g sc v:=by
 cases op
 case quo=>
  obtain ⟨h0,he⟩:=Pr.ek he
  have h0:y≠0:=by simpa using h0
  obtain ⟨h1,h2⟩:=x_hq (D:=D) (tm:=tm) (w:=w) (g:=g) he (x_ht _ _)
  exact ⟨h1,_,by simp [binOp,Op.intDiv,h0],h2⟩
 case rem=>
  obtain ⟨h0,he⟩:=Pr.ek he
  have h0:y≠0:=by simpa using h0
  obtain ⟨h1,h2⟩:=x_hq (D:=D) (tm:=tm) (w:=w) (g:=g) he (x_ht _ _)
  exact ⟨h1,_,by simp [binOp,Op.intDiv,h0],h2⟩
 case shl=>exact (Pr.ef he).elim
 case shr=>exact (Pr.ef he).elim
 case andNot=>exact (Pr.ef he).elim
 case neq=>
  obtain ⟨h1,h2⟩:=x_hq (D:=D) (tm:=tm) (w:=w) (g:=g) he (x_f2 _)
  refine ⟨h1,_,?_,h2⟩
  simp [binOp,Op.intCmp,bne]
  congr 1
 case eql=>
  obtain ⟨h1,h2⟩:=x_hq (D:=D) (tm:=tm) (w:=w) (g:=g) he (x_f2 _)
  refine ⟨h1,_,?_,h2⟩
  simp [binOp,Op.intCmp]
  congr 1
 all_goals first
  | (obtain ⟨h1,h2⟩:=x_hq (D:=D) (tm:=tm) (w:=w) (g:=g) he (x_ht _ _);exact ⟨h1,_,by simp [binOp,Op.intArith,Op.intBits],h2⟩)
  | (obtain ⟨h1,h2⟩:=x_hq (D:=D) (tm:=tm) (w:=w) (g:=g) he (x_f2 _);exact ⟨h1,_,by simp [binOp,Op.intCmp],h2⟩)
theorem x_od (a b:List UInt8):(a == b)=decide (a=b):=by
 by_cases h:a=b<;>simp [h]
theorem x_0q {op:BinOp} {a b:LV} {va vb:Value} {sc:SC} (t:TypeId) (ha:lrep w g g.rd false a.1 a.2 va) (hb:lrep w g g.rd false b.1 b.2 vb)
  (he:(binLV op a b).Ends st sc st'):st'=st∧ ∃ v,(binOp op t va vb).run P w= .ok v w∧Opd D st tm w g sc v:=by
 obtain ⟨ea,xa⟩:=a
 obtain ⟨eb,xb⟩:=b
 cases ea
 case i k=>
  cases eb
  case i k'=>
   obtain rfl:=x_p6 ha
   obtain rfl:=x_p6 hb
   have main:∀ op:BinOp,op≠ .shl→op≠ .shr→(if k=k' then intOp op k xa xb else Pr.fail).Ends st sc st'→
     st'=st∧ ∃ v,(binOp op t (.int k xa) (.int k' xb)).run P w= .ok v w∧Opd D st tm w g sc v:=by
    intro op _ _ he
    by_cases hk:k=k'
    ·subst hk;rw [if_pos rfl] at he;exact x_0a t he
    ·rw [if_neg hk] at he;exact (Pr.ef he).elim
   cases op
   case shl=>
    obtain ⟨h0,he⟩:=Pr.ek he
    have h0:¬ xb<0:=by simpa using h0
    obtain ⟨h1,h2⟩:=x_hq (D:=D) (tm:=tm) (w:=w) (g:=g) he (x_ht _ _)
    exact ⟨h1,_,by simp [binOp,Op.shift,h0],h2⟩
   case shr=>
    obtain ⟨h0,he⟩:=Pr.ek he
    have h0:¬ xb<0:=by simpa using h0
    obtain ⟨h1,h2⟩:=x_hq (D:=D) (tm:=tm) (w:=w) (g:=g) he (x_ht _ _)
    exact ⟨h1,_,by simp [binOp,Op.shift,h0],h2⟩
   all_goals exact main _ (by simp) (by simp) he
  all_goals (cases op<;>exact (Pr.ef he).elim)
 case s=>
  cases eb
  case s=>
   obtain rfl:=x_mi ha
   obtain rfl:=x_mi hb
   cases op
   case add=>
    obtain ⟨h0,he⟩:=Pr.ek he
    have hle:=Nat.le_of_ble_eq_true h0
    have hsz:∀ x:ByteArray,x.data.toList.length=x.size:=fun x=>Array.length_toList
    rw [hsz xa,hsz xb] at hle
    have happ:sapp xa xb=xa++xb:=by
     apply ByteArray.ext
     simp [sapp]
    have h0:¬ (((ByteArray.size xa+ByteArray.size xb:Nat):Int)>IntKind.i64.max):=by
     simp only [IntKind.max,IntKind.signed,IntKind.bits]
     simp
     omega
    obtain ⟨h1,h2⟩:=x_hq (D:=D) (tm:=tm) (w:=w) (g:=g) he (x_se _)
    exact ⟨h1,_,by simp only [binOp,Op.stringOp];rw [if_neg h0];rfl,happ▸h2⟩
   case eql=>
    obtain ⟨h1,h2⟩:=x_hq (D:=D) (tm:=tm) (w:=w) (g:=g) he (x_f2 _)
    refine ⟨h1,_,?_,h2⟩
    simp only [binOp,Op.stringOp,ByteArray.toList_eq,Sem.run_pure]
    congr 2
    exact x_od _ _
   case neq=>
    obtain ⟨h1,h2⟩:=x_hq (D:=D) (tm:=tm) (w:=w) (g:=g) he (x_f2 _)
    refine ⟨h1,_,?_,h2⟩
    simp only [binOp,Op.stringOp,ByteArray.toList_eq,Sem.run_pure]
    congr 2
    rw [x_od]
   all_goals exact (Pr.ef he).elim
  all_goals (cases op<;>exact (Pr.ef he).elim)
 all_goals (cases eb<;>cases op<;>exact (Pr.ef he).elim)
theorem x_p8 (TO:x_fu P T.ti) {t:TypeId} {e:ET} (h:isTy T.toEnv t e=true):∃ ti d,T.ti t=some ti∧ti.e=e∧ti.ptr=false∧ti.agg=false∧
  P.underlying t=some d∧x_iv P T.ti ti d=true:=by
 unfold isTy at h
 cases ht:T.ti t with
 | none=>rw [ht] at h;simp at h
 | some ti=>
  rw [ht] at h
  simp only [Bool.and_eq_true,decide_eq_true_eq,Bool.not_eq_true'] at h
  obtain ⟨d,h1,h2⟩:=TO.desc ht
  exact ⟨ti,d,rfl,h.1.1,h.1.2,h.2,h1,h2⟩
theorem isTy_b (TO:x_fu P T.ti) {t:TypeId} (h:isTy T.toEnv t .b=true):P.underlying t=some .bool:=by
 obtain ⟨ti,d,h1,h2,h3,h4,h5,h6⟩:=x_p8 TO h
 rw [h5]
 cases d<;>simp_all [x_iv]
theorem isTy_er (TO:x_fu P T.ti) {t:TypeId} (h:isTy T.toEnv t .er=true):∃ ms,P.underlying t=some (.interface ms):=by
 obtain ⟨ti,d,h1,h2,h3,h4,h5,h6⟩:=x_p8 TO h
 rw [h5]
 cases d<;>simp_all [x_iv]
theorem ok_unOp {op:UnOp} {t:TypeId} {x:Operand} (ho:o.op= .unOp op t x) (I:Inv D st tm w g) (he:(opR T keep i o).Ends st () st'):OpOk P o D st tm w g st' (i+1) ds:=by
 simp only [opR,ho] at he
 obtain ⟨a,s,h1,h2⟩:=Pr.eb he
 obtain ⟨rfl,O⟩:=x_bp (ds:=ds) I h1
 obtain ⟨b,s,h3,h4⟩:=Pr.eb h2
 obtain ⟨c,s',h5,h6⟩:=Pr.eb h3
 obtain ⟨rfl,hl⟩:=x_fn I O h5
 obtain ⟨e,v⟩:=c
 cases op
 case neg=>
  cases e
  case i k=>
   obtain ⟨rfl,O'⟩:=x_hq (D:=D) (tm:=tm) (w:=w) (g:=g) h6 (x_ht _ _)
   refine x_dd I ?_ O' h4
   simp [execOp,ho,x_p6 hl,Op.unary,Op.intArith]
  all_goals exact (Pr.ef h6).elim
 case not=>
  cases e
  case b=>
   obtain ⟨rfl,O'⟩:=x_hq (D:=D) (tm:=tm) (w:=w) (g:=g) h6 (x_f2 _)
   refine x_dd I ?_ O' h4
   simp [execOp,ho,x_pa hl,Op.unary]
  all_goals exact (Pr.ef h6).elim
 all_goals (cases e<;>exact (Pr.ef h6).elim)
end Go.Kn
namespace Go.Kn
variable [Ctx]
variable {P:Program} {D:Key×Nat→Prop} {st st':St} {tm:Array Value} {w w':World} {g:Gh} {ds:List Deferred} {E:Env}
variable {T:Tab} {keep:Bool} {i:Nat} {o:Oper}
def prep (w:World) (g:Gh) (ok:Nat→Prop):(e:ET)→e.val→List Value→Prop
 | .p x y,v,cs=> ∃ c d,cs=c++d∧prep w g ok x v.1 c∧prep w g ok y v.2 d
 | .u,_,cs=>cs=[]
 | .i k,v,cs=> ∃ cv,cs=[cv]∧lrep w g ok false (.i k) v cv
 | .b,v,cs=> ∃ cv,cs=[cv]∧lrep w g ok false .b v cv
 | .s,v,cs=> ∃ cv,cs=[cv]∧lrep w g ok false .s v cv
 | .er,v,cs=> ∃ cv,cs=[cv]∧lrep w g ok false .er v cv
 | .sl x,v,cs=> ∃ cv,cs=[cv]∧lrep w g ok false (.sl x) v cv
theorem x_p5:∀ (e:ET) (v:e.val) (cs:List Value),prep w g g.fr e v cs→rep w g.fr e v cs
 | .p x y,v,cs,h=>by obtain ⟨c,d,rfl,h1,h2⟩:=h;exact ⟨c,d,rfl,x_p5 x v.1 c h1,x_p5 y v.2 d h2⟩
 | .u,_,_,h=>h
 | .i k,v,cs,h=>by obtain ⟨cv,rfl,h⟩:=h;exact h.2
 | .b,v,cs,h=>by obtain ⟨cv,rfl,h⟩:=h;exact h.2
 | .s,v,cs,h=>by obtain ⟨cv,rfl,h⟩:=h;exact h.2
 | .er,v,cs,h=>by obtain ⟨cv,rfl,h⟩:=h;exact h.2
 | .sl x,v,cs,h=>by obtain ⟨cv,rfl,h⟩:=h;exact ⟨cv,rfl,h⟩
theorem x_on:∀ (e:ET) (v:e.val) (cs:List Value),rep w g.fr e v cs→prep w g g.fr e v cs
 | .p x y,v,cs,h=>by obtain ⟨c,d,rfl,h1,h2⟩:=h;exact ⟨c,d,rfl,x_on x v.1 c h1,x_on y v.2 d h2⟩
 | .u,_,_,h=>h
 | .i k,v,cs,h=>⟨_,h,rfl,rfl⟩
 | .b,v,cs,h=>⟨_,h,rfl,rfl⟩
 | .s,v,cs,h=>⟨_,h,rfl,rfl⟩
 | .er,v,cs,h=>by obtain ⟨x,rfl,h⟩:=h;exact ⟨x,rfl,rfl,x,rfl,h⟩
 | .sl x,v,cs,h=>by obtain ⟨sv,rfl,h⟩:=h;exact ⟨sv,rfl,h⟩
theorem x_hf {ok:Nat→Prop}:∀ (e:ET) (v:e.val) (cs:List Value),prep w g ok e v cs→cs.length=e.cells
 | .p x y,v,cs,h=>by obtain ⟨c,d,rfl,h1,h2⟩:=h;simp [ET.cells,x_hf x v.1 c h1,x_hf y v.2 d h2]
 | .u,_,_,h=>by simp only [prep] at h;subst h;rfl
 | .i k,v,cs,h=>by obtain ⟨cv,rfl,h⟩:=h;rfl
 | .b,v,cs,h=>by obtain ⟨cv,rfl,h⟩:=h;rfl
 | .s,v,cs,h=>by obtain ⟨cv,rfl,h⟩:=h;rfl
 | .er,v,cs,h=>by obtain ⟨cv,rfl,h⟩:=h;rfl
 | .sl x,v,cs,h=>by obtain ⟨cv,rfl,h⟩:=h;rfl
inductive Lvs (w:World) (g:Gh) (ok:Nat→Prop):List LV→List Value→Prop
 | nil:Lvs w g ok [] []
 | cons (a:LV) (v:Value) (l:List LV) (vs:List Value) (h:lrep w g ok false a.1 a.2 v) (t:Lvs w g ok l vs):Lvs w g ok (a::l) (v::vs)
theorem Lvs.append {ok:Nat→Prop} {a b:List LV} {u v:List Value} (h:Lvs w g ok a u) (k:Lvs w g ok b v):Lvs w g ok (a++b) (u++v):=by
 induction h with
 | nil=>exact k
 | cons a v l vs h t ih=>exact .cons _ _ _ _ h ih
theorem Lvs.split {ok:Nat→Prop}:∀ (a b:List LV) (v:List Value),Lvs w g ok (a++b) v→ ∃ c d,v=c++d∧Lvs w g ok a c∧Lvs w g ok b d
 | [],b,v,h=>⟨[],v,rfl, .nil,h⟩
 | x::a,b,v,h=>by
  cases h with
  | cons _ y _ vs h t=>
   obtain ⟨c,d,rfl,h1,h2⟩:=Lvs.split a b vs t
   exact ⟨y::c,d,rfl, .cons _ _ _ _ h h1,h2⟩
theorem x_f7 {x y:ET} {v:x.val} {v':y.val} (h:x_so x y v=some v'):∃ e:x=y,v'=e▸v:=by
 unfold x_so at h
 by_cases hxy:x=y
 ·rw [dif_pos hxy] at h;exact ⟨hxy,(Option.some.inj h).symm⟩
 ·rw [dif_neg hxy] at h;simp at h
theorem x_lo {ok:Nat→Prop}:∀ (e:ET) (l:List LV) (v:e.val) (r:List LV) (cs:List Value),x_e6 e l=some (v,r)→Lvs w g ok l cs→
  ∃ c d,cs=c++d∧prep w g ok e v c∧Lvs w g ok r d
 | .p x y,l,v,r,cs,h,hl=>by
  simp only [x_e6,Option.bind_eq_some_iff,Option.map_eq_some_iff] at h
  obtain ⟨⟨a,m⟩,h1,⟨b,r'⟩,h2,h3⟩:=h
  simp only [Prod.mk.injEq] at h3
  obtain ⟨rfl,rfl⟩:=h3
  obtain ⟨c,d,rfl,h4,h5⟩:=x_lo x l a m cs h1 hl
  obtain ⟨c',d',rfl,h6,h7⟩:=x_lo y m b r' d h2 h5
  exact ⟨c++c',d',by simp,⟨c,c',rfl,h4,h6⟩,h7⟩
 | .u,l,v,r,cs,h,hl=>by
  simp only [x_e6,sj_,Prod.mk.injEq] at h
  obtain ⟨_,rfl⟩:=h
  exact ⟨[],cs,rfl,rfl,hl⟩
 | .sl x,l,v,r,cs,h,hl=>by
  cases hl with
  | nil=>simp [x_e6] at h
  | cons a cv l vs h1 t=>
   simp only [x_e6,Option.map_eq_some_iff,Prod.mk.injEq] at h
   obtain ⟨v0,h2,rfl,rfl⟩:=h
   obtain ⟨he,hv⟩:=x_f7 h2
   obtain ⟨ea,xa⟩:=a
   simp only at he hv h1
   subst he
   subst hv
   exact ⟨[cv],vs,rfl,⟨cv,rfl,h1⟩,t⟩
 | .i k,l,v,r,cs,h,hl=>by
  cases hl with
  | nil=>simp [x_e6] at h
  | cons a cv l vs h1 t=>
   simp only [x_e6,Option.map_eq_some_iff,Prod.mk.injEq] at h
   obtain ⟨v0,h2,rfl,rfl⟩:=h
   obtain ⟨he,hv⟩:=x_f7 h2
   obtain ⟨ea,xa⟩:=a
   simp only at he hv h1
   subst he
   subst hv
   exact ⟨[cv],vs,rfl,⟨cv,rfl,h1⟩,t⟩
 | .b,l,v,r,cs,h,hl=>by
  cases hl with
  | nil=>simp [x_e6] at h
  | cons a cv l vs h1 t=>
   simp only [x_e6,Option.map_eq_some_iff,Prod.mk.injEq] at h
   obtain ⟨v0,h2,rfl,rfl⟩:=h
   obtain ⟨he,hv⟩:=x_f7 h2
   obtain ⟨ea,xa⟩:=a
   simp only at he hv h1
   subst he
   subst hv
   exact ⟨[cv],vs,rfl,⟨cv,rfl,h1⟩,t⟩
 | .s,l,v,r,cs,h,hl=>by
  cases hl with
  | nil=>simp [x_e6] at h
  | cons a cv l vs h1 t=>
   simp only [x_e6,Option.map_eq_some_iff,Prod.mk.injEq] at h
   obtain ⟨v0,h2,rfl,rfl⟩:=h
   obtain ⟨he,hv⟩:=x_f7 h2
   obtain ⟨ea,xa⟩:=a
   simp only at he hv h1
   subst he
   subst hv
   exact ⟨[cv],vs,rfl,⟨cv,rfl,h1⟩,t⟩
 | .er,l,v,r,cs,h,hl=>by
  cases hl with
  | nil=>simp [x_e6] at h
  | cons a cv l vs h1 t=>
   simp only [x_e6,Option.map_eq_some_iff,Prod.mk.injEq] at h
   obtain ⟨v0,h2,rfl,rfl⟩:=h
   obtain ⟨he,hv⟩:=x_f7 h2
   obtain ⟨ea,xa⟩:=a
   simp only at he hv h1
   subst he
   subst hv
   exact ⟨[cv],vs,rfl,⟨cv,rfl,h1⟩,t⟩
theorem x_v6 {ok:Nat→Prop} {e:ET} {l:List LV} {v:e.val} {cs:List Value} (h:ofLV e l=some v) (hl:Lvs w g ok l cs):prep w g ok e v cs:=by
 simp only [ofLV,Option.bind_eq_some_iff] at h
 obtain ⟨⟨a,r⟩,h1,h2⟩:=h
 cases r with
 | nil=>
  simp only [sj_] at h2
  subst h2
  obtain ⟨c,d,rfl,h3,h4⟩:=x_lo e l a [] cs h1 hl
  cases h4
  simpa using h3
 | cons b r=>simp at h2
theorem x_n5 {ok:Nat→Prop}:∀ (e:ET) (v:e.val) (cs:List Value),prep w g ok e v cs→Lvs w g ok (lv e v) cs
 | .p x y,v,cs,h=>by obtain ⟨c,d,rfl,h1,h2⟩:=h;exact (x_n5 x v.1 c h1).append (x_n5 y v.2 d h2)
 | .u,_,_,h=>by simp only [prep] at h;subst h;exact .nil
 | .i k,v,cs,h=>by obtain ⟨cv,rfl,h⟩:=h;exact .cons _ _ _ _ h .nil
 | .b,v,cs,h=>by obtain ⟨cv,rfl,h⟩:=h;exact .cons _ _ _ _ h .nil
 | .s,v,cs,h=>by obtain ⟨cv,rfl,h⟩:=h;exact .cons _ _ _ _ h .nil
 | .er,v,cs,h=>by obtain ⟨cv,rfl,h⟩:=h;exact .cons _ _ _ _ h .nil
 | .sl x,v,cs,h=>by obtain ⟨cv,rfl,h⟩:=h;exact .cons _ _ _ _ h .nil
theorem x_09 (I:Inv D st tm w g):∀ (cs:List Cell) (vs:List Value) (ls:List LV) (s1:St),(mapP look cs).Ends st ls s1→cs.length=vs.length→
  (∀ (j:Nat) c,cs[j]?=some c→ ∃ cv,vs[j]?=some cv∧x_b5 st tm w g ⟨true,0,0⟩ c cv)→s1=st∧Lvs w g g.rd ls vs
 | [],vs,ls,_,he,hl,hc=>by
  obtain ⟨rfl,rfl⟩:=Pr.er he
  obtain rfl:vs=[]:=List.length_eq_zero_iff.1 hl.symm
  exact ⟨rfl, .nil⟩
 | c::cs,vs,ls,_,he,hl,hc=>by
  cases vs with
  | nil=>simp at hl
  | cons v vs=>
   obtain ⟨a,s,h1,h2⟩:=Pr.eb he
   obtain ⟨cv,hv,hr⟩:=hc 0 c rfl
   simp only [List.getElem?_cons_zero,sj_] at hv
   subst hv
   obtain ⟨hs,h1⟩:=x_mu I h1 hr
   rw [hs] at h2
   obtain ⟨r,s',h3,h4⟩:=Pr.eb h2
   obtain ⟨hs,h3⟩:=x_09 I cs vs r _ h3 (by simpa using hl) (fun j d hd=>by simpa using hc (j+1) d (by simpa using hd))
   obtain ⟨rfl,hs'⟩:=Pr.er h4
   exact ⟨hs'.trans hs, .cons _ _ _ _ h1 h3⟩
def vOf:ET→List Value→Value
 | .p _ _,cs=> .agg cs.toArray
 | _,cs=>cs.headD undef
theorem x_y3 {t:TypeId} {e:ET} {v:e.val} {ok:Nat→Prop} {pre c post:List Value} {w:World} (hu:(P.underlying t).isSome=true)
  (hs:(P.info? t).map (·.size)=some e.cells) (ha:aggOf P t=isP e) (hp:prep w g ok e v c) (hne:e≠ .u) (off:Nat) (ho:off=pre.length) (w2:World) :
  (part t (pre++c++post).toArray off).run P w2= .ok (vOf e c) w2:=by
 obtain ⟨d,hd⟩:=Option.isSome_iff_exists.1 hu
 have hl:=x_hf e v c hp
 have hsz:(Go.sizeOf t).run P w2= .ok e.cells w2:=by
  cases hi:P.info? t with
  | none=>rw [hi] at hs;simp at hs
  | some inf=>rw [hi] at hs;simp only [Option.map_some,sj_] at hs;simp [Go.sizeOf,typeInfo,hi,hs]
 subst ho
 unfold part
 simp only [Sem.run_bind,x_qz hd,Result.andThen_ok,ha]
 cases e with
 | p x y=>
  simp only [isP,if_true,Sem.run_bind,hsz,Result.andThen_ok,Sem.run_pure,vOf]
  congr 2
  simp only [List.extract_toArray,List.extract_eq_take_drop,List.append_assoc,List.drop_left]
  rw [show pre.length+(x.p y).cells-pre.length=c.length by omega]
  simp
 | u=>exact absurd rfl hne
 | _=>
  obtain ⟨cv,rfl,_⟩:=hp
  simp [isP,vOf]
theorem eqTy_u {d:Nat} {t:TypeId} (h:eqTy P d t .u=true):False:=by
 cases d with
 | zero=>simp [eqTy] at h
 | succ d=>unfold eqTy at h;split at h<;>simp_all
theorem x_x5 {ok:Nat→Prop} {d:Nat} (ih:∀ (t:TypeId) (e:ET),eqTy P d t e=true→ ∀ (v v':e.val) (c c':List Value),prep w g ok e v c→prep w g ok e v' c'→
   ∀ w2,(Op.equalIn d t (vOf e c) (vOf e c')).run P w2= .ok (eqv e v v') w2) :
  ∀ (fs:List Field) (e:ET) (off:Nat),eqFs P (eqTy P d) fs e off=true→ ∀ (v v':e.val) (pre pre' c c':List Value),pre.length=off→pre'.length=off→
   prep w g ok e v c→prep w g ok e v' c'→ ∀ w2,(Op.eqFields d (pre++c).toArray (pre'++c').toArray fs).run P w2= .ok (eqv e v v') w2:=by
 have one:∀ (f:Field) (e:ET) (off:Nat),x_sx P (eqTy P d) f e off=true→ ∀ (v v':e.val) (pre pre' c c' post post':List Value),pre.length=off→pre'.length=off→
   prep w g ok e v c→prep w g ok e v' c'→ ∀ (fs:List Field) w2,(Op.eqFields d (pre++c++post).toArray (pre'++c'++post').toArray (f::fs)).run P w2 =
    if eqv e v v' then (Op.eqFields d (pre++c++post).toArray (pre'++c'++post').toArray fs).run P w2 else .ok false w2:=by
  intro f e off hf v v' pre pre' c c' post post' h1 h2 hp hp' fs w2
  simp only [x_sx,Bool.and_eq_true,beq_iff_eq,bne_iff_ne] at hf
  obtain ⟨⟨⟨⟨⟨k1,k2⟩,k3⟩,k4⟩,k5⟩,k6⟩:=hf
  have hne:e≠ .u:=fun h=>by subst h;exact eqTy_u k6
  simp only [Op.eqFields,if_pos k1,k2,Sem.run_bind,x_y3 k5 k3 k4 hp hne off h1.symm,x_y3 k5 k3 k4 hp' hne off h2.symm,Result.andThen_ok,ih _ _ k6 v v' c c' hp hp',Sem.run_ite,
   Sem.run_pure]
  cases eqv e v v'<;>simp
 intro fs
 induction fs with
 | nil=>intro e off h;simp [eqFs] at h
 | cons f fs ihf=>
  intro e off h v v' pre pre' c c' h1 h2 hp hp' w2
  cases fs with
  | nil=>
   have hf:x_sx P (eqTy P d) f e off=true:=by
    cases e<;>simpa [eqFs] using h
   have:=one f e off hf v v' pre pre' c c' [] [] h1 h2 hp hp' [] w2
   simp only [List.append_nil] at this
   rw [this]
   cases eqv e v v'<;>simp [Op.eqFields]
  | cons f2 fs=>
   cases e with
   | p x y=>
    simp only [eqFs,Bool.and_eq_true] at h
    obtain ⟨a,b,rfl,ha,hb⟩:=hp
    obtain ⟨a',b',rfl,ha',hb'⟩:=hp'
    have:=one f x off h.1 v.1 v'.1 pre pre' a a' b b' h1 h2 ha ha' (f2::fs) w2
    simp only [List.append_assoc] at this
    rw [this, ←List.append_assoc, ←List.append_assoc,ihf y (off+x.cells) h.2 v.2 v'.2 (pre++a) (pre'++a') b b' (by simp [h1,x_hf _ _ _ ha]) (by simp [h2,x_hf _ _ _ ha']) hb hb' w2]
    simp only [eqv]
    cases eqv x v.1 v'.1<;>simp
   | _=>simp [eqFs] at h
theorem x_v1 {ok:Nat→Prop}:∀ (d:Nat) (t:TypeId) (e:ET),eqTy P d t e=true→ ∀ (v v':e.val) (c c':List Value),prep w g ok e v c→prep w g ok e v' c'→
  ∀ w2,(Op.equalIn d t (vOf e c) (vOf e c')).run P w2= .ok (eqv e v v') w2
 | 0,t,e,h=>by simp [eqTy] at h
 | d+1,t,e,h=>by
  intro v v' c c' hp hp' w2
  unfold eqTy at h
  split at h
  ·rename_i k k' hu
   obtain ⟨cv,rfl,hc⟩:=hp
   obtain ⟨cv',rfl,hc'⟩:=hp'
   obtain rfl:=x_p6 hc
   obtain rfl:=x_p6 hc'
   simp only [vOf,List.headD_cons,run_equalIn_int w2 d t _ _ _ _ hu,eqv]
   congr 1
  ·rename_i hu
   obtain ⟨cv,rfl,hc⟩:=hp
   obtain ⟨cv',rfl,hc'⟩:=hp'
   obtain rfl:=x_pa hc
   obtain rfl:=x_pa hc'
   simp only [vOf,List.headD_cons,run_equalIn_bool' w2 d t _ _ hu,eqv]
  ·rename_i hu
   obtain ⟨cv,rfl,hc⟩:=hp
   obtain ⟨cv',rfl,hc'⟩:=hp'
   obtain rfl:=x_mi hc
   obtain rfl:=x_mi hc'
   simp only [vOf,List.headD_cons,run_equalIn_string w2 d t _ _ hu,eqv,ByteArray.toList_eq]
   congr 1
   exact x_od _ _
  ·rename_i fs x y hu
   simp only [Bool.and_eq_true,Bool.not_eq_true'] at h
   have hf:P.fieldsOf t=fs:=by simp [Program.fieldsOf,hu]
   have hs:P.underlying t=some (.struct (P.fieldsOf t)):=by rw [hf];exact hu
   simp only [vOf]
   rw [run_equalIn_struct w2 d t _ _ hs h.1,hf]
   exact x_x5 (x_v1 d) fs.toList (.p x y) 0 h.2 v v' [] [] c c' rfl rfl hp hp' w2
  ·simp at h
theorem agg_lvs (I:Inv D st tm w g) {cs:List Cell} {v:Value} (O:Opd D st tm w g (.agg cs) v) {ls:List LV} (he:(mapP look cs).Ends st ls st') :
  st'=st∧ ∃ vs:List Value,v= .agg vs.toArray∧Lvs w g g.rd ls vs:=by
 obtain ⟨vs,rfl,hl⟩:=O.shp
 obtain ⟨rfl,h⟩:=x_09 I cs vs.toList ls _ he (by simpa using hl.symm) fun j c hc=>by
  obtain ⟨_,_,cv,h1,h2⟩:=O.cel j c hc
  exact ⟨cv,h1,h2⟩
 exact ⟨rfl,vs.toList,rfl,h⟩
theorem x_ke {ok:Nat→Prop} {e:ET} {l:List LV} {v:e.val} {vs:List Value} (he:(x_kl e l).Ends st v st') (hl:Lvs w g ok l vs):st'=st∧prep w g ok e v vs:=by
 obtain ⟨h,rfl⟩:=x_fq he
 exact ⟨rfl,x_v6 h hl⟩
theorem eqTy_p {d:Nat} {t:TypeId} {e:ET} {fs:Array Field} (h:eqTy P d t e=true) (hu:P.underlying t=some (.struct fs)):∃ x y,e= .p x y:=by
 cases d with
 | zero=>simp [eqTy] at h
 | succ d=>
  unfold eqTy at h
  rw [hu] at h
  cases e<;>simp at h
  exact ⟨_,_,rfl⟩
theorem x_nq (TO:x_fu P T.ti) {t:TypeId} {i:TInf} (h:T.ti t=some i) (ha:i.agg=true):∃ fs,P.underlying t=some (.struct fs):=by
 obtain ⟨d,h1,h2⟩:=TO.desc h
 rw [h1]
 cases d<;>simp_all [x_iv]
theorem x_x8 {x:Operand} (h:isNil x=true):(⟨tm,ds⟩ : Act).eval x= .nilIface:=by
 unfold isNil at h
 split at h
 ·rfl
 ·simp at h
theorem x_qc (d:Nat) {t:TypeId} {v:Value} {b:Bool} {ms:Array (String×TypeId)} (hu:P.underlying t=some (.interface ms)) (he:isErr v b) (w:World) :
  (Op.equalIn (d+1) t v .nilIface).run P w= .ok (!b) w:=by
 cases v<;>simp only [isErr] at he
 ·subst he;simp [Op.equalIn,Go.underlying,hu]
 ·subst he;simp [Op.equalIn,Go.underlying,hu]
theorem run_er {op:BinOp} {t:TypeId} {v:Value} {b:Bool} (hu:∃ ms,P.underlying t=some (.interface ms)) (he:isErr v b) (hop:op= .eql∨op= .neq) (w:World) :
  (binOp op t v .nilIface).run P w= .ok (.bool (if op= .eql then !b else b)) w:=by
 obtain ⟨ms,hu⟩:=hu
 have:=fun w=>x_qc (P:=P) 9999 hu he w
 rcases hop with rfl | rfl<;>cases v<;>simp only [isErr] at he<;>
  ·simp only [binOp,Op.equal,Op.maxDepth,Sem.run_bind,this,Result.andThen_ok,Sem.run_pure]
   simp
theorem run_b {op:BinOp} {t:TypeId} {a b:Bool} (hu:P.underlying t=some .bool) (hop:op= .eql∨op= .neq) (w:World) :
  (binOp op t (.bool a) (.bool b)).run P w= .ok (.bool (if op= .eql then a == b else !(a == b))) w:=by
 rcases hop with rfl | rfl
 ·simp [binOp,Op.equal,Op.maxDepth,run_equalIn_bool' w 9999 t a b hu]
 ·simp [binOp,Op.equal,Op.maxDepth,run_equalIn_bool' w 9999 t a b hu]
theorem x_xp {y:Operand} (h:isNil y=true):y= .const .nilIface:=by
 unfold isNil at h
 split at h
 ·rfl
 ·simp at h
theorem guard_ok {op:BinOp} {t:TypeId} {x y:Operand} {a b:Value} (w:World) (h:∀ c,a≠ .agg c) (hy:a= .nilIface→b= .nilIface→isNil y=true) :
  (eqGuard op t x y a b).run P w= .ok () w:=by
 cases a
 case agg c=>exact absurd rfl (h c)
 case nilIface=>
  cases b
  case nilIface=>
   obtain rfl:=x_xp (hy rfl rfl)
   cases op<;>simp [eqGuard]
  all_goals (cases op<;>simp [eqGuard])
 all_goals (cases op<;>simp [eqGuard])
theorem x_fy {x r:SC} {v:Value} {s1 s:St} (he:(Pr.ret x).Ends s1 r s) (O:Opd D st tm w g x v):s=s1∧Opd D st tm w g r v:=by
 obtain ⟨rfl,rfl⟩:=Pr.er he;exact ⟨rfl,O⟩
theorem scal_ends (TO:x_fu P T.ti) {op:BinOp} {t:TypeId} {y:Operand} {la lb:LV} {va vb:Value} {r:SC} (hl:lrep w g g.rd false la.1 la.2 va) (hl':lrep w g g.rd false lb.1 lb.2 vb)
  (hvb:isNil y=true→vb= .nilIface) (h10:(scalR T.toEnv op t (isNil y) la lb).Ends st r st') :
  st'=st∧ ∃ v,(va= .nilIface→vb= .nilIface→isNil y=true)∧(binOp op t va vb).run P w= .ok v w∧Opd D st tm w g r v:=by
 unfold scalR at h10
 split at h10
 ·rename_i hn
  rw [Bool.and_eq_true] at hn
  obtain ⟨e,v⟩:=la
  obtain rfl:=hvb hn.1
  have hu:=isTy_er TO hn.2
  cases op
  case eql=>
   cases e
   case er=>
    obtain ⟨rfl,O⟩:=x_fy (D:=D) (st:=st) (tm:=tm) (w:=w) (g:=g) h10 (x_f2 _)
    exact ⟨rfl,_,fun _ _=>hn.1,run_er hu (x_zj hl) (.inl rfl) w,by simpa using O⟩
   all_goals exact (Pr.ef h10).elim
  case neq=>
   cases e
   case er=>
    obtain ⟨rfl,O⟩:=x_fy (D:=D) (st:=st) (tm:=tm) (w:=w) (g:=g) h10 (x_f2 _)
    exact ⟨rfl,_,fun _ _=>hn.1,run_er hu (x_zj hl) (.inr rfl) w,by simpa using O⟩
   all_goals exact (Pr.ef h10).elim
  all_goals (cases e<;>exact (Pr.ef h10).elim)
 ·split at h10
  ·rename_i hb
   have hu:=isTy_b TO hb
   obtain ⟨e,v⟩:=la
   obtain ⟨e',v'⟩:=lb
   cases op
   case eql=>
    cases e
    case b=>
     cases e'
     case b=>
      obtain rfl:=x_pa hl
      obtain rfl:=x_pa hl'
      obtain ⟨rfl,O⟩:=x_fy (D:=D) (st:=st) (tm:=tm) (w:=w) (g:=g) h10 (x_f2 _)
      exact ⟨rfl,_,fun h=>by simp at h,run_b hu (.inl rfl) w,by simpa using O⟩
     all_goals exact (Pr.ef h10).elim
    all_goals (cases e'<;>exact (Pr.ef h10).elim)
   case neq=>
    cases e
    case b=>
     cases e'
     case b=>
      obtain rfl:=x_pa hl
      obtain rfl:=x_pa hl'
      obtain ⟨rfl,O⟩:=x_fy (D:=D) (st:=st) (tm:=tm) (w:=w) (g:=g) h10 (x_f2 _)
      exact ⟨rfl,_,fun h=>by simp at h,run_b hu (.inr rfl) w,by simpa using O⟩
     all_goals exact (Pr.ef h10).elim
    all_goals (cases e'<;>exact (Pr.ef h10).elim)
   all_goals (cases e<;>cases e'<;>exact (Pr.ef h10).elim)
  ·obtain ⟨h1,v,h2,h3⟩:=x_0q t hl hl' h10
   refine ⟨h1,v,fun ha hb=>?_,h2,h3⟩
   subst ha
   obtain ⟨e,x⟩:=la
   obtain ⟨e',x'⟩:=lb
   cases e
   case i k=>simpa using x_p6 hl
   case s=>simpa using x_mi hl
   all_goals (cases op<;>cases e'<;>exact (Pr.ef h10).elim)
theorem ok_binOp {op:BinOp} {t ty:TypeId} {x y:Operand} (TO:x_fu P T.ti) (ho:o.op= .binOp op t x y ty) (I:Inv D st tm w g) (he:(opR T keep i o).Ends st () st') :
  OpOk P o D st tm w g st' (i+1) ds:=by
 simp only [opR,ho] at he
 obtain ⟨a,s,h1,h2⟩:=Pr.eb he
 obtain ⟨rfl,O⟩:=x_bp (ds:=ds) I h1
 obtain ⟨b,s,h3,h4⟩:=Pr.eb h2
 obtain ⟨rfl,O'⟩:=x_bp (ds:=ds) I h3
 obtain ⟨r,s,h5,h6⟩:=Pr.eb h4
 have fin:∀ {v:Value},(eqGuard op t x y ((⟨tm,ds⟩ : Act).eval x) ((⟨tm,ds⟩ : Act).eval y)).run P w= .ok () w→
   (binOp op t ((⟨tm,ds⟩ : Act).eval x) ((⟨tm,ds⟩ : Act).eval y)).run P w= .ok v w→(execOp (⟨tm,ds⟩ : Act).eval o).run P w= .ok (.value v) w:=by
  intro v hg hr
  simp only [execOp,ho,Sem.run_bind,hg,hr,Result.andThen_ok,Sem.run_pure]
 have hvb:isNil y=true→(⟨tm,ds⟩ : Act).eval y= .nilIface:=x_x8
 revert fin O O' hvb
 generalize (⟨tm,ds⟩ : Act).eval x=va
 generalize (⟨tm,ds⟩ : Act).eval y=vb
 intro O O' fin hvb
 unfold binR at h5
 split at h5
 ·split at h5
  ·rename_i ti hti
   split at h5
   ·rename_i heq
    rw [Bool.and_eq_true] at heq
    obtain ⟨hq,hgt⟩:=TO.eq hti heq.1
    obtain ⟨la,s1,k1,k2⟩:=Pr.eb h5
    obtain ⟨rfl,vs,rfl,hl⟩:=agg_lvs I O k1
    obtain ⟨ra,s1,k3,k4⟩:=Pr.eb k2
    obtain ⟨rfl,hp⟩:=x_ke k3 hl
    obtain ⟨lb,s1,k5,k6⟩:=Pr.eb k4
    obtain ⟨rfl,vs',rfl,hl'⟩:=agg_lvs I O' k5
    obtain ⟨rb,s1,k7,k8⟩:=Pr.eb k6
    obtain ⟨rfl,hp'⟩:=x_ke k7 hl'
    obtain ⟨fs,hu⟩:=x_nq TO hti heq.2
    obtain ⟨x',y',he'⟩:=eqTy_p hq hu
    have hr:=x_v1 10000 t ti.e hq ra rb vs vs' hp hp' w
    have hv:∀ c,vOf ti.e c= .agg c.toArray:=fun c=>by rw [he'];rfl
    rw [hv,hv] at hr
    cases op
    case eql=>
     obtain ⟨rfl,Or⟩:=x_fy (D:=D) (tm:=tm) (w:=w) (g:=g) k8 (x_f2 _)
     refine x_dd I (fin (run_eqGuard_agg w _ t x y _ _ hgt) ?_) Or h6
     rw [run_eql_struct,hr]
     rfl
    case neq=>
     obtain ⟨rfl,Or⟩:=x_fy (D:=D) (tm:=tm) (w:=w) (g:=g) k8 (x_f2 _)
     refine x_dd I (fin (run_eqGuard_agg w _ t x y _ _ hgt) ?_) Or h6
     rw [run_neq_struct,hr]
     rfl
    all_goals exact (Pr.ef k8).elim
   ·exact (Pr.ef h5).elim
  ·exact (Pr.ef h5).elim
 ·obtain ⟨la,s1,h7,h8⟩:=Pr.eb h5
  obtain ⟨rfl,hl⟩:=x_fn I O h7
  obtain ⟨lb,s1,h9,h10⟩:=Pr.eb h8
  obtain ⟨rfl,hl'⟩:=x_fn I O' h9
  obtain ⟨rfl,v,hg,hr,Or⟩:=scal_ends (D:=D) (tm:=tm) TO hl hl' hvb h10
  refine x_dd I (fin (guard_ok _ ?_ hg) hr) Or h6
  cases a with
  | one c=>exact O.one.1.1
  | _=>exact (Pr.ef h7).elim
end Go.Kn
namespace Go.Kn
variable [Ctx]
variable {P:Program} {D:Key×Nat→Prop} {st st':St} {tm:Array Value} {w w':World} {g:Gh} {ds:List Deferred} {E:Env}
variable {T:Tab} {keep:Bool} {i:Nat} {o:Oper}
theorem x_d6 {ok:Nat→Prop} {wr:Bool} {e:ET} {v:e.val} {cv:Value} (h:lrep w g ok wr e v cv):x_d7 cv:=by
 cases e with
 | sl x=>
  rcases h with ⟨_,h,_⟩ | ⟨b,o,cap,cs,ty,fz,h,_⟩<;>subst h<;>simp [x_d7]
 | p _ _=>exact h.elim
 | u=>exact h.2
 | i k=>obtain ⟨rfl,h⟩:=h;have:=x_p6 (ok:=ok) (w:=w) (g:=g) ⟨rfl,h⟩;subst this;simp [x_d7]
 | b=>obtain ⟨rfl,h⟩:=h;have:=x_pa (ok:=ok) (w:=w) (g:=g) ⟨rfl,h⟩;subst this;simp [x_d7]
 | s=>obtain ⟨rfl,h⟩:=h;have:=x_mi (ok:=ok) (w:=w) (g:=g) ⟨rfl,h⟩;subst this;simp [x_d7]
 | er=>obtain ⟨rfl,h⟩:=h;have:=x_zj (ok:=ok) (w:=w) (g:=g) ⟨rfl,h⟩;cases cv<;>simp [isErr,x_d7] at this ⊢
theorem noX_st {q q':Pl} {c:Cell} (hx:noX c):stC q c=stC q' c:=by
 cases c with
 | val m e v=>cases m<;>first | rfl | exact hx.elim
 | _=>rfl
theorem x_t8 (v:Value):Opd D st tm w g .dead v:=⟨trivial,fun j c h=>by simp [SC.cells] at h,by simp [stS]⟩
def p0:Pl:=⟨true,0,0⟩
def okCell (D:Key×Nat→Prop) (st:St) (tm:Array Value) (w:World) (g:Gh) (c:Cell) (cv:Value):Prop:=noX c∧(∀ t∈stC p0 c,D t)∧x_b5 st tm w g p0 c cv
theorem x_0v (I:Inv D st tm w g) {c:Cell} {sc:SC} {cv:Value} (he:(oneOf c).Ends st sc st') (hc:okCell D st tm w g c cv):st'=st∧Opd D st tm w g sc cv:=by
 obtain ⟨hx,hs,hr⟩:=hc
 cases c with
 | val m e v=>
  obtain ⟨rfl,rfl⟩:=Pr.er he
  refine ⟨rfl,x_eu ?_ hx hs hr⟩
  cases m with
  | f=>exact x_d6 hr
  | r=>exact x_d6 hr
  | x t=>exact hx.elim
 | nil x=>obtain ⟨rfl,rfl⟩:=Pr.er he;exact ⟨rfl,x_eu (by rw [show cv= .slice none 0 0 from hr];simp) hx hs hr⟩
 | dead=>obtain ⟨rfl,rfl⟩:=Pr.er he;exact ⟨rfl,x_t8 _⟩
 | ref h t=>
  obtain ⟨x,s,h1,h2⟩:=Pr.eb he
  obtain ⟨h1,rfl⟩:=x_bn h1
  obtain ⟨rfl,rfl⟩:=Pr.er h2
  obtain ⟨hv,h3,h4⟩:=I.own h1
  have:=hr _ _ h1
  rw [h3] at this
  obtain rfl:=Option.some.inj this
  exact ⟨rfl,x_eu (x_d6 (e:= .sl x.1) h4) hx hs hr⟩
 | win h t lo hi=>
  obtain ⟨x,s,h1,h2⟩:=Pr.eb he
  obtain ⟨h1,rfl⟩:=x_bn h1
  obtain ⟨rfl,rfl⟩:=Pr.er h2
  obtain ⟨hv,h3,h4⟩:=I.own h1
  obtain ⟨hv',h5,h6⟩:=hr _ _ h1
  rw [h3] at h5
  obtain rfl:=Option.some.inj h5
  exact ⟨rfl,x_eu (x_d6 (e:= .sl x.1) (x_br.win h4 h6)) hx hs hr⟩
 | ptr n t off=>
  obtain ⟨x,h1,h2⟩:=Pr.ends_rb he
  obtain ⟨hb,h2⟩:=Pr.ek h2
  obtain ⟨rfl,rfl⟩:=Pr.er h2
  obtain ⟨cs,h3,_⟩:=x_fx I h1
  have:=hr (x_ek.2 ⟨cs,by rw [h3,beq_iff_eq.1 hb]⟩)
  exact ⟨rfl,x_eu (by rw [this];simp) hx hs hr⟩
theorem x_wn {cs:List Cell} {vs:List Value} (hl:cs.length=vs.length) (hc:∀ (j:Nat) c,cs[j]?=some c→ ∃ cv,vs[j]?=some cv∧okCell D st tm w g c cv) :
  Opd D st tm w g (.agg cs) (.agg vs.toArray):=
 ⟨⟨_,rfl,by simp [hl]⟩,fun j c h=>by
  obtain ⟨cv,h1,h2,h3,h4⟩:=hc j c h
  exact ⟨h2,h3,cv,h1,h4⟩,by simp [stS]⟩
theorem Opd.agg {cs:List Cell} {v:Value} (O:Opd D st tm w g (.agg cs) v):∃ vs:List Value,v= .agg vs.toArray∧cs.length=vs.length∧
  ∀ (j:Nat) c,cs[j]?=some c→ ∃ cv,vs[j]?=some cv∧okCell D st tm w g c cv:=by
 obtain ⟨vs,rfl,hl⟩:=O.shp
 exact ⟨vs.toList,rfl,by simp [hl],fun j c h=>by
  obtain ⟨h2,h3,cv,h1,h4⟩:=O.cel j c h
  exact ⟨cv,h1,h2,h3,h4⟩⟩
theorem x_uz (I:Inv D st tm w g) {agg:Bool} {cs:List Cell} {vs:List Value} {sc:SC} (he:(cutS agg cs).Ends st sc st') (hl:cs.length=vs.length)
  (hc:∀ (j:Nat) c,cs[j]?=some c→ ∃ cv,vs[j]?=some cv∧okCell D st tm w g c cv) :
  st'=st∧Opd D st tm w g sc (if agg then .agg vs.toArray else vs.headD undef)∧(agg=false→ ∃ v,vs=[v]):=by
 unfold cutS at he
 cases agg with
 | true=>
  obtain ⟨rfl,rfl⟩:=Pr.er he
  exact ⟨rfl,x_wn hl hc,by simp⟩
 | false=>
  simp only [Bool.false_eq_true,if_false] at he
  split at he
  ·rename_i c
   obtain ⟨v,rfl⟩ : ∃ v,vs=[v]:=List.length_eq_one_iff.1 (by simpa using hl.symm)
   obtain ⟨cv,h1,h2⟩:=hc 0 c rfl
   simp only [List.getElem?_cons_zero,sj_] at h1
   subst h1
   obtain ⟨rfl,O⟩:=x_0v I he h2
   exact ⟨rfl,O,fun _=>⟨_,rfl⟩⟩
  ·exact (Pr.ef he).elim
theorem x_ri (TO:x_fu P T.ti) {t:TypeId} {e:ET} (h:elT T.toEnv t e=true):∃ ti te,T.ti t=some ti∧T.ti ti.el=some te∧te.e=e∧te.ptr=false∧
  P.underlying t=some (.slice ti.el)∧P.elem t=ti.el∧ ∀ w,(Go.sizeOf ti.el).run P w= .ok e.cells w:=by
 unfold elT at h
 cases ht:T.ti t with
 | none=>rw [ht] at h;simp at h
 | some ti=>
  rw [ht] at h
  simp only [Bool.and_eq_true,Bool.not_eq_true',decide_eq_true_eq] at h
  obtain ⟨d,h1,h2⟩:=TO.desc ht
  cases d<;>simp [x_iv,h.1.1,h.1.2,h.2] at h2
  rename_i el
  obtain ⟨rfl,h2⟩:=h2
  cases hte:T.ti ti.el with
  | none=>rw [hte] at h2;simp at h2
  | some te=>
   rw [hte] at h2
   simp only [Bool.and_eq_true,decide_eq_true_eq,Bool.not_eq_true'] at h2
   refine ⟨ti,te,rfl,hte,h2.1,h2.2,h1,by simp [Program.elem,h1],fun w=>?_⟩
   rw [TO.sizeOf hte w,TInf.n,h2.2,h2.1]
   rfl
theorem isTy_s (TO:x_fu P T.ti) {t:TypeId} (h:isTy T.toEnv t .s=true):P.underlying t=some .string:=by
 obtain ⟨ti,d,h1,h2,h3,h4,h5,h6⟩:=x_p8 TO h
 rw [h5]
 cases d<;>simp_all [x_iv]
theorem isTy_i (TO:x_fu P T.ti) {t:TypeId} {k:IntKind} (h:isTy T.toEnv t (.i k)=true):P.underlying t=some (.int k):=by
 obtain ⟨ti,d,h1,h2,h3,h4,h5,h6⟩:=x_p8 TO h
 rw [h5]
 cases d<;>simp_all [x_iv]
theorem x_ip {ti:TypeId→Option TInf} {i:TInf} {fs:Array Field} (h:x_iv P ti i (.struct fs)=true) {f off n:Nat} {agg:Bool} (hf:i.fs[f]?=some (off,n,agg)) :
  ∃ fld,fs[f]?=some fld∧fld.offset=off∧(∀ w,(Go.sizeOf fld.type).run P w= .ok n w)∧(∀ w,(Go.isAgg fld.type).run P w= .ok agg w)∧off+n≤i.e.cells∧
   aggOf P fld.type=agg:=by
 unfold x_iv at h
 rw [Bool.and_eq_true] at h
 have hm:((off,n,agg),f)∈i.fs.zipIdx:=by rw [List.mem_zipIdx_iff_getElem?];exact hf
 have:=List.all_eq_true.1 h.2 _ hm
 cases hq:fs[f]? with
 | none=>simp [hq] at this
 | some fld=>
  simp only [hq,Bool.and_eq_true,beq_iff_eq,decide_eq_true_eq] at this
  obtain ⟨⟨⟨⟨k1,k2⟩,k3⟩,k4⟩,k5⟩:=this
  obtain ⟨d',hd'⟩:=Option.isSome_iff_exists.1 k5
  refine ⟨fld,rfl,k1,fun w=>?_,fun w=>by rw [x_qz hd',k3],k4,k3⟩
  cases hi:P.info? fld.type with
  | none=>rw [hi] at k2;simp at k2
  | some inf=>rw [hi] at k2;simp only [Option.map_some,sj_] at k2;simp [Go.sizeOf,typeInfo,hi,k2]
theorem x_u5 (TO:x_fu P T.ti) {t:TypeId} {f off n:Nat} {agg:Bool} (h:fieldI T.toEnv t f=some (off,n,agg)) :
  ∃ fs fld,P.underlying t=some (.struct fs)∧fs[f]?=some fld∧fld.offset=off∧(∀ w,(Go.sizeOf fld.type).run P w= .ok n w)∧(∀ w,(Go.isAgg fld.type).run P w= .ok agg w):=by
 unfold fieldI at h
 cases ht:T.ti t with
 | none=>rw [ht] at h;simp at h
 | some ti=>
  rw [ht] at h
  simp only [Option.bind_some] at h
  split at h
  ·rename_i ha
   obtain ⟨fs,hu⟩:=x_nq TO ht ha
   obtain ⟨d,h1,h2⟩:=TO.desc ht
   rw [hu] at h1
   obtain rfl:=Option.some.inj h1
   obtain ⟨fld,k1,k2,k3,k4,_⟩:=x_ip h2 h
   exact ⟨fs,fld,hu,k1,k2,k3,k4⟩
  ·simp at h
theorem byte_at {sa:ByteArray} {j:Nat} (h:j<sa.size):sa.data.toList.getD j 0=sa[j]:=by
 obtain ⟨d⟩:=sa
 rw [gd_]
 show (d.toList[j]?.getD 0)=d[j]
 have:j<d.size:=h
 simp [this]
theorem ok_index {t:TypeId} {x ix:Operand} (TO:x_fu P T.ti) (ho:o.op= .index t x ix) (I:Inv D st tm w g) (he:(opR T keep i o).Ends st () st'):OpOk P o D st tm w g st' (i+1) ds:=by
 simp only [opR,ho] at he
 split at he
 ·exact (Pr.ef he).elim
 ·rename_i ht
  have hu:=isTy_s TO (t:=t) (by simpa using ht)
  obtain ⟨a,s,h1,h2⟩:=Pr.eb he
  obtain ⟨rfl,O⟩:=x_bp (ds:=ds) I h1
  obtain ⟨sa,s,h3,h4⟩:=Pr.eb h2
  obtain ⟨rfl,hs⟩:=asS_ends I O h3
  obtain ⟨b,s,h5,h6⟩:=Pr.eb h4
  obtain ⟨rfl,O'⟩:=x_bp (ds:=ds) I h5
  obtain ⟨j,s,h7,h8⟩:=Pr.eb h6
  obtain ⟨rfl,hj⟩:=x_kh I O' h7
  obtain ⟨c1,h8⟩:=Pr.ek h8
  obtain ⟨c2,h8⟩:=Pr.ek h8
  have c1:=of_decide_eq_true c1
  have c2:=of_decide_eq_true c2
  refine x_dd I (v:= .int .u8 (x_fc sa j.2)) ?_ (x_ht _ _) h8
  have hlt:j.2.toNat<sa.size:=by omega
  simp only [execOp,ho,Instr.index,hs,hj,asIntOf,Sem.run_bind,Sem.run_pure,Result.andThen_ok,run_underlying hu,if_pos c1]
  have:sa[j.2.toNat]?=some sa[j.2.toNat]:=by simp [hlt]
  rw [this]
  simp only [Sem.run_pure,Result.andThen_ok]
  congr 3
  unfold x_fc
  rw [byte_at hlt]
theorem ok_field {t:TypeId} {x:Operand} {f:Nat} (TO:x_fu P T.ti) (ho:o.op= .field t x f) (I:Inv D st tm w g) (he:(opR T keep i o).Ends st () st'):OpOk P o D st tm w g st' (i+1) ds:=by
 simp only [opR,ho] at he
 split at he
 ·rename_i off n agg hf
  obtain ⟨fs,fld,hu,hfs,rfl,hsz,hag⟩:=x_u5 TO hf
  obtain ⟨a,s,h1,h2⟩:=Pr.eb he
  obtain ⟨rfl,O⟩:=x_bp (ds:=ds) I h1
  split at h2
  ·rename_i cs
   split at h2
   ·rename_i hle
    obtain ⟨vs,hv,hl,hc⟩:=O.agg
    obtain ⟨sc,s,h3,h4⟩:=Pr.eb h2
    obtain ⟨rfl,O',hone⟩:=x_uz (vs:=(vs.drop fld.offset).take n) I h3 (by simp [hl]) (by
     intro j c hj
     rw [List.getElem?_take] at hj ⊢
     split at hj
     ·rename_i hjn
      rw [List.getElem?_drop] at hj
      obtain ⟨cv,h5,h6⟩:=hc _ c hj
      exact ⟨cv,by rw [if_pos hjn,List.getElem?_drop];exact h5,h6⟩
     ·simp at hj)
    refine x_dd I ?_ O' h4
    simp only [execOp,ho,Instr.field,hv,run_underlying hu,Sem.run_bind,Result.andThen_ok,hfs,asAgg,Sem.run_pure,part,hag,hsz]
    cases agg with
    | true=>
     simp only [if_true,Sem.run_bind,hsz,Result.andThen_ok,Sem.run_pure]
     congr 3
     simp [List.extract_eq_take_drop]
    | false=>
     simp only [Bool.false_eq_true,if_false]
     obtain ⟨v,hv⟩:=hone rfl
     have h0:vs[fld.offset]?=some v:=by
      have:=congrArg (fun l=>l[0]?) hv
      simp only [List.getElem?_take,List.getElem?_drop,List.getElem?_cons_zero,Nat.add_zero] at this
      split at this
      ·exact this
      ·simp at this
     rw [hv]
     simp [h0]
   ·exact (Pr.ef h2).elim
  ·exact (Pr.ef h2).elim
 ·exact (Pr.ef he).elim
theorem x_lu (b o n:Nat):(⟨b,o,none⟩ : Addr).add n=⟨b,o+n,none⟩:=by unfold Addr.add;split<;>simp_all
theorem x_tz {t:TypeId} {x:Operand} {f:Nat} (TO:x_fu P T.ti) (ho:o.op= .fieldAddr t x f) (I:Inv D st tm w g) (he:(opR T keep i o).Ends st () st') :
  OpOk P o D st tm w g st' (i+1) ds:=by
 simp only [opR,ho] at he
 split at he
 ·rename_i off n agg hf
  obtain ⟨fs,fld,hu,hfs,rfl,hsz,hag⟩:=x_u5 TO hf
  split at he
  ·exact (Pr.ef he).elim
  ·rename_i hn
   obtain ⟨a,s,h1,h2⟩:=Pr.eb he
   obtain ⟨rfl,O⟩:=x_bp (ds:=ds) I h1
   obtain ⟨⟨⟩,s,h3,h4⟩:=Pr.eb h2
   obtain ⟨rfl,_,_,_⟩:=x_n1 I O h3
   have key:∀ (b q:Nat),(⟨tm,ds⟩ : Act).eval x= .pointer (some ⟨b,q,none⟩)→(execOp (⟨tm,ds⟩ : Act).eval o).run P w= .ok (.value (.pointer (some ⟨b,q+fld.offset,none⟩))) w:=by
    intro b q hx
    simp only [execOp,ho,Instr.fieldAt,hx,run_underlying hu,Sem.run_bind,Result.andThen_ok,hfs,Instr.sureAddr,Sem.run_pure,fieldPlace,hsz,hn,if_false,x_lu]
   revert key O
   generalize (⟨tm,ds⟩ : Act).eval x=va
   intro O key
   split at h4
   ·rename_i n' b q
    obtain ⟨x',hx,he⟩:=Pr.ends_rb h3
    obtain ⟨hb,he⟩:=Pr.ek he
    obtain ⟨cs,hcs,_⟩:=x_fx I hx
    have hv:=O.one.2.2.2 (x_ek.2 ⟨cs,by rw [hcs,beq_iff_eq.1 hb]⟩)
    refine x_dd I (sc:= .one (.ptr n' b (q+fld.offset))) (key _ _ hv) (x_eu (by simp) trivial (fun t ht=>O.one.2.2.1 t (by simpa [stC] using ht)) ?_) h4
    intro hok
    rfl
   ·rename_i e v q
    obtain ⟨b,o',cs,ty,fz,rfl,h5⟩:=O.shp
    refine x_dd I (sc:= .pe e v (q+fld.offset)) (key _ _ rfl) ⟨⟨b,o',cs,ty,fz,by rw [Nat.add_assoc],h5⟩,fun j c h=>by simp [SC.cells] at h,by simp [stS]⟩ h4
   ·rename_i p t' j q
    obtain ⟨y,s,h5,h6⟩:=Pr.eb h3
    obtain ⟨h5,rfl⟩:=x_bn h5
    obtain ⟨hlt,b,o',len,cap,h7,rfl⟩:=O.shp _ _ h5
    refine x_dd I (sc:= .ph p t' j (q+fld.offset)) (key _ _ rfl) ⟨fun z u hz=>?_,fun j c h=>by simp [SC.cells] at h,fun t ht=>O.stm t (by simpa [stS] using ht)⟩ h4
    obtain ⟨hlt',b',o'',len',cap',h8,h9⟩:=O.shp _ _ hz
    rw [h7] at h8
    simp only [sj_,Value.slice.injEq,Addr.mk.injEq,and_true] at h8
    obtain ⟨⟨rfl,rfl⟩,rfl,rfl⟩:=h8
    simp only [Value.pointer.injEq,sj_,Addr.mk.injEq,true_and,and_true] at h9
    exact ⟨hlt',_,_,_,_,h7,by simp only [Value.pointer.injEq,sj_,Addr.mk.injEq,true_and,and_true];omega⟩
   ·exact (Pr.ef h4).elim
 ·exact (Pr.ef he).elim
theorem x_br.some {α : Type} {ok:Nat→Prop} {wr:Bool} {R : α→List Value→Prop} {sz:Nat} {xs:List α} {sv:Value} (h:x_br w ok wr R sz xs sv) {j:Nat} (hj:j<xs.length) :
  ∃ b o cap cs ty fz,sv= .slice (some ⟨b,o,none⟩) xs.length cap∧ok b∧xs.length≤cap∧w.heap[b]?=some (.cells cs ty fz)∧o+j*sz+sz≤cs.size∧
   R xs[j] ((cs.toList.drop (o+j*sz)).take sz):=by
 rcases h with ⟨_,_,rfl,_⟩ | ⟨b,o,cap,cs,ty,fz,h1,h2,h3,h4,h5,h6,h7⟩
 ·simp at hj
 ·refine ⟨b,o,cap,cs,ty,fz,h1,h2,h3,h4,?_,h7 j hj⟩
  have:(j+1)*sz≤xs.length*sz:=Nat.mul_le_mul_right sz hj
  have:xs.length*sz≤cap*sz:=Nat.mul_le_mul_right sz h3
  rw [Nat.add_mul] at *
  cases wr<;>simp at h5<;>omega
theorem x_ug {t:TypeId} {x ix:Operand} (TO:x_fu P T.ti) (ho:o.op= .indexAddr t x ix) (I:Inv D st tm w g) (he:(opR T keep i o).Ends st () st') :
  OpOk P o D st tm w g st' (i+1) ds:=by
 simp only [opR,ho] at he
 obtain ⟨a,s,h1,h2⟩:=Pr.eb he
 obtain ⟨rfl,O⟩:=x_bp (ds:=ds) I h1
 obtain ⟨b,s,h3,h4⟩:=Pr.eb h2
 obtain ⟨rfl,O'⟩:=x_bp (ds:=ds) I h3
 obtain ⟨j,s,h5,h6⟩:=Pr.eb h4
 obtain ⟨rfl,hj⟩:=x_kh I O' h5
 have key:∀ (e:ET),elT T.toEnv t e=true→ ∀ (b q len cap:Nat),(⟨tm,ds⟩ : Act).eval x= .slice (some ⟨b,q,none⟩) len cap→0≤j.2→j.2<(len:Int)→
   (execOp (⟨tm,ds⟩ : Act).eval o).run P w= .ok (.value (.pointer (some ⟨b,q+j.2.toNat*e.cells,none⟩))) w:=by
  intro e he b q len cap hx c1 c2
  obtain ⟨ti,te,k1,k2,k3,k4,k5,k6,k7⟩:=x_ri TO he
  have hel:P.underlying t=some (.slice (P.elem t)):=by rw [k6];exact k5
  simp only [execOp,ho,hx,hj,run_indexAt_slice w t _ _ _ _ _ hel,Sem.run_bind,if_pos (And.intro c1 c2),k6,k7,Result.andThen_ok,Sem.run_pure,x_lu]
 revert key O
 generalize (⟨tm,ds⟩ : Act).eval x=va
 intro O key
 split at h6
 ·rename_i m e v
  split at h6
  ·exact (Pr.ef h6).elim
  ·rename_i hel
   obtain ⟨c1,h6⟩:=Pr.ek h6
   obtain ⟨c2,h6⟩:=Pr.ek h6
   have c1:=of_decide_eq_true c1
   have c2:=of_decide_eq_true c2
   have hr:x_br w g.ro false (rep w g.fr e) e.cells v va:=by
    have:=O.one.2.2.2
    have hx:=O.one.2.1
    cases m with
    | f=>exact x_br.mono this (fun b hb=> .inl hb) (fun _ _=>rfl) fun _ _ _ h=>h
    | r=>exact this
    | x t=>exact hx.elim
   have hlt:j.2.toNat<v.length:=by omega
   obtain ⟨b,q,cap,cs,ty,fz,rfl,k1,k2,k3,k4,k5⟩:=hr.some hlt
   refine x_dd I (sc:= .pe e (v.getD j.2.toNat e.zero) 0) (key e (by simpa using hel) _ _ _ _ rfl c1 c2) ⟨⟨b,q+j.2.toNat*e.cells,cs,ty,fz,rfl,k1,k3,k4,?_⟩,fun j c h=>by simp [SC.cells] at h,by simp [stS]⟩ h6
   rw [gd_,ge_ hlt]
   exact k5
 ·rename_i p t'
  obtain ⟨y,s,h7,h8⟩:=Pr.eb h6
  obtain ⟨h7,rfl⟩:=x_bn h7
  split at h8
  ·exact (Pr.ef h8).elim
  ·rename_i hel
   obtain ⟨c1,h8⟩:=Pr.ek h8
   obtain ⟨c2,h8⟩:=Pr.ek h8
   have c1:=of_decide_eq_true c1
   have c2:=of_decide_eq_true c2
   have hlt:j.2.toNat<y.2.length:=by omega
   have hca:=O.one.2.2.2 _ _ h7
   obtain ⟨hv,k1,k2⟩:=I.own h7
   rw [hca] at k1
   obtain rfl:=Option.some.inj k1
   obtain ⟨b,q,cap,cs,ty,fz,rfl,m1,m2,m3,m4,m5⟩:=k2.some hlt
   refine x_dd I (sc:= .ph p t' j.2.toNat 0) (key y.1 (by simpa using hel) _ _ _ _ rfl c1 c2) ⟨fun z u hz=>?_,fun j c h=>by simp [SC.cells] at h,fun t ht=>O.one.2.2.1 t (by simpa [stS,stC] using ht)⟩ h8
   rw [h7] at hz
   have hz:=Option.some.inj hz
   simp only [Cell.val.injEq,ET.sl.injEq,true_and] at hz
   obtain ⟨yx,yv⟩:=y
   obtain ⟨rfl,hz⟩:=hz
   have hz:=eq_of_heq hz
   subst hz
   exact ⟨hlt,b,q,_,cap,hca,rfl⟩
 ·exact (Pr.ef h6).elim
theorem x_yg {α β : Type} (f : α→List β) {A:List α} {j:Nat} {a : α} (h:A[j]?=some a) {k:Nat} (hk:k<(f a).length) :
  (A.flatMap f)[((A.take j).flatMap f).length+k]?=(f a)[k]?:=by
 obtain ⟨hj,ha⟩:=List.getElem?_eq_some_iff.1 h
 have hA:A=A.take j++a::A.drop (j+1):=by
  rw [←ha,List.getElem_cons_drop,List.take_append_drop]
 have:A.flatMap f=(A.take j).flatMap f++(f a++(A.drop (j+1)).flatMap f):=by
  conv=>lhs;rw [hA]
  simp [List.flatMap_append]
 rw [this,List.getElem?_append_right (Nat.le_add_right _ _),Nat.add_sub_cancel_left,List.getElem?_append_left hk]
theorem x_of {α β γ β':Type} (f : α→List β) (h : γ→List β'):∀ (A:List α) (B:List γ),A.length=B.length→(∀ (i:Nat) a b,A[i]?=some a→B[i]?=some b→(f a).length=(h b).length)→
  ∀ j,((A.take j).flatMap f).length=((B.take j).flatMap h).length
 | [],[],_,_,j=>by simp
 | [],_::_,hl,_,_=>by simp at hl
 | _::_,[],hl,_,_=>by simp at hl
 | a::A,b::B,hl,hp,0=>by simp
 | a::A,b::B,hl,hp,j+1=>by
  have h0:=hp 0 a b rfl rfl
  have ih:=x_of f h A B (by simpa using hl) (fun i a b ha hb=>hp (i+1) a b (by simpa using ha) (by simpa using hb)) j
  simp only [List.take_succ_cons,List.flatMap_cons,List.length_append,h0,ih]
def x_xv:Value→List Value
 | .agg cs=>cs.toList
 | v=>[v]
theorem x_yv {x:Operand} {j:Nat} (ho:o.op= .extract x j) (I:Inv D st tm w g) (he:(opR T keep i o).Ends st () st'):OpOk P o D st tm w g st' (i+1) ds:=by
 simp only [opR,ho] at he
 split at he
 ·rename_i n
  have he:=Pr.ends_rs he
  split at he
  ·rename_i xs hg
   split at he
   ·rename_i y hy
    have hn:n<tm.size:=by
     rcases Nat.lt_or_ge n tm.size with h | h
     ·exact h
     ·simp [gets,gd_,List.getElem?_eq_none (show st.sl.length≤n by have:=I.len;omega)] at hg
    have hs:=I.shp n hn
    rw [hg] at hs
    obtain ⟨vs,hv,hl,hsh⟩:=hs
    obtain ⟨hj,hyj⟩:=List.getElem?_eq_some_iff.1 hy
    have hsj:=hsh j hj (by omega)
    rw [hyj] at hsj
    have hjv:vs.toList[j]?=some (vs[j]'(by omega)):=by simp
    have hvcs:vcs (tm.getD n undef)=vs.toList.flatMap x_xv:=by rw [hv];rfl
    have hlen:((xs.take j).flatMap fun z=>z.2).length=((vs.toList.take j).flatMap x_xv).length:=by
     refine x_of _ _ xs vs.toList (by simp [hl]) (fun i a b ha hb=>?_) j
     obtain ⟨hi,rfl⟩:=List.getElem?_eq_some_iff.1 ha
     obtain ⟨hi',rfl⟩:=List.getElem?_eq_some_iff.1 hb
     have:=hsh i hi (by simpa using hi')
     simp only [Array.getElem_toList]
     split at this
     ·obtain ⟨c,h1,h2⟩:=this
      rw [h1];simp [x_xv,h2]
     ·obtain ⟨h1,h2,h3⟩:=this
      rw [h1]
      cases hvi:vs[i]'(by simpa using hi')<;>simp [x_xv]
      exact absurd hvi (h2 _)
    have hpl:(x_xv (vs[j]'(by omega))).length=y.2.length:=by
     split at hsj
     ·obtain ⟨c,h1,h2⟩:=hsj
      rw [h1];simp [x_xv,h2]
     ·obtain ⟨h1,h2,h3⟩:=hsj
      rw [h1]
      cases hvi:vs[j]'(by omega)<;>simp [x_xv]
      exact absurd hvi (h2 _)
    have hcel:∀ (k:Nat) c,(x_ml false n ((xs.take j).flatMap fun (z:Bool×List Cell)=>z.2).length y.2)[k]?=some c→
      ∃ cv,(x_xv (vs[j]'(by omega)))[k]?=some cv∧okCell D st tm w g c cv:=by
     intro k c hc
     obtain ⟨c0,h1,h2⟩:=x_rr _ _ _ _ _ _ hc
     have hk:k<y.2.length:=(List.getElem?_eq_some_iff.1 h1).1
     have ha:aAt st ⟨false,n,((xs.take j).flatMap fun (z:Bool×List Cell)=>z.2).length+k⟩=some c0:=by
      simp only [aAt,hg,Bool.false_eq_true,if_false,SC.cells]
      rw [x_yg _ hy hk]
      exact h1
     obtain ⟨k1,k2,cv,k3,k4⟩:=x_jd I ha h2 p0
     refine ⟨cv,?_,k1,k2,k4⟩
     simp only [cAt,Bool.false_eq_true,if_false,hvcs] at k3
     rw [hlen,x_yg x_xv hjv (by omega)] at k3
     exact k3
    refine x_dd I (sc:=scOf y.1 (x_ml false n ((xs.take j).flatMap fun (z:Bool×List Cell)=>z.2).length y.2)) (v:=vs[j]'(by omega)) ?_ ?_ he
    ·have:(⟨tm,ds⟩ : Act).eval (.tmp n)= .tuple vs:=by rw [←hv];rfl
     simp only [execOp,ho,this,Instr.extract]
     simp [show vs[j]?=some (vs[j]'(by omega)) by simp]
    ·cases hy1:y.1 with
     | true=>
      rw [hy1] at hsj
      simp only [if_true] at hsj
      obtain ⟨c,h1,h2⟩:=hsj
      rw [h1] at hcel ⊢
      have:=x_wn (D:=D) (st:=st) (tm:=tm) (w:=w) (g:=g) (vs:=c.toList) (by rw [x_e9];simp [h2]) hcel
      simpa [scOf] using this
     | false=>
      rw [hy1] at hsj
      simp only [Bool.false_eq_true,if_false] at hsj
      obtain ⟨h1,h2,h3⟩:=hsj
      have hlc:=x_e9 false n ((xs.take j).flatMap fun (z:Bool×List Cell)=>z.2).length y.2
      rw [h1] at hlc
      obtain ⟨c,hc⟩:=List.length_eq_one_iff.1 hlc
      rw [hc] at hcel ⊢
      obtain ⟨cv,k1,k2⟩:=hcel 0 c rfl
      have:(x_xv (vs[j]'(by omega)))=[vs[j]'(by omega)]:=by
       cases hvi:vs[j]'(by omega)<;>simp [x_xv]
       exact absurd hvi (h2 _)
      rw [this] at k1
      simp only [List.getElem?_cons_zero,sj_] at k1
      subst k1
      exact x_eu ⟨h2,h3⟩ k2.1 k2.2.1 k2.2.2
   ·exact (Pr.ef he).elim
  ·exact (Pr.ef he).elim
 ·exact (Pr.ef he).elim
end Go.Kn
namespace Go.Kn
variable [Ctx]
variable {P:Program} {D:Key×Nat→Prop} {st st':St} {tm:Array Value} {w w':World} {g:Gh} {ds:List Deferred} {E:Env}
variable {T:Tab} {keep:Bool} {i:Nat} {o:Oper}
theorem x_oo {isS:Bool} {len cap:Nat} {lo hi mx:Option Value} {l h m:Int} (hl:lo=none∧l=0∨ ∃ k,lo=some (.int k l)) (hh:hi=none∧h=len∨ ∃ k,hi=some (.int k h))
  (hm:mx=none∨ ∃ k,mx=some (.int k m)) (hmh:h=m) (hmx:mx≠none→hi≠none) (c1:0≤l) (c2:l≤h) (c3:h≤len) (hc:len≤cap) (w:World) :
  (Instr.sliceBounds isS len cap lo hi mx).run P w= .ok (l.toNat,h.toNat,if mx=none then cap else h.toNat) w:=by
 subst hmh
 have b1:∀ k code (y:Nat),h≤(y:Int)→(Instr.sliceBound (.int k h) y code).run P w= .ok h.toNat w:=fun k code y hy=>run_sliceBound w k h y code (by omega) hy
 have b2:∀ k code,(Instr.sliceBound (.int k l) h.toNat code).run P w= .ok l.toNat w:=fun k code=>run_sliceBound w k l h.toNat code c1 (by omega)
 rcases hm with rfl | ⟨km,rfl⟩
 ·rcases hh with ⟨rfl,hh⟩ | ⟨kh,rfl⟩
  ·rcases hl with ⟨rfl,rfl⟩ | ⟨kl,rfl⟩
   ·subst hh;simp [Instr.sliceBounds]
   ·subst hh
    have b2:∀ k code,(Instr.sliceBound (.int k l) len code).run P w= .ok l.toNat w:=fun k code=>run_sliceBound w k l len code c1 c2
    simp [Instr.sliceBounds,b2]
  ·rcases hl with ⟨rfl,rfl⟩ | ⟨kl,rfl⟩
   ·simp [Instr.sliceBounds,b1 _ _ cap (by omega)]
   ·simp [Instr.sliceBounds,b1 _ _ cap (by omega),b2]
 ·rcases hh with ⟨rfl,_⟩ | ⟨kh,rfl⟩
  ·exact absurd rfl (hmx (by simp))
  ·rcases hl with ⟨rfl,rfl⟩ | ⟨kl,rfl⟩
   ·simp [Instr.sliceBounds,b1 _ _ cap (by omega),b1 _ _ h.toNat (by omega)]
   ·simp [Instr.sliceBounds,b1 _ _ cap (by omega),b1 _ _ h.toNat (by omega),b2]
def optOk (D:Key×Nat→Prop) (st:St) (tm:Array Value) (w:World) (g:Gh):Option SC→Option Value→Prop
 | some sc,some v=>Opd D st tm w g sc v
 | none,none=>True
 | _,_=>False
theorem x_iz (I:Inv D st tm w g) {b:Option SC} {v:Option Value} {d r:Int} (hb:optOk D st tm w g b v)
  (he:(bound b d).Ends st r st'):st'=st∧(v=none∧r=d∨ ∃ k,v=some (.int k r)):=by
 cases b with
 | none=>
  cases v with
  | none=>obtain ⟨rfl,rfl⟩:=Pr.er he;exact ⟨rfl, .inl ⟨rfl,rfl⟩⟩
  | some v=>exact hb.elim
 | some sc=>
  cases v with
  | none=>exact hb.elim
  | some v=>
   obtain ⟨a,s,h1,h2⟩:=Pr.eb he
   obtain ⟨rfl,hv⟩:=x_kh I hb h1
   obtain ⟨rfl,rfl⟩:=Pr.er h2
   exact ⟨rfl, .inr ⟨a.1,by rw [hv]⟩⟩
theorem x_qe (I:Inv D st tm w g) {x:Option Operand} {b:Option SC} (he:(optR E x).Ends st b st') :
  st'=st∧optOk D st tm w g b (x.map (⟨tm,ds⟩ : Act).eval):=by
 cases x with
 | none=>obtain ⟨rfl,rfl⟩:=Pr.er he;exact ⟨rfl,trivial⟩
 | some y=>
  obtain ⟨a,s,h1,h2⟩:=Pr.eb he
  obtain ⟨rfl,O⟩:=x_bp (ds:=ds) I h1
  obtain ⟨rfl,rfl⟩:=Pr.er h2
  exact ⟨rfl,O⟩
theorem x_zb {b:Option SC} {v:Option Value} (hb:optOk D st tm w g b v):b.isSome=v.isSome:=by
 cases b<;>cases v<;>simp_all [optOk]
theorem slice_win {t:TypeId} {v:Value} {sz len:Nat} {vl vh vm:Option Value} {l h m:Int} (hu:P.underlying t=some (.slice (P.elem t))) (hsz:∀ w,(Go.sizeOf (P.elem t)).run P w= .ok sz w)
  (hv:((∃ a,v= .slice a 0 0)∧len=0)∨ ∃ b o cap,v= .slice (some ⟨b,o,none⟩) len cap∧len≤cap)
  (hl:vl=none∧l=0∨ ∃ k,vl=some (.int k l)) (hh:vh=none∧h=len∨ ∃ k,vh=some (.int k h))
  (hm:vm=none∨ ∃ k,vm=some (.int k m)) (hmh:h=m) (hmx:vm≠none→vh≠none) (c1:0≤l) (c2:l≤h) (c3:h≤len) (w:World) :
  ∃ v',(Instr.sliceAt t v vl vh vm).run P w= .ok v' w∧winRel sz v l.toNat h.toNat v':=by
 rcases hv with ⟨⟨a,rfl⟩,rfl⟩ | ⟨b,o,cap,rfl,hc⟩
 ·have hb:=x_oo (P:=P) (isS:=true) (len:=0) (cap:=0) hl hh hm hmh hmx c1 c2 c3 (Nat.le_refl _) w
  have h0:h=0:=by omega
  have l0:l=0:=by omega
  subst h0
  subst l0
  refine ⟨.slice a 0 0,?_, .inl ⟨⟨a,rfl,rfl⟩,rfl,rfl⟩⟩
  rw [run_sliceAt_slice w t _ _ _ _ hu,run_slice_any w t _ _ _ hu,hb]
  simp [hsz,sliced]
 ·have hb:=x_oo (P:=P) (isS:=true) (len:=len) (cap:=cap) hl hh hm hmh hmx c1 c2 c3 hc w
  refine ⟨_,by rw [run_sliceAt_slice w t _ _ _ _ hu,run_slice_any w t _ _ _ hu,hb];simp only [Result.andThen_ok,hsz];rfl, .inr ⟨b,o,len,cap,(if vm=none then cap else h.toNat)-l.toNat,rfl,by omega,by omega,?_,?_,?_⟩⟩
  ·split<;>omega
  ·split<;>omega
  ·unfold sliced
   by_cases hml:(if vm=none then cap else h.toNat)=l.toNat
   ·refine .inr ⟨?_,?_⟩
    ·split at hml<;>omega
    ·simp only [hml]
     have:h.toNat-l.toNat=0:=by split at hml<;>omega
     simp [this]
   ·left
    simp only [hml,if_false,Option.map_some,x_lu]
theorem x_01 (TO:x_fu P T.ti) (I:Inv D st tm w g) {t:TypeId} {sc r:SC} {v:Value} {bl bh bm:Option SC} {vl vh vm:Option Value} (O:Opd D st tm w g sc v)
  (hl:optOk D st tm w g bl vl)
  (hh:optOk D st tm w g bh vh)
  (hm:optOk D st tm w g bm vm)
  (he:(sliceR T.toEnv t sc bl bh bm).Ends st r st'):st'=st∧ ∃ v',(Instr.sliceAt t v vl vh vm).run P w= .ok v' w∧Opd D st tm w g r v':=by
 unfold sliceR at he
 split at he
 ·rename_i c
  obtain ⟨a,s,h1,h2⟩:=Pr.eb he
  have hcr:=O.one.2.2.2
  obtain ⟨rfl,hlr⟩:=x_mu I h1 hcr
  split at h2
  ·rename_i sa
   split at h2
   ·exact (Pr.ef h2).elim
   ·rename_i hn
    simp only [Bool.or_eq_true,Bool.not_eq_true',not_or,Bool.not_eq_false] at hn
    have hu:=isTy_s TO hn.2
    obtain rfl:=x_mi hlr
    have hvm:vm=none:=by
     have:=x_zb hm
     cases vm<;>simp_all
    obtain ⟨l,s,h3,h4⟩:=Pr.eb h2
    obtain ⟨rfl,hl'⟩:=x_iz I hl h3
    obtain ⟨h,s,h5,h6⟩:=Pr.eb h4
    obtain ⟨rfl,hh'⟩:=x_iz I hh h5
    obtain ⟨c1,h6⟩:=Pr.ek h6
    obtain ⟨c2,h6⟩:=Pr.ek h6
    obtain ⟨c3,h6⟩:=Pr.ek h6
    obtain ⟨rfl,rfl⟩:=Pr.er h6
    refine ⟨rfl,_,?_,x_se _⟩
    subst hvm
    rw [run_sliceAt_string w t _ _ _ _ hu]
    simp only [Instr.slice,Sem.run_bind,run_underlying hu,Result.andThen_ok,Option.isSome_none,Bool.false_eq_true,if_false]
    rw [x_oo (P:=P) (l:=l) (h:=h) (m:=h) hl' hh' (.inl rfl) rfl (by simp) (of_decide_eq_true c1) (of_decide_eq_true c2) (of_decide_eq_true c3) (Nat.le_refl _) w]
    simp
  ·rename_i e xs
   split at h2
   ·exact (Pr.ef h2).elim
   ·rename_i hel
    simp only [Bool.or_eq_true,Bool.not_eq_true',not_or,Bool.not_eq_false,Bool.and_eq_true,not_and] at hel
    obtain ⟨hel,hmx⟩:=hel
    obtain ⟨ti,te,k1,k2,k3,k4,k5,k6,k7⟩:=x_ri TO (t:=t) (e:=e) hel
    have hu:P.underlying t=some (.slice (P.elem t)):=by rw [k6];exact k5
    obtain ⟨l,s,h3,h4⟩:=Pr.eb h2
    obtain ⟨rfl,hl'⟩:=x_iz I hl h3
    obtain ⟨h,s,h5,h6⟩:=Pr.eb h4
    obtain ⟨rfl,hh'⟩:=x_iz I hh h5
    obtain ⟨m,s,h7,h8⟩:=Pr.eb h6
    obtain ⟨rfl,hm'⟩:=x_iz I hm h7
    obtain ⟨c0,h8⟩:=Pr.ek h8
    obtain ⟨c1,h8⟩:=Pr.ek h8
    obtain ⟨c2,h8⟩:=Pr.ek h8
    obtain ⟨c3,h8⟩:=Pr.ek h8
    have c0:=of_decide_eq_true c0
    have c1:=of_decide_eq_true c1
    have c2:=of_decide_eq_true c2
    have c3:=of_decide_eq_true c3
    have hmx':vm≠none→vh≠none:=by
     intro hv hv'
     have h1:=x_zb hm
     have h2:=x_zb hh
     subst hv'
     cases vm with
     | none=>exact hv rfl
     | some v=>simp at h1 h2;simp [h1,h2] at hmx
    have hmm:vm=none∨ ∃ k,vm=some (.int k m):=hm'.imp (·.1) id
    have hrr:x_br w g.rd false (rep w g.fr e) e.cells xs v:=hlr
    have hvv:((∃ a,v= .slice a 0 0)∧xs.length=0)∨ ∃ b o cap,v= .slice (some ⟨b,o,none⟩) xs.length cap∧xs.length≤cap:=by
     rcases hrr with ⟨a,h,rfl,_⟩ | ⟨b,o,cap,cs,ty,fz,h1,_,h3,_⟩
     ·exact .inl ⟨⟨a,h⟩,rfl⟩
     ·exact .inr ⟨b,o,cap,h1,h3⟩
    obtain ⟨v',hr,hw⟩:=slice_win (sz:=e.cells) hu (by rw [k6];exact k7) hvv hl' hh' hmm c0.symm hmx' c1 c2 c3 w
    split at h8
    ·obtain ⟨rfl,rfl⟩:=Pr.er h8
     obtain ⟨hla,_⟩:=Pr.er h1
     cases hla
     have:x_br w g.fr false (rep w g.fr e) e.cells _ v':=x_br.win hcr hw
     exact ⟨rfl,v',hr,x_eu (x_d6 (e:= .sl e) this) trivial (by simp [stC]) this⟩
    ·obtain ⟨rfl,rfl⟩:=Pr.er h8
     obtain ⟨hla,_⟩:=Pr.er h1
     cases hla
     have:x_br w g.ro false (rep w g.fr e) e.cells _ v':=x_br.win hcr hw
     exact ⟨rfl,v',hr,x_eu (x_d6 (e:= .sl e) this) trivial (by simp [stC]) this⟩
    ·rename_i p t'
     obtain ⟨rfl,rfl⟩:=Pr.er h8
     obtain ⟨y,s,h9,h10⟩:=Pr.eb h1
     obtain ⟨h9,rfl⟩:=x_bn h9
     obtain ⟨hla,_⟩:=Pr.er h10
     obtain ⟨yx,yv⟩:=y
     cases hla
     have hpl:x_d7 v':=x_d6 (e:= .sl yx) (x_br.win (ok:=g.rd) (wr:=false) hrr hw)
     refine ⟨rfl,v',hr,x_eu hpl trivial (fun t ht=>O.one.2.2.1 t (by simpa [stC] using ht)) fun x u hx=>?_⟩
     rw [h9] at hx
     have hx:=Option.some.inj hx
     simp only [Cell.val.injEq,ET.sl.injEq,true_and] at hx
     obtain ⟨rfl,_⟩:=hx
     exact ⟨v,hcr _ _ h9,hw⟩
    ·rename_i y
     obtain ⟨rfl,rfl⟩:=Pr.er h8
     have hv0:v= .slice none 0 0:=hcr
     subst hv0
     have hv':v'= .slice none 0 0:=by
      rcases hw with ⟨⟨a,h1,h2⟩,_⟩ | ⟨b,o,len,cap,cap',h1,_⟩
      ·simp only [Value.slice.injEq,and_true] at h1
       rw [h2, ←h1]
      ·simp at h1
     subst hv'
     exact ⟨rfl,_,hr,x_eu ⟨by simp,by simp⟩ trivial (by simp [stC]) rfl⟩
    ·exact (Pr.ef h8).elim
  ·exact (Pr.ef h2).elim
 ·exact (Pr.ef he).elim
theorem ok_slice {t:TypeId} {x:Operand} {lo hi mx:Option Operand} (TO:x_fu P T.ti) (ho:o.op= .slice t x lo hi mx) (I:Inv D st tm w g) (he:(opR T keep i o).Ends st () st') :
  OpOk P o D st tm w g st' (i+1) ds:=by
 simp only [opR,ho] at he
 obtain ⟨a,s,h1,h2⟩:=Pr.eb he
 obtain ⟨rfl,O⟩:=x_bp (ds:=ds) I h1
 obtain ⟨bl,s,h3,h4⟩:=Pr.eb h2
 obtain ⟨rfl,hl⟩:=x_qe (ds:=ds) I h3
 obtain ⟨bh,s,h5,h6⟩:=Pr.eb h4
 obtain ⟨rfl,hh⟩:=x_qe (ds:=ds) I h5
 obtain ⟨bm,s,h7,h8⟩:=Pr.eb h6
 obtain ⟨rfl,hm⟩:=x_qe (ds:=ds) I h7
 obtain ⟨r,s,h9,h10⟩:=Pr.eb h8
 obtain ⟨rfl,v,hr,O'⟩:=x_01 TO I O hl hh hm h9
 exact x_dd I (by simp only [execOp,ho,Sem.run_bind,hr,Result.andThen_ok,Sem.run_pure]) O' h10
theorem x_f1 (I:Inv D st tm w g) {n b:Nat}:∀ (k off:Nat) (cs:List Cell) (s1:St),(x_ot n b off k).Ends st cs s1→
  s1=st∧cs.length=k∧(0<k→okBx st n b=true)∧ ∀ (j:Nat) c,cs[j]?=some c→ ∃ c0,aAt st ⟨true,n,off+j⟩=some c0∧
   ((∃ t e v,c0= .val (.x t) e v∧c= .ref ⟨true,n,off+j⟩ t)∨(noX c0∧c=c0))
 | 0,off,cs,s1,he=>by
  obtain ⟨rfl,rfl⟩:=Pr.er he
  exact ⟨rfl,rfl,by simp,fun j c h=>by simp at h⟩
 | k+1,off,cs,s1,he=>by
  obtain ⟨x,hx,he⟩:=Pr.ends_rb he
  obtain ⟨hb,he⟩:=Pr.ek he
  obtain ⟨r,s2,h1,h2⟩:=Pr.eb he
  obtain ⟨hs2,hl,_,hc⟩:=x_f1 I k (off+1) r s2 h1
  obtain ⟨rfl,hs1⟩:=Pr.er h2
  obtain ⟨cs',h3,h4⟩:=x_fx I hx
  refine ⟨hs1.trans hs2,by simp [hl],fun _=>x_ek.2 ⟨cs',by rw [h3,beq_iff_eq.1 hb]⟩,fun j c h=>?_⟩
  cases j with
  | zero=>
   simp only [List.getElem?_cons_zero,sj_] at h
   refine ⟨x.2,by simp [aAt,hx],?_⟩
   subst h
   obtain ⟨t,y⟩:=x
   cases y with
   | val m e v=>
    cases m with
    | x t=>exact .inl ⟨t,e,v,rfl,rfl⟩
    | f=>exact .inr ⟨trivial,rfl⟩
    | r=>exact .inr ⟨trivial,rfl⟩
   | ref p t=>exact .inr ⟨trivial,rfl⟩
   | win p t lo hi=>exact .inr ⟨trivial,rfl⟩
   | nil x=>exact .inr ⟨trivial,rfl⟩
   | ptr n t off=>exact .inr ⟨trivial,rfl⟩
   | dead=>exact .inr ⟨trivial,rfl⟩
  | succ j=>
   simp only [List.getElem?_cons_succ] at h
   obtain ⟨c0,h5,h6⟩:=hc j c h
   rw [show off+1+j=off+(j+1) by omega] at h5 h6
   exact ⟨c0,h5,h6⟩
theorem x_hr (w:World) (b o:Nat):w.cell? ⟨b,o,none⟩=bcell w b o:=by
 unfold World.cell? bcell
 cases w.heap[b]? with
 | none=>rfl
 | some x=>cases x<;>simp
theorem x_l1 (TO:x_fu P T.ti) {t:TypeId} {ti:TInf} (ht:T.ti t=some ti) {b q:Nat} {vs:List Value} (hl:vs.length=ti.n) (hag:ti.agg=true∨ti.n=1)
  (hc:∀ (j:Nat) v,vs[j]?=some v→bcell w b (q+j)=some v) :
  (Instr.loadAt t (.pointer (some ⟨b,q,none⟩))).run P w= .ok (if ti.agg then .agg vs.toArray else vs.headD undef) w:=by
 simp only [Instr.loadAt,Instr.sureAddr,Sem.run_bind,Sem.run_pure,Result.andThen_ok,loadVar,TO.isAgg ht]
 cases ha:ti.agg with
 | true=>
  have:=run_loadCells_list (P:=P) w ⟨b,q,none⟩ vs (fun j v hv=>by rw [x_lu,x_hr];exact hc j v hv)
  simp only [if_true,Sem.run_bind,TO.sizeOf ht,Result.andThen_ok, ←hl,this,Sem.run_pure]
 | false=>
  have h1:ti.n=1:=hag.resolve_left (by simp [ha])
  obtain ⟨v,rfl⟩:=List.length_eq_one_iff.1 (hl.trans h1)
  have:=hc 0 v rfl
  simp only [Nat.add_zero] at this
  simp [run_load,x_hr,this]
theorem Lvs.get {ok:Nat→Prop}:∀ {l:List LV} {vs:List Value},Lvs w g ok l vs→l.length=vs.length∧ ∀ (j:Nat) a,l[j]?=some a→ ∃ v,vs[j]?=some v∧lrep w g ok false a.1 a.2 v
 | _,_, .nil=>⟨rfl,fun j a h=>by simp at h⟩
 | _,_, .cons a v l vs h t=>by
  obtain ⟨h1,h2⟩:=Lvs.get t
  refine ⟨by simp [h1],fun j b hb=>?_⟩
  cases j with
  | zero=>simp only [List.getElem?_cons_zero,sj_] at hb;subst hb;exact ⟨v,rfl,h⟩
  | succ j=>simpa using h2 j b (by simpa using hb)
theorem x_0i {e:ET} {v:e.val} {c:List Value} (hr:rep w g.fr e v c) {off n:Nat} (hn:off+n≤e.cells) {agg:Bool} (hag:agg=true∨n=1) :
  Opd D st tm w g (scOf agg ((((lv e v).drop off).take n).map x_id)) (if agg then .agg ((c.drop off).take n).toArray else ((c.drop off).take n).headD undef):=by
 obtain ⟨hl,hg⟩:=(x_n5 e v c (x_on e v c hr)).get
 have hcl:=hr.length
 have hcell:∀ (j:Nat) c',((((lv e v).drop off).take n).map x_id)[j]?=some c'→ ∃ cv,((c.drop off).take n)[j]?=some cv∧okCell D st tm w g c' cv∧x_d7 cv:=by
  intro j c' h
  rw [List.getElem?_map,List.getElem?_take] at h
  split at h
  ·rename_i hj
   rw [List.getElem?_drop] at h
   simp only [Option.map_eq_some_iff] at h
   obtain ⟨a,h1,rfl⟩:=h
   obtain ⟨cv,h2,h3⟩:=hg _ a h1
   exact ⟨cv,by rw [List.getElem?_take,if_pos hj,List.getElem?_drop];exact h2,⟨trivial,by simp [x_id,stC],h3⟩,x_d6 h3⟩
  ·simp at h
 unfold scOf
 cases agg with
 | true=>exact x_wn (by simp [hl]) fun j c' h=>by obtain ⟨cv,h1,h2,_⟩:=hcell j c' h;exact ⟨cv,h1,h2⟩
 | false=>
  have h1:n=1:=hag.resolve_left (by simp)
  subst h1
  have hlen:((c.drop off).take 1).length=1:=by simp;omega
  obtain ⟨cv,hcv⟩:=List.length_eq_one_iff.1 hlen
  have hlen':((((lv e v).drop off).take 1).map x_id).length=1:=by simp;omega
  obtain ⟨cc,hcc⟩:=List.length_eq_one_iff.1 hlen'
  have:=hcell 0 cc (by rw [hcc];rfl)
  rw [hcv] at this
  obtain ⟨cv',h2,h3,h4⟩:=this
  simp only [List.getElem?_cons_zero,sj_] at h2
  subst h2
  simp only [Bool.false_eq_true,if_false,hcc,hcv,List.headD_cons]
  exact x_eu h4 h3.1 h3.2.1 h3.2.2
theorem x_we (TO:x_fu P T.ti) (I:Inv D st tm w g) {t:TypeId} {sc r:SC} {v:Value} (O:Opd D st tm w g sc v) (he:(loadR T.toEnv t sc).Ends st r st') :
  st'=st∧ ∃ v',(Instr.loadAt t v).run P w= .ok v' w∧Opd D st tm w g r v':=by
 unfold loadR at he
 split at he
 ·exact (Pr.ef he).elim
 ·rename_i ti hti
  split at he
  ·rename_i hag
   rw [Bool.and_eq_true] at hag
   have hn0:ti.n≠0:=by simpa using hag.1
   have hag:ti.agg=true∨ti.n=1:=by simpa using hag.2
   split at he
   ·rename_i n b off
    obtain ⟨cs,s,h1,h2⟩:=Pr.eb he
    obtain ⟨rfl,hl,hb,hc⟩:=x_f1 I _ _ _ _ h1
    have hcc:∀ (j:Nat) c,cs[j]?=some c→ ∃ cv,bcell w (g.bb n) (off+j)=some cv∧okCell D s tm w g c cv:=by
     intro j c h
     obtain ⟨c0,h3,h4⟩:=hc j c h
     obtain ⟨k1,k2,cv,k3,k4⟩:=x_jd I h3 h4 p0
     exact ⟨cv,by simpa [cAt] using k3,k1,k2,k4⟩
    have hv:=O.one.2.2.2 (hb (by omega))
    subst hv
    have hvs:∀ (j:Nat) v,(((List.range cs.length).map fun j=>(bcell w (g.bb n) (off+j)).getD undef))[j]?=some v→bcell w (g.bb n) (off+j)=some v:=by
     intro j v h
     rw [List.getElem?_map] at h
     rcases Nat.lt_or_ge j cs.length with hj | hj
     ·obtain ⟨cv,h5,_⟩:=hcc j _ (ge_ hj)
      rw [List.getElem?_range hj] at h
      simp only [Option.map_some,h5,Option.getD_some,sj_] at h
      rw [h5,h]
     ·simp [List.getElem?_eq_none,hj] at h
    obtain ⟨rfl,O',_⟩:=x_uz (vs:=(List.range cs.length).map fun j=>(bcell w (g.bb n) (off+j)).getD undef) I h2 (by simp) (fun j c h=>by
     obtain ⟨cv,h5,h6⟩:=hcc j c h
     refine ⟨cv,?_,h6⟩
     rw [List.getElem?_map,List.getElem?_range (List.getElem?_eq_some_iff.1 h).1]
     simp [h5])
    exact ⟨rfl,_,x_l1 TO hti (by simp [hl]) hag hvs,O'⟩
   ·rename_i e u off
    split at he
    ·rename_i hle
     obtain ⟨rfl,rfl⟩:=Pr.er he
     obtain ⟨b,q,cs,ty,fz,rfl,h1,h2,h3,h4⟩:=O.shp
     have hlen:=h4.length
     refine ⟨rfl,_,x_l1 TO hti (vs:=((((cs.toList.drop q).take e.cells).drop off).take ti.n)) ?_ hag ?_,x_0i h4 hle hag⟩
     ·simp only [List.length_take,List.length_drop] at hlen ⊢;omega
     ·intro j v hj
      rw [List.getElem?_take] at hj
      split at hj
      ·rw [List.getElem?_drop,List.getElem?_take] at hj
       split at hj
       ·rw [List.getElem?_drop] at hj
        simp only [bcell,h2]
        rw [show q+off+j=q+(off+j) by omega]
        simpa using hj
       ·simp at hj
      ·simp at hj
    ·exact (Pr.ef he).elim
   ·rename_i p t' idx off
    obtain ⟨y,s,h1,h2⟩:=Pr.eb he
    obtain ⟨h1,rfl⟩:=x_bn h1
    split at h2
    ·rename_i hle
     obtain ⟨rfl,rfl⟩:=Pr.er h2
     obtain ⟨hlt,b,q,len,cap,h3,rfl⟩:=O.shp _ _ h1
     obtain ⟨hv,k1,k2⟩:=I.own h1
     rw [h3] at k1
     obtain rfl:=Option.some.inj k1
     obtain ⟨b',q',cap',cs,ty,fz,k3,m1,m2,m3,m4,m5⟩:=k2.some hlt
     simp only [Value.slice.injEq,sj_,Addr.mk.injEq,and_true] at k3
     obtain ⟨⟨rfl,rfl⟩,rfl,rfl⟩:=k3
     have hlen:=m5.length
     refine ⟨rfl,_,x_l1 TO hti (vs:=((((cs.toList.drop (q+idx*y.1.cells)).take y.1.cells).drop off).take ti.n)) ?_ hag ?_,?_⟩
     ·simp only [List.length_take,List.length_drop] at hlen ⊢;omega
     ·intro j v hj
      rw [List.getElem?_take] at hj
      split at hj
      ·rw [List.getElem?_drop,List.getElem?_take] at hj
       split at hj
       ·rw [List.getElem?_drop] at hj
        simp only [bcell,m3]
        rw [show q+idx*y.1.cells+off+j=q+idx*y.1.cells+(off+j) by omega]
        simpa using hj
       ·simp at hj
      ·simp at hj
     ·rw [gd_,ge_ hlt]
      exact x_0i m5 hle hag
    ·exact (Pr.ef h2).elim
   ·exact (Pr.ef he).elim
  ·exact (Pr.ef he).elim
theorem ok_load {t:TypeId} {a:Operand} (TO:x_fu P T.ti) (ho:o.op= .load t a) (I:Inv D st tm w g) (he:(opR T keep i o).Ends st () st'):OpOk P o D st tm w g st' (i+1) ds:=by
 simp only [opR,ho] at he
 obtain ⟨x,s,h1,h2⟩:=Pr.eb he
 obtain ⟨rfl,O⟩:=x_bp (ds:=ds) I h1
 obtain ⟨r,s,h3,h4⟩:=Pr.eb h2
 obtain ⟨rfl,v,hr,O'⟩:=x_we TO I O h3
 exact x_dd I (by simp only [execOp,ho,Sem.run_bind,hr,Result.andThen_ok,Sem.run_pure]) O' h4
end Go.Kn
namespace Go.Kn
variable [Ctx]
variable {P:Program} {D:Key×Nat→Prop} {st st':St} {tm:Array Value} {w w':World} {g:Gh} {ds:List Deferred} {E:Env}
variable {T:Tab} {keep:Bool} {i:Nat} {o:Oper}
theorem x_y1 {x:Operand} (hf:x_o5 D (i+1)) (I:Inv D st tm w g) (he:(selfW i o x).Ends st () st') :
  ∃ D1 g1,Goes D D1 st tm w g st' tm w g1∧ ∀ k t,D1 (k,t)→D (k,t)∨(t=i+1∧ ∀ d,o.dst=some d→ ∀ j,k≠ .c ⟨false,d,j⟩):=by
 have none:(Pr.ret ()).Ends st () st'→ ∃ D1 g1,Goes D D1 st tm w g st' tm w g1∧ ∀ k t,D1 (k,t)→D (k,t)∨(t=i+1∧ ∀ d,o.dst=some d→ ∀ j,k≠ .c ⟨false,d,j⟩):=fun h=>by
  obtain ⟨_,rfl⟩:=Pr.er h
  exact ⟨D,g, .refl I,fun _ _ h=> .inl h⟩
 unfold selfW at he
 split at he
 ·rename_i k d hd
  split at he
  ·exact none he
  ·rename_i hne
   have he:=Pr.ends_rs he
   split at he
   ·split at he
    ·obtain ⟨D',g',G,hs⟩:=x_gj _ _ I (fun j _=>hf _) he
     refine ⟨D',g',G,fun q t h=>(hs q t h).imp id fun h=>⟨h.1,fun d' hd' j e=>?_⟩⟩
     obtain ⟨j',_,_,hq⟩:=h.2
     rw [hd] at hd'
     obtain rfl:=Option.some.inj hd'
     rw [hq] at e
     simp only [Key.c.injEq,Pl.mk.injEq,true_and] at e
     exact hne e.1
    ·exact none he
   ·exact none he
 ·exact none he
theorem x_zs {x:Operand} (hz:frzD T o=false) (hf:x_o5 D (i+1)) (ho:o.op= .assign x) (I:Inv D st tm w g) (he:(opR T keep i o).Ends st () st'):OpOk P o D st tm w g st' (i+1) ds:=by
 simp only [opR,ho,hz,Bool.false_eq_true,if_false] at he
 obtain ⟨⟨⟩,s0,h0,h0'⟩:=Pr.eb he
 obtain ⟨D1,g1,G0,hD1⟩:=x_y1 hf I h0
 obtain ⟨a,s,h1,h2⟩:=Pr.eb h0'
 obtain ⟨rfl,O⟩:=x_bp (ds:=ds) G0.inv h1
 obtain ⟨⟨⟩,s1,h3,h4⟩:=Pr.eb h2
 have G1:=x_gh G0.inv O h3
 unfold claimD at h4
 split at h4
 ·rename_i d hd
  obtain ⟨D',g',G2,hs⟩:=x_gj _ _ G1.inv (fun j _ h=>by
   rcases hD1 _ _ h with h | ⟨_,h⟩
   ·exact hf _ h
   ·exact h d hd j rfl) h4
  exact x_gr (v:=(⟨tm,ds⟩ : Act).eval x) (w':=w) (by simp [execOp,ho]) ⟨D',g',rfl,(G0.trans G1).trans G2,fun k t h=>by
   rcases hs k t h with h | h
   ·exact (hD1 k t h).imp id fun h=>h.1
   ·exact .inr h.1⟩
 ·obtain ⟨_,rfl⟩:=Pr.er h4
  exact x_gr (v:=(⟨tm,ds⟩ : Act).eval x) (w':=w) (by simp [execOp,ho]) ⟨D1,g1,rfl,G0.trans G1,fun k t h=>(hD1 k t h).imp id fun h=>h.1⟩
theorem putl (off:Nat):∀ (l:List Value) (k:Nat) (vs:List Value),off+k+l.length≤vs.length→
  (l.zipIdx k).foldl (fun (cs:Array Value) (p:Value×Nat)=>cs.setIfInBounds (off+p.2) p.1) vs.toArray=(vs.take (off+k)++l++vs.drop (off+k+l.length)).toArray
 | [],k,vs,h=>by simp
 | c::l,k,vs,h=>by
  simp only [List.length_cons] at h
  rw [List.zipIdx_cons,List.foldl_cons]
  have h1:vs.toArray.setIfInBounds (off+k) c=(vs.set (off+k) c).toArray:=by simp
  rw [h1,putl off l (k+1) (vs.set (off+k) c) (by simp;omega)]
  congr 1
  apply List.ext_getElem?
  intro m
  simp only [List.getElem?_append,List.getElem?_take,List.getElem?_drop,List.getElem?_set,List.length_append,List.length_take,List.length_set,List.length_cons]
  have e1:min (off+(k+1)) vs.length=off+k+1:=by omega
  have e2:min (off+k) vs.length=off+k:=by omega
  rw [e1,e2]
  by_cases a1:m<off+k
  ·simp [a1,show m<off+k+1 by omega,show m<off+(k+1) by omega,show m<off+k+1+l.length by omega,show m<off+k+(l.length+1) by omega,show ¬ (off+k=m) by omega]
  ·by_cases a2:m=off+k
   ·subst a2
    simp [show off+k<off+(k+1) by omega,show off+k<off+k+1 by omega,show off+k<vs.length by omega]
    omega
   ·by_cases a3:m<off+k+1+l.length
    ·have:m-(off+k)=(m-(off+k+1))+1:=by omega
     simp [a1,show ¬ m<off+k+1 by omega,a3,show m<off+k+(l.length+1) by omega,this]
    ·have:¬ (off+k=off+(k+1)+l.length+(m-(off+k+1+l.length))):=by omega
     simp [a1,a3,show ¬ m<off+k+1 by omega,show ¬ m<off+k+(l.length+1) by omega,this]
     congr 1
     omega
theorem x_si (w:World) {ti:TypeId→Option TInf} {inf:TInf} {fs:Array Field} (h:x_iv P ti inf (.struct fs)=true) :
  fs.toList.mapM (fun f=>(P.info? f.type).map fun i=>(f.offset,i.size))=some (inf.fs.map fun x=>(x.1,x.2.1)):=by
 have hd:=h
 unfold x_iv at h
 simp only [Bool.and_eq_true,decide_eq_true_eq] at h
 refine mapM_some_of_get _ _ (by simp [h.1.2]) fun j x hx=>?_
 have hlt:j<inf.fs.length:=by have:=(List.getElem?_eq_some_iff.1 hx).1;simp at this;omega
 obtain ⟨⟨off,n,agg⟩,hq⟩ : ∃ y,inf.fs[j]=y:=⟨_,rfl⟩
 obtain ⟨fld,k1,k2,k3,_⟩:=x_ip hd (f:=j) (off:=off) (n:=n) (agg:=agg) (by rw [ge_ hlt,hq])
 have:x=fld:=by
  rw [Array.getElem?_toList,k1] at hx
  exact (Option.some.inj hx).symm
 subst this
 rw [List.getElem?_map,ge_ hlt,hq]
 have k3:=k3 w
 cases hi:P.info? x.type with
 | none=>simp [Go.sizeOf,typeInfo,hi] at k3
 | some inf=>simp [Go.sizeOf,typeInfo,hi] at k3;simp [k2,k3]
theorem x_sg (I:Inv D st tm w g) {fs:List (Nat×Nat×Bool)} {m:Nat} (hfs:∀ x∈fs,x.1+x.2.1≤m) :
  ∀ (l:List (Nat×Operand)) (cs cs':List Cell) (vs:List Value) (s1:St),(partR E fs l cs).Ends st cs' s1→vs.length=m→cs.length=vs.length→
  (∀ (j:Nat) c,cs[j]?=some c→ ∃ cv,vs[j]?=some cv∧okCell D st tm w g c cv)→
  s1=st∧ ∃ vs':List Value,Instr.fill (fun i=>(fs.map fun x=>(x.1,x.2.1)).toArray[i]?) vs.toArray (l.map fun p=>(p.1,(⟨tm,ds⟩ : Act).eval p.2))=some vs'.toArray∧cs'.length=vs'.length∧
   ∀ (j:Nat) c,cs'[j]?=some c→ ∃ cv,vs'[j]?=some cv∧okCell D st tm w g c cv
 | [],cs,cs',vs,s1,he,hm,hl,hc=>by
  obtain ⟨rfl,hs⟩:=Pr.er he
  exact ⟨hs,vs,rfl,hl,hc⟩
 | (f,x)::l,cs,cs',vs,s1,he,hm,hl,hc=>by
  simp only [partR] at he
  split at he
  ·rename_i off n agg hf
   obtain ⟨a,s,h1,h2⟩:=Pr.eb he
   obtain ⟨hs,O⟩:=x_bp (ds:=ds) I h1
   rw [hs] at h2
   have hle:off+n≤vs.length:=by have:=hfs _ (List.mem_of_getElem? hf);simp only at this;omega
   have hpl:((fs.map fun x=>(x.1,x.2.1)).toArray)[f]?=some (off,n):=by simp [hf]
   have step:∀ (ys:List Cell) (us:List Value),ys.length=n→us.length=n→((⟨tm,ds⟩ : Act).eval x).cells=us.toArray→
     (∀ (j:Nat) c,ys[j]?=some c→ ∃ cv,us[j]?=some cv∧okCell D st tm w g c cv)→(partR E fs l (cs.take off++ys++cs.drop (off+n))).Ends st cs' s1→
     s1=st∧ ∃ vs':List Value,Instr.fill (fun i=>(fs.map fun x=>(x.1,x.2.1)).toArray[i]?) vs.toArray (((f,x)::l).map fun p=>(p.1,(⟨tm,ds⟩ : Act).eval p.2))=some vs'.toArray∧cs'.length=vs'.length∧
      ∀ (j:Nat) c,cs'[j]?=some c→ ∃ cv,vs'[j]?=some cv∧okCell D st tm w g c cv:=by
    intro ys us hy hu hcells hyc hr
    have hput:=putl off us 0 vs (by omega)
    simp only [Nat.add_zero] at hput
    obtain ⟨k1,vs',k2,k3,k4⟩:=x_sg I hfs l _ cs' (vs.take off++us++vs.drop (off+us.length)) s1 hr (by simp;omega) (by simp;omega) (by
     intro j c hj
     simp only [List.getElem?_append,List.length_append,List.length_take,List.getElem?_take,List.getElem?_drop,hl,hu,hy] at hj ⊢
     rw [show min off vs.length=off by omega] at hj ⊢
     split at hj
     ·rename_i a1
      rw [if_pos a1]
      split at hj
      ·rename_i a2
       rw [if_pos a2,if_pos a2] at *
       exact hc j c (by simpa [a2] using hj)
      ·rename_i a2
       rw [if_neg a2]
       exact hyc _ c hj
     ·rename_i a1
      rw [if_neg a1]
      exact hc _ c hj)
    refine ⟨k1,vs',?_,k3,k4⟩
    rw [←k2]
    simp only [List.map_cons,Instr.fill,hpl,hcells]
    have:¬ (us.toArray.size≠n || off+us.toArray.size>vs.toArray.size)=true:=by simp [hu];omega
    rw [if_neg this]
    congr 1
    rw [←hput]
    simp [Array.foldl_toList]
   split at h2
   ·rename_i ys
    split at h2
    ·rename_i hn
     obtain ⟨us,hv,hul,huc⟩:=O.agg
     exact step ys us hn (by omega) (by rw [hv];rfl) huc h2
    ·exact (Pr.ef h2).elim
   ·rename_i y
    split at h2
    ·rename_i hn
     obtain ⟨hpl',k1,k2,k3⟩:=O.one
     refine step [y] [(⟨tm,ds⟩ : Act).eval x] (by simp [hn]) (by simp [hn]) ?_ ?_ h2
     ·revert hpl'
      cases (⟨tm,ds⟩ : Act).eval x<;>simp [Value.cells]
     ·intro j c hj
      cases j with
      | zero=>simp only [List.getElem?_cons_zero,sj_] at hj;subst hj;exact ⟨_,rfl,k1,k2,k3⟩
      | succ j=>simp at hj
    ·exact (Pr.ef h2).elim
   ·exact (Pr.ef h2).elim
  ·exact (Pr.ef he).elim
theorem x_gg {x:Cell} {v:Value} (h:okCell D st tm w g x v):[x].length=[v].length∧ ∀ (j:Nat) z,[x][j]?=some z→ ∃ cv,[v][j]?=some cv∧okCell D st tm w g z cv:=by
 refine ⟨rfl,fun j z hz=>?_⟩
 cases j with
 | zero=>simp only [List.getElem?_cons_zero,sj_] at hz;subst hz;exact ⟨_,rfl,h⟩
 | succ j=>simp at hz
theorem x_jk:∀ (e:ET) (l r:List Value),x_gz e l=some r→ ∃ c,l=c++r∧(x_d9 e).length=c.length∧ ∀ (j:Nat) x,(x_d9 e)[j]?=some x→ ∃ cv,c[j]?=some cv∧okCell D st tm w g x cv
 | .p x y,l,r,h=>by
  simp only [x_gz,Option.bind_eq_some_iff] at h
  obtain ⟨m,h1,h2⟩:=h
  obtain ⟨c,rfl,hl,hc⟩:=x_jk x l m h1
  obtain ⟨d,rfl,hl',hd⟩:=x_jk y m r h2
  refine ⟨c++d,by simp,by simp [x_d9,hl,hl'],fun j z hz=>?_⟩
  simp only [x_d9,List.getElem?_append] at hz ⊢
  rw [←hl]
  split at hz
  ·rename_i a;rw [if_pos a];exact hc j z hz
  ·rename_i a;rw [if_neg a];exact hd _ z hz
 | .u,l,r,h=>by simp only [x_gz,sj_] at h;exact ⟨[],by simp [h],rfl,fun j x hx=>by simp [x_d9] at hx⟩
 | .sl x,l,r,h=>by
  unfold x_gz at h
  split at h<;>simp_all
  refine ⟨[.slice none 0 0],rfl,rfl,fun j z hz=>?_⟩
  cases j with
  | zero=>simp only [x_d9,List.getElem?_cons_zero,sj_] at hz;subst hz;exact ⟨_,rfl,trivial,by simp [stC],rfl⟩
  | succ j=>simp [x_d9] at hz
 | .i k,l,r,h=>by
  obtain ⟨c,h1,h2⟩:=x_f6 (w:=w) (fr:=g.fr) (.i k) l r h
  simp only [rep] at h2
  subst h2
  exact ⟨_,h1,x_gg (x:=x_id ⟨.i k,(0:Int)⟩) ⟨trivial,by simp [stC,x_id],rfl,rfl⟩⟩
 | .b,l,r,h=>by
  obtain ⟨c,h1,h2⟩:=x_f6 (w:=w) (fr:=g.fr) .b l r h
  simp only [rep] at h2
  subst h2
  exact ⟨_,h1,x_gg (x:=x_id ⟨.b,false⟩) ⟨trivial,by simp [stC,x_id],rfl,rfl⟩⟩
 | .s,l,r,h=>by
  obtain ⟨c,h1,h2⟩:=x_f6 (w:=w) (fr:=g.fr) .s l r h
  simp only [rep] at h2
  subst h2
  exact ⟨_,h1,x_gg (x:=x_id ⟨.s,ByteArray.empty⟩) ⟨trivial,by simp [stC,x_id],rfl,rfl⟩⟩
 | .er,l,r,h=>by
  obtain ⟨c,h1,x,rfl,h2⟩:=x_f6 (w:=w) (fr:=g.fr) .er l r h
  exact ⟨_,h1,x_gg (x:=x_id ⟨.er,false⟩) ⟨trivial,by simp [stC,x_id],rfl,x,rfl,h2⟩⟩
theorem ok_build {t:TypeId} {ps:Array (Nat×Operand)} (TO:x_fu P T.ti) (ho:o.op= .build t ps) (I:Inv D st tm w g) (he:(opR T keep i o).Ends st () st') :
  OpOk P o D st tm w g st' (i+1) ds:=by
 simp only [opR,ho] at he
 split at he
 ·rename_i ti hti
  split at he
  ·rename_i hag
   obtain ⟨cs,s,h1,h2⟩:=Pr.eb he
   obtain ⟨fs,hu⟩:=x_nq TO hti hag
   obtain ⟨d,hd,hdo⟩:=TO.desc hti
   rw [hu] at hd
   obtain rfl:=Option.some.inj hd
   obtain ⟨inf,hi,hsz,_,hz⟩:=TO.info hti
   have hp:ti.ptr=false:=by simp only [x_iv,Bool.and_eq_true,Bool.not_eq_true'] at hdo;exact hdo.1.1.2
   obtain ⟨z,hz1,hz2,_,_⟩:=hz hp
   obtain ⟨c,hc1,hc2,hc3⟩:=x_jk (D:=D) (st:=st) (tm:=tm) (w:=w) (g:=g) ti.e _ _ hz2
   have hlen:c.length=ti.e.cells:=by
    obtain ⟨c',h3,h4⟩:=x_f6 (w:=w) (fr:=g.fr) ti.e _ _ hz2
    simp only [List.append_nil] at hc1 h3
    rw [←hc1,h3];exact h4.length
   simp only [List.append_nil] at hc1
   obtain ⟨hs,vs',k1,k2,k3⟩:=x_sg (ds:=ds) I (m:=ti.e.cells) (fun x hx=>by
    obtain ⟨j,hj,rfl⟩:=List.mem_iff_getElem.1 hx
    obtain ⟨_,_,_,_,_,h5,_⟩:=x_ip hdo (f:=j) (off:=ti.fs[j].1) (n:=ti.fs[j].2.1) (agg:=ti.fs[j].2.2) (by rw [ge_ hj])
    exact h5) ps.toList _ cs c s h1 hlen hc2 hc3
   subst hs
   have hb:P.built t (ps.map fun p=>(p.1,(⟨tm,ds⟩ : Act).eval p.2)).toList=some vs'.toArray:=by
    simp only [Program.built,hi,hu,hz1,x_si w hdo]
    rw [←k1]
    congr 1
    ·rw [←hc1]
    ·simp
   refine x_dd I (v:= .agg vs'.toArray) ?_ (x_wn k2 k3) h2
   simp only [execOp,ho,Sem.run_bind,run_build w t _ _ hb,Result.andThen_ok,Sem.run_pure]
  ·exact (Pr.ef he).elim
 ·exact (Pr.ef he).elim
end Go.Kn
namespace Go.Kn
variable [Ctx]
variable {P:Program} {D:Key×Nat→Prop} {st st':St} {tm:Array Value} {w w':World} {g:Gh} {ds:List Deferred} {E:Env}
variable {T:Tab} {keep:Bool} {i:Nat} {o:Oper}
inductive Opds (D:Key×Nat→Prop) (st:St) (tm:Array Value) (w:World) (g:Gh):List SC→List Value→Prop
 | nil:Opds D st tm w g [] []
 | cons {a v l vs} (h:Opd D st tm w g a v) (t:Opds D st tm w g l vs):Opds D st tm w g (a::l) (v::vs)
theorem Opds.get:∀ {l:List SC} {vs:List Value},Opds D st tm w g l vs→l.length=vs.length∧ ∀ (j:Nat) a v,l[j]?=some a→vs[j]?=some v→Opd D st tm w g a v
 | _,_, .nil=>⟨rfl,fun j a v h=>by simp at h⟩
 | _,_, .cons h t=>by
  obtain ⟨h1,h2⟩:=t.get
  refine ⟨by simp [h1],fun j a v ha hv=>?_⟩
  cases j with
  | zero=>simp only [List.getElem?_cons_zero,sj_] at ha hv;subst ha;subst hv;exact h
  | succ j=>exact h2 j a v (by simpa using ha) (by simpa using hv)
theorem x_vz (I:Inv D st tm w g):∀ (l:List Operand) (cs:List SC) (s1:St),(mapP (opnd E 0) l).Ends st cs s1→s1=st∧Opds D st tm w g cs (l.map (⟨tm,ds⟩ : Act).eval)
 | [],cs,s1,he=>by obtain ⟨rfl,hs⟩:=Pr.er he;exact ⟨hs, .nil⟩
 | x::l,cs,s1,he=>by
  obtain ⟨a,s,h1,h2⟩:=Pr.eb he
  obtain ⟨hs,O⟩:=x_bp (ds:=ds) I h1
  rw [hs] at h2
  obtain ⟨r,s',h3,h4⟩:=Pr.eb h2
  obtain ⟨hs',Os⟩:=x_vz I l r s' h3
  obtain ⟨rfl,hs''⟩:=Pr.er h4
  exact ⟨hs''.trans hs', .cons O Os⟩
theorem x_k7 (I:Inv D st tm w g):∀ (ts:List TypeId) (l:List Operand) (cs:List SC) (s1:St),(opnds E ts l).Ends st cs s1→
  s1=st∧ts.length=l.length∧Opds D st tm w g cs (l.map (⟨tm,ds⟩ : Act).eval)
 | [],[],cs,s1,he=>by obtain ⟨rfl,hs⟩:=Pr.er he;exact ⟨hs,rfl, .nil⟩
 | [],x::l,cs,s1,he=>(Pr.ef he).elim
 | t::ts,[],cs,s1,he=>(Pr.ef he).elim
 | t::ts,x::l,cs,s1,he=>by
  obtain ⟨a,s,h1,h2⟩:=Pr.eb he
  obtain ⟨hs,O⟩:=x_bp (ds:=ds) I h1
  rw [hs] at h2
  obtain ⟨r,s',h3,h4⟩:=Pr.eb h2
  obtain ⟨hs',hl,Os⟩:=x_k7 I ts l r s' h3
  obtain ⟨rfl,hs''⟩:=Pr.er h4
  exact ⟨hs''.trans hs',by simp [hl], .cons O Os⟩
theorem x_xu {fn:Operand} {first cap:Array Operand} (ho:∃ f,o.op= .makeFunc f first cap) (I:Inv D st tm w g) (he:(opR T keep i o).Ends st () st') :
  OpOk P o D st tm w g st' (i+1) ds:=by
 obtain ⟨fn,ho⟩:=ho
 simp only [opR,ho] at he
 split at he
 ·rename_i f
  split at he
  ·rename_i h0
   obtain ⟨cs,s,h1,h2⟩:=Pr.eb he
   obtain ⟨rfl,Os⟩:=x_vz (ds:=ds) I _ _ _ h1
   obtain ⟨hl,hg⟩:=Os.get
   have hfirst:first.map (⟨tm,ds⟩ : Act).eval= #[]:=by
    have:first= #[]:=Array.size_eq_zero_iff.1 h0
    subst this;simp
   refine x_dd I (sc:= .fn f cs) (v:= .func (.func f) #[] (cap.map (⟨tm,ds⟩ : Act).eval)) (by simp [execOp,ho,Instr.makeFunc,hfirst]) ⟨⟨_,rfl,by simp at hl;simp [hl],fun j h h'=>?_⟩,fun j c h=>by simp [SC.cells] at h,fun t ht=>?_⟩ h2
   ·have hO:=hg j cs[j] ((cap.map (⟨tm,ds⟩ : Act).eval)[j]) (ge_ h) (by simp at hl;rw [List.getElem?_map,Array.getElem?_toList,Array.getElem?_eq_getElem (by omega)];simp)
    split
    ·rename_i n t off heq
     rw [heq] at hO
     exact hO.one.2.2.2
    ·trivial
   ·simp only [stS,List.mem_flatMap] at ht
    obtain ⟨a,ha,ht⟩:=ht
    obtain ⟨j,hj,rfl⟩:=List.mem_iff_getElem.1 ha
    have hO:=hg j cs[j] ((cap.map (⟨tm,ds⟩ : Act).eval)[j]'(by simp at hl ⊢;omega)) (ge_ hj) (by simp at hl;rw [List.getElem?_map,Array.getElem?_toList,Array.getElem?_eq_getElem (by omega)];simp)
    revert hO ht
    generalize cs[j]=a
    intro ht hO
    split at ht
    ·exact hO.one.2.2.1 t (by simpa [stC] using ht)
    ·simp at ht
  ·exact (Pr.ef he).elim
 ·exact (Pr.ef he).elim
theorem x_uy (TO:x_fu P T.ti) (I:Inv D st tm w g) {b:Builtin} {tys:Array TypeId} {cs:List SC} {vs:List Value} {r:SC} {ty:TypeId} {consts:Array Bool}
  (hb:b= .len∨b= .min∨b= .max∨b= .cap) (Os:Opds D st tm w g cs vs) (ht:tys.size=vs.length) (he:(x_jz T.toEnv i b tys.toList cs).Ends st r st') :
  st'=st∧ ∃ v,(builtin b tys ty consts vs.toArray).run P w= .ok (.value v) w∧Opd D st tm w g r v:=by
 rcases hb with rfl | rfl | rfl | rfl
 ·unfold x_jz at he
  cases Os with
  | nil=>exact (Pr.ef he).elim
  | cons O Os=>
   cases Os with
   | cons O' Os=>exact (Pr.ef he).elim
   | nil=>
    rename_i a v
    simp only at he
    obtain ⟨la,s,h1,h2⟩:=Pr.eb he
    obtain ⟨rfl,hl⟩:=x_fn I O h1
    have htt:tys[0]?=some (tys.toList.headD 0):=by
     cases tys with | mk l=>cases l<;>simp at ht ⊢
    revert htt h2
    generalize tys.toList.headD 0=t0
    intro h2 htt
    split at h2
    ·split at h2
     ·rename_i hs
      have hu:=isTy_s TO hs
      obtain rfl:=x_mi hl
      obtain ⟨rfl,rfl⟩:=Pr.er h2
      refine ⟨rfl,_,?_,x_ht _ _⟩
      simp [builtin,Builtin.len_,htt,run_underlying hu,goInt]
     ·exact (Pr.ef h2).elim
    ·rename_i e xs
     split at h2
     ·rename_i hs
      obtain ⟨ti,te,k1,k2,k3,k4,k5,k6,k7⟩:=x_ri TO hs
      obtain ⟨rfl,rfl⟩:=Pr.er h2
      refine ⟨rfl, .int .i64 xs.length,?_,x_ht _ _⟩
      have:x_br w g.rd false (rep w g.fr e) e.cells xs v:=hl
      rcases this with ⟨a0,rfl,rfl,_⟩ | ⟨b,o,cap,cs,ty,fz,rfl,_⟩
      ·simp [builtin,Builtin.len_,htt,run_underlying k5,goInt]
      ·simp [builtin,Builtin.len_,htt,run_underlying k5,goInt]
     ·exact (Pr.ef h2).elim
    ·exact (Pr.ef h2).elim
 rotate_left 2
 ·cases Os with
  | nil=>exact (Pr.ef he).elim
  | cons O Os=>
   rename_i a v _ _
   cases Os with
   | cons O' Os=>
    revert he O
    cases a<;>intro O he<;>first | exact (Pr.ef he).elim | (rename_i c;revert he O;cases c<;>intro O he<;>exact (Pr.ef he).elim)
   | nil=>
    revert he O
    cases a<;>intro O he<;>first | exact (Pr.ef he).elim | skip
    rename_i c
    revert he O
    cases c<;>intro O he<;>first | exact (Pr.ef he).elim | skip
    rename_i e
    simp only [x_jz] at he
    split at he
    ·rename_i hs
     obtain ⟨ti,te,k1,k2,k3,k4,k5,k6,k7⟩:=x_ri TO hs
     obtain ⟨rfl,rfl⟩:=Pr.er he
     have hv:v= .slice none 0 0:=O.one.2.2.2
     subst hv
     have htt:tys[0]?=some (tys.toList.headD 0):=by
      cases tys with | mk l=>cases l<;>simp at ht ⊢
     refine ⟨rfl, .int .i64 0,?_,x_ht _ _⟩
     clear hs k1 k2
     generalize tys.toList.headD 0=t0 at htt k5
     simp [builtin,Builtin.cap_,htt,run_underlying k5,goInt]
    ·exact (Pr.ef he).elim
 all_goals
  unfold x_jz at he
  cases Os with
  | nil=>exact (Pr.ef he).elim
  | cons O Os=>
   cases Os with
   | nil=>exact (Pr.ef he).elim
   | cons O' Os=>
    cases Os with
    | cons _ _=>exact (Pr.ef he).elim
    | nil=>
     simp only at he
     obtain ⟨x,s,h1,h2⟩:=Pr.eb he
     obtain ⟨rfl,rfl⟩:=x_kh I O h1
     obtain ⟨y,s,h3,h4⟩:=Pr.eb h2
     obtain ⟨rfl,rfl⟩:=x_kh I O' h3
     split at h4
     ·rename_i hk
      obtain ⟨rfl,rfl⟩:=Pr.er h4
      refine ⟨rfl,_,?_,x_ht _ _⟩
      simp [builtin,Builtin.min_,Builtin.max_,Builtin.min2,Builtin.max2]
      split<;>omega
     ·exact (Pr.ef h4).elim
theorem und_i (TO:x_fu P T.ti) {t:TypeId} {ti:TInf} (ht:T.ti t=some ti) (ha:ti.agg=false) (hp:ti.ptr=false) {k:IntKind} (he:ti.e= .i k):P.underlying t=some (.int k):=by
 obtain ⟨d,h1,h2⟩:=TO.desc ht
 rw [h1]
 cases d<;>simp_all [x_iv]
theorem und_s (TO:x_fu P T.ti) {t:TypeId} {ti:TInf} (ht:T.ti t=some ti) (ha:ti.agg=false) (hp:ti.ptr=false) (he:ti.e= .s):P.underlying t=some .string:=by
 obtain ⟨d,h1,h2⟩:=TO.desc ht
 rw [h1]
 cases d<;>simp_all [x_iv]
theorem x_u3 (TO:x_fu P T.ti) {t:TypeId} (h:x_ya T.toEnv t=true):∃ el,P.underlying t=some (.slice el)∧P.underlying el=some (.int .u8):=by
 unfold x_ya at h
 rw [Bool.and_eq_true] at h
 obtain ⟨ti,te,k1,k2,k3,k4,k5,k6,k7⟩:=x_ri TO h.1
 have h2:=h.2
 simp only [k1,Option.bind_some,k2,Bool.not_eq_true'] at h2
 exact ⟨_,k5,und_i TO k2 h2 k4 k3⟩
theorem strOf_eq (l:List Int):x_jo l=strOfNums l:=by
 simp [x_jo,strOfNums]
theorem x_yc (TO:x_fu P T.ti) (I:Inv D st tm w g) {s t:TypeId} {la:LV} {va:Value} {ts tt:TInf} (hs:T.ti s=some ts) (ht:T.ti t=some tt)
  (h0:ts.agg=false∧tt.agg=false∧ts.ptr=false∧tt.ptr=false) (hl:lrep w g g.rd false la.1 la.2 va) :
  (∀ k n k',la=⟨.i k,n⟩→tt.e= .i k'→(convert s t va).run P w= .ok (.int k' (k'.wrap n)) w)∧
  (∀ x,la=⟨.s,x⟩→tt.e= .s→(convert s t va).run P w= .ok (.string x) w)∧
  (∀ x,la=⟨.sl (.i .u8),x⟩→x_ya T.toEnv s=true→tt.e= .s→(convert s t va).run P w= .ok (.string (x_jo x)) w):=by
 refine ⟨?_,?_,?_⟩
 ·rintro k n k' rfl he
  obtain rfl:=x_p6 hl
  have hu:=und_i TO ht h0.2.1 h0.2.2.2 he
  obtain ⟨d,hd,_⟩:=TO.desc hs
  have hk:P.intKind t=k':=by simp [Program.intKind,hu]
  have:=run_convert_int (P:=P) w s t k n (by simp [hd]) (by rw [hk];exact hu)
  rw [hk] at this
  exact this
 ·rintro x rfl he
  obtain rfl:=x_mi hl
  have hu:=und_s TO ht h0.2.1 h0.2.2.2 he
  obtain ⟨d,hd,_⟩:=TO.desc hs
  simp [convert,run_underlying hd,run_underlying hu]
 ·rintro x rfl hb he
  obtain ⟨el,hu,hel⟩:=x_u3 TO hb
  have hd:=und_s TO ht h0.2.1 h0.2.2.2 he
  have hr:x_br w g.rd false (rep w g.fr (.i .u8)) (ET.i .u8).cells x va:=hl
  rcases hr with ⟨a0,rfl,rfl,_⟩ | ⟨b,o,cap,cs,ty,fz,rfl,h2,h3,h4,h5,h6,h7⟩
  ·cases a0 with
   | none=>rw [run_convert_bytes_nil w s el hu hel 0 0 t hd];rfl
   | some a0=>
    have hl0:=run_loadCells_list (P:=P) w a0 [] (by simp)
    simp only [List.length_nil] at hl0
    rw [run_convert_bytes_string w s t el (some a0) 0 0 hu hel hd]
    simp [Conv.bytesToString,hl0]
    rfl
  ·rw [strOf_eq]
   refine run_convert_bytes_arg w s el hu hel b o x.length cap x rfl (fun i hi=>?_) t hd
   have:=h7 i hi
   simp only [rep,ET.cells,Nat.mul_one] at this
   rw [x_hr]
   simp only [bcell,h4]
   have h8:=congrArg (fun l=>l[0]?) this
   simp only [List.getElem?_take,List.getElem?_drop,Nat.add_zero,List.getElem?_cons_zero] at h8
   simp only [Nat.zero_lt_one,if_true,Array.getElem?_toList] at h8
   rw [h8]
   simp [gd_,ge_ hi]
end Go.Kn
