/- Part 1 of a proof: closed runs of the given program, and the readings of its code that they use. -/
import Derived.RangeFuncLeaves
import Derived.OrdersIn
import Derived.Laws.CopyRow
import Derived.Laws.Rows
import Derived.Laws.Entries
set_option linter.unusedVariables false
set_option linter.unusedSimpArgs false
set_option linter.unusedSectionVars false
namespace Tw
open Go
inductive NK where
 | ptr | slc | map | fn | Vl
 deriving DecidableEq
inductive TV where
 | bool (b:Bool)
 | int (k:IntKind) (n:Int)
 | str (s:ByteArray)
 | nil (k:NK)
 | ptr (b off lim:Nat)
 | slc (b off len cap sz:Nat) (ex:Bool)
 | map (r:Nat)
 | fn (f:FuncId) (first cap:List TV)
 | iF (l:Nat)
 | agg (cs:List TV)
 | bf (cs:List TV)
 | iter (b:Nat)
inductive EV where
 | val (v:TV)
 | loc (k off:Nat)
 | undef
inductive BK where
 | ro | own | grow | last
 deriving DecidableEq
inductive HB where
 | cells (k:BK) (cs:List TV)
 | map (es:List (TV×TV))
 | oH (cs:List TV)
 | mark
 | aV (r n:Nat) (seen:List Nat)
 | loop (ready:Bool) (f:FuncId) (nt:Nat) (env:List (Nat×EV)) (ps:List Nat) (assign body:Code) (pend:Option Code)
structure St where
 env:List (Nat×EV)
 loc:List (List TV)
 heap:List HB
 ws:List Nat
inductive Key where
 | h (b:Nat)
 | l (k:Nat)
 deriving DecidableEq
def St.get (s:St):Key→Option HB
 | .h b=>s.heap[b]?
 | .l k=>(s.loc[k]?).map (.cells .own)
def TV.toC:TV→Option Value
 | .bool b=>some (.bool b)
 | .int k n=>some (.int k n)
 | .str s=>some (.string s)
 | .nil .ptr=>some (.pointer none)
 | .nil .slc=>some (.slice none 0 0)
 | .nil .map=>some (.map none)
 | .nil .fn=>some .nilFunc
 | .nil .Vl=>some .nilIface
 | _=>none
def TV.Ia:List TV→Option (List Value)
 | []=>some []
 | c::cs=>match c.toC,TV.Ia cs with
  | some v,some vs=>some (v::vs)
  | _,_=>none
def TV.oJ:TV→Option Value
 | .agg cs=>(TV.Ia cs).map fun vs=>.agg vs.toArray
 | v=>v.toC
def TV.O6:Value→Option TV
 | .bool b=>some (.bool b)
 | .int k n=>some (.int k n)
 | .string s=>some (.str s)
 | .pointer none=>some (.nil .ptr)
 | .slice none 0 0=>some (.nil .slc)
 | .map none=>some (.nil .map)
 | .nilFunc=>some (.nil .fn)
 | .nilIface=>some (.nil .Vl)
 | _=>none
def TV.sK:List Value→Option (List TV)
 | []=>some []
 | c::cs=>match TV.O6 c,TV.sK cs with
  | some v,some vs=>some (v::vs)
  | _,_=>none
def TV.FH:Value→Option TV
 | .agg cs=>(TV.sK cs.toList).map .agg
 | v=>TV.O6 v
def TV.zK:TV→Bool
 | .bool _ | .int _ _ | .str _ | .nil _=>true
 | _=>false
def TV.FI:TV→Bool
 | .agg cs=>cs.all TV.zK
 | v=>v.zK
def TV.flat:TV→Bool
 | .bf vs=>vs.all TV.FI
 | v=>v.FI
def TV.cells:TV→List TV
 | .agg cs=>cs
 | v=>[v]
def bJ:TV→Bool
 | .agg _ | .bf _=>false
 | _=>true
def au {α:Type} (P:Program):Sem α→Option α
 | .pure a=>some a
 | .program k=>au P (k P)
 | .mark _ k=>au P k
 | _=>none
def aK (t:Nat):List (Nat×EV)→Option EV
 | []=>none
 | (k,v)::r=>if k=t then some v else aK t r
def St.put (s:St) (dst:Option Nat) (v:EV):St:=
 match dst with
 | some d=>{ s with env:=(d,v)::s.env }
 | none=>s
def pick (live:List Nat) (env:List (Nat×EV)):List (Nat×EV):=
 match live with
 | []=>[]
 | t::r=>match aK t env with
  | some v=>(t,v)::pick r env
  | none=>pick r env
def xZ (env:List (Nat×EV)):Operand→Option EV
 | .tmp t=>aK t env
 | .const v=>(TV.FH v).map .val
 | .func f=>some (.val (.fn f [] []))
 | .global _=>none
def jP (env:List (Nat×EV)) (x:Operand):Option TV:=
 match xZ env x with
 | some (.val v)=>some v
 | _=>none
def zL (env:List (Nat×EV)):List Operand→Option (List TV)
 | []=>some []
 | x::xs=>match jP env x,zL env xs with
  | some v,some vs=>some (v::vs)
  | _,_=>none
def CP (env:List (Nat×EV)):List (Nat×Operand)→Option (List (Nat×TV))
 | []=>some []
 | (i,x)::xs=>match jP env x,CP env xs with
  | some v,some vs=>some ((i,v)::vs)
  | _,_=>none
structure Inf where
 all:Bool
 ts:List Key
 ws:List Key
def aA:Inf:=⟨false,[],[]⟩
def lu (k:Key):Inf:=⟨false,[k],[]⟩
def bT (k:List Key):Inf:=⟨false,k,[]⟩
def jO (k:Key):Inf:=⟨false,[k],[k]⟩
def sub (cs:List TV) (off n:Nat):Option (List TV):=
 if off+n≤cs.length then some ((cs.drop off).take n) else none
def over (cs:List TV) (off:Nat) (new:List TV):Option (List TV):=
 if off+new.length≤cs.length then some (cs.take off++new++cs.drop (off+new.length)) else none
def lW (P:Program) (t:TypeId):Option Bool:=
 match P.underlying t with
 | some (.struct _) | some (.array _ _)=>some true
 | some _=>some false
 | none=>none
def sizeT (P:Program) (t:TypeId):Option Nat:=(P.info? t).map (·.size)
def partT (P:Program) (t:TypeId) (cs:List TV) (off:Nat):Option TV:=
 match lW P t,sizeT P t with
 | some true,some n=>(sub cs off n).map .agg
 | some false,some n=>if n=1 then cs[off]? else none
 | _,_=>none
def uf (P:Program) (t:TypeId):Option (List TV):=
 match P.info? t with
 | some i=>match i.zero with
  | some z=>(TV.FH z).map TV.cells
  | none=>none
 | none=>none
def aB (h:List HB) (b:Nat):Option (List TV):=
 match h[b]? with
 | some (.cells _ cs)=>some cs
 | _=>none
def gq (h:List HB) (b lim:Nat):Option (List TV):=
 match h[b]? with
 | some (.cells k cs)=>if k=.last∧lim≠cs.length then none else some cs
 | _=>none
def ug (floor:Nat) (b:Nat) (ws:List Nat):List Nat:=
 if b<floor then (if ws.contains b then ws else b::ws) else ws
def bU (floor:Nat):List Key→List Nat→List Nat
 | [],ws=>ws
 | .h b::r,ws=>bU floor r (ug floor b ws)
 | .l _::r,ws=>bU floor r ws
def oN (k:BK) (whole:Bool):Option BK:=
 match k,whole with
 | .own,_=>some .own
 | .grow,true=>some .last
 | .last,true=>some .last
 | _,_=>none
def setH (h:List HB) (b off lim:Nat) (new:List TV):Option (List HB):=
 match h[b]? with
 | some (.cells k cs)=>match oN k (lim==cs.length) with
  | some k'=>(over cs off new).map fun cs'=>h.set b (.cells k' cs')
  | none=>none
 | _=>none
def BK.more:BK→BK
 | .last=>.last
 | _=>.grow
def jl (place:Nat→Option (Nat×Nat)):List TV→List (Nat×TV)→Option (List TV)
 | cs,[]=>some cs
 | cs,(i,v)::r=>match place i with
  | some (off,size)=>if v.cells.length=size then (match over cs off v.cells with | some cs'=>jl place cs' r | none=>none) else none
  | none=>none
def En (P:Program) (fs:Array Field) (i:Nat):Option (Nat×Nat):=
 match fs[i]? with
 | some f=>(sizeT P f.type).map fun n=>(f.offset,n)
 | none=>none
def oO (P:Program) (fs:List Field):Bool:=fs.all fun f=>(sizeT P f.type).isSome
def wF (P:Program) (t:TypeId) (parts:List (Nat×TV)):Option TV:=
 match uf P t,P.underlying t with
 | some z,some (.struct fs)=>if oO P fs.toList then (jl (En P fs) z parts).map .agg else none
 | some z,some (.array _ e)=>match sizeT P e with
  | some n=>(jl (fun i=>some (i*n,n)) z parts).map .agg
  | none=>none
 | _,_=>none
def times (z:List TV):Nat→List TV
 | 0=>[]
 | n+1=>z++times z n
def dY (P:Program) (t:TypeId):Option (TypeId×Nat):=
 match P.underlying t with
 | some (.slice e)=>match sizeT P e with
  | some n=>if n=0 then none else some (e,n)
  | none=>none
 | _=>none
def iD (site:Bool) (s:St) (cs:List TV):EV×St:=
 if site then (.val (.ptr s.heap.length 0 cs.length),{ s with heap:=s.heap++[.cells .own cs] })
 else (.loc s.loc.length 0,{ s with loc:=s.loc++[cs] })
def loadT (P:Program) (t:TypeId) (s:St):EV→Option (TV×Inf)
 | .loc k off=>match s.loc[k]? with
  | some cs=>(partT P t cs off).map fun v=>(v,lu (.l k))
  | none=>none
 | .val (.ptr b off lim)=>match gq s.heap b lim,sizeT P t with
  | some cs,some n=>if off+n≤lim then (partT P t cs off).map fun v=>(v,lu (.h b)) else none
  | _,_=>none
 | _=>none
def storeT (P:Program) (t:TypeId) (s:St) (a:EV) (v:TV):Option (St×Inf):=
 match sizeT P t with
 | some n=>
  if v.cells.length=n∧v.cells.all bJ=true then
   match a with
   | .loc k off=>match s.loc[k]? with
    | some cs=>(over cs off v.cells).map fun cs'=>({ s with loc:=s.loc.set k cs' },jO (.l k))
    | none=>none
   | .val (.ptr b off lim)=>if off+n≤lim then (setH s.heap b off lim v.cells).map fun h=>({ s with heap:=h },jO (.h b)) else none
   | _=>none
  else none
 | none=>none
def zM (o:Nat):EV→Option EV
 | .loc k off=>some (.loc k (off+o))
 | .val (.ptr b off lim)=>if off+o≤lim then some (.val (.ptr b (off+o) lim)) else none
 | _=>none
def oP (P:Program) (t:TypeId) (i:Nat):Option Nat:=
 match P.underlying t with
 | some (.struct fs)=>match fs[i]? with
  | some f=>match sizeT P f.type with
   | some n=>if n=0 then none else some f.offset
   | none=>none
  | none=>none
 | _=>none
def idx (n:Nat):TV→Option Nat
 | .int _ i=>if 0≤i∧i<n then some i.toNat else none
 | _=>none
def dJ (P:Program) (t:TypeId) (x:EV) (i:TV):Option EV:=
 match P.underlying t with
 | some (.slice e)=>match sizeT P e,x with
  | some n,.val (.slc b off len cap sz _)=>if n=sz then (idx len i).map fun j=>.val (.ptr b (off+j*n) (off+cap*n)) else none
  | _,_=>none
 | some (.array len e)=>match sizeT P e with
  | some n=>match idx len i with
   | some j=>zM (j*n) x
   | none=>none
  | none=>none
 | _=>none
def sN (P:Program) (t:TypeId) (x i:TV):Option TV:=
 match P.underlying t,x with
 | some (.array len e),.agg cs=>match sizeT P e,idx len i with
  | some n,some j=>partT P e cs (j*n)
  | _,_=>none
 | some .string,.str s=>match idx s.size i with
  | some j=>(s[j]?).map fun b=>.int .u8 b.toNat
  | none=>none
 | _,_=>none
def iU (n:Nat):TV→Option Nat
 | .int _ i=>if 0≤i∧i≤n then some i.toNat else none
 | _=>none
def dM (n d:Nat):Option TV→Option Nat
 | none=>some d
 | some v=>iU n v
def sliceT (P:Program) (t:TypeId) (x:TV) (lo hi mx:Option TV):Option TV:=
 match P.underlying t,x with
 | some .string,.str s=>match mx with
  | some _=>none
  | none=>match dM s.size s.size hi with
   | some h=>match dM h 0 lo with
    | some l=>some (.str (s.extract l h))
    | none=>none
   | none=>none
 | some (.slice e),.slc b off len cap sz ex=>match sizeT P e with
  | some n=>
   if n=sz then
    match mx with
    | some m=>match iU cap m,hi with
     | some m,some h=>match iU (min m len) h with
      | some h=>match dM h 0 lo with
       | some l=>some (.slc b (off+l*n) (h-l) (m-l) sz true)
       | none=>none
      | none=>none
     | _,_=>none
    | none=>match dM len len hi with
     | some h=>match dM h 0 lo with
      | some l=>some (.slc b (off+l*n) (h-l) (cap-l) sz ex)
      | none=>none
     | none=>none
   else none
  | none=>none
 | some (.slice e),.nil .slc=>match sizeT P e,dM 0 0 mx,dM 0 0 hi,dM 0 0 lo with
  | some _,some _,some _,some _=>if mx.isSome&&hi.isNone then none else some (.nil .slc)
  | _,_,_,_=>none
 | _,_=>none
def gW (P:Program) (t:TypeId) (x:EV) (lo hi mx:Option TV):Option TV:=
 match P.underlying t,x with
 | some (.array n e),.val (.ptr b off lim)=>match sizeT P e with
  | some size=>
   if size=0∨lim<off+n*size∨2^24<n then none else
   match dM n n mx with
   | some m=>match dM m n hi with
    | some h=>match dM h 0 lo with
     | some l=>if mx.isSome&&hi.isNone then none else some (.slc b (off+l*size) (h-l) (m-l) size true)
     | none=>none
    | none=>none
   | none=>none
  | none=>none
 | _,_=>none
def bg (size:Nat) (h:List HB):TV→Option (Nat×List TV)
 | .nil .slc=>some (0,[])
 | .slc b off len cap sz _=>if sz=size then (if len=0 then some (0,[]) else match gq h b (off+cap*sz) with | some cs=>(sub cs off (len*size)).map fun l=>(len,l) | none=>none) else none
 | .str s=>if size=1 then some (s.size,s.data.toList.map fun b=>.int .u8 b.toNat) else none
 | _=>none
def aJ:TV→List Key
 | .slc b _ _ _ _ _=>[.h b]
 | _=>[]
def Eo (P:Program) (t:TypeId):Bool:=
 match P.underlying t with
 | some (.int _)=>true
 | _=>false
def O7 (i:TypeInfo):Bool:=
 match i.zero with
 | some z=>z.cells.size==i.size
 | none=>false
def jD (P:Program) (e:TypeId) (n:Nat):Bool:=
 match P.info? e with
 | some i=>decide (n*i.bytes≤2^40)&&decide (n≤2^40)&&decide (i.bytes≤2^20)&&decide (0<i.bytes)&&O7 i
 | none=>false
def dN (P:Program) (at_:Array TypeId) (s:St) (d x:TV):Option (TV×St×Inf):=
 match at_[0]?,at_[1]? with
 | some st,some xt=>
  if Eo P xt||(P.underlying xt).isNone then none else
  match dY P st with
  | some (e,size)=>match bg size s.heap x with
   | some (n,new)=>
    if n=0 then (match d with
     | .nil .slc=>some (d,s,bT (aJ x))
     | .slc _ _ _ _ sz _=>if sz=size then some (d,s,bT (aJ x)) else none
     | _=>none)
    else if new.length=n*size then
     match d with
     | .nil .slc=>if jD P e n then some (.slc s.heap.length 0 n n size false,{ s with heap:=s.heap++[.cells .own new] },bT (aJ x)) else none
     | .slc b off len cap sz ex=>
      if sz=size then
       if len+n≤cap then
        (setH s.heap b (off+len*size) (off+cap*size) new).map fun h=>(.slc b off (len+n) cap sz ex,{ s with heap:=h },⟨false,.h b::aJ x,[.h b]⟩)
       else if jD P e (len+n) then
        if ex then
         (bg size s.heap (.slc b off len cap sz ex)).map fun r=>(.slc s.heap.length 0 (len+n) (len+n) size false,{ s with heap:=s.heap++[.cells .own (r.2++new)] },bT (.h b::aJ x))
        else match s.heap[b]? with
         | some (.cells k cs)=>
          if k=.ro∨off≠0∨len≠cap∨cs.length≠len*size∨len=0 then none
          else some (.slc b 0 (len+n) (len+n) size false,{ s with heap:=s.heap.set b (.cells k.more (cs++new))},⟨false,.h b::aJ x,[.h b]⟩)
         | _=>none
       else none
      else none
     | _=>none
    else none
   | none=>none
  | none=>none
 | _,_=>none
def isStr:TV→Bool
 | .str _=>true
 | _=>false
def uh (P:Program) (at_:Array TypeId) (s:St) (d x:TV):Option (TV×St×Inf):=
 match at_[0]? with
 | some st=>match dY P st with
  | some (_,size)=>match bg size s.heap x with
   | some (n,new)=>
    if new.length=n*size∧isStr x=false then
     match d with
     | .nil .slc=>some (.int .i64 0,s,bT (aJ x))
     | .slc b off len cap sz _=>
      if sz=size then
       if min n len=0 then some (.int .i64 0,s,bT (aJ x))
       else (setH s.heap b off (off+cap*size) (new.take (min n len*size))).map fun h=>(.int .i64 (min n len:Nat),{ s with heap:=h },⟨false,.h b::aJ x,[.h b]⟩)
      else none
     | _=>none
    else none
   | none=>none
  | none=>none
 | none=>none
def Ib (P:Program) (at_:Array TypeId) (h:List HB) (x:TV):Option (TV×Inf):=
 match at_[0]? with
 | some t=>match P.underlying t,x with
  | some .string,.str s=>some (.int .i64 s.size,aA)
  | some (.array n _),_=>some (.int .i64 n,aA)
  | some (.slice _),.slc _ _ len _ _ _=>some (.int .i64 len,aA)
  | some (.slice _),.nil .slc=>some (.int .i64 0,aA)
  | some (.map _ _),.nil .map=>some (.int .i64 0,aA)
  | some (.map _ _),.map r=>match h[r]? with
   | some (.map es)=>some (.int .i64 es.length,lu (.h r))
   | _=>none
  | _,_=>none
 | none=>none
def oK:List TV→Option (List Value)
 | []=>some []
 | c::cs=>match c.oJ,oK cs with
  | some v,some vs=>some (v::vs)
  | _,_=>none
def FK (P:Program) (kt:TypeId) (k:Value) (ks:List Value) (r:Option Nat):Bool:=
 match au P (underlying kt) with
 | some kind=>(match r with | some j=>decide (j<ks.length) | none=>true)&&((ks.zipIdx.all fun (x,i)=>Instr.sameNow kind k x==some (some i==r)) ||
   (ks.zipIdx.all fun (x,i)=>Instr.sameNow kind k x==none&&au P (Op.equal kt k x)==some (some i==r)))
 | none=>false
def uj (P:Program) (kt:TypeId) (k:Value) (es:List (TV×TV)):Option (Option Nat):=
 match oK (es.map (·.1)) with
 | some ks=>match au P (do Instr.checkKey es.isEmpty 10000 kt k;Instr.findKey kt k (ks.map fun x=>⟨x,.bool false,0⟩)) with
  | some r=>if FK P kt k ks (r.map (·.1)) then some (r.map (·.1)) else none
  | none=>none
 | none=>none
def y7:TV→Option NK
 | .ptr _ _ _=>some .ptr
 | .slc _ _ _ _ _ _=>some .slc
 | .map _=>some .map
 | .fn _ _ _ | .iF _=>some .fn
 | _=>none
def Ic:TV→Option NK
 | .nil k=>some k
 | _=>none
def y8 (P:Program) (t:TypeId):Option NK:=
 match P.underlying t with
 | some (.pointer _)=>some .ptr
 | some (.slice _)=>some .slc
 | some (.map _ _)=>some .map
 | some (.func _ _ _)=>some .fn
 | _=>none
def oQ (P:Program) (t:TypeId) (x y:TV):Bool:=
 match y8 P t with
 | some k=>(Ic x==some k&&y7 y==some k)||(y7 x==some k&&Ic y==some k)
 | none=>false
def jo (P:Program) (op:BinOp) (t:TypeId) (x y:Operand) (a b:TV):Option TV:=
 match a.oJ,b.oJ with
 | some u,some v=>match au P (do eqGuard op t x y u v;binOp op t u v) with
  | some r=>TV.FH r
  | none=>none
 | _,_=>if oQ P t a b then (match op with
  | .eql=>some (.bool false)
  | .neq=>some (.bool true)
  | _=>none) else none
def XC (P:Program) (op:UnOp) (a:TV):Option TV:=
 match a.oJ with
 | some u=>match au P (Op.unary op u) with
  | some r=>TV.FH r
  | none=>none
 | none=>none
def zN (P:Program) (src dst:TypeId) (a:TV):Option TV:=
 match a.oJ with
 | some u=>match au P (convert src dst u) with
  | some r=>TV.FH r
  | none=>none
 | none=>none
def qM (P:Program) (mx:Bool) (at_:Array TypeId) (t:TypeId) (az:List TV):Option TV:=
 match oK az with
 | some vs=>match au P (if mx then Builtin.max_ at_ t vs.toArray else Builtin.min_ at_ t vs.toArray) with
  | some r=>TV.FH r
  | none=>none
 | none=>none
def wH (P:Program) (t:TypeId) (x:TV) (i:Nat):Option TV:=
 match P.underlying t,x with
 | some (.struct fs),.agg cs=>match fs[i]? with
  | some f=>partT P f.type cs f.offset
  | none=>none
 | _,_=>none
def gu (P:Program) (t:TypeId) (len:Nat) (s:St) (ps:List (Nat×TV)):Option (TV×St):=
 match dY P t with
 | some (e,n)=>if len*n≤2^24∧ps.all (fun p=>p.2.cells.all bJ)=true then
   match uf P e with
   | some z=>if z.length=n then
     match jl (fun i=>some (i*n,n)) (times z len) ps with
     | some cs=>some (.slc s.heap.length 0 len len n true,{ s with heap:=s.heap++[.cells .own cs] })
     | none=>none
    else none
   | none=>none
  else none
 | none=>none
def LW:TV→Option Nat
 | .int _ i=>if 0≤i∧i≤2^40 then some i.toNat else none
 | _=>none
def iM (P:Program) (t:TypeId) (s:St) (l c:TV):Option (TV×St):=
 match dY P t,LW l,LW c with
 | some (e,n),some l,some c=>
  if l≤c∧jD P e c then
   match uf P e with
   | some z=>if z.length=n then some (.slc s.heap.length 0 l c n true,{ s with heap:=s.heap++[.cells .own (times z c)] }) else none
   | none=>none
  else none
 | _,_,_=>none
def jU (P:Program) (t:TypeId) (h:List HB) (m k:TV) (ok:Bool):Option TV:=
 match P.underlying t,k.oJ with
 | some (.map kt e),some kv=>
  let es:=match m with
   | .nil .map=>some []
   | .map r=>match h[r]? with
    | some (.map es)=>some es
    | _=>none
   | _=>none
  match es with
  | some es=>match uj P kt kv es with
   | some (some i)=>match es[i]? with
    | some (_,v)=>some (if ok then .bf [v,.bool true] else v)
    | none=>none
   | some none=>match P.info? e with
    | some i=>match i.zero with
     | some z=>(TV.FH z).map fun z=>if ok then .bf [z,.bool false] else z
     | none=>none
    | none=>none
   | none=>none
  | none=>none
 | _,_=>none
def iV (P:Program) (t:TypeId) (s:St) (m k v:TV):Option (St×Inf):=
 match P.underlying t,k.oJ,m with
 | some (.map kt _),some kv,.map r=>match s.heap[r]?,au P (Instr.checkKey false 10000 kt kv) with
  | some (.map es),some ()=>match uj P kt kv es with
   | some (some i)=>match es[i]? with
    | some (old,_)=>match old.oJ with
     | some ov=>if Instr.sameBits 10000 ov kv then some ({ s with heap:=s.heap.set r (.map (es.set i (k,v))) },jO (.h r)) else none
     | none=>none
    | none=>none
   | some none=>some ({ s with heap:=s.heap.set r (.map (es++[(k,v)])) },jO (.h r))
   | none=>none
  | _,_=>none
 | _,_,_=>none
abbrev ay:=TV→List TV→List HB→Option (TV×List HB×List Nat)
def iG (P:Program) (b:Builtin) (at_:Array TypeId) (t:TypeId) (s:St) (az:List TV):Option (TV×St×Inf):=
 match b,az with
 | .len,[x]=>(Ib P at_ s.heap x).map fun (v,i)=>(v,s,i)
 | .append,[d,x]=>dN P at_ s d x
 | .copy,[d,x]=>uh P at_ s d x
 | .min,az=>(qM P false at_ t az).map fun v=>(v,s,aA)
 | .max,az=>(qM P true at_ t az).map fun v=>(v,s,aA)
 | _,_=>none
def CQ (env:List (Nat×EV)):Option Operand→Option (Option TV)
 | none=>some none
 | some x=>match jP env x with
  | some v=>some (some v)
  | none=>none
def y9 (P:Program) (call:ay) (s:St) (c:Call) (t:TypeId):Option (EV×St×Inf):=
 match c.callee,zL s.env c.args.toList with
 | .builtin b,some az=>(iG P b c.argTypes t s az).map fun (v,s,i)=>(.val v,s,i)
 | .value f,some az=>match jP s.env f with
  | some fv=>match call fv az s.heap with
   | some (v,h,ws)=>some (.val v,{ s with heap:=h },⟨true,[],ws.map .h⟩)
   | none=>none
  | none=>none
 | _,_=>none
def iH (P:Program) (call:ay) (site:Nat→Bool) (s:St) (o:Oper):Option (EV×St×Inf):=
 match o.op with
 | .move x | .assign x=>(xZ s.env x).map fun v=>(v,s,aA)
 | .pick c a b=>match jP s.env c with
  | some (.bool t)=>(xZ s.env (if t then a else b)).map fun v=>(v,s,aA)
  | _=>none
 | .alloc e=>(uf P e).map fun z=>let (v,s):=iD (site (o.dst.getD 0)) s z;(v,s,aA)
 | .box _ x=>match jP s.env x with
  | some v=>if v.cells.all bJ then let (v,s):=iD (site (o.dst.getD 0)) s v.cells;some (v,s,aA) else none
  | none=>none
 | .build t ps=>match CP s.env ps.toList with
  | some ps=>(wF P t ps).map fun v=>(.val v,s,aA)
  | none=>none
 | .buildSlice t len ps=>match CP s.env ps.toList with
  | some ps=>(gu P t len s ps).map fun (v,s)=>(.val v,s,aA)
  | none=>none
 | .load t a=>match xZ s.env a with
  | some a=>(loadT P t s a).map fun (v,i)=>(.val v,s,i)
  | none=>none
 | .store t a x=>match xZ s.env a,jP s.env x with
  | some a,some v=>(storeT P t s a v).map fun (s,i)=>(.undef,s,i)
  | _,_=>none
 | .nilCheck x=>match xZ s.env x with
  | some (.loc k o)=>some (.loc k o,s,aA)
  | some (.val (.ptr b o lim))=>some (.val (.ptr b o lim),s,aA)
  | some (.val (.fn f a b))=>some (.val (.fn f a b),s,aA)
  | some (.val (.iF l))=>some (.val (.iF l),s,aA)
  | _=>none
 | .binOp op t x y _=>match jP s.env x,jP s.env y with
  | some a,some b=>(jo P op t x y a b).map fun v=>(.val v,s,aA)
  | _,_=>none
 | .unOp op _ x=>match jP s.env x with
  | some a=>(XC P op a).map fun v=>(.val v,s,aA)
  | none=>none
 | .convert src dst x=>match jP s.env x with
  | some a=>(zN P src dst a).map fun v=>(.val v,s,aA)
  | none=>none
 | .makeFunc (.func f) first cap=>match zL s.env first.toList,zL s.env cap.toList with
  | some a,some b=>some (.val (.fn f a b),s,aA)
  | _,_=>none
 | .makeMap t r=>match CQ s.env r,P.underlying t with
  | some none,_=>some (.val (.map s.heap.length),{ s with heap:=s.heap++[.map []] },aA)
  | some (some (.int _ _)),some (.map _ _)=>some (.val (.map s.heap.length),{ s with heap:=s.heap++[.map []] },aA)
  | _,_=>none
 | .makeSlice t l c=>match jP s.env l,jP s.env c with
  | some l,some c=>(iM P t s l c).map fun (v,s)=>(.val v,s,aA)
  | _,_=>none
 | .slice t x lo hi mx=>match xZ s.env x,CQ s.env lo,CQ s.env hi,CQ s.env mx with
  | some x,some lo,some hi,some mx=>match P.underlying t,x with
   | some (.array _ _),x=>(gW P t x lo hi mx).map fun v=>(.val v,s,aA)
   | _,.val x=>(sliceT P t x lo hi mx).map fun v=>(.val v,s,aA)
   | _,_=>none
  | _,_,_,_=>none
 | .fieldAddr t x f=>match xZ s.env x,oP P t f with
  | some a,some n=>(zM n a).map fun v=>(v,s,aA)
  | _,_=>none
 | .field t x f=>match jP s.env x with
  | some a=>(wH P t a f).map fun v=>(.val v,s,aA)
  | none=>none
 | .indexAddr t x i=>match xZ s.env x,jP s.env i with
  | some a,some i=>(dJ P t a i).map fun v=>(v,s,aA)
  | _,_=>none
 | .index t x i=>match jP s.env x,jP s.env i with
  | some a,some i=>(sN P t a i).map fun v=>(.val v,s,aA)
  | _,_=>none
 | .lookup t m k ok=>match jP s.env m,jP s.env k with
  | some m,some k=>(jU P t s.heap m k ok).map fun v=>(.val v,s,bT (match m with | .map r=>[.h r] | _=>[]))
  | _,_=>none
 | .mapUpdate t m k x | .insert t m k x=>match jP s.env m,jP s.env k,jP s.env x with
  | some m,some k,some v=>(iV P t s m k v).map fun (s,i)=>(.undef,s,i)
  | _,_,_=>none
 | .extract t i=>match jP s.env t with
  | some (.bf vs)=>(vs[i]?).map fun v=>(.val v,s,aA)
  | _=>none
 | .call c=>y9 P call s c o.type
 | .range t x=>match jP s.env x,P.underlying t with
  | some (.map r),some (.map _ _)=>match s.heap[r]? with
   | some (.map es)=>some (.val (.iter s.heap.length),{ s with heap:=s.heap++[.aV r es.length []] },lu (.h r))
   | _=>none
  | _,_=>none
 | .entry x=>match jP s.env x with
  | some (.iter b)=>match s.heap[b]? with
   | some (.aV r n (i::_))=>match s.heap[r]? with
    | some (.map es)=>if es.length=n then (es[i]?).map fun e=>(.val (.bf [e.1,e.2]),s,bT [.h b,.h r]) else none
    | _=>none
   | _=>none
  | _=>none
 | _=>none
def oD (ops:Array Oper) (env:List (Nat×EV)) (o:Oper):Option Bool:=
 match o.guard with
 | none=>some true
 | some (j,want)=>match (ops[j]?).bind (·.dst) with
  | some d=>match aK d env with
   | some (.val (.bool b))=>some (b==want)
   | some .undef=>some false
   | _=>none
  | none=>none
def rQ (nt:Nat) (o:Oper):Bool:=
 match o.dst with
 | some d=>decide (d<nt)
 | none=>true
def cZ (P:Program) (call:ay) (site:Nat→Bool) (fl nt:Nat) (ops:Array Oper):List Oper→St→Option (St×List Inf)
 | [],s=>some (s,[])
 | o::os,s=>if !rQ nt o then none else match oD ops s.env o with
  | some true=>match iH P call site s o with
   | some (v,s1,i)=>match cZ P call site fl nt ops os ({ s1 with ws:=bU fl i.ws s.ws }.put o.dst v) with
    | some (s,is)=>some (s,i::is)
    | none=>none
   | none=>none
  | some false=>match cZ P call site fl nt ops os (s.put o.dst .undef) with
   | some (s,is)=>some (s,aA::is)
   | none=>none
  | none=>none
def nI:List Nat→List Nat→List Nat
 | [],l=>l
 | x::xs,l=>nI xs (if l.contains x then l else x::l)
def kE (acc:List (List Nat)) (o:Oper):List Nat:=
 o.after.toList.foldl (fun l e=>if Region.binds .any e then nI (e.on::acc.getD e.on []) l else l) []
def mJ:List Oper→List (List Nat)→List (List Nat)
 | [],acc=>acc
 | o::os,acc=>mJ os (acc++[kE acc o])
def sO:Op→Bool
 | .store .. | .mapUpdate .. | .insert ..=>true
 | .call { callee:=.builtin b,.. }=>match b with
  | .len | .min | .max=>false
  | _=>true
 | .call _=>true
 | _=>false
def wI:Op→Bool
 | .store .. | .mapUpdate .. | .insert .. | .load .. | .lookup .. | .range .. | .entry ..=>true
 | .call { callee:=.builtin b,.. }=>match b with
  | .min | .max=>false
  | _=>true
 | .call _=>true
 | _=>false
def fE (ops:List Oper):List (Nat×Nat):=
 let pr:=mJ ops []
 (List.range ops.length).flatMap fun j=>((List.range j).filter fun i=>!(pr.getD j []).contains i).map fun i=>(i,j)
def dZ (ops:List Oper):Bool:=
 (ops.zipIdx.all fun (o,i)=>o.after.all fun e=>!Region.binds .any e||decide (e.on<i)) &&
 (fE ops).all fun (i,j)=>match ops[i]?,ops[j]? with
  | some a,some b=>a.apart ops.toArray b&&b.apart ops.toArray a
  | _,_=>false
def dK (ops:List Oper):List (Nat×Nat):=
 (fE ops).filter fun (i,j)=>match ops[i]?,ops[j]? with
  | some a,some b=>(sO a.op&&wI b.op)||(wI a.op&&sO b.op)
  | _,_=>false
def Key.NY:Key→Bool
 | .h _=>true
 | .l _=>false
def zO (ws:List Key) (b:Inf):Bool:=
 ws.all fun k=>!(b.all&&k.NY)&&!b.ts.contains k&&!b.ws.contains k
def calm (a b:Inf):Bool:=zO a.ws b&&zO b.ws a
def jQ (lC:List Inf):List (Nat×Nat)→Bool
 | []=>true
 | (i,j)::r=>(match lC[i]?,lC[j]? with
  | some a,some b=>calm a b
  | _,_=>false)&&jQ lC r
inductive Ex where
 | norm | exit (id:Nat) | ret
structure XD where
 nt:Nat
 body:Code
 results:List ResultVar
def CS (P:Program) (f:Nat):Option XD:=
 match P.funcs[f]? with
 | some fn => if fn.name == "runtime.NumGoroutine" then none else match fn.body with
  | some b=>some ⟨fn.ntmps,b,fn.results.toList⟩
  | none=>none
 | none=>none
structure Tab where
 live:List (Nat×List (Nat×List Nat))
 head:List (Nat×List (Nat×List Nat))
 site:List (Nat×List Nat)
 exts:List Nat:=[]
 ext:TV→List TV→List HB→Option (TV×List HB×List Nat):=fun _ _ _=>none
 Ho:List Nat:=[]
 din:List Nat:=[]
 Vm:List Nat:=[]
def D9 {α:Type} (k:Nat):List (Nat×List α)→List α
 | []=>[]
 | (j,l)::r=>if j=k then l else D9 k r
def Tab.eG (T:Tab) (f id:Nat):List Nat:=D9 id (D9 f T.live)
def Tab.bY (T:Tab) (f id:Nat):List Nat:=D9 id (D9 f T.head)
def Tab.wJ (T:Tab) (f d:Nat):Bool:=(D9 f T.site).contains d
def rM:List (Nat×EV)→Nat
 | []=>0
 | (_,.loc k _)::r=>max (k+1) (rM r)
 | _::r=>rM r
def dh (live:List Nat) (s:St):St:=
 let env:=pick live s.env
 { s with env:=env,loc:=s.loc.take (rM env) }
def bH:Code→Nat
 | .region id _ _=>id
 | .seq a _=>bH a
 | .block _ b=>bH b
 | .loop b=>bH b
 | .scope b=>bH b
 | _=>0
def iter (g:St→Option (Ex×St)):Nat→St→Option (Ex×St)
 | 0,_=>none
 | n+1,s=>match g s with
  | some (.norm,s)=>iter g n s
  | r=>r
def isVal:Nat×EV→Bool
 | (_,.loc _ _)=>false
 | _=>true
def zQ:Bool→Option Code→Option Ex
 | true,none=>some .norm
 | false,some .ret=>some .ret
 | false,some (.exit id)=>some (.exit id)
 | _,_=>none
def exec (P:Program) (T:Tab) (call:ay) (L:Nat) (f:Nat) (dI:Bool) (fl nt:Nat):Code→St→Option (Ex×St)
 | .skip,s=>some (.norm,s)
 | .label _,s=>some (.norm,s)
 | .region id ops draw,s=>match cZ P call (fun d=>dI||T.wJ f d) fl nt ops ops.toList s with
  | some (s,lC)=>if !draw||(dZ ops.toList&&jQ lC (dK ops.toList)) then some (.norm,{ s with env:=pick (T.eG f id) s.env }) else none
  | none=>none
 | .seq a b,s=>match exec P T call L f dI fl nt a s with
  | some (.norm,s)=>exec P T call L f dI fl nt b s
  | r=>r
 | .cond c a b,s=>match jP s.env c with
  | some (.bool true)=>exec P T call L f dI fl nt a s
  | some (.bool false)=>exec P T call L f dI fl nt b s
  | _=>none
 | .block id b,s=>match exec P T call L f dI fl nt b s with
  | some (.exit i,s)=>some (if i=id then .norm else .exit i,s)
  | r=>r
 | .scope b,s=>exec P T call L f dI fl nt b s
 | .loop b,s=>iter (fun s=>exec P T call L f dI fl nt b (dh (T.bY f (bH b)) s)) L s
 | .exit id,s=>some (.exit id,s)
 | .ret,s=>some (.ret,s)
 | .rangeFunc g ps assign body,s=>match jP s.env g with
  | some (.fn f1 a1 b1)=>
   if s.env.all isVal&&!dI then
    match call (.fn f1 a1 b1) [.iF (s.heap.length+1)] (s.heap++[.mark,.loop true f nt s.env ps.toList assign body none]) with
    | some (_,h,ws)=>match h[s.heap.length+1]? with
     | some (.loop rd f2 zS e2 ps2 a2 b2 pend)=>match zQ rd pend with
      | some e=>some (e,{ s with heap:=h.set (s.heap.length+1) (.loop false f2 zS e2 ps2 a2 b2 (some .skip)),ws:=bU fl (ws.map .h) s.ws })
      | none=>none
     | _=>none
    | none=>none
   else none
  | _=>none
 | _,_=>none
def resT (P:Program) (s:St):ResultVar→Option TV
 | .tmp t=>match aK t s.env with
  | some (.val v)=>some v
  | _=>none
 | .cell a t=>match aK a s.env with
  | some a=>(loadT P t s a).map (·.1)
  | none=>none
def jI (P:Program) (s:St):List ResultVar→Option (List TV)
 | []=>some []
 | r::rs=>match resT P s r,jI P s rs with
  | some v,some vs=>some (v::vs)
  | _,_=>none
def one:List TV→TV
 | [v]=>v
 | vs=>.bf vs
def fB:Nat→List TV→List (Nat×EV)
 | _,[]=>[]
 | k,v::vs=>(k,.val v)::fB (k+1) vs
def nJ (env:List (Nat×EV)):List Nat→List TV→List (Nat×EV)
 | p::ps,v::vs=>nJ ((p,.val v)::env) ps vs
 | _,_=>env
def O8 (P:Program) (T:Tab) (call:ay) (L:Nat) (f:Nat) (args:List TV) (h:List HB):Option (TV×List HB×List Nat):=
 match CS P f with
 | some t=>match exec P T call L f false h.length t.nt t.body ⟨fB 0 args,[],h,[]⟩ with
  | some (.norm,s) | some (.ret,s)=>match jI P s t.results with
   | some vs=>if s.ws.isEmpty&&(one vs).flat then some (one vs,h,[]) else some (one vs,s.heap,s.ws)
   | none=>none
  | _=>none
 | none=>none
def kF:Ex→Option Code
 | .norm=>none
 | .ret=>some .ret
 | .exit id=>some (.exit id)
def jq:Ex→Bool
 | .norm=>true
 | _=>false
def wK (P:Program) (T:Tab) (call:ay) (L:Nat) (l:Nat) (args:List TV) (h:List HB):Option (TV×List HB×List Nat):=
 match h[l]? with
 | some (.loop true f nt env ps assign body _)=>
  if args.length=ps.length∧ps.all (fun p=>decide (p<nt)) then
   match exec P T call L f true h.length nt assign ⟨nJ env ps args,[],h,[]⟩ with
   | some (.norm,s)=>match s.heap[l]? with
    | some (.loop true f' Rz env' ps' a' b' _)=>
     match exec P T call L f true h.length nt body { s with heap:=s.heap.set l (.loop false f' Rz env' ps' a' b' none),ws:=ug h.length l s.ws } with
     | some (e,s)=>match s.heap[l]? with
      | some (.loop false f' Rz env' ps' a' b' none)=>some (.bool (jq e),s.heap.set l (.loop (jq e) f' Rz env' ps' a' b' (kF e)),ug h.length l s.ws)
      | _=>none
     | none=>none
    | _=>none
   | _=>none
  else none
 | _=>none
def ap (P:Program) (T:Tab) (L:Nat):Nat→ay
 | 0,_,_,_=>none
 | n+1,.fn f first cap,args,h=>O8 P T (ap P T L n) L f (first++args++cap) h
 | n+1,.iF l,args,h=>wK P T (ap P T L n) L l args h
 | _,_,_,_=>none
def run (P:Program) (T:Tab) (L n f:Nat) (args:List TV) (h:List HB):Option (TV×List HB×List Nat):=ap P T L n (.fn f [] []) args h
end Tw
namespace Tw
open Go
structure Pl where
 c:Nat
 base:Nat
 ext:Nat
 tot:Nat
inductive Lc where
 | cells (ls:List Pl)
 | obj (r:Nat) (o:List Nat)
abbrev Mp:=Key→Option Lc
abbrev Np:=Nat→Option Lc
def Mp.h (M:Mp):Np:=fun b=>M (.h b)
inductive VR (M:Np):TV→Value→Prop
 | bool (b:Bool):VR M (.bool b) (.bool b)
 | int (k:IntKind) (n:Int):VR M (.int k n) (.int k n)
 | str (s:ByteArray):VR M (.str s) (.string s)
 | LX:VR M (.nil .ptr) (.pointer none)
 | Ep:VR M (.nil .slc) (.slice none 0 0)
 | Ie:VR M (.nil .map) (.map none)
 | XE:VR M (.nil .fn) .nilFunc
 | LY:VR M (.nil .Vl) .nilIface
 | ptr {b off lim:Nat} {ls:List Pl} {p:Pl} (hb:M b=some (.cells ls)) (hp:p∈ls) (h:lim≤p.ext) (ht:p.base+lim≤p.tot) :
   VR M (.ptr b off lim) (.pointer (some ⟨p.c,p.base+off,none⟩))
 | slc {b off len cap sz:Nat} {ex:Bool} {ls:List Pl} {p:Pl} {a:Addr} {cap':Nat} (hb:M b=some (.cells ls)) (hp:cap'=0∨p∈ls)
   (h:off+cap*sz≤p.ext) (hl:len≤cap) (hc:cap≤cap') (hx:ex=true→cap'=cap)
   (ha:cap'=0∨(a=⟨p.c,p.base+off,none⟩∧p.base+off+cap'*sz≤p.tot)) (hk:cap'<2^63) :
   VR M (.slc b off len cap sz ex) (.slice (some a) len cap')
 | map {r r':Nat} {o:List Nat} (h:M r=some (.obj r' o)):VR M (.map r) (.map (some r'))
 | iF {l l':Nat} {o:List Nat} (h:M l=some (.obj l' o)):VR M (.iF l) (.func (.yield l') #[] #[])
 | iter {l l':Nat} {o:List Nat} (h:M l=some (.obj l' o)):VR M (.iter l) (.pointer (some ⟨l',0,none⟩))
 | fn {f:FuncId} {az bs:List TV} {xs ys:List Value} (h1:az.length=xs.length) (h2:∀ (i:Nat) (c:TV) (v:Value),az[i]? = some c→xs[i]? = some v→VR M c v)
   (h3:bs.length=ys.length) (h4:∀ (i:Nat) (c:TV) (v:Value),bs[i]? = some c→ys[i]? = some v→VR M c v):VR M (.fn f az bs) (.func (.func f) xs.toArray ys.toArray)
 | agg {az:List TV} {xs:List Value} (h1:az.length=xs.length) (h2:∀ (i:Nat) (c:TV) (v:Value),az[i]? = some c→xs[i]? = some v→VR M c v):VR M (.agg az) (.agg xs.toArray)
 | bf {az:List TV} {xs:List Value} (h1:az.length=xs.length) (h2:∀ (i:Nat) (c:TV) (v:Value),az[i]? = some c→xs[i]? = some v→VR M c v):VR M (.bf az) (.tuple xs.toArray)
structure aG (M:Np) (az:List TV) (xs:List Value):Prop where
 len:az.length=xs.length
 at_:∀ (i:Nat) (c:TV) (v:Value),az[i]? = some c→xs[i]? = some v→VR M c v
theorem VR.agg' {M:Np} {az:List TV} {xs:List Value} (h:aG M az xs):VR M (.agg az) (.agg xs.toArray):=.agg h.len h.at_
theorem VR.CU {M:Np} {az:List TV} {xs:List Value} (h:aG M az xs):VR M (.bf az) (.tuple xs.toArray):=.bf h.len h.at_
theorem aG.nil {M:Np}:aG M [] []:=⟨rfl,fun i c v h=>by simp at h⟩
theorem aG.cons {M:Np} {c:TV} {v:Value} {az:List TV} {xs:List Value} (h:VR M c v) (hs:aG M az xs):aG M (c::az) (v::xs):=
 ⟨by simp[hs.len],fun i c' v' h1 h2=>by
  cases i with
  | zero=>simp at h1 h2;subst h1;subst h2;exact h
  | succ i=>simp at h1 h2;exact hs.at_ i _ _ h1 h2⟩
theorem aG.iI {M:Np} {xs:List Value} (h:aG M [] xs):xs=[]:=by
 have:=h.len;simp at this;exact List.eq_nil_of_length_eq_zero this.symm
theorem aG.cu {M:Np} {c:TV} {az:List TV} {xs:List Value} (h:aG M (c::az) xs):∃ v vs,xs=v::vs∧VR M c v∧aG M az vs:=by
 cases xs with
 | nil=>have:=h.len;simp at this
 | cons v vs=>exact⟨v,vs,rfl,h.at_ 0 c v rfl rfl,⟨by have:=h.len;simpa using this,fun i c' v' h1 h2=>h.at_ (i+1) c' v' (by simpa using h1) (by simpa using h2)⟩⟩
theorem aG.append {M:Np} {az bs:List TV} {xs ys:List Value} (h:aG M az xs) (h':aG M bs ys):aG M (az++bs) (xs++ys):=by
 induction az generalizing xs with
 | nil=>have:=h.iI;subst this;simpa using h'
 | cons c az ih=>
  obtain⟨v,vs,rfl,hv,hvs⟩:=h.cu
  exact .cons hv (ih hvs)
theorem aG.take {M:Np} {az:List TV} {xs:List Value} (h:aG M az xs) (n:Nat):aG M (az.take n) (xs.take n):=
 ⟨by simp[h.len],fun i c v h1 h2=>by
  rw[List.getElem?_take] at h1 h2
  split at h1
  ·rename_i hi;rw[if_pos hi] at h2;exact h.at_ i c v h1 h2
  ·simp at h1⟩
theorem aG.drop {M:Np} {az:List TV} {xs:List Value} (h:aG M az xs) (n:Nat):aG M (az.drop n) (xs.drop n):=
 ⟨by simp[h.len],fun i c v h1 h2=>by
  rw[List.getElem?_drop] at h1 h2
  exact h.at_ _ c v h1 h2⟩
theorem aG.get {M:Np} {az:List TV} {xs:List Value} (h:aG M az xs) {i:Nat} {c:TV} (hc:az[i]? = some c):∃ v,xs[i]? = some v∧VR M c v:=by
 have hi:i<az.length:=(List.getElem?_eq_some_iff.1 hc).1
 have hi':i<xs.length:=by rw[←h.len];exact hi
 exact⟨xs[i],by simp[hi'],h.at_ i c _ hc (by simp[hi'])⟩
def yN:Lc→Lc→Prop
 | .cells ls,.cells ls'=>∀ p∈ls,∃ q∈ls',q.c=p.c∧q.base=p.base∧p.ext≤q.ext∧q.tot=p.tot
 | .obj r o,.obj r' o'=>r=r'∧o <+: o'
 | _,_=>False
def jR {α:Type} (M M':α→Option Lc):Prop:=∀ k l,M k=some l→∃ l',M' k=some l'∧yN l l'
theorem yN.refl (l:Lc):yN l l:=by
 cases l with
 | cells ls=>exact fun p hp=>⟨p,hp,rfl,rfl,Nat.le_refl _,rfl⟩
 | obj r o=>exact⟨rfl,List.prefix_refl o⟩
theorem yN.trans {a b c:Lc} (h:yN a b) (h':yN b c):yN a c:=by
 cases a<;>cases b<;>cases c<;>simp only[yN] at *
 ·intro p hp
  obtain⟨q,hq,h1,h2,h3,h4⟩:=h p hp
  obtain⟨r,hr,g1,g2,g3,g4⟩:=h' q hq
  exact⟨r,hr,g1.trans h1,g2.trans h2,Nat.le_trans h3 g3,g4.trans h4⟩
 ·exact⟨h.1.trans h'.1,h.2.trans h'.2⟩
theorem jR.refl {α:Type} (M:α→Option Lc):jR M M:=fun _ l h=>⟨l,h,.refl l⟩
theorem jR.trans {α:Type} {a b c:α→Option Lc} (h:jR a b) (h':jR b c):jR a c:=fun k l hl=>
 let ⟨l',h1,h2⟩:=h k l hl
 let ⟨l'',g1,g2⟩:=h' k l' h1
 ⟨l'',g1,h2.trans g2⟩
theorem jR.h {M M':Mp} (hm:jR M M'):jR M.h M'.h:=fun b l hl=>hm (.h b) l hl
theorem VR.mono {M M':Np} (hm:jR M M') {v:TV} {x:Value} (h:VR M v x):VR M' v x:=by
 induction h with
 | bool b=>exact .bool b
 | int k n=>exact .int k n
 | str s=>exact .str s
 | LX=>exact .LX
 | Ep=>exact .Ep
 | Ie=>exact .Ie
 | XE=>exact .XE
 | LY=>exact .LY
 | ptr hb hp h ht=>
  obtain⟨l',h1,h2⟩:=hm _ _ hb
  cases l' with
  | obj r _=>exact h2.elim
  | cells ls'=>
   obtain⟨q,hq,e1,e2,e3,e4⟩:=h2 _ hp
   rw[←e1,←e2]
   exact .ptr h1 hq (Nat.le_trans h e3) (by rw[e2,e4];exact ht)
 | slc hb hp h hl hc hx ha hk=>
  obtain⟨l',h1,h2⟩:=hm _ _ hb
  cases l' with
  | obj r _=>exact h2.elim
  | cells ls'=>
   rcases hp with hp | hp
   ·exact .slc h1 (.inl hp) h hl hc hx (.inl hp) hk
   obtain⟨q,hq,e1,e2,e3,e4⟩:=h2 _ hp
   exact .slc h1 (.inr hq) (Nat.le_trans h e3) hl hc hx (by rw[e1,e2,e4];exact ha) hk
 | map h=>
  obtain⟨l',h1,h2⟩:=hm _ _ h
  cases l' with
  | obj r _=>cases h2.1;exact .map h1
  | cells ls'=>exact h2.elim
 | iF h=>
  obtain⟨l',h1,h2⟩:=hm _ _ h
  cases l' with
  | obj r _=>cases h2.1;exact .iF h1
  | cells ls'=>exact h2.elim
 | iter h=>
  obtain⟨l',h1,h2⟩:=hm _ _ h
  cases l' with
  | obj r _=>cases h2.1;exact .iter h1
  | cells ls'=>exact h2.elim
 | fn h1 _ h3 _ ih2 ih4=>exact .fn h1 ih2 h3 ih4
 | agg h1 _ ih=>exact .agg h1 ih
 | bf h1 _ ih=>exact .bf h1 ih
theorem aG.mono {M M':Np} (hm:jR M M') {az:List TV} {xs:List Value} (h:aG M az xs):aG M' az xs:=
 ⟨h.len,fun i c v h1 h2=>(h.at_ i c v h1 h2).mono hm⟩
theorem O9 {M:Np} {v:TV} {x y:Value} (h:v.toC=some x) (hy:VR M v y):y=x:=by
 cases hy<;>simp[TV.toC] at h<;>first | exact h | exact h.symm | skip
theorem JJ {M:Np}:∀ {az:List TV} {xs ys:List Value},TV.Ia az=some xs→aG M az ys→ys=xs
 | [],xs,ys,h,hy=>by simp[TV.Ia] at h;subst h;exact hy.iI
 | c::az,xs,ys,h,hy=>by
  simp only[TV.Ia] at h
  split at h
  ·rename_i v vs h1 h2
   simp at h;subst h
   obtain⟨w,ws,rfl,hw,hws⟩:=hy.cu
   rw[O9 h1 hw,JJ h2 hws]
  ·simp at h
theorem nK {M:Np} {v:TV} {x y:Value} (h:v.oJ=some x) (hy:VR M v y):y=x:=by
 unfold TV.oJ at h
 split at h
 ·simp only[Option.map_eq_some_iff] at h
  obtain⟨vs,h1,rfl⟩:=h
  cases hy with
  | agg g1 g2=>rw[JJ h1 ⟨g1,g2⟩]
 ·exact O9 h hy
theorem VR.Oa {M:Np} {v:TV} {x:Value} (h:TV.O6 x=some v):VR M v x:=by
 unfold TV.O6 at h
 split at h<;>simp at h<;>subst h<;>constructor
theorem aG.JK {M:Np}:∀ {xs:List Value} {az:List TV},TV.sK xs=some az→aG M az xs
 | [],az,h=>by simp[TV.sK] at h;subst h;exact .nil
 | x::xs,az,h=>by
  simp only[TV.sK] at h
  split at h
  ·rename_i v vs h1 h2
   simp at h;subst h
   exact .cons (.Oa h1) (aG.JK h2)
  ·simp at h
theorem VR.oU {M:Np} {v:TV} {x:Value} (h:TV.FH x=some v):VR M v x:=by
 unfold TV.FH at h
 split at h
 ·rename_i cs
  simp only[Option.map_eq_some_iff] at h
  obtain⟨vs,h1,rfl⟩:=h
  have:=VR.agg' (aG.JK (M:=M) h1)
  simpa using this
 ·exact .Oa h
theorem VR.cells {M:Np} {v:TV} {x:Value} (h:VR M v x):aG M v.cells x.cells.toList:=by
 cases h with
 | agg h1 h2=>exact⟨by simpa[TV.cells,Value.cells] using h1,by simpa[TV.cells,Value.cells] using h2⟩
 | _=>exact .cons (by first | assumption | constructor<;>assumption) .nil
theorem dU {α:Type} {P:Program}:∀ {s:Sem α} {a:α},au P s=some a→∀ w,s.run P w=.ok a w
 | .pure b,a,h,w=>by simp[au] at h;simp[Sem.run,h]
 | .program k,a,h,w=>by simp only[au] at h;simp only[Sem.run];exact dU h w
 | .mark _ k,a,h,w=>by simp only[au] at h;simp only[Sem.run];exact dU h w
 | .load ..,a,h,w=>by simp[au] at h
 | .store ..,a,h,w=>by simp[au] at h
 | .new ..,a,h,w=>by simp[au] at h
 | .shape ..,a,h,w=>by simp[au] at h
 | .freeze ..,a,h,w=>by simp[au] at h
 | .frozen ..,a,h,w=>by simp[au] at h
 | .getObj ..,a,h,w=>by simp[au] at h
 | .setObj ..,a,h,w=>by simp[au] at h
 | .choose ..,a,h,w=>by simp[au] at h
 | .sys ..,a,h,w=>by simp[au] at h
 | .halt ..,a,h,w=>by simp[au] at h
end Tw
namespace Tw
open Go
def wr:HB→Bool
 | .cells .ro _=>false
 | .mark=>false
 | _=>true
def ah:Lc→List Nat
 | .cells ls=>ls.map (·.c)
 | .obj r _=>[r]
structure zT (N:Np) (w:World) (k:BK) (cs:List TV) (p:Pl):Prop where
 row:∃ (arr:Array Value) (ty:TypeId) (fz:Nat×Nat),w.heap[p.c]? = some (.cells arr ty fz)∧arr.size=p.tot∧(k≠.ro→fz=(0,0)) ∧
  ((k=.last→p.ext=cs.length)→∀ (i:Nat) (c:TV) (v:Value),i<p.ext→cs[i]? = some c→arr[p.base+i]? = some v→VR N c v)
 fit:p.base+p.ext≤p.tot
 ext:p.ext≤cs.length
 base:k≠.ro→p.base=0
inductive ER (M:Mp):EV→Value→Prop
 | val {v:TV} {x:Value} (h:VR M.h v x):ER M (.val v) x
 | loc {k off:Nat} {p:Pl} (h:M (.l k)=some (.cells [p])) (hb:p.base=0):ER M (.loc k off) (.pointer (some ⟨p.c,off,none⟩))
 | undef:ER M .undef Go.undef
theorem ER.jV {M:Mp} {v:TV} {x:Value} (h:ER M (.val v) x):VR M.h v x:=by cases h;assumption
def fH (M:Mp) (env:List (Nat×EV)) (tmps:Array Value):Prop:=∀ t e,aK t env=some e→ER M e (tmps.getD t Go.undef)
structure RQ (N:Np) (rd:Bool) (f nt:Nat) (env:List (Nat×EV)) (ps:List Nat) (a b:Code) (pend:Option Code) (lp:Loop):Prop where
 ps:lp.params.toList=ps
 ku:lp.assign=a
 body:lp.body=b
 size:nt≤lp.tmps.size
 yO:∀ t v,aK t env=some (.val v)→VR N v (lp.tmps.getD t Go.undef)
 und:∀ t,aK t env=some .undef→lp.tmps.getD t Go.undef=Go.undef
 UC:∀ t k o,aK t env≠some (.loc k o)
 ready:rd=true→lp.state=.ready∧lp.pending=none
 busy:rd=false→pend=none→lp.state=.busy
 done:rd=false→∀ j,pend=some j→j≠.skip→lp.state=.done∧lp.pending=some j
structure rO (N:Np) (o:List Nat) (es:List (TV×TV)) (xs:Array MapEntry):Prop where
 len:es.length=xs.size
 ord:o.length=xs.size
 Vo:o.Nodup
 Vp:∀ j,j<es.length→j∈o
 at_:∀ (i:Nat) (x:MapEntry),xs[i]? = some x→x.born=i∧∃ j e,o[i]? = some j∧es[j]? = some e∧VR N e.1 x.key∧VR N e.2 x.val
def Yd (N:Np) (w:World) (es:List (TV×TV)) (r:Nat) (o:List Nat):Prop:=
 ∃ xs:Array MapEntry,w.heap[r]? = some (.map xs xs.size)∧rO N o es xs
theorem rO.mono {N N':Np} {o:List Nat} {es:List (TV×TV)} {xs:Array MapEntry} (hm:jR N N') (h:rO N o es xs):rO N' o es xs:=
 ⟨h.len,h.ord,h.Vo,h.Vp,fun i x hx=>let ⟨b,j,e,h1,h2,h3,h4⟩:=h.at_ i x hx;⟨b,j,e,h1,h2,h3.mono hm,h4.mono hm⟩⟩
def fP (N:Np) (w:World) (k:BK) (cs:List TV) (ls:List Pl):Prop:=
 (∀ c∈cs,bJ c=true)∧(∀ p∈ls,zT N w k cs p)∧(k=.own→∃ p,ls=[p]∧p.ext=cs.length) ∧
   ((k=.grow∨k=.last)→(ls.map (·.c)).Nodup∧∀ p∈ls,∀ q∈ls,p.ext=cs.length→q.ext=cs.length→p=q)
def jm (N:Np) (w:World):HB→Lc→Prop
 | .cells k cs,.cells ls=>fP N w k cs ls
 | .oH cs,.cells ls=>∃ cs',cs'.Perm cs∧fP N w .last cs' ls
 | .map es,.obj r o=>Yd N w es r o
 | .mark,.obj r _=>r<w.heap.size
 | .aV m n seen,.obj r _=>∃ (b:Nat) (o:List Nat) (sa:Array Nat),N m=some (.obj b o)∧w.heap[r]? = some (.mapIter (some b) n sa n)∧n≤o.length∧sa.toList.map (fun i=>o[i]?)=seen.reverse.map some
 | .loop rd f nt env ps a b pend,.obj r _=>∃ lp,w.heap[r]? = some (.loop lp)∧RQ N rd f nt env ps a b pend lp
 | _,_=>False
theorem zT.mono {N N':Np} {w w':World} {k:BK} {cs:List TV} {p:Pl} (hm:jR N N') (hw:w'.heap[p.c]? = w.heap[p.c]?) (h:zT N w k cs p):zT N' w' k cs p:=
 ⟨let ⟨arr,ty,fz,h1,h2,h3,h4⟩:=h.row;⟨arr,ty,fz,hw.trans h1,h2,h3,fun z i c v a b d=>(h4 z i c v a b d).mono hm⟩,h.fit,h.ext,h.base⟩
theorem RQ.mono {N N':Np} {rd:Bool} {f nt:Nat} {env:List (Nat×EV)} {ps:List Nat} {a b:Code} {pend:Option Code} {lp:Loop} (hm:jR N N') (h:RQ N rd f nt env ps a b pend lp):RQ N' rd f nt env ps a b pend lp:=
 { h with yO:=fun t v e=>(h.yO t v e).mono hm }
theorem fP.mono {N N':Np} {w w':World} {k:BK} {cs:List TV} {ls:List Pl} (hm:jR N N') (hw:∀ p∈ls,w'.heap[p.c]? = w.heap[p.c]?) (h:fP N w k cs ls):fP N' w' k cs ls:=
 ⟨h.1,fun p hp=>(h.2.1 p hp).mono hm (hw p hp),h.2.2⟩
theorem jm.mono {N N':Np} {w w':World} {b:HB} {l:Lc} (hm:jR N N') (hw:∀ c∈ah l,w'.heap[c]? = w.heap[c]?) (h:jm N w b l):jm N' w' b l:=by
 cases b with
 | cells k cs=>
  cases l with
  | obj r _=>exact h.elim
  | cells ls=>exact fP.mono hm (fun p hp=>hw p.c (List.mem_map.2 ⟨p,hp,rfl⟩)) h
 | oH cs=>
  cases l with
  | obj r _=>exact h.elim
  | cells ls=>
   obtain⟨cs',h1,h2⟩:=h
   exact⟨cs',h1,h2.mono hm fun p hp=>hw p.c (List.mem_map.2 ⟨p,hp,rfl⟩)⟩
 | map es=>
  cases l with
  | cells ls=>exact h.elim
  | obj r _=>
   obtain⟨xs,h1,h2⟩:=h
   exact⟨xs,(hw r (by simp[ah])).trans h1,h2.mono hm⟩
 | mark=>
  cases l with
  | cells ls=>exact h.elim
  | obj r _=>
   have h':r<w.heap.size:=h
   have:=hw r (by simp[ah])
   rw[Array.getElem?_eq_getElem h'] at this
   exact (Array.getElem?_eq_some_iff.1 this).1
 | aV m n seen=>
  cases l with
  | cells ls=>exact h.elim
  | obj r _=>
   obtain⟨b,o,sa,h1,h2,h3,h4⟩:=h
   obtain⟨l',g1,g2⟩:=hm _ _ h1
   cases l' with
   | cells ls'=>exact g2.elim
   | obj b' o'=>
    obtain⟨rfl,g3⟩:=g2
    refine⟨b,o',sa,g1,(hw r (by simp[ah])).trans h2,Nat.le_trans h3 g3.length_le,?_⟩
    rw[←h4]
    refine List.map_congr_left fun i hi=>?_
    have:o[i]?∈sa.toList.map (fun i=>o[i]?):=List.mem_map.2 ⟨i,hi,rfl⟩
    rw[h4] at this
    obtain⟨j,_,hj⟩:=List.mem_map.1 this
    have hlt:=(List.getElem?_eq_some_iff.1 hj.symm).1
    obtain⟨t,rfl⟩:=g3
    rw[List.getElem?_append_left hlt]
 | loop rd f nt env ps a b pend=>
  cases l with
  | cells ls=>exact h.elim
  | obj r _=>
   obtain⟨lp,h1,h2⟩:=h
   exact⟨lp,(hw r (by simp[ah])).trans h1,h2.mono hm⟩
theorem jm.inb {N:Np} {w:World} {b:HB} {l:Lc} (h:jm N w b l):∀ c∈ah l,c<w.heap.size:=by
 intro c hc
 cases b with
 | cells k cs=>
  cases l with
  | obj r _=>exact h.elim
  | cells ls=>
   obtain⟨p,hp,rfl⟩:=List.mem_map.1 hc
   obtain⟨arr,ty,fz,h1,_⟩:=(h.2.1 p hp).row
   exact (Array.getElem?_eq_some_iff.1 h1).1
 | oH cs=>
  cases l with
  | obj r _=>exact h.elim
  | cells ls=>
   obtain⟨p,hp,rfl⟩:=List.mem_map.1 hc
   obtain⟨cs',_,h⟩:=h
   obtain⟨arr,ty,fz,h1,_⟩:=(h.2.1 p hp).row
   exact (Array.getElem?_eq_some_iff.1 h1).1
 | map es=>
  cases l with
  | cells ls=>exact h.elim
  | obj r _=>
   obtain⟨xs,h1,_⟩:=h
   simp[ah] at hc;subst hc
   exact (Array.getElem?_eq_some_iff.1 h1).1
 | mark=>
  cases l with
  | cells ls=>exact h.elim
  | obj r _=>
   simp[ah] at hc;subst hc
   exact h
 | aV m n seen=>
  cases l with
  | cells ls=>exact h.elim
  | obj r _=>
   obtain⟨b,o,sa,_,h1,_⟩:=h
   simp[ah] at hc;subst hc
   exact (Array.getElem?_eq_some_iff.1 h1).1
 | loop rd f nt env ps a b pend=>
  cases l with
  | cells ls=>exact h.elim
  | obj r _=>
   obtain⟨lp,h1,_⟩:=h
   simp[ah] at hc;subst hc
   exact (Array.getElem?_eq_some_iff.1 h1).1
abbrev Ct:=Key→Option HB
structure Valid (M:Mp) (D:Key→Prop) (C:Ct) (w:World):Prop where
 ok:∀ k l,M k=some l→D k→∃ b,C k=some b∧jm M.h w b l
 own:∀ k k' l l' b,k≠k'→M k=some l→M k'=some l'→D k→C k=some b→wr b=true→∀ c∈ah l,c∉ah l'
 inb:∀ k l,M k=some l→∀ c∈ah l,c<w.heap.size
def jW:Key→Prop:=fun _=>True
theorem Valid.has {M:Mp} {C:Ct} {w:World} (h:Valid M jW C w) {k:Key} {l:Lc} (hk:M k=some l):(C k).isSome=true:=
 let ⟨_,h1,_⟩:=h.ok k l hk trivial;by simp[h1]
theorem Valid.of_heap {M:Mp} {D:Key→Prop} {C:Ct} {w w':World} (h:Valid M D C w) (hw:w'.heap=w.heap):Valid M D C w':=
 ⟨fun k l hk hd=>let ⟨b,h1,h2⟩:=h.ok k l hk hd;⟨b,h1,h2.mono (.refl _) (fun c _=>by rw[hw])⟩,h.own,by rw[hw];exact h.inb⟩
def aO (M:Mp) (k:Key) (l:Lc):Mp:=fun j=>if j=k then some l else M j
def fJ (C:Ct) (k:Key) (b:HB):Ct:=fun j=>if j=k then some b else C j
theorem iJ {M:Mp} {k:Key} {l:Lc} (h:∀ l0,M k=some l0→yN l0 l):jR M (aO M k l):=by
 intro j l0 hj
 by_cases hjk:j=k
 ·subst hjk
  exact⟨l,by simp[aO],h l0 hj⟩
 ·exact⟨l0,by simp[aO,hjk,hj],.refl _⟩
theorem Valid.upd {M:Mp} {D D':Key→Prop} {C:Ct} {w w':World} (h:Valid M D C w) (k:Key) (b:HB) (l:Lc)
  (hD:∀ j,D' j→D j∨j=k)
  (hold:∀ l0,M k=some l0→D k∧yN l0 l∧∀ b0,C k=some b0→wr b0=true)
  (hframe:∀ c,c<w.heap.size→c∉ah l→w'.heap[c]? = w.heap[c]?)
  (hnew:∀ c∈ah l,(∃ l0,M k=some l0∧c∈ah l0)∨w.heap.size≤c)
  (hsize:w.heap.size≤w'.heap.size)
  (hok:jm (aO M k l).h w' b l):Valid (aO M k l) D' (fJ C k b) w':=by
 have hle:jR M (aO M k l):=iJ fun l0 h0=>(hold l0 h0).2.1
 refine⟨?_,?_,?_⟩
 ·intro j l0 hj hd
  by_cases hjk:j=k
  ·subst hjk
   simp only[aO,if_true,Option.some.injEq] at hj;subst hj
   exact⟨b,by simp[fJ],hok⟩
  ·simp only[aO,hjk,if_false] at hj
   obtain⟨b0,h1,h2⟩:=h.ok j l0 hj ((hD j hd).resolve_right hjk)
   refine⟨b0,by simp[fJ,hjk,h1],h2.mono hle.h fun c hc=>?_⟩
   have hlt:=h.inb j l0 hj c hc
   refine hframe c hlt fun hcl=>?_
   rcases hnew c hcl with⟨l1,hk1,hc1⟩ | hge
   ·obtain⟨Vq,_,hw⟩:=hold l1 hk1
    obtain⟨b1,hb1,_⟩:=h.ok k l1 hk1 Vq
    exact h.own k j l1 l0 b1 (fun e=>hjk e.symm) hk1 hj Vq hb1 (hw b1 hb1) c hc1 hc
   ·omega
 ·intro j j' l0 l0' b0 hne hj hj' hd hb hw c hc hc'
  by_cases hjk:j=k
  ·subst hjk
   have RS:j'≠j:=fun e=>hne e.symm
   simp only[aO,if_true,Option.some.injEq] at hj;subst hj
   simp only[aO,RS,if_false] at hj'
   have hlt:=h.inb j' l0' hj' c hc'
   rcases hnew c hc with⟨l1,hk1,hc1⟩ | hge
   ·obtain⟨Vq,_,hw⟩:=hold l1 hk1
    obtain⟨b1,hb1,_⟩:=h.ok j l1 hk1 Vq
    exact h.own j j' l1 l0' b1 hne hk1 hj' Vq hb1 (hw b1 hb1) c hc1 hc'
   ·omega
  ·simp only[aO,hjk,if_false] at hj
   simp only[fJ,hjk,if_false] at hb
   have hdj:=(hD j hd).resolve_right hjk
   have hlt:=h.inb j l0 hj c hc
   by_cases RS:j'=k
   ·subst RS
    simp only[aO,if_true,Option.some.injEq] at hj';subst hj'
    rcases hnew c hc' with⟨l1,hk1,hc1⟩ | hge
    ·exact h.own j j' l0 l1 b0 hne hj hk1 hdj hb hw c hc hc1
    ·omega
   ·simp only[aO,RS,if_false] at hj'
    exact h.own j j' l0 l0' b0 hne hj hj' hdj hb hw c hc hc'
 ·intro j l0 hj c hc
  by_cases hjk:j=k
  ·subst hjk
   simp only[aO,if_true,Option.some.injEq] at hj;subst hj
   exact hok.inb c hc
  ·simp only[aO,hjk,if_false] at hj
   exact Nat.lt_of_lt_of_le (h.inb j l0 hj c hc) hsize
structure Ext (M0:Mp) (C0:Ct) (w0:World) (M:Mp) (C:Ct) (w:World) (ws:List Key):Prop where
 wL:jR M0 M
 frame:∀ c,c<w0.heap.size→(∀ k∈ws,∀ l,M0 k=some l→c∉ah l)→w.heap[c]? = w0.heap[c]?
 keep:∀ k,(C0 k).isSome=true→k∉ws→C k=C0 k
 fK:∀ k,((C0 k).isSome=true∨C k=none)→k∉ws→M k=M0 k
 fresh:∀ k l,M k=some l→∀ c∈ah l,c<w0.heap.size→∃ l0,M0 k=some l0∧c∈ah l0
 size:w0.heap.size≤w.heap.size
 has:∀ k,(C0 k).isSome=true→(C k).isSome=true
 wsub:∀ k∈ws,(C0 k).isSome=true
 wrote:∀ k∈ws,(M0 k).isSome=true∧∀ b,C0 k=some b→wr b=true
 os:w.os=w0.os
 output:w.output=w0.output
 tape:w.tape=w0.tape
theorem Ext.refl (M:Mp) (C:Ct) (w:World):Ext M C w M C w []:=
 ⟨.refl _,fun _ _ _=>rfl,fun _ _ _=>rfl,fun _ _ _=>rfl,fun _ l h c hc _=>⟨l,h,hc⟩,Nat.le_refl _,fun _ h=>h,(by simp),(by simp),rfl,rfl,rfl⟩
theorem Ext.drew {M0:Mp} {C0:Ct} {w0:World} {M:Mp} {C:Ct} {w w':World} {ws:List Key} (h:Ext M0 C0 w0 M C w ws)
  (hh:w'.heap=w.heap) (ho:w'.os=w.os) (hu:w'.output=w.output) (ht:w'.tape=w.tape):Ext M0 C0 w0 M C w' ws:=
 { h with frame:=(by rw[hh];exact h.frame),size:=(by rw[hh];exact h.size),os:=ho.trans h.os,output:=hu.trans h.output,tape:=ht.trans h.tape }
theorem Ext.trans {M0 M M':Mp} {C0 C C':Ct} {w0 w w':World} {ws ws' Vr:List Key} (h:Ext M0 C0 w0 M C w ws) (h':Ext M C w M' C' w' ws')
  (hd:∀ k l,M0 k=some l→(C0 k).isSome=true) (hs:∀ k,(C0 k).isSome=true→(k∈ws∨k∈ws')→k∈Vr) (hb:∀ k∈Vr,(C0 k).isSome=true∧(k∈ws∨k∈ws')) :
  Ext M0 C0 w0 M' C' w' Vr where
 wL:=h.wL.trans h'.wL
 frame:=by
  intro c hc hf
  have h1:w.heap[c]? = w0.heap[c]?:=h.frame c hc fun k hk l hl=>hf k (hs k (h.wsub k hk) (.inl hk)) l hl
  rw[←h1]
  refine h'.frame c (Nat.lt_of_lt_of_le hc h.size) fun k hk l hl hcl=>?_
  obtain⟨l0,h2,h3⟩:=h.fresh k l hl c hcl hc
  exact hf k (hs k (hd k l0 h2) (.inr hk)) l0 h2 h3
 keep:=fun k hk hn=>by
  have hn1:k∉ws:=fun e=>hn (hs k hk (.inl e))
  have hn2:k∉ws':=fun e=>hn (hs k hk (.inr e))
  rw[h'.keep k (h.has k hk) hn2,h.keep k hk hn1]
 fK:=fun k hk hn=>by
  rcases hk with hk | hk
  ·have hn1:k∉ws:=fun e=>hn (hs k hk (.inl e))
   have hn2:k∉ws':=fun e=>hn (hs k hk (.inr e))
   rw[h'.fK k (.inl (h.has k hk)) hn2,h.fK k (.inl hk) hn1]
  ·have hC:C k=none:=by
    cases hc:C k with
    | none=>rfl
    | some b=>have:=h'.has k (by simp[hc]);simp[hk] at this
   have hn2:k∉ws':=fun e=>by have:=h'.wsub k e;simp[hC] at this
   have hn1:k∉ws:=fun e=>by have:=h.has k (h.wsub k e);simp[hC] at this
   rw[h'.fK k (.inr hk) hn2,h.fK k (.inr hC) hn1]
 fresh:=fun k l hl c hc hlt=>by
  obtain⟨l1,h1,h2⟩:=h'.fresh k l hl c hc (Nat.lt_of_lt_of_le hlt h.size)
  exact h.fresh k l1 h1 c h2 hlt
 size:=Nat.le_trans h.size h'.size
 has:=fun k hk=>h'.has k (h.has k hk)
 wsub:=fun k hk=>(hb k hk).1
 wrote:=fun k hk=>by
  by_cases h1:k∈ws
  ·exact h.wrote k h1
  ·have h2:=h'.wrote k ((hb k hk).2.resolve_left h1)
   rw[h.fK k (.inl (hb k hk).1) h1,h.keep k (hb k hk).1 h1] at h2
   exact h2
 os:=h'.os.trans h.os
 output:=h'.output.trans h.output
 tape:=h'.tape.trans h.tape
theorem Ext.upd {M:Mp} {C:Ct} {w w':World} (k:Key) (b:HB) (l:Lc) (ws:List Key)
  (hws:((C k).isSome=true∧ws=[k]∧(M k).isSome=true∧∀ b,C k=some b→wr b=true)∨(C k=none∧M k=none∧ws=[]))
  (hle:jR M (aO M k l))
  (hframe:∀ c,c<w.heap.size→c∉ah l→w'.heap[c]? = w.heap[c]?)
  (hnew:∀ c∈ah l,(∃ l0,M k=some l0∧c∈ah l0)∨w.heap.size≤c)
  (hsize:w.heap.size≤w'.heap.size) (ho:w'.os=w.os) (hou:w'.output=w.output) (ht:w'.tape=w.tape) :
  Ext M C w (aO M k l) (fJ C k b) w' ws where
 wL:=hle
 frame:=by
  intro c hc hf
  refine hframe c hc fun hcl=>?_
  rcases hnew c hcl with⟨l0,h1,h2⟩ | hge
  ·rcases hws with⟨_,rfl,_⟩ | ⟨_,hn,_⟩
   ·exact hf k (by simp) l0 h1 h2
   ·rw[hn] at h1;cases h1
  ·omega
 keep:=fun j hj hn=>by
  have:j≠k:=by
   rintro rfl
   rcases hws with⟨_,rfl,_⟩ | ⟨h1,_⟩
   ·simp at hn
   ·simp[h1] at hj
  simp[fJ,this]
 fK:=fun j hj hn=>by
  have:j≠k:=by
   rintro rfl
   rcases hws with⟨_,rfl,_⟩ | ⟨h1,_⟩
   ·simp at hn
   ·rcases hj with hj | hj
    ·simp[h1] at hj
    ·simp[fJ] at hj
  simp[aO,this]
 fresh:=fun j l0 hj c hc hlt=>by
  by_cases hjk:j=k
  ·subst hjk
   simp only[aO,if_true,Option.some.injEq] at hj;subst hj
   rcases hnew c hc with h1 | hge
   ·exact h1
   ·omega
  ·simp only[aO,hjk,if_false] at hj
   exact⟨l0,hj,hc⟩
 size:=hsize
 has:=fun j hj=>by
  by_cases hjk:j=k
  ·simp[fJ,hjk]
  ·simpa[fJ,hjk] using hj
 wsub:=by
  rcases hws with⟨h1,rfl,_⟩ | ⟨_,_,rfl⟩
  ·intro j hj;simp at hj;subst hj;exact h1
  ·simp
 wrote:=by
  rcases hws with⟨_,rfl,h1⟩ | ⟨_,_,rfl⟩
  ·intro j hj;simp at hj;subst hj;exact h1
  ·simp
 os:=ho
 output:=hou
 tape:=ht
theorem ER.mono {M M':Mp} (hm:jR M M') (hl:∀ k l,M (.l k)=some l→M' (.l k)=some l) {e:EV} {x:Value} (h:ER M e x):ER M' e x:=by
 cases h with
 | val h=>exact .val (h.mono hm.h)
 | loc h hb=>exact .loc (hl _ _ h) hb
 | undef=>exact .undef
structure Post (M:Mp) (D:Key→Prop) (C:Ct) (w:World) (v:EV) (C1:Ct) (ws:List Key) (x:Value) (w':World) (M':Mp):Prop where
 val:Valid M' (fun k=>D k∨(C k=none∧(C1 k).isSome=true)) C1 w'
 ext:Ext M C w M' C1 w' ws
 er:ER M' v x
 loc:∀ k l,M (.l k)=some l→M' (.l k)=some l
theorem Post.same {M:Mp} {D:Key→Prop} {C:Ct} {w:World} {v:EV} {x:Value} (h:Valid M D C w) (he:ER M v x):Post M D C w v C [] x w M:=
 ⟨⟨fun k l hk hd=>h.ok k l hk (hd.elim id fun⟨a,b⟩=>by simp[a] at b),fun k k' l l' b a1 a2 a3 hd=>h.own k k' l l' b a1 a2 a3 (hd.elim id fun⟨a,b⟩=>by simp[a] at b),h.inb⟩,.refl M C w,he,fun _ _ h=>h⟩
end Tw
namespace Tw
open Go
theorem kG (w:World) (o:Obj) (i:Nat) (h:i<w.heap.size):(w.alloc o).heap[i]? = w.heap[i]?:=by
 show (w.heap.push o)[i]? = w.heap[i]?
 rw[Array.getElem?_push,if_neg (Nat.ne_of_lt h)]
section
variable {P:Program} {w:World}
theorem dW {t:TypeId} {i:TypeInfo} (h:P.info? t=some i):(typeInfo t).run P w=.ok i w:=by simp[typeInfo,h]
theorem sQ {t:TypeId} {n:Nat} (h:sizeT P t=some n):∃ i,P.info? t=some i∧i.size=n:=by
 simpa[sizeT] using h
theorem aH {t:TypeId} {n:Nat} (h:sizeT P t=some n):(Go.sizeOf t).run P w=.ok n w:=by
 obtain⟨i,h1,h2⟩:=sQ h
 simp[Go.sizeOf,dW h1,h2]
theorem nM {t:TypeId} {b:Bool} (h:lW P t=some b):(isAgg t).run P w=.ok b w:=by
 unfold lW at h
 split at h<;>simp at h<;>subst h
 ·simp[isAgg,run_underlying ‹_›]
 ·simp[isAgg,run_underlying ‹_›]
 ·rename_i d _ _ hu
  simp only[isAgg,Sem.run_bind,run_underlying hu,Result.andThen_ok]
  cases d<;>simp_all
theorem addr_add (c o n:Nat):(⟨c,o,none⟩:Addr).add n=⟨c,o+n,none⟩:=by
 unfold Addr.add;split<;>simp_all
theorem wM {N:Np} {c:TV} {v:Value} (h:VR N c v) (ho:bJ c=true):v.oneCell'=true:=by
 cases h<;>first | rfl | simp[bJ] at ho
theorem jJ {cs:List TV} {off n:Nat} {r:List TV} (h:sub cs off n=some r):off+n≤cs.length∧r=(cs.drop off).take n∧r.length=n:=by
 unfold sub at h
 split at h
 ·rename_i hl
  simp at h;subst h
  exact⟨hl,rfl,by simp;omega⟩
 ·simp at h
theorem kC {cs:List TV} {off:Nat} {new r:List TV} (h:over cs off new=some r) :
  off+new.length≤cs.length∧r=cs.take off++new++cs.drop (off+new.length)∧r.length=cs.length:=by
 unfold over at h
 split at h
 ·rename_i hl
  simp at h;subst h
  exact⟨hl,by simp,by simp;omega⟩
 ·simp at h
theorem zT.slice {N:Np} {k:BK} {cs:List TV} {p:Pl} (h:zT N w k cs p) {off n:Nat} {r:List TV} (hr:sub cs off n=some r) (he:off+n≤p.ext) (hz:k=.last→p.ext=cs.length) :
  ∃ xs:List Value,aG N r xs∧∀ (j:Nat) (v:Value),xs[j]? = some v→w.cell? ⟨p.c,p.base+off+j,none⟩=some v:=by
 obtain⟨arr,ty,fz,h1,h2,_,h4⟩:=h.row
 obtain⟨s1,s2,s3⟩:=jJ hr
 have hf:=h.fit
 refine⟨(arr.toList.drop (p.base+off)).take n,⟨by rw[s3];simp;omega,fun i c v a b=>?_⟩,fun j v hj=>?_⟩
 ·rw[s2,List.getElem?_take] at a
  rw[List.getElem?_take] at b
  split at a
  ·rename_i hi
   rw[if_pos hi,List.getElem?_drop] at b
   rw[List.getElem?_drop] at a
   exact h4 hz (off+i) c v (by omega) a (by simpa[Nat.add_assoc] using b)
  ·simp at a
 ·rw[List.getElem?_take] at hj
  split at hj
  ·rw[List.getElem?_drop] at hj
   simp only[World.cell?,h1]
   simpa using hj
  ·simp at hj
theorem lX {N:Np} {k:BK} {cs:List TV} {p:Pl} (h:zT N w k cs p) {off n:Nat} {r:List TV} (hr:sub cs off n=some r) (he:off+n≤p.ext) (hz:k=.last→p.ext=cs.length) :
  ∃ xs:List Value,aG N r xs∧∀ w':World,w'.heap=w.heap→(loadCells ⟨p.c,p.base+off,none⟩ n).run P w'=.ok xs.toArray w':=by
 obtain⟨xs,h1,h2⟩:=h.slice hr he hz
 refine⟨xs,h1,fun w' hw'=>?_⟩
 have hl:xs.length=n:=by rw[←h1.len];exact (jJ hr).2.2
 have:=run_loadCells_list (P:=P) w' ⟨p.c,p.base+off,none⟩ xs (fun j v hj=>by
  rw[addr_add]
  have e:=h2 j v hj
  simp only[World.cell?,hw'] at e ⊢
  exact e)
 rwa [hl] at this
theorem yc {N:Np} {k:BK} {cs:List TV} {p:Pl} (h:zT N w k cs p) {t:TypeId} {off n:Nat} {v:TV} (hs:sizeT P t=some n)
  (hv:partT P t cs off=some v) (he:off+n≤p.ext) (hz:k=.last→p.ext=cs.length) :
  ∃ x,VR N v x∧(loadVar t ⟨p.c,p.base+off,none⟩).run P w=.ok x w:=by
 unfold partT at hv
 rw[hs] at hv
 cases ha:lW P t with
 | none=>simp[ha] at hv
 | some b=>
  cases b with
  | true=>
   simp only[ha,Option.map_eq_some_iff] at hv
   obtain⟨r,hr,rfl⟩:=hv
   obtain⟨xs,g1,g2⟩:=lX (P:=P) h hr he hz
   exact⟨_,.agg' g1,by simp[loadVar,nM ha,aH hs,g2 w rfl]⟩
  | false=>
   simp only[ha] at hv
   split at hv
   case isFalse=>simp at hv
   rename_i hn1
   have he1:off+1≤p.ext:=by omega
   have hlt:=(List.getElem?_eq_some_iff.1 hv).1
   have hr:sub cs off 1=some [v]:=by
    unfold sub
    rw[if_pos (by omega)]
    congr 1
    rw[List.drop_eq_getElem_cons hlt]
    have:=(List.getElem?_eq_some_iff.1 hv).2
    simp[this]
   obtain⟨xs,g1,g2⟩:=h.slice hr he1 hz
   obtain⟨x,xs',rfl,gx,_⟩:=g1.cu
   have:=g2 0 x rfl
   simp only[Nat.add_zero] at this
   exact⟨x,gx,by simp[loadVar,nM ha,this]⟩
end
theorem wP {M:Mp} {k:Key} {l:Lc} (h:M k=some l):aO M k l=M:=by
 funext j;unfold aO;split
 ·rename_i e;rw[e,h]
 ·rfl
theorem eP (s:St) (b:HB) (e:List (Nat×EV)) (ws:List Nat):St.get { s with heap:=s.heap++[b],env:=e,ws:=ws }=fJ s.get (.h s.heap.length) b:=by
 funext k
 cases k with
 | h j=>
  simp only[St.get,fJ,Key.h.injEq]
  split
  ·rename_i e;subst e;simp
  ·rename_i e
   by_cases hj:j<s.heap.length
   ·rw[List.getElem?_append_left hj]
   ·rw[List.getElem?_eq_none (by simp;omega),List.getElem?_eq_none (by omega)]
 | l j=>simp[St.get,fJ]
theorem fC (s:St) (i:Nat) (b:HB) (h:i<s.heap.length) (e:List (Nat×EV)) (ws:List Nat):St.get { s with heap:=s.heap.set i b,env:=e,ws:=ws }=fJ s.get (.h i) b:=by
 funext k
 cases k with
 | h j=>
  simp only[St.get,fJ,Key.h.injEq]
  rw[List.getElem?_set]
  by_cases hj:i=j
  ·subst hj;simp[h]
  ·rw[if_neg hj,if_neg (fun e=>hj e.symm)]
 | l j=>simp[St.get,fJ]
theorem Dc (s:St) (cs:List TV) (e:List (Nat×EV)) (ws:List Nat):St.get { s with loc:=s.loc++[cs],env:=e,ws:=ws }=fJ s.get (.l s.loc.length) (.cells .own cs):=by
 funext k
 cases k with
 | l j=>
  simp only[St.get,fJ,Key.l.injEq]
  split
  ·rename_i e;subst e;simp
  ·rename_i e
   by_cases hj:j<s.loc.length
   ·rw[List.getElem?_append_left hj]
   ·rw[List.getElem?_eq_none (by simp;omega),List.getElem?_eq_none (by omega)]
 | h j=>simp[St.get,fJ]
theorem zU (s:St) (i:Nat) (cs:List TV) (h:i<s.loc.length) (e:List (Nat×EV)) (ws:List Nat):St.get { s with loc:=s.loc.set i cs,env:=e,ws:=ws }=fJ s.get (.l i) (.cells .own cs):=by
 funext k
 cases k with
 | l j=>
  simp only[St.get,fJ,Key.l.injEq]
  rw[List.getElem?_set]
  by_cases hj:i=j
  ·subst hj;simp[h]
  ·rw[if_neg hj,if_neg (fun e=>hj e.symm)]
 | h j=>simp[St.get,fJ]
theorem lD {h:List HB} {b lim:Nat} {cs:List TV} (e:gq h b lim=some cs):∃ k,h[b]? = some (.cells k cs)∧(k=.last→lim=cs.length):=by
 unfold gq at e
 split at e
 ·rename_i k cs' hb
  split at e
  ·cases e
  ·rename_i hn
   simp at e;subst e
   exact⟨k,hb,fun hk=>Decidable.not_not.1 fun hl=>hn ⟨hk,hl⟩⟩
 ·simp at e
theorem yg {k k':BK} {b:Bool} (e:oN k b=some k'):(k=.own∧k'=.own)∨((k=.grow∨k=.last)∧k'=.last∧b=true):=by
 unfold oN at e
 split at e<;>simp_all
theorem wR {h h':List HB} {b off lim:Nat} {new:List TV} (e:setH h b off lim new=some h') :
  ∃ k k' cs cs',h[b]? = some (.cells k cs)∧((k=.own∧k'=.own)∨((k=.grow∨k=.last)∧k'=.last∧lim=cs.length))∧over cs off new=some cs'∧h'=h.set b (.cells k' cs'):=by
 unfold setH at e
 split at e
 ·rename_i k cs hb
  split at e
  ·rename_i k' hk
   simp only[Option.map_eq_some_iff] at e
   obtain⟨cs',h1,h2⟩:=e
   refine⟨k,k',cs,cs',hb,?_,h1,h2.symm⟩
   rcases yg hk with h | ⟨a,b,c⟩
   ·exact .inl h
   ·exact .inr ⟨a,b,by simpa using c⟩
  ·cases e
 ·simp at e
theorem FM {arr:Array Value} {off:Nat} {xs:List Value} (i:Nat) (h:off+xs.length≤arr.size) :
  (arr.toList.take off++xs++arr.toList.drop (off+xs.length)).toArray[i]? = if i<off then arr[i]? else if i<off+xs.length then xs[i-off]? else arr[i]?:=by
 have hl:(arr.toList.take off).length=off:=by simp;omega
 simp only[List.getElem?_toArray]
 by_cases h1:i<off
 ·rw[if_pos h1,List.append_assoc,List.getElem?_append_left (by omega),List.getElem?_take,if_pos h1];simp
 ·rw[if_neg h1]
  by_cases h2:i<off+xs.length
  ·rw[if_pos h2,List.append_assoc,List.getElem?_append_right (by omega),hl,List.getElem?_append_left (by omega)]
  ·rw[if_neg h2,List.getElem?_append_right (by simp;omega),List.getElem?_drop]
   have:off+xs.length+(i-(List.take off arr.toList++xs).length)=i:=by simp;omega
   rw[this];simp
theorem LZ {cs new r:List TV} {off:Nat} (h:over cs off new=some r) (i:Nat) :
  r[i]? = if i<off then cs[i]? else if i<off+new.length then new[i-off]? else cs[i]?:=by
 obtain⟨h1,h2,_⟩:=kC h
 have hl:(cs.take off).length=off:=by simp;omega
 rw[h2]
 by_cases h1:i<off
 ·rw[if_pos h1,List.append_assoc,List.getElem?_append_left (by omega),List.getElem?_take,if_pos h1]
 ·rw[if_neg h1]
  by_cases h2:i<off+new.length
  ·rw[if_pos h2,List.append_assoc,List.getElem?_append_right (by omega),hl,List.getElem?_append_left (by omega)]
  ·rw[if_neg h2,List.getElem?_append_right (by simp;omega),List.getElem?_drop]
   congr 1;simp;omega
theorem FN {cs new r:List TV} {off:Nat} (h:over cs off new=some r) (hc:∀ c∈cs,bJ c=true) (hn:∀ c∈new,bJ c=true):∀ c∈r,bJ c=true:=by
 obtain⟨_,h2,_⟩:=kC h
 intro c hcr
 rw[h2] at hcr
 simp only[List.mem_append] at hcr
 rcases hcr with (h | h) | h
 ·exact hc c (List.mem_of_mem_take h)
 ·exact hn c h
 ·exact hc c (List.mem_of_mem_drop h)
theorem jX (w:World) (g:Nat) (arr:Array Value) (c:Nat) (h:c≠g):(w.setRow g arr).heap[c]? = w.heap[c]?:=by
 simp only[World.setRow,Array.getElem?_modify]
 rw[if_neg (fun e=>h e.symm)]
theorem zV (w:World) (g:Nat) (arr cur:Array Value) (ty:TypeId) (fz:Nat×Nat) (h:w.heap[g]? = some (.cells cur ty fz)):(w.setRow g arr).heap[g]? = some (.cells arr ty fz):=by
 simp[World.setRow,Array.getElem?_modify,h]
theorem Valid.widen {M:Mp} {D:Key→Prop} {C C1:Ct} {w':World} (h:Valid M D C1 w') (hn:∀ k,C k=none→C1 k=none):Valid M (fun j=>D j∨(C j=none∧(C1 j).isSome=true)) C1 w':=
 have aux:∀ j,(D j∨(C j=none∧(C1 j).isSome=true))→D j:=fun j hj=>hj.elim id fun⟨a,b⟩=>by rw[hn j a] at b;cases b
 ⟨fun k l hk hd=>h.ok k l hk (aux k hd),fun k k' l l' b a1 a2 a3 hd=>h.own k k' l l' b a1 a2 a3 (aux k hd),h.inb⟩
theorem qN {C:Ct} {k:Key} {b:HB} (hk:(C k).isSome=true):∀ j,C j=none→fJ C k b j=none:=by
 intro j hj
 unfold fJ
 split
 ·rename_i e;subst e;rw[hj] at hk;cases hk
 ·exact hj
theorem Valid.wrB {M:Mp} {D:Key→Prop} {C:Ct} {w:World} (h:Valid M D C w) {k:Key} {ls:List Pl} {p:Pl} {cs:List TV} {kk rU:BK} (hk:M k=some (.cells ls)) (hd:D k)
  (hc:C k=some (.cells kk cs)) (hp:p∈ls) (hkk:(kk=.own∧rU=.own)∨((kk=.grow∨kk=.last)∧rU=.last∧p.ext=cs.length)) :
  p.base=0∧p.ext=cs.length∧(∀ c∈cs,bJ c=true)∧(∀ q∈ls,zT M.h w kk cs q)∧(ls.map (·.c)).Nodup∧(∀ q∈ls,q.ext=cs.length→q=p) ∧
  ∃ (arr:Array Value) (ty:TypeId),w.heap[p.c]? = some (.cells arr ty (0,0))∧arr.size=p.tot∧cs.length≤p.tot ∧
   ∀ (i:Nat) (c:TV) (v:Value),cs[i]? = some c→arr[i]? = some v→VR M.h c v:=by
 obtain⟨b,h1,h2⟩:=h.ok k _ hk hd
 rw[hc] at h1;cases h1
 obtain⟨g1,g2,g3,g4⟩:=h2
 have hne:kk≠.ro:=by rcases hkk with⟨e,_⟩ | ⟨e | e,_⟩<;>rw[e]<;>simp
 have hpl:=g2 p hp
 have hb:=hpl.base hne
 have hx:p.ext=cs.length∧(ls.map (·.c)).Nodup∧∀ q∈ls,q.ext=cs.length→q=p:=by
  rcases hkk with⟨e,_⟩ | ⟨e,_,he⟩
  ·obtain⟨q,rfl,hq⟩:=g3 e
   simp at hp;subst hp
   exact⟨hq,by simp,fun q' hq' _=>by simpa using hq'⟩
  ·obtain⟨n1,n2⟩:=g4 e
   exact⟨he,n1,fun q hq hqe=>n2 q hq p hp hqe he⟩
 obtain⟨arr,ty,fz,r1,r2,r3,r4⟩:=hpl.row
 have:=r3 hne;subst this
 have hf:=hpl.fit
 refine⟨hb,hx.1,g1,g2,hx.2.1,hx.2.2,arr,ty,r1,r2,by omega,fun i c v a b=>?_⟩
 have hi:=(List.getElem?_eq_some_iff.1 a).1
 exact r4 (fun _=>hx.1) i c v (by omega) a (by simpa[hb] using b)
theorem Valid.Ig {M:Mp} {D:Key→Prop} {C:Ct} {w:World} (h:Valid M D C w) {k:Key} {ls:List Pl} {p:Pl} {cs:List TV} {kk rU:BK} {lim:Nat} (hk:M k=some (.cells ls)) (hd:D k)
  (hc:C k=some (.cells kk cs)) (hp:p∈ls) (hl:lim≤p.ext) (hkk:(kk=.own∧rU=.own)∨((kk=.grow∨kk=.last)∧rU=.last∧lim=cs.length)) :
  (kk=.own∧rU=.own)∨((kk=.grow∨kk=.last)∧rU=.last∧p.ext=cs.length):=by
 rcases hkk with e | ⟨e1,e2,e3⟩
 ·exact .inl e
 ·obtain⟨b,h1,h2⟩:=h.ok k _ hk hd
  rw[hc] at h1;cases h1
  have:=(h2.2.1 p hp).ext
  exact .inr ⟨e1,e2,by omega⟩
theorem zW:∀ {ls:List Pl},(ls.map (·.c)).Nodup→∀ {p q:Pl},p∈ls→q∈ls→q.c=p.c→q=p
 | [],_,p,q,hp,_,_=>by simp at hp
 | a::ls,h,p,q,hp,hq,e=>by
  simp only[List.map_cons,List.nodup_cons] at h
  rcases List.mem_cons.1 hp with h1 | h1<;>rcases List.mem_cons.1 hq with h2 | h2
  ·rw[h1,h2]
  ·exact (h.1 (List.mem_map.2 ⟨q,h2,by rw[e,h1]⟩)).elim
  ·exact (h.1 (List.mem_map.2 ⟨p,h1,by rw[←e,h2]⟩)).elim
  ·exact zW h.2 h1 h2 e
theorem mM {P:Program} {M:Mp} {D:Key→Prop} {C:Ct} {w:World} (h:Valid M D C w) {k:Key} {ls:List Pl} {p:Pl} {cs cs' new:List TV} {off:Nat} {xs:List Value} {kk rU:BK}
  (hk:M k=some (.cells ls)) (hd:D k) (hc:C k=some (.cells kk cs)) (hp:p∈ls) (hkk:(kk=.own∧rU=.own)∨((kk=.grow∨kk=.last)∧rU=.last∧p.ext=cs.length))
  (ho:over cs off new=some cs') (hx:aG M.h new xs) (hn:∀ c∈new,bJ c=true) :
  ∃ w',(storeCells ⟨p.c,p.base+off,none⟩ xs).run P w=.ok () w'∧Valid M D (fJ C k (.cells rU cs')) w'∧Ext M C w M (fJ C k (.cells rU cs')) w' [k]:=by
 obtain⟨hb,he,h1,hpl,hnd,Vt,arr,ty,hr,hs,hle,hv⟩:=h.wrB hk hd hc hp hkk
 obtain⟨o1,o2,o3⟩:=kC ho
 have hlen:=hx.len
 have hne:kk≠.ro:=by rcases hkk with⟨e,_⟩ | ⟨e | e,_⟩<;>rw[e]<;>simp
 have hne':rU≠.ro:=by rcases hkk with⟨_,e⟩ | ⟨_,e,_⟩<;>rw[e]<;>simp
 have hwr:∀ b0,C k=some b0→wr b0=true:=fun b0 hb0=>by rw[hc] at hb0;cases hb0;cases kk<;>simp_all [wr]
 have hone:∀ v∈xs,v.oneCell'=true:=by
  intro v hv
  obtain⟨i,hi,rfl⟩:=List.mem_iff_getElem.1 hv
  have hi':i<new.length:=by omega
  exact wM (hx.at_ i new[i] xs[i] (by simp[hi']) (by simp[hi])) (hn _ (List.getElem_mem hi'))
 have hrun:=run_storeCells_at (P:=P) p.c (p.base+off) ty xs 0 arr w hr (by omega) hone
 simp only[Nat.add_zero,hb,Nat.zero_add] at hrun
 let w':World:=w.setRow p.c (arr.toList.take off++xs++arr.toList.drop (off+xs.length)).toArray
 have hself:aO M k (.cells ls)=M:=wP hk
 have hframe:∀ c,c<w.heap.size→c∉ah (.cells ls)→w'.heap[c]? = w.heap[c]?:=fun c _ hc=>jX w p.c _ c (fun e=>hc (by rw[e];exact List.mem_map.2 ⟨p,hp,rfl⟩))
 have hnew:∀ c∈ah (.cells ls),(∃ l0,M k=some l0∧c∈ah l0)∨w.heap.size≤c:=fun c hc=>.inl ⟨_,hk,hc⟩
 have hsz:w.heap.size≤w'.heap.size:=by simp[w']
 have hle':jR M (aO M k (.cells ls)):=by rw[hself];exact .refl _
 refine⟨w',by rw[hb,Nat.zero_add];exact hrun,?_,?_⟩
 ·have:=h.upd (D':=D) (w':=w') k (.cells rU cs') (.cells ls) (fun j hj=>.inl hj) (fun l0 h0=>by
   rw[hk] at h0;cases h0
   exact⟨hd,.refl _,hwr⟩) hframe hnew hsz (by
   rw[hself]
   refine⟨FN ho h1 hn,fun q hq=>?_,fun e=>?_,fun e=>⟨hnd,fun q1 hq1 q2 hq2 e1 e2=>by rw[Vt q1 hq1 (by omega),Vt q2 hq2 (by omega)]⟩⟩
   ·have hq0:=hpl q hq
    by_cases hqc:q.c=p.c
    ·have:=zW hnd hp hq hqc
     subst this
     refine⟨⟨_,ty,(0,0),zV w q.c _ arr ty (0,0) hr,by simp;omega,fun _=>rfl,fun _ i c v hi a b=>?_⟩,by omega,by omega,fun _=>hb⟩
     rw[hb,Nat.zero_add,FM i (by omega)] at b
     rw[LZ ho i,hlen] at a
     split at a
     ·rename_i hi1;rw[if_pos hi1] at b;exact hv i c v a b
     ·rename_i hi1
      rw[if_neg hi1] at b
      split at a
      ·rename_i hi2;rw[if_pos hi2] at b;exact hx.at_ _ c v a b
      ·rename_i hi2;rw[if_neg hi2] at b;exact hv i c v a b
    ·obtain⟨arr',ty',fz',t1,t2,t3,t4⟩:=hq0.row
     refine⟨⟨arr',ty',fz',(jX w p.c _ q.c hqc).trans t1,t2,fun _=>t3 hne,fun hz i c v hi a b=>?_⟩,hq0.fit,by have:=hq0.ext;omega,fun _=>hq0.base hne⟩
     exfalso
     apply hqc
     rcases hkk with⟨e,_⟩ | ⟨_,e,_⟩
     ·obtain⟨b',g1,g2⟩:=h.ok k _ hk hd
      rw[hc] at g1;cases g1
      obtain⟨q',g3,_⟩:=g2.2.2.1 e
      rw[g3] at hq hp
      simp at hq hp
      rw[hq,hp]
     ·rw[Vt q hq (by rw[hz e];omega)]
   ·rcases hkk with⟨e0,_⟩ | ⟨_,e1,_⟩
    ·obtain⟨b',g1,g2⟩:=h.ok k _ hk hd
     rw[hc] at g1;cases g1
     obtain⟨q',g3,g4⟩:=g2.2.2.1 e0
     exact⟨q',g3,by omega⟩
    ·rw[e1] at e;cases e)
  rwa [hself] at this
 ·have:=Ext.upd (M:=M) (C:=C) (w:=w) (w':=w') k (.cells rU cs') (.cells ls) [k] (.inl ⟨by simp[hc],rfl,by simp[hk],hwr⟩) hle' hframe hnew hsz rfl rfl rfl
  rwa [hself] at this
theorem zX {M:Mp} {D:Key→Prop} {C:Ct} {w:World} (h:Valid M D C w) {k:Key} {cs:List TV} {arr:Array Value} (ty:TypeId)
  (hk:M k=none) (hc:C k=none) (hl:cs.length≤arr.size) (hx:∀ (i:Nat) (c:TV) (v:Value),cs[i]? = some c→arr[i]? = some v→VR M.h c v) (hn:∀ c∈cs,bJ c=true) :
  Valid (aO M k (.cells [⟨w.heap.size,0,cs.length,arr.size⟩])) (fun j=>D j∨(C j=none∧(fJ C k (.cells .own cs) j).isSome=true)) (fJ C k (.cells .own cs)) (w.alloc (.cells arr ty)) ∧
  Ext M C w (aO M k (.cells [⟨w.heap.size,0,cs.length,arr.size⟩])) (fJ C k (.cells .own cs)) (w.alloc (.cells arr ty)) []:=by
 have hle:jR M (aO M k (.cells [⟨w.heap.size,0,cs.length,arr.size⟩])):=iJ fun l0 h0=>by rw[hk] at h0;cases h0
 have hframe:∀ c,c<w.heap.size→c∉ah (.cells [⟨w.heap.size,0,cs.length,arr.size⟩])→(w.alloc (.cells arr ty)).heap[c]? = w.heap[c]?:=fun c hc _=>kG w _ c hc
 have hnew:∀ c∈ah (.cells [⟨w.heap.size,0,cs.length,arr.size⟩]),(∃ l0,M k=some l0∧c∈ah l0)∨w.heap.size≤c:=fun c hc=>.inr (by simp[ah] at hc;omega)
 refine⟨h.upd k _ _ (fun j hj=>?_) (fun l0 h0=>by rw[hk] at h0;cases h0) hframe hnew (by simp) ?_,Ext.upd k _ _ [] (.inr ⟨hc,hk,rfl⟩) hle hframe hnew (by simp) rfl rfl rfl⟩
 ·rcases hj with hj | ⟨a,b⟩
  ·exact .inl hj
  ·right
   unfold fJ at b
   split at b
   ·assumption
   ·simp[a] at b
 ·refine⟨hn,fun q hq=>?_,fun _=>⟨_,rfl,rfl⟩,by simp⟩
  simp at hq;subst hq
  exact⟨⟨arr,ty,(0,0),heap_alloc_new w _,rfl,fun _=>rfl,fun _ i c v _ a b=>(hx i c v a (by simpa using b)).mono hle.h⟩,by simpa using hl,Nat.le_refl _,fun _=>rfl⟩
end Tw
namespace Tw
open Go
theorem Ob {M:Mp} {env:List (Nat×EV)} {a:Act} (hE:fH M env a.tmps) {x:Operand} {e:EV} (h:xZ env x=some e):ER M e (a.eval x):=by
 cases x with
 | tmp t=>exact hE t e h
 | const v=>
  simp only[xZ,Option.map_eq_some_iff] at h
  obtain⟨t,h1,rfl⟩:=h
  exact .val (.oU h1)
 | func f=>
  simp only[xZ,Option.some.injEq] at h;subst h
  exact .val (VR.fn (xs:=[]) (ys:=[]) rfl (by simp) rfl (by simp))
 | global g=>simp[xZ] at h
theorem Ih {M:Mp} {env:List (Nat×EV)} {a:Act} (hE:fH M env a.tmps) {x:Operand} {v:TV} (h:jP env x=some v):VR M.h v (a.eval x):=by
 unfold jP at h
 split at h
 ·rename_i v' he
  simp at h;subst h
  exact (Ob hE he).jV
 ·simp at h
structure PR (N:Np) (ps:List (Nat×TV)) (qs:List (Nat×Value)):Prop where
 len:ps.length=qs.length
 at_:∀ (i:Nat) (p:Nat×TV) (q:Nat×Value),ps[i]? = some p→qs[i]? = some q→p.1=q.1∧VR N p.2 q.2
theorem PR.nil {N:Np}:PR N [] []:=⟨rfl,by simp⟩
theorem PR.cons {N:Np} {i:Nat} {v:TV} {x:Value} {ps:List (Nat×TV)} {qs:List (Nat×Value)} (h:VR N v x) (hs:PR N ps qs):PR N ((i,v)::ps) ((i,x)::qs):=
 ⟨by simp[hs.len],fun j p q a b=>by
  cases j with
  | zero=>simp at a b;subst a;subst b;exact⟨rfl,h⟩
  | succ j=>simp at a b;exact hs.at_ j p q a b⟩
theorem PR.cu {N:Np} {i:Nat} {v:TV} {ps:List (Nat×TV)} {qs:List (Nat×Value)} (h:PR N ((i,v)::ps) qs):∃ x Ye,qs=(i,x)::Ye∧VR N v x∧PR N ps Ye:=by
 cases qs with
 | nil=>have:=h.len;simp at this
 | cons q Ye=>
  have h0:=h.at_ 0 (i,v) q rfl rfl
  obtain⟨j,x⟩:=q
  obtain⟨h1,h2⟩:=h0
  simp only at h1;subst h1
  exact⟨x,Ye,rfl,h2,⟨by have:=h.len;simpa using this,fun j p q a b=>h.at_ (j+1) p q (by simpa using a) (by simpa using b)⟩⟩
theorem PR.iI {N:Np} {qs:List (Nat×Value)} (h:PR N [] qs):qs=[]:=by
 have:=h.len;simp at this;exact List.eq_nil_of_length_eq_zero this.symm
def Runs (P:Program) (c:Sem Next) (w:World) (x:Value) (w':World):Prop:=
 c.run P w=.ok (.value x) w'∨(x=Go.undef∧c.run P w=.ok .skip w')
def sS (P:Program) (M:Mp) (D:Key→Prop) (C:Ct) (w:World) (c:Sem Next) (v:EV) (C1:Ct) (ws:List Key):Prop:=
 ∃ x w' M',Runs P c w x w'∧Post M D C w v C1 ws x w' M'
section
variable {P:Program} {M:Mp} {D:Key→Prop} {w:World} {s:St}
theorem sS.same {C:Ct} {c:Sem Next} {v:EV} {x:Value} (hV:Valid M D C w) (hr:c.run P w=.ok (.value x) w) (he:ER M v x):sS P M D C w c v C []:=
 ⟨x,w,M,.inl hr,.same hV he⟩
theorem iW {k:Key} {l:Lc} (hk:M k=none):∀ j l',M (.l j)=some l'→aO M k l (.l j)=some l':=by
 intro j l' h
 unfold aO
 rw[if_neg (fun e=>by rw[←e,h] at hk;cases hk)]
 exact h
theorem Oc (hV:Valid M D s.get w) (mO:M (.h s.heap.length)=none) (hnl:M (.l s.loc.length)=none) (site:Bool) {cs:List TV} {xs:Array Value} (ty:TypeId)
  (hx:aG M.h cs xs.toList) (hn:∀ c∈cs,bJ c=true) {v:EV} {s1:St} (h:iD site s cs=(v,s1)) :
  ∃ M',Post M D s.get w v s1.get [] (.pointer (some ⟨w.heap.size,0,none⟩)) (w.alloc (.cells xs ty)) M':=by
 have hlen:cs.length≤xs.size:=by have:=hx.len;simpa using Nat.le_of_eq this
 have hat:∀ (i:Nat) (c:TV) (v:Value),cs[i]? = some c→xs[i]? = some v→VR M.h c v:=fun i c v a b=>hx.at_ i c v a (by simpa using b)
 unfold iD at h
 cases site with
 | true=>
  simp only[if_true,Prod.mk.injEq] at h
  obtain⟨rfl,rfl⟩:=h
  have hc:s.get (.h s.heap.length)=none:=by simp[St.get]
  have:=zX hV ty mO hc hlen hat hn
  refine⟨aO M (.h s.heap.length) (.cells [⟨w.heap.size,0,cs.length,xs.size⟩]),⟨?_,?_,?_,iW mO⟩⟩
  ·rw[eP];exact this.1
  ·rw[eP];exact this.2
  ·exact .val (VR.ptr (p:=⟨w.heap.size,0,cs.length,xs.size⟩) (ls:=[⟨w.heap.size,0,cs.length,xs.size⟩]) (by simp[Mp.h,aO]) (by simp) (Nat.le_refl _) (by simpa using hlen))
 | false=>
  simp only[Bool.false_eq_true,if_false,Prod.mk.injEq] at h
  obtain⟨rfl,rfl⟩:=h
  have hc:s.get (.l s.loc.length)=none:=by simp[St.get]
  have:=zX hV ty hnl hc hlen hat hn
  refine⟨aO M (.l s.loc.length) (.cells [⟨w.heap.size,0,cs.length,xs.size⟩]),⟨?_,?_,?_,iW hnl⟩⟩
  ·rw[Dc];exact this.1
  ·rw[Dc];exact this.2
  ·exact ER.loc (p:=⟨w.heap.size,0,cs.length,xs.size⟩) (by simp[aO]) rfl
theorem JL {x:Value} {c:TV} (h:TV.O6 x=some c):bJ c=true:=by
 unfold TV.O6 at h
 split at h<;>simp at h<;>subst h<;>rfl
theorem FP:∀ {xs:List Value} {cs:List TV},TV.sK xs=some cs→∀ c∈cs,bJ c=true
 | [],cs,h=>by simp[TV.sK] at h;subst h;simp
 | x::xs,cs,h=>by
  simp only[TV.sK] at h
  split at h
  ·rename_i v vs h1 h2
   simp at h;subst h
   intro c hc
   rcases List.mem_cons.1 hc with rfl | hc
   ·exact JL h1
   ·exact FP h2 c hc
  ·simp at h
theorem Mc {x:Value} {v:TV} (h:TV.FH x=some v):∀ c∈v.cells,bJ c=true:=by
 unfold TV.FH at h
 split at h
 ·simp only[Option.map_eq_some_iff] at h
  obtain⟨vs,h1,rfl⟩:=h
  exact FP h1
 ·have h1:=JL h
  cases v<;>simp[bJ] at h1<;>simp[TV.cells,bJ]
theorem kH {t:TypeId} {z:List TV} (h:uf P t=some z):∃ i x v,P.info? t=some i∧i.zero=some x∧TV.FH x=some v∧z=v.cells∧(∀ c∈z,bJ c=true) ∧
  (∀ N:Np,aG N z x.cells.toList)∧∀ w,(zeroValue t).run P w=.ok x w:=by
 unfold uf at h
 split at h
 ·rename_i i hi
  split at h
  ·rename_i x hx
   simp only[Option.map_eq_some_iff] at h
   obtain⟨v,h1,rfl⟩:=h
   exact⟨i,x,v,hi,hx,h1,rfl,Mc h1,fun N=>(VR.oU h1).cells,fun w=>by simp[zeroValue,dW hi,hx]⟩
  ·simp at h
 ·simp at h
theorem Ii (vs:List Value):∀ (k off:Nat) (arr:Array Value),off+k+vs.length≤arr.size →
  ((vs.zipIdx k).foldl (fun (cs:Array Value) (c:Value×Nat)=>cs.setIfInBounds (off+c.2) c.1) arr).toList=arr.toList.take (off+k)++vs++arr.toList.drop (off+k+vs.length):=by
 induction vs with
 | nil=>intro k off arr h;simp
 | cons v vs ih=>
  intro k off arr h
  simp only[List.length_cons] at h
  simp only[List.zipIdx_cons,List.foldl_cons]
  rw[ih (k+1) off _ (by simp;omega)]
  have e:=list_seg_step arr.toList (off+k) v vs (by simp;omega)
  simpa[Array.toList_setIfInBounds,Nat.add_assoc] using e
theorem yT {N:Np} {place place':Nat→Option (Nat×Nat)} (hp:∀ i x,place i=some x→place' i=some x):∀ {ps:List (Nat×TV)} {qs:List (Nat×Value)} {cs r:List TV} {arr:Array Value},jl place cs ps=some r→PR N ps qs →
  aG N cs arr.toList→∃ arr',Instr.fill place' arr qs=some arr'∧aG N r arr'.toList
 | [],qs,cs,r,arr,h,hq,hc=>by
  have:=hq.iI;subst this
  simp[jl] at h;subst h
  exact⟨arr,rfl,hc⟩
 | (i,v)::ps,qs,cs,r,arr,h,hq,hc=>by
  obtain⟨x,Ye,rfl,hx,hq'⟩:=hq.cu
  simp only[jl] at h
  split at h
  ·rename_i off size hpl
   split at h
   ·rename_i hsz
    split at h
    ·rename_i cs' ho
     obtain⟨o1,o2,o3⟩:=kC ho
     have hxc:=hx.cells
     have hl1:=hxc.len
     have hl2:=hc.len
     simp only[Array.length_toList] at hl1 hl2
     have e:(x.cells.zipIdx.foldl (fun (cs:Array Value) (c:Value×Nat)=>cs.setIfInBounds (off+c.2) c.1) arr).toList=arr.toList.take off++x.cells.toList++arr.toList.drop (off+x.cells.toList.length):=by
      rw[←Array.foldl_toList,Array.toList_zipIdx]
      have:=Ii x.cells.toList 0 off arr (by simp;omega)
      simpa using this
     have hc':aG N cs' (x.cells.zipIdx.foldl (fun (cs:Array Value) (c:Value×Nat)=>cs.setIfInBounds (off+c.2) c.1) arr).toList:=by
      have hlx:x.cells.toList.length=v.cells.length:=by simp[hl1]
      rw[e,o2,hlx]
      exact ((hc.take off).append hxc).append (hc.drop _)
     obtain⟨arr',g1,g2⟩:=yT hp h hq' hc'
     refine⟨arr',?_,g2⟩
     simp only[Instr.fill,hp i _ hpl]
     rw[if_neg (by simp;omega)]
     exact g1
    ·simp at h
   ·simp at h
  ·simp at h
theorem zY {w:World}:∀ (fs:List Field),oO P fs=true→(fs.mapM (fun f=>Functor.map (Prod.mk f.offset) (Go.sizeOf f.type):Field→Sem (Nat×Nat))).run P w=.ok (fs.map fun f=>(f.offset,(sizeT P f.type).getD 0)) w
 | [],_=>by simp
 | f::fs,h=>by
  simp only[oO,List.all_cons,Bool.and_eq_true] at h
  obtain⟨n,hn⟩:=Option.isSome_iff_exists.1 h.1
  have ih:=zY (w:=w) fs (by simpa[oO] using h.2)
  simp only[List.mapM_cons,Sem.run_bind,Sem.run_map,aH hn,Result.andThen_ok,Sem.run_pure,ih,List.map_cons,hn,Option.getD_some]
theorem Oe {N:Np} {t:TypeId} {ps:List (Nat×TV)} {qs:List (Nat×Value)} {v:TV} (h:wF P t ps=some v) (hq:PR N ps qs) :
  ∃ x,VR N v x∧∀ w,(Instr.build t qs.toArray).run P w=.ok x w:=by
 unfold wF at h
 split at h
 ·rename_i z fs hz hu
  split at h
  ·rename_i ha
   simp only[Option.map_eq_some_iff] at h
   obtain⟨r,hr,rfl⟩:=h
   obtain⟨i,x,v,_,_,_,_,_,RD,NZ⟩:=kH hz
   obtain⟨arr',g1,g2⟩:=yT (place':=fun i=>(fs.map fun f=>(f.offset,(sizeT P f.type).getD 0))[i]?) (fun i x hx=>by
    unfold En at hx
    split at hx
    ·rename_i f hf
     simp only[Option.map_eq_some_iff] at hx
     obtain⟨n,hn,rfl⟩:=hx
     simp[hf,hn]
    ·simp at hx) hr hq (RD N)
   refine⟨_,.agg' g2,fun w=>?_⟩
   have hm:(fs.mapM (fun f=>Functor.map (Prod.mk f.offset) (Go.sizeOf f.type):Field→Sem (Nat×Nat))).run P w=.ok (fs.map fun f=>(f.offset,(sizeT P f.type).getD 0)) w:=by
    rw[Array.mapM_eq_mapM_toList,Sem.run_map,zY fs.toList ha]
    simp only[Result.andThen_ok]
    congr 1
    apply Array.ext'
    simp
   simp only[Array.getElem?_map] at g1
   simp[Instr.build,NZ w,run_underlying hu,hm,g1]
  ·simp at h
 ·rename_i z n e hz hu
  split at h
  ·rename_i n hn
   simp only[Option.map_eq_some_iff] at h
   obtain⟨r,hr,rfl⟩:=h
   obtain⟨i,x,v,_,_,_,_,_,RD,NZ⟩:=kH hz
   obtain⟨arr',g1,g2⟩:=yT (place':=fun i=>some (i*n,n)) (fun i x hx=>hx) hr hq (RD N)
   exact⟨_,.agg' g2,fun w=>by simp[Instr.build,NZ w,run_underlying hu,aH hn,g1]⟩
  ·simp at h
 ·simp at h
end
end Tw
namespace Tw
open Go
section
variable {P:Program} {M:Mp} {D:Key→Prop} {w:World} {s:St}
theorem FQ {t:TypeId} {cs:List TV} {off:Nat} {v:TV} (h:partT P t cs off=some v):∃ n,sizeT P t=some n∧off+n≤cs.length:=by
 unfold partT at h
 split at h
 ·rename_i n _ hn
  simp only[Option.map_eq_some_iff] at h
  obtain⟨r,hr,_⟩:=h
  exact⟨n,hn,(jJ hr).1⟩
 ·rename_i n _ hn
  split at h
  ·rename_i h1
   subst h1
   exact⟨1,hn,(List.getElem?_eq_some_iff.1 h).1⟩
  ·simp at h
 ·simp at h
theorem JM {N:Np} {t:TypeId} {cs:List TV} {off:Nat} {v:TV} {xs:List Value} (h:partT P t cs off=some v) (hx:aG N cs xs) :
  ∃ x,VR N v x∧(Go.part t xs.toArray off).run P w=.ok x w:=by
 unfold partT at h
 split at h
 ·rename_i n ha hn
  simp only[Option.map_eq_some_iff] at h
  obtain⟨r,hr,rfl⟩:=h
  obtain⟨s1,s2,s3⟩:=jJ hr
  have hl:=hx.len
  refine⟨.agg ((xs.drop off).take n).toArray,.agg' (by rw[s2];exact (hx.drop off).take n),?_⟩
  simp[Go.part,nM ha,aH hn]
 ·rename_i n ha hn
  split at h
  ·obtain⟨x,h1,h2⟩:=hx.get h
   exact⟨x,h2,by simp[Go.part,nM ha,h1]⟩
  ·simp at h
 ·simp at h
theorem um {t:TypeId} {e:EV} {v:TV} {i:Inf} {x:Value} (hV:Valid M D s.get w) (h:loadT P t s e=some (v,i)) (hx:ER M e x) (hD:∀ k∈i.ts,D k) :
  i.ws=[]∧∃ y,VR M.h v y∧(Instr.loadAt t x).run P w=.ok y w:=by
 unfold loadT at h
 split at h
 ·rename_i k off
  split at h
  ·rename_i cs hk
   simp only[Option.map_eq_some_iff,Prod.mk.injEq] at h
   obtain⟨v',hv,rfl,rfl⟩:=h
   cases hx with
   | loc hm hb=>
    rename_i p
    have hg:s.get (.l k)=some (.cells .own cs):=by simp[St.get,hk]
    have hd:=hD (.l k) (by simp[lu])
    obtain⟨b,h1,h2⟩:=hV.ok _ _ hm hd
    rw[hg] at h1;cases h1
    obtain⟨_,h3,h4,_⟩:=h2
    obtain⟨q,hq,he⟩:=h4 rfl
    simp at hq;subst hq
    obtain⟨n,hn,hle⟩:=FQ hv
    obtain⟨y,g1,g2⟩:=yc (P:=P) (h3 p (by simp)) hn hv (by omega) (fun e=>by cases e)
    rw[hb,Nat.zero_add] at g2
    exact⟨rfl,y,g1,by simp[Instr.loadAt,Instr.sureAddr,g2]⟩
  ·simp at h
 ·rename_i b off lim
  split at h
  ·rename_i cs n hb hn
   split at h
   ·rename_i hlim
    simp only[Option.map_eq_some_iff,Prod.mk.injEq] at h
    obtain⟨v',hv,rfl,rfl⟩:=h
    cases hx with
    | val hx=>
     cases hx with
     | ptr hm hp hl ht=>
      rename_i ls p
      obtain⟨k,hk,hlast⟩:=lD hb
      have hd:=hD (.h b) (by simp[lu])
      obtain⟨blk,h1,h2⟩:=hV.ok _ _ hm hd
      simp only[St.get,hk,Option.some.injEq] at h1;subst h1
      obtain⟨_,h3,_⟩:=h2
      obtain⟨y,g1,g2⟩:=yc (P:=P) (h3 p hp) hn hv (by omega) (fun e=>by have:=hlast e;have:=(h3 p hp).ext;omega)
      exact⟨rfl,y,g1,by simp[Instr.loadAt,Instr.sureAddr,g2]⟩
   ·simp at h
  ·simp at h
 ·simp at h
theorem yU {l:List TV} (h:l.all bJ=true):∀ c∈l,bJ c=true:=by simpa using h
theorem Ij {t:TypeId} {e:EV} {v:TV} {i:Inf} {x y:Value} {s1:St} (hV:Valid M D s.get w) (h:storeT P t s e v=some (s1,i)) (hx:ER M e x) (hy:VR M.h v y) (hD:∀ k∈i.ts,D k) :
  s1.env=s.env∧∃ w',(Instr.storeAt t x y).run P w=.ok () w'∧Valid M D s1.get w'∧Ext M s.get w M s1.get w' i.ws∧∀ k,s.get k=none→s1.get k=none:=by
 unfold storeT at h
 split at h
 case h_2=>simp at h
 rename_i n hn
 split at h
 case isFalse=>simp at h
 rename_i hc
 obtain⟨hlen,hone⟩:=hc
 have hyc:=hy.cells
 have hyl:y.cells.size=n:=by have:=hyc.len;simp at this;omega
 split at h
 ·rename_i k off
  split at h
  ·rename_i cs hk
   simp only[Option.map_eq_some_iff,Prod.mk.injEq] at h
   obtain⟨cs',ho,rfl,rfl⟩:=h
   cases hx with
   | loc hm hb=>
    rename_i p
    have hg:s.get (.l k)=some (.cells .own cs):=by simp[St.get,hk]
    obtain⟨w',r1,r2,r3⟩:=mM (P:=P) hV hm (hD _ (by simp[jO])) hg (List.mem_singleton.2 rfl) (.inl ⟨rfl,rfl⟩) ho hyc (yU hone)
    have hkl:=(List.getElem?_eq_some_iff.1 hk).1
    refine⟨rfl,w',?_,?_,?_,?_⟩
    ·rw[hb,Nat.zero_add] at r1
     simp[Instr.storeAt,Instr.sureAddr,storeVar,aH hn,hyl,r1]
    ·rw[zU s k cs' hkl];exact r2
    ·rw[zU s k cs' hkl];exact r3
    ·rw[zU s k cs' hkl];exact qN (by simp[hg])
  ·simp at h
 ·rename_i b off lim
  split at h
  ·rename_i hlim
   simp only[Option.map_eq_some_iff,Prod.mk.injEq] at h
   obtain⟨h',hs,rfl,rfl⟩:=h
   cases hx with
   | val hx=>
    cases hx with
    | ptr hm hp hl ht=>
     rename_i ls p
     obtain⟨kk,rU,cs,cs',hb,hkk,ho,rfl⟩:=wR hs
     have hg:s.get (.h b)=some (.cells kk cs):=by simp[St.get,hb]
     obtain⟨w',r1,r2,r3⟩:=mM (P:=P) hV hm (hD _ (by simp[jO])) hg hp (hV.Ig hm (hD _ (by simp[jO])) hg hp hl hkk) ho hyc (yU hone)
     have hkl:=(List.getElem?_eq_some_iff.1 hb).1
     refine⟨rfl,w',?_,?_,?_,?_⟩
     ·simp[Instr.storeAt,Instr.sureAddr,storeVar,aH hn,hyl,r1]
     ·rw[fC s b _ hkl];exact r2
     ·rw[fC s b _ hkl];exact r3
     ·rw[fC s b _ hkl];exact qN (by simp[hg])
  ·simp at h
 ·simp at h
theorem uo {n:Nat} {v:TV} {j:Nat} {N:Np} {x:Value} (h:idx n v=some j) (hx:VR N v x):∃ k i,x=.int k i∧0≤i∧i<n∧j=i.toNat∧j<n:=by
 unfold idx at h
 split at h
 ·rename_i k i
  split at h
  ·rename_i hc
   simp at h;subst h
   cases hx
   exact⟨k,i,rfl,hc.1,hc.2,rfl,by omega⟩
  ·simp at h
 ·simp at h
theorem zZ {o:Nat} {e e':EV} {x:Value} (h:zM o e=some e') (hx:ER M e x):∃ a,x=.pointer (some a)∧ER M e' (.pointer (some (a.add o))):=by
 unfold zM at h
 split at h
 ·simp at h;subst h
  cases hx with
  | loc hm hb=>exact⟨_,rfl,by rw[addr_add];exact .loc hm hb⟩
 ·rename_i b off lim
  split at h
  ·rename_i hl
   simp at h;subst h
   cases hx with
   | val hx=>
    cases hx with
    | ptr hm hp hl ht=>exact⟨_,rfl,by rw[addr_add,Nat.add_assoc];exact .val (.ptr hm hp hl ht)⟩
  ·simp at h
 ·simp at h
theorem Es {t:TypeId} {f n:Nat} {e e':EV} {x:Value} (h1:oP P t f=some n) (h:zM n e=some e') (hx:ER M e x) :
  ∃ y,ER M e' y∧(Instr.fieldAt t x f).run P w=.ok y w:=by
 obtain⟨a,rfl,he⟩:=zZ h hx
 unfold oP at h1
 split at h1
 ·rename_i fs hu
  split at h1
  ·rename_i fd hf
   split at h1
   ·rename_i m hm
    split at h1
    ·simp at h1
    ·rename_i hz
     simp at h1;subst h1
     refine⟨_,he,?_⟩
     simp[Instr.fieldAt,run_underlying hu,hf,Instr.sureAddr,fieldPlace,aH hm,hz]
   ·simp at h1
  ·simp at h1
 ·simp at h1
theorem A8 {N:Np} {t:TypeId} {f:Nat} {v v':TV} {x:Value} (h:wH P t v f=some v') (hx:VR N v x) :
  ∃ y,VR N v' y∧(Instr.field t x f).run P w=.ok y w:=by
 unfold wH at h
 split at h
 ·rename_i fs cs hu
  split at h
  ·rename_i fd hf
   cases hx with
   | agg g1 g2=>
    obtain⟨y,r1,r2⟩:=JM (P:=P) (w:=w) h ⟨g1,g2⟩
    exact⟨y,r1,by simp[Instr.field,run_underlying hu,hf,asAgg,r2]⟩
  ·simp at h
 ·simp at h
theorem nN {t:TypeId} {e e':EV} {v:TV} {x y:Value} (h:dJ P t e v=some e') (hx:ER M e x) (hy:VR M.h v y) :
  ∃ z,ER M e' z∧(Instr.indexAt t x y).run P w=.ok z w:=by
 unfold dJ at h
 split at h
 ·rename_i el hu
  split at h
  ·rename_i n b off len cap sz ex hn
   split at h
   ·rename_i hsz
    simp only[Option.map_eq_some_iff] at h
    obtain⟨j,hj,rfl⟩:=h
    subst hsz
    obtain⟨k,i,rfl,h0,h1,rfl,h2⟩:=uo hj hy
    cases hx with
    | val hx=>
     cases hx with
     | slc hb hp hl hle hc hex ha hk=>
      rename_i ls p a cap'
      rcases ha with ha | ⟨rfl,ha⟩
      ·omega
      ·have hmul:i.toNat*n+n≤len*n:=by
        have:=Nat.mul_le_mul_right n (show i.toNat+1≤len by omega)
        rwa [Nat.add_mul,Nat.one_mul] at this
       have UD:cap*n≤cap'*n:=Nat.mul_le_mul_right n (by omega)
       have hp:=hp.resolve_left (by omega)
       refine⟨_,.val (.ptr hb hp (lim:=off+cap*n) (off:=off+i.toNat*n) (by omega) (by omega)),?_⟩
       simp[Instr.indexAt,asIntOf,run_underlying hu,h0,h1,aH hn,addr_add,Nat.add_assoc]
   ·simp at h
  ·simp at h
 ·rename_i len el hu
  split at h
  ·rename_i n hn
   split at h
   ·rename_i j hj
    obtain⟨k,i,rfl,h0,h1,rfl,h2⟩:=uo hj hy
    obtain⟨a,rfl,he⟩:=zZ h hx
    refine⟨_,he,?_⟩
    simp[Instr.indexAt,asIntOf,run_underlying hu,Instr.sureAddr,h0,h1,aH hn]
   ·simp at h
  ·simp at h
 ·simp at h
theorem Aa {N:Np} {t:TypeId} {v u r:TV} {x y:Value} (h:sN P t v u=some r) (hx:VR N v x) (hy:VR N u y) :
  ∃ z,VR N r z∧(Instr.index t x y).run P w=.ok z w:=by
 unfold sN at h
 split at h
 ·rename_i len el cs hu
  split at h
  ·rename_i n j hn hj
   obtain⟨k,i,rfl,h0,h1,rfl,h2⟩:=uo hj hy
   cases hx with
   | agg g1 g2=>
    obtain⟨z,r1,r2⟩:=JM (P:=P) (w:=w) h ⟨g1,g2⟩
    exact⟨z,r1,by simp[Instr.index,asIntOf,run_underlying hu,h0,h1,aH hn,r2]⟩
  ·simp at h
 ·rename_i bs hu
  split at h
  ·rename_i j hj
   obtain⟨k,i,rfl,h0,h1,rfl,h2⟩:=uo hj hy
   simp only[Option.map_eq_some_iff] at h
   obtain⟨b,hb,rfl⟩:=h
   cases hx
   exact⟨_,.int _ _,by simp[Instr.index,asIntOf,run_underlying hu,h0,hb]⟩
  ·simp at h
 ·simp at h
end
end Tw
namespace Tw
open Go
section
variable {P:Program} {M:Mp} {D:Key→Prop} {w:World} {s:St}
theorem JO {N:Np}:∀ {az:List TV} {xs ys:List Value},oK az=some xs→aG N az ys→ys=xs
 | [],xs,ys,h,hy=>by simp[oK] at h;subst h;exact hy.iI
 | c::az,xs,ys,h,hy=>by
  simp only[oK] at h
  split at h
  ·rename_i v vs h1 h2
   simp at h;subst h
   obtain⟨u,us,rfl,hu,hus⟩:=hy.cu
   rw[nK h1 hu,JO h2 hus]
  ·simp at h
def IsNil:NK→Value→Prop
 | .ptr,x=>x=.pointer none
 | .slc,x=>x=.slice none 0 0
 | .map,x=>x=.map none
 | .fn,x=>x=.nilFunc
 | .Vl,x=>x=.nilIface
def lY:NK→Value→Prop
 | .ptr,x=>∃ a,x=.pointer (some a)
 | .slc,x=>∃ a l c,x=.slice (some a) l c
 | .map,x=>∃ r,x=.map (some r)
 | .fn,x=>∃ f a c,x=.func f a c
 | .Vl,_=>False
theorem JQ {N:Np} {v:TV} {k:NK} {x:Value} (h:Ic v=some k) (hx:VR N v x):IsNil k x:=by
 cases hx<;>simp[Ic] at h<;>subst h<;>rfl
theorem FT {N:Np} {v:TV} {k:NK} {x:Value} (h:y7 v=some k) (hx:VR N v x):lY k x:=by
 cases hx<;>simp[y7] at h<;>subst h<;>simp[lY]
theorem Og {t:TypeId} {k:NK} (h:y8 P t=some k):match k with
  | .ptr=>∃ e,P.underlying t=some (.pointer e)
  | .slc=>∃ e,P.underlying t=some (.slice e)
  | .map=>∃ e f,P.underlying t=some (.map e f)
  | .fn=>∃ e f g,P.underlying t=some (.func e f g)
  | .Vl=>False:=by
 unfold y8 at h
 split at h<;>simp at h<;>subst h<;>simp_all
theorem Md {t:TypeId} {k:NK} {x y:Value} (h:y8 P t=some k) (hxy:(IsNil k x∧lY k y)∨(lY k x∧IsNil k y)) (d:Nat) :
  (Op.equalIn (d+1) t x y).run P w=.ok false w:=by
 have hk:=Og h
 cases k with
 | ptr=>
  obtain⟨e,hu⟩:=hk
  rcases hxy with⟨hx,a,rfl⟩ | ⟨⟨a,rfl⟩,hy⟩
  ·cases hx;simp[Op.equalIn,run_underlying hu]
  ·cases hy;simp[Op.equalIn,run_underlying hu]
 | slc=>
  obtain⟨e,hu⟩:=hk
  rcases hxy with⟨hx,a,l,c,rfl⟩ | ⟨⟨a,l,c,rfl⟩,hy⟩
  ·cases hx;simp[Op.equalIn,run_underlying hu]
  ·cases hy;simp[Op.equalIn,run_underlying hu]
 | map=>
  obtain⟨e,f,hu⟩:=hk
  rcases hxy with⟨hx,a,rfl⟩ | ⟨⟨a,rfl⟩,hy⟩
  ·cases hx;simp[Op.equalIn,run_underlying hu]
  ·cases hy;simp[Op.equalIn,run_underlying hu]
 | fn=>
  obtain⟨e,f,g,hu⟩:=hk
  rcases hxy with⟨hx,a,b,c,rfl⟩ | ⟨⟨a,b,c,rfl⟩,hy⟩
  ·cases hx;simp[Op.equalIn,run_underlying hu]
  ·cases hy;simp[Op.equalIn,run_underlying hu]
 | Vl=>exact hk.elim
theorem JR {t:TypeId} {k:NK} {ox oy:Operand} {x y:Value} (h:y8 P t=some k) (hxy:(IsNil k x∧lY k y)∨(lY k x∧IsNil k y)) (b:Bool) (op:BinOp) (hb:(op=.eql∧b=false)∨(op=.neq∧b=true)) :
  (do eqGuard op t ox oy x y;binOp op t x y:Sem Value).run P w=.ok (.bool b) w:=by
 have he:(Op.equal t x y).run P w=.ok false w:=Md h hxy 9999
 have hg:(eqGuard op t ox oy x y).run P w=.ok () w:=by
  cases k<;>rcases hxy with⟨hx,hy⟩ | ⟨hx,hy⟩<;>simp only[IsNil,lY] at hx hy <;>
   (first | (exact hy.elim) | (exact hx.elim) | skip)<;>(try obtain⟨_,rfl⟩:=hx)<;>(try obtain⟨_,rfl⟩:=hy)<;>(try obtain⟨_,_,rfl⟩:=hx)<;>(try obtain⟨_,_,rfl⟩:=hy)<;>(try subst hx)<;>(try subst hy) <;>
   (try obtain⟨_,_,_,rfl⟩:=hx)<;>(try obtain⟨_,_,_,rfl⟩:=hy)<;>rcases hb with⟨rfl,rfl⟩ | ⟨rfl,rfl⟩<;>simp[eqGuard]
 have CV:(binOp op t x y).run P w=.ok (.bool b) w:=by
  cases k<;>rcases hxy with⟨hx,hy⟩ | ⟨hx,hy⟩<;>simp only[IsNil,lY] at hx hy <;>
   (first | (exact hy.elim) | (exact hx.elim) | skip)<;>(try obtain⟨_,rfl⟩:=hx)<;>(try obtain⟨_,rfl⟩:=hy)<;>(try obtain⟨_,_,rfl⟩:=hx)<;>(try obtain⟨_,_,rfl⟩:=hy)<;>(try subst hx)<;>(try subst hy) <;>
   (try obtain⟨_,_,_,rfl⟩:=hx)<;>(try obtain⟨_,_,_,rfl⟩:=hy)<;>rcases hb with⟨rfl,rfl⟩ | ⟨rfl,rfl⟩<;>simp only[binOp,Sem.run_bind,he,Result.andThen_ok,Sem.run_pure,Bool.not_false]
 simp only[Sem.run_bind,hg,Result.andThen_ok,CV]
theorem Ik {N:Np} {op:BinOp} {t:TypeId} {ox oy:Operand} {a b r:TV} {x y:Value} (h:jo P op t ox oy a b=some r) (hx:VR N a x) (hy:VR N b y) :
  ∃ z,VR N r z∧(do eqGuard op t ox oy x y;binOp op t x y:Sem Value).run P w=.ok z w:=by
 unfold jo at h
 split at h
 ·rename_i u v hu hv
  split at h
  ·rename_i z hz
   have e1:=nK hu hx
   have e2:=nK hv hy
   subst e1;subst e2
   exact⟨z,.oU h,dU hz w⟩
  ·simp at h
 ·split at h
  ·rename_i hn
   unfold oQ at hn
   split at hn
   case h_2=>simp at hn
   rename_i k hk
   have hxy:(IsNil k x∧lY k y)∨(lY k x∧IsNil k y):=by
    simp only[Bool.or_eq_true,Bool.and_eq_true,beq_iff_eq] at hn
    rcases hn with⟨h1,h2⟩ | ⟨h1,h2⟩
    ·exact .inl ⟨JQ h1 hx,FT h2 hy⟩
    ·exact .inr ⟨FT h1 hx,JQ h2 hy⟩
   split at h
   ·simp at h;subst h
    exact⟨_,.bool false,JR hk hxy false _ (.inl ⟨rfl,rfl⟩)⟩
   ·simp at h;subst h
    exact⟨_,.bool true,JR hk hxy true _ (.inr ⟨rfl,rfl⟩)⟩
   ·simp at h
  ·simp at h
theorem dn {N:Np} {op:UnOp} {a r:TV} {x:Value} (h:XC P op a=some r) (hx:VR N a x):∃ z,VR N r z∧(Op.unary op x).run P w=.ok z w:=by
 unfold XC at h
 split at h
 ·rename_i u hu
  split at h
  ·rename_i z hz
   have e1:=nK hu hx
   subst e1
   exact⟨z,.oU h,dU hz w⟩
  ·simp at h
 ·simp at h
theorem Et {N:Np} {t u:TypeId} {a r:TV} {x:Value} (h:zN P t u a=some r) (hx:VR N a x):∃ z,VR N r z∧(convert t u x).run P w=.ok z w:=by
 unfold zN at h
 split at h
 ·rename_i u hu
  split at h
  ·rename_i z hz
   have e1:=nK hu hx
   subst e1
   exact⟨z,.oU h,dU hz w⟩
  ·simp at h
 ·simp at h
theorem mP {N:Np} {mx:Bool} {at_:Array TypeId} {t:TypeId} {az:List TV} {r:TV} {xs:List Value} (h:qM P mx at_ t az=some r) (hx:aG N az xs) :
  ∃ z,VR N r z∧(if mx then Builtin.max_ at_ t xs.toArray else Builtin.min_ at_ t xs.toArray).run P w=.ok z w:=by
 unfold qM at h
 split at h
 ·rename_i us hu
  split at h
  ·rename_i z hz
   have e1:=JO hu hx
   subst e1
   exact⟨z,.oU h,dU hz w⟩
  ·simp at h
 ·simp at h
theorem fF {n j:Nat} {v:TV} (h:iU n v=some j):j≤n:=by
 unfold iU at h
 split at h
 ·split at h
  ·simp at h;omega
  ·simp at h
 ·simp at h
theorem jr {N:Np} {n j m:Nat} {v:TV} {x:Value} {code:BoundsCode} (h:iU n v=some j) (hx:VR N v x) (hm:j≤m) :
  (Instr.sliceBound x m code).run P w=.ok j w:=by
 unfold iU at h
 split at h
 ·rename_i k i
  split at h
  ·rename_i hc
   simp at h;subst h
   cases hx
   have:i≤(m:Int):=by omega
   simp[Instr.sliceBound,asIntOf,hc.1,this]
  ·simp at h
 ·simp at h
inductive OR (N:Np):Option TV→Option Value→Prop
 | none:OR N none none
 | some {v:TV} {x:Value} (h:VR N v x):OR N (some v) (some x)
theorem lF {N:Np} {is:Bool} {len cap' n l0 hg:Nat} {lo hi:Option TV} {lo' hi':Option Value} (hl:OR N lo lo') (hh:OR N hi hi')
  (h1:dM n len hi=some hg) (h2:dM hg 0 lo=some l0) (h3:hg≤cap'):(Instr.sliceBounds is len cap' lo' hi' none).run P w=.ok (l0,hg,cap') w:=by
 cases hh with
 | none=>
  simp only[dM,Option.some.injEq] at h1;subst h1
  cases hl with
  | none=>simp only[dM,Option.some.injEq] at h2;subst h2;simp[Instr.sliceBounds]
  | some hv=>simp only[dM] at h2;simp[Instr.sliceBounds,jr (P:=P) (w:=w) h2 hv (fF h2)]
 | some hv'=>
  simp only[dM] at h1
  cases hl with
  | none=>simp only[dM,Option.some.injEq] at h2;subst h2;simp[Instr.sliceBounds,jr (P:=P) (w:=w) h1 hv' h3]
  | some hv=>simp only[dM] at h2;simp[Instr.sliceBounds,jr (P:=P) (w:=w) h1 hv' h3,jr (P:=P) (w:=w) h2 hv (fF h2)]
theorem sU {N:Np} {is:Bool} {len cap' n k l0 hg m:Nat} {lo:Option TV} {hi mx:TV} {lo':Option Value} {hi' mx':Value} (hl:OR N lo lo') (hh:VR N hi hi') (hm:VR N mx mx')
  (h0:iU k mx=some m) (h1:iU n hi=some hg) (h2:dM hg 0 lo=some l0) (h3:hg≤m) (h4:m≤cap'):(Instr.sliceBounds is len cap' lo' (some hi') (some mx')).run P w=.ok (l0,hg,m) w:=by
 have r1:=fun code=>jr (P:=P) (w:=w) (code:=code) h0 hm h4
 have r2:=fun code=>jr (P:=P) (w:=w) (code:=code) h1 hh h3
 cases hl with
 | none=>simp only[dM,Option.some.injEq] at h2;subst h2;simp[Instr.sliceBounds,r1,r2]
 | some hv=>simp only[dM] at h2;simp[Instr.sliceBounds,r1,r2,jr (P:=P) (w:=w) h2 hv (fF h2)]
theorem Ac {N:Np} {t:TypeId} {v r:TV} {lo hi mx:Option TV} {x:Value} {lo' hi' mx':Option Value} (h:sliceT P t v lo hi mx=some r) (hx:VR N v x)
  (hl:OR N lo lo') (hh:OR N hi hi') (hm:OR N mx mx'):∃ z,VR N r z∧(Instr.sliceAt t x lo' hi' mx').run P w=.ok z w:=by
 unfold sliceT at h
 split at h
 ·-- strings
  rename_i bs hu
  split at h
  ·simp at h
  ·cases hm
   split at h
   ·rename_i h0 hh0
    split at h
    ·rename_i l0 hl0
     simp at h;subst h
     cases hx
     refine⟨_,.str _,?_⟩
     have hle:h0≤bs.size:=by
      cases hi with
      | none=>simp only[dM,Option.some.injEq] at hh0;omega
      | some v=>simp only[dM] at hh0;exact fF hh0
     have e1:=lF (P:=P) (w:=w) (is:=false) (cap':=bs.size) hl hh hh0 hl0 hle
     simp[Instr.sliceAt,Instr.slice,run_underlying hu,e1]
    ·simp at h
   ·simp at h
 ·-- slices
  rename_i e b off len cap sz ex hu
  split at h
  ·rename_i n hn
   split at h
   case isFalse=>simp at h
   rename_i hsz
   subst hsz
   cases hx with
   | slc hb hp hext hle hcap hex ha hk=>
    rename_i ls p a cap'
    have fin:∀ (l hgh m:Nat) (ex':Bool),l≤hgh→hgh≤len→hgh≤m→m≤cap'→(m':Nat)→m'≤m→m'≤cap→hgh≤m'→(ex'=true→m=m') →
      VR N (.slc b (off+l*n) (hgh-l) (m'-l) n ex') (.slice (if m=l then some a else (some a).map (·.add (l*n))) (hgh-l) (m-l)):=by
     intro l hgh m ex' h1 h2 h3 h4 m' h5 h5' h6 h7
     have hmul:l*n+(hgh-l)*n=hgh*n:=by rw[←Nat.add_mul];congr 1;omega
     have UD:m'*n≤cap*n:=Nat.mul_le_mul_right n h5'
     have a4m:l*n+(m'-l)*n=m'*n:=by rw[←Nat.add_mul];congr 1;omega
     have hsome:(if m=l then some a else (some a).map (·.add (l*n)))=some (if m=l then a else a.add (l*n)):=by split<;>rfl
     rw[hsome]
     refine .slc hb (hp.imp (fun e=>by omega) id) (by omega) (by omega) (by omega) (fun e=>by have:=h7 e;omega) ?_ (by omega)
     by_cases hml:m=l
     ·left;omega
     ·right
      rcases ha with ha | ⟨rfl,ha⟩
      ·omega
      ·rw[if_neg hml,addr_add]
       have a4n:l*n+(m-l)*n=m*n:=by rw[←Nat.add_mul];congr 1;omega
       have a4o:m*n≤cap'*n:=Nat.mul_le_mul_right n h4
       exact⟨by rw[Nat.add_assoc],by omega⟩
    split at h
    ·rename_i m0
     cases hm with
     | some hmv=>
      split at h
      ·rename_i m h0 hm1
       split at h
       ·rename_i hg hh1
        split at h
        ·rename_i l0 hl0
         simp at h;subst h
         cases hh with
         | some Yf=>
          have b1:=fF hm1
          have b2:=fF hh1
          have b3:l0≤hg:=by
           cases lo with
           | none=>simp only[dM,Option.some.injEq] at hl0;omega
           | some v=>simp only[dM] at hl0;exact fF hl0
          have e1:=sU (P:=P) (w:=w) (is:=true) (len:=len) (cap':=cap') hl Yf hmv hm1 hh1 hl0 (by omega) (by omega)
          exact⟨_,fin l0 hg m true b3 (by omega) (by omega) (by omega) m (by omega) (by omega) (by omega) (fun _=>rfl),by simp[Instr.sliceAt,Instr.slice,run_underlying hu,e1,aH hn]⟩
        ·simp at h
       ·simp at h
      ·simp at h
    ·cases hm
     split at h
     ·rename_i hg hh0
      split at h
      ·rename_i l0 hl0
       simp at h;subst h
       have hgl:hg≤len:=by
        cases hi with
        | none=>simp only[dM,Option.some.injEq] at hh0;omega
        | some v=>simp only[dM] at hh0;exact fF hh0
       have hlg:l0≤hg:=by
        cases lo with
        | none=>simp only[dM,Option.some.injEq] at hl0;omega
        | some v=>simp only[dM] at hl0;exact fF hl0
       refine⟨_,fin l0 hg cap' ex hlg hgl (by omega) (by omega) cap hcap (by omega) (by omega) hex,?_⟩
       have e1:=lF (P:=P) (w:=w) (is:=true) (cap':=cap') hl hh hh0 hl0 (by omega)
       simp[Instr.sliceAt,Instr.slice,run_underlying hu,e1,aH hn]
      ·simp at h
     ·simp at h
  ·simp at h
 ·-- nil
  rename_i e hu
  split at h
  ·rename_i x0 x1 x2 x3 hn hm0 hh0 hl0
   split at h
   ·simp at h
   ·rename_i hg
    simp at h;subst h
    cases hx
    refine⟨_,.Ep,?_⟩
    have z1:∀ {o:Option TV} {k:Nat},dM 0 0 o=some k→k=0:=fun {o k} e=>by
     cases o with
     | none=>simp only[dM,Option.some.injEq] at e;omega
     | some v=>simp only[dM] at e;have:=fF e;omega
    have e2:=z1 hh0;subst e2
    have e3:=z1 hl0;subst e3
    have e1:(Instr.sliceBounds true 0 0 lo' hi' mx').run P w=.ok (0,0,0) w:=by
     cases hm with
     | none=>exact lF hl hh hh0 hl0 (by omega)
     | some hmv=>
      have e4:=z1 hm0;subst e4
      cases hh with
      | none=>simp at hg
      | some Yf=>exact sU hl Yf hmv hm0 hh0 hl0 (by omega) (by omega)
    simp[Instr.sliceAt,Instr.slice,run_underlying hu,e1,aH hn]
  ·simp at h
 ·simp at h
theorem oV {t:TypeId} {e:EV} {r:TV} {lo hi mx:Option TV} {x:Value} {lo' hi' mx':Option Value} (h:gW P t e lo hi mx=some r) (hx:ER M e x)
  (hl:OR M.h lo lo') (hh:OR M.h hi hi') (hm:OR M.h mx mx'):∃ z,VR M.h r z∧(Instr.sliceAt t x lo' hi' mx').run P w=.ok z w:=by
 unfold gW at h
 split at h
 ·rename_i n el b off lim hu
  split at h
  ·rename_i size hn
   split at h
   ·simp at h
   ·rename_i hc
    cases hx with
    | val hx=>
    cases hx with
    | ptr hb hp hext htot=>
    rename_i ls p
    split at h
    ·rename_i m hm0
     split at h
     ·rename_i hg hh0
      split at h
      ·rename_i l0 hl0
       split at h
       ·simp at h
       ·rename_i hs
        simp at h;subst h
        have hmn:m≤n:=by
         cases mx with
         | none=>simp only[dM,Option.some.injEq] at hm0;omega
         | some v=>simp only[dM] at hm0;exact fF hm0
        have hgm:hg≤m:=by
         cases hi with
         | none=>
          cases mx with
          | some v=>simp at hs
          | none=>simp only[dM,Option.some.injEq] at hh0 hm0;omega
         | some v=>simp only[dM] at hh0;exact fF hh0
        have hlg:l0≤hg:=by
         cases lo with
         | none=>simp only[dM,Option.some.injEq] at hl0;omega
         | some v=>simp only[dM] at hl0;exact fF hl0
        have e1:(Instr.sliceBounds false n n lo' hi' mx').run P w=.ok (l0,hg,m) w:=by
         cases hm with
         | none=>
          simp only[dM,Option.some.injEq] at hm0;subst hm0
          exact lF hl hh hh0 hl0 (by omega)
         | some hmv=>
          cases hh with
          | none=>simp at hs
          | some Yf=>
           simp only[dM] at hm0 hh0
           exact sU hl Yf hmv hm0 hh0 hl0 (by omega) hmn
        have m1:l0*size+(hg-l0)*size=hg*size:=by rw[←Nat.add_mul];congr 1;omega
        have m2:l0*size+(m-l0)*size=m*size:=by rw[←Nat.add_mul];congr 1;omega
        have m3:hg*size≤n*size:=Nat.mul_le_mul_right size (by omega)
        have m4:m*size≤n*size:=Nat.mul_le_mul_right size (by omega)
        refine⟨.slice (some (if m=l0 then (⟨p.c,p.base+off,none⟩:Addr) else (⟨p.c,p.base+off,none⟩:Addr).add (l0*size))) (hg-l0) (m-l0),?_,?_⟩
        ·refine .slc hb (.inr hp) (by omega) (by omega) (by omega) (fun _=>rfl) ?_ (by omega)
         by_cases hml:m=l0
         ·left;omega
         ·right
          rw[if_neg hml,addr_add]
          exact⟨by rw[Nat.add_assoc],by omega⟩
        ·simp[Instr.sliceAt,run_underlying hu,Instr.sureAddr,e1,aH hn]
      ·simp at h
     ·simp at h
    ·simp at h
  ·simp at h
 ·simp at h
theorem gX (z:List TV):∀ n,(times z n).length=n*z.length
 | 0=>by simp[times]
 | n+1=>by simp[times,gX z n,Nat.add_mul,Nat.add_comm]
theorem Df (z:List TV) (hz:0<z.length):∀ (n i:Nat),i<n*z.length→(times z n)[i]? = z[i%z.length]?
 | 0,i,h=>by simp at h
 | n+1,i,h=>by
  simp only[times]
  by_cases hi:i<z.length
  ·rw[List.getElem?_append_left hi,Nat.mod_eq_of_lt hi]
  ·rw[List.getElem?_append_right (by omega),Df z hz n (i-z.length) (by rw[Nat.add_mul] at h;omega)]
   congr 1
   rw[Nat.mod_eq_sub_mod (a:=i) (by omega)]
theorem wS {z:List TV} (h:∀ c∈z,bJ c=true):∀ n,∀ c∈times z n,bJ c=true
 | 0=>by simp[times]
 | n+1=>by
  intro c hc
  simp only[times,List.mem_append] at hc
  rcases hc with hc | hc
  ·exact h c hc
  ·exact wS h n c hc
theorem FU {N:Np} {z:List TV} {x:Array Value} (h:aG N z x.toList) (n m:Nat) (hm:m=n*z.length) :
  aG N (times z n) ((Array.range m).map (x[·%x.size]!)).toList:=by
 have hl:=h.len
 simp only[Array.length_toList] at hl
 refine⟨by simp[gX,hm],fun i c v a b=>?_⟩
 have hi:i<n*z.length:=by have:=(List.getElem?_eq_some_iff.1 a).1;rwa [gX] at this
 have hz:0<z.length:=by
  rcases Nat.eq_zero_or_pos z.length with e | e
  ·rw[e] at hi;simp at hi
  ·exact e
 rw[Df z hz n i hi] at a
 have hmod:i%x.size<x.size:=Nat.mod_lt _ (by omega)
 have hb:v=x[i%x.size]:=by
  rw[Array.getElem?_toList,Array.getElem?_map] at b
  simp only[Array.getElem?_range] at b
  rw[if_pos (by omega)] at b
  simp only[Option.map_some,Option.some.injEq] at b
  rw[←b,getElem!_pos x _ hmod]
 rw[hl] at a
 exact h.at_ (i%x.size) c v a (by simp[hb,hmod])
theorem iY {t e:TypeId} {n:Nat} (h:dY P t=some (e,n)):P.underlying t=some (.slice e)∧sizeT P e=some n∧0<n:=by
 unfold dY at h
 split at h
 ·rename_i e' hu
  split at h
  ·rename_i n' hn
   split at h
   ·simp at h
   ·simp at h;obtain⟨rfl,rfl⟩:=h;exact⟨hu,hn,by omega⟩
  ·simp at h
 ·simp at h
theorem Dh {place:Nat→Option (Nat×Nat)}:∀ {ps:List (Nat×TV)} {cs r:List TV},jl place cs ps=some r→r.length=cs.length
 | [],cs,r,h=>by simp[jl] at h;rw[h]
 | (i,v)::ps,cs,r,h=>by
  simp only[jl] at h
  split at h
  ·split at h
   ·split at h
    ·rename_i cs' ho
     rw[Dh h,(kC ho).2.2]
    ·simp at h
   ·simp at h
  ·simp at h
theorem Di {place:Nat→Option (Nat×Nat)}:∀ {ps:List (Nat×TV)} {cs r:List TV},jl place cs ps=some r→(∀ c∈cs,bJ c=true) →
  (∀ p∈ps,∀ c∈p.2.cells,bJ c=true)→∀ c∈r,bJ c=true
 | [],cs,r,h,h1,_=>by simp[jl] at h;subst h;exact h1
 | (i,v)::ps,cs,r,h,h1,h2=>by
  simp only[jl] at h
  split at h
  ·split at h
   ·split at h
    ·rename_i cs' ho
     exact Di h (FN ho h1 (h2 (i,v) (by simp))) (fun p hp=>h2 p (by simp[hp]))
    ·simp at h
   ·simp at h
  ·simp at h
theorem lZ {t:TypeId} {len:Nat} {ps:List (Nat×TV)} {qs:List (Nat×Value)} {r:TV} {s1:St} (hV:Valid M D s.get w) (mO:M (.h s.heap.length)=none)
  (h:gu P t len s ps=some (r,s1)) (hq:PR M.h ps qs) :
  s1.env=s.env∧∃ x w' M',(Instr.buildSlice t len qs.toArray).run P w=.ok x w'∧Post M D s.get w (.val r) s1.get [] x w' M':=by
 unfold gu at h
 split at h
 case h_2=>simp at h
 rename_i e n hse
 obtain⟨hu,hn,hn0⟩:=iY hse
 split at h
 case isFalse=>simp at h
 rename_i hc
 obtain⟨hc1,hc2⟩:=hc
 split at h
 case h_2=>simp at h
 rename_i z hz
 split at h
 case isFalse=>simp at h
 rename_i hzl
 split at h
 case h_2=>simp at h
 rename_i cs hf
 simp at h;obtain⟨rfl,rfl⟩:=h
 obtain⟨i,x,v,_,_,_,_,hz1,RD,NZ⟩:=kH hz
 have hx0:=(RD M.h).len
 simp only[Array.length_toList] at hx0
 have ht:=FU (RD M.h) len (len*n) (by rw[hzl])
 obtain⟨arr',g1,g2⟩:=yT (place':=fun i=>some (i*n,n)) (fun i x hx=>hx) hf hq ht
 have hone:∀ c∈cs,bJ c=true:=Di hf (wS hz1 len) (fun p hp=>by
  have:=List.all_eq_true.1 hc2 p hp
  exact yU this)
 have hlen:cs.length=arr'.size:=by have:=g2.len;simpa using this
 have hcl:cs.length=len*n:=by rw[Dh hf,gX,hzl]
 have hget:s.get (.h s.heap.length)=none:=by simp[St.get]
 have hat:∀ (i:Nat) (c:TV) (v:Value),cs[i]? = some c→arr'[i]? = some v→VR M.h c v:=fun i c v a b=>g2.at_ i c v a (by simpa using b)
 have hnew:=zX hV e mO hget (Nat.le_of_eq hlen) hat hone
 refine⟨rfl,.slice (some ⟨w.heap.size,0,none⟩) len len,w.alloc (.cells arr' e),aO M (.h s.heap.length) (.cells [⟨w.heap.size,0,cs.length,arr'.size⟩]),?_,⟨?_,?_,?_,iW mO⟩⟩
 ·have hle:¬(len*n>2^24):=by omega
  by_cases h0:len*n=0
  ·have hempty:cs=[]:=List.eq_nil_of_length_eq_zero (by omega)
   have g1':Instr.fill (fun i=>some (i*n,n)) ((Array.range (len*n)).map ((#[]:Array Value)[·%(#[]:Array Value).size]!)) qs=some arr':=by
    rw[h0] at g1 ⊢
    have e0:Array.range 0=#[]:=rfl
    rw[e0] at g1 ⊢
    simpa using g1
   simp only[Instr.buildSlice,Sem.run_bind,run_underlying hu,Result.andThen_ok,aH hn]
   rw[if_neg hle,if_pos h0]
   simp only[Sem.run_pure,Sem.run_bind,Result.andThen_ok,g1',newRow,run_newObj,World.alloc]
  ·simp only[Instr.buildSlice,Sem.run_bind,run_underlying hu,Result.andThen_ok,aH hn]
   rw[if_neg hle,if_neg h0]
   simp only[Sem.run_pure,Sem.run_bind,Result.andThen_ok,NZ w,g1,newRow,run_newObj,World.alloc]
 ·rw[eP];exact hnew.1
 ·rw[eP];exact hnew.2
 ·have hlb:len<2^63:=by
   have:=Nat.le_mul_of_pos_right len (show 0<n by omega)
   omega
  refine .val (.slc (ls:=[⟨w.heap.size,0,cs.length,arr'.size⟩]) (p:=⟨w.heap.size,0,cs.length,arr'.size⟩) (by simp[Mp.h,aO]) (by simp) (by simp[hcl]) (Nat.le_refl _) (Nat.le_refl _) (fun _=>rfl) (.inr ⟨by simp,by simp;omega⟩) hlb)
end
end Tw
namespace Tw
open Go
section
variable {P:Program} {M:Mp} {D:Key→Prop} {w:World} {s:St}
theorem JU {i:Int} (h0:0≤i) (h1:i≤2^40):IntKind.i64.wrap i=i:=by
 have h2:i%(2^64:Int)=i:=Int.emod_eq_of_lt h0 (by omega)
 simp only[IntKind.wrap,IntKind.bits,IntKind.signed,h2]
 rw[if_neg]
 simp only[Bool.true_and,decide_eq_true_eq,ge_iff_le]
 omega
theorem Dj {N:Np} {v:TV} {n:Nat} {x:Value} (h:LW v=some n) (hx:VR N v x):∃ k i,x=.int k i∧0≤i∧i≤2^40∧n=i.toNat:=by
 unfold LW at h
 split at h
 ·split at h
  ·rename_i k i hc
   simp at h;subst h
   cases hx
   exact⟨k,i,rfl,hc.1,hc.2,rfl⟩
  ·simp at h
 ·simp at h
theorem nO {e:TypeId} {n:Nat} (h:jD P e n=true):∃ i x,P.info? e=some i∧i.zero=some x∧x.cells.size=i.size∧n*i.bytes≤2^40∧n≤2^40∧i.bytes≤2^20∧0<i.bytes:=by
 unfold jD at h
 split at h
 ·rename_i i hi
  simp only[Bool.and_eq_true,decide_eq_true_eq] at h
  obtain⟨⟨⟨⟨h1,h2⟩,h3⟩,h4⟩,h5⟩:=h
  unfold O7 at h5
  split at h5
  ·rename_i x hx
   exact⟨i,x,hi,hx,by simpa using h5,h1,h2,h3,h4⟩
  ·simp at h5
 ·simp at h
theorem nP {t:TypeId} {a b r:TV} {x y:Value} {s1:St} (hV:Valid M D s.get w) (mO:M (.h s.heap.length)=none)
  (h:iM P t s a b=some (r,s1)) (hx:VR M.h a x) (hy:VR M.h b y) :
  s1.env=s.env∧∃ z w' M',(Instr.makeSlice t x y).run P w=.ok z w'∧Post M D s.get w (.val r) s1.get [] z w' M':=by
 unfold iM at h
 split at h
 case h_2=>simp at h
 rename_i e n l c hse hl hc
 obtain⟨hu,hn,hn0⟩:=iY hse
 obtain⟨_,li,rfl,l0,l1,rfl⟩:=Dj hl hx
 obtain⟨_,ci,rfl,c0,c1,rfl⟩:=Dj hc hy
 split at h
 case isFalse=>simp at h
 rename_i hcond
 obtain⟨hlc,hroom⟩:=hcond
 obtain⟨i,zx,hi,hzx,hzs,hb1,hb2,hb3,hb4⟩:=nO hroom
 split at h
 case h_2=>simp at h
 rename_i z hz
 split at h
 case isFalse=>simp at h
 rename_i hzl
 simp at h;obtain⟨rfl,rfl⟩:=h
 obtain⟨i',x,v,hi',hx',_,_,hz1,RD,NZ⟩:=kH hz
 rw[hi] at hi';cases hi'
 have ht:=FU (RD M.h) ci.toNat (ci.toNat*n) (by rw[hzl])
 let arr:Array Value:=(Array.range (ci.toNat*n)).map (x.cells[·%x.cells.size]!)
 have hlen:(times z ci.toNat).length=arr.size:=by have:=ht.len;simpa[arr] using this
 have hcl:(times z ci.toNat).length=ci.toNat*n:=by rw[gX,hzl]
 have hget:s.get (.h s.heap.length)=none:=by simp[St.get]
 have hat:∀ (i:Nat) (c:TV) (v:Value),(times z ci.toNat)[i]? = some c→arr[i]? = some v→VR M.h c v:=fun i c v a b=>ht.at_ i c v a (by rw[Array.getElem?_toList];exact b)
 have hnew:=zX hV e mO hget (Nat.le_of_eq hlen) hat (wS hz1 _)
 have hmul:(li.toNat)*n≤ci.toNat*n:=Nat.mul_le_mul_right n hlc
 refine⟨rfl,.slice (some ⟨w.heap.size,0,none⟩) li.toNat ci.toNat,w.alloc (.cells arr e),aO M (.h s.heap.length) (.cells [⟨w.heap.size,0,(times z ci.toNat).length,arr.size⟩]),?_,⟨?_,?_,?_,iW mO⟩⟩
 ·have hwl:=JU l0 l1
  have hwc:=JU c0 c1
  have hbig:¬((i.bytes:Int)*ci>2^48):=by
   have e1:(ci.toNat*i.bytes:Nat)≤2^40:=hb1
   have e2:((i.bytes:Int)*ci)=((ci.toNat*i.bytes:Nat):Int):=by
    rw[Nat.mul_comm,Int.natCast_mul,Int.toNat_of_nonneg c0]
   omega
  simp only[Instr.makeSlice,Sem.run_bind,run_underlying hu,Result.andThen_ok,asInt,asIntOf,Sem.run_pure,dW hi,hwl,hwc]
  rw[if_neg (by simp;exact⟨⟨⟨c0,by omega⟩,l0⟩,by omega⟩)]
  simp only[Sem.run_bind,run_askRoom,Result.andThen_ok,aH hn]
  by_cases h0:ci.toNat*n=0
  ·rw[if_pos h0]
   have e0:arr=#[]:=Array.eq_empty_of_size_eq_zero (by omega)
   have e1:(Array.range (ci.toNat*n)).map ((#[]:Array Value)[·%(#[]:Array Value).size]!)=#[]:=by
    rw[h0]
    have e0:Array.range 0=#[]:=rfl
    rw[e0];simp
   simp only[Sem.run_pure,Result.andThen_ok,e1,newRow,Sem.run_bind,run_newObj,World.alloc,e0]
  ·rw[if_neg h0]
   simp only[Sem.run_bind,NZ w,Sem.run_pure,Result.andThen_ok,newRow,run_newObj,World.alloc,arr]
 ·rw[eP];exact hnew.1
 ·rw[eP];exact hnew.2
 ·refine .val (.slc (ls:=[⟨w.heap.size,0,(times z ci.toNat).length,arr.size⟩]) (p:=⟨w.heap.size,0,(times z ci.toNat).length,arr.size⟩) (by simp[Mp.h,aO]) (by simp) (by simp[hcl]) hlc (Nat.le_refl _) (fun _=>rfl) (.inr ⟨by simp,by simp;omega⟩) (by omega))
theorem Il {at_:Array TypeId} {t:TypeId} {v r:TV} {i:Inf} {x:Value} (hV:Valid M D s.get w) (h:Ib P at_ s.heap v=some (r,i)) (hx:VR M.h v x) (hD:∀ k∈i.ts,D k) :
  i.ws=[]∧∃ z,VR M.h r z∧(Builtin.len_ at_ t #[x]).run P w=.ok z w:=by
 unfold Ib at h
 split at h
 case h_2=>simp at h
 rename_i t0 ht0
 split at h
 ·rename_i b hu
  simp at h;obtain⟨rfl,rfl⟩:=h
  cases hx
  exact⟨rfl,_,.int _ _,by simp[Builtin.len_,ht0,run_underlying hu,goInt]⟩
 ·rename_i n el _ hu
  simp at h;obtain⟨rfl,rfl⟩:=h
  exact⟨rfl,_,.int _ _,by simp[Builtin.len_,ht0,run_underlying hu,goInt]⟩
 ·rename_i el b off len cap sz ex hu
  simp at h;obtain⟨rfl,rfl⟩:=h
  cases hx
  exact⟨rfl,_,.int _ _,by simp[Builtin.len_,ht0,run_underlying hu,goInt]⟩
 ·rename_i el hu
  simp at h;obtain⟨rfl,rfl⟩:=h
  cases hx
  exact⟨rfl,_,.int _ _,by simp[Builtin.len_,ht0,run_underlying hu,goInt]⟩
 ·rename_i k el hu
  simp at h;obtain⟨rfl,rfl⟩:=h
  cases hx
  exact⟨rfl,_,.int _ _,by simp[Builtin.len_,ht0,run_underlying hu,goInt]⟩
 ·rename_i k el r0 hu
  split at h
  ·rename_i es he
   simp at h;obtain⟨rfl,rfl⟩:=h
   cases hx with
   | map hm=>
    obtain⟨blk,h1,h2⟩:=hV.ok _ _ hm (hD _ (by simp[lu]))
    simp only[St.get,he,Option.some.injEq] at h1;subst h1
    obtain⟨xs,g1,g2⟩:=h2
    have g2:=g2.len
    refine⟨rfl,_,.int _ _,?_⟩
    simp[Builtin.len_,ht0,run_underlying hu,goInt,getObj,Sem.run,g1,g2]
  ·simp at h
 ·simp at h
end
end Tw
namespace Tw
open Go
section
variable {P:Program} {M:Mp} {D:Key→Prop} {w:World} {s:St}
theorem src_ok {C:Ct} {size n:Nat} {v:TV} {l:List TV} {x:Value} {h:List HB} (hh:∀ b,C (.h b)=h[b]?) (hV:Valid M D C w) (hs:bg size h v=some (n,l)) (hx:VR M.h v x) (hD:∀ k∈aJ v,D k) :
  (Builtin.lenOf x).run P w=.ok n w∧(∀ c∈l,bJ c=true)∧∃ arr,(∀ w':World,w'.heap=w.heap→(Builtin.firstCells size n x).run P w'=.ok arr w')∧aG M.h l arr.toList:=by
 unfold bg at hs
 split at hs
 ·simp at hs;obtain⟨rfl,rfl⟩:=hs
  cases hx
  exact⟨by simp[Builtin.lenOf],by simp,#[],fun w' _=>by simp[Builtin.firstCells],.nil⟩
 ·rename_i b off len cap sz ex
  split at hs
  ·rename_i hsz
   subst hsz
   split at hs
   ·rename_i hz
    subst hz
    simp at hs;obtain⟨rfl,rfl⟩:=hs
    cases hx with
    | slc hm hp hext hle hcap hex ha hk=>
     exact⟨by simp[Builtin.lenOf],by simp,#[],fun w' _=>by simp[Builtin.firstCells,loadCells,loadCellsFrom],.nil⟩
   split at hs
   ·rename_i cs hb
    simp only[Option.map_eq_some_iff,Prod.mk.injEq] at hs
    obtain⟨r,hr,rfl,rfl⟩:=hs
    cases hx with
    | slc hm hp hext hle hcap hex ha hk=>
     rename_i ls p a cap'
     obtain⟨k,hk,hlast⟩:=lD hb
     obtain⟨blk,h1,h2⟩:=hV.ok _ _ hm (hD _ (by simp[aJ]))
     rw[hh,hk] at h1;cases h1
     obtain⟨g1,g2,_⟩:=h2
     obtain⟨s1,s2,s3⟩:=jJ hr
     refine⟨by simp[Builtin.lenOf],fun c hc=>g1 c (by rw[s2] at hc;exact List.mem_of_mem_drop (List.mem_of_mem_take hc)),?_⟩
     by_cases h0:cap'=0
     ·have hl0:len=0:=by omega
      subst hl0
      have:r=[]:=List.eq_nil_of_length_eq_zero (by rw[s3];simp)
      subst this
      exact⟨#[],fun w' _=>by simp[Builtin.firstCells,loadCells,loadCellsFrom],.nil⟩
     ·rcases ha with ha | ⟨rfl,ha⟩
      ·exact absurd ha h0
      ·obtain⟨xs,x1,x2⟩:=lX (P:=P) (g2 p (hp.resolve_left h0)) hr (by have:=Nat.mul_le_mul_right sz hle;omega) (fun e=>by have:=hlast e;have:=(g2 p (hp.resolve_left h0)).ext;omega)
       exact⟨xs.toArray,fun w' hw'=>by simp[Builtin.firstCells,x2 w' hw'],x1⟩
   ·simp at hs
  ·simp at hs
 ·rename_i bs
  split at hs
  ·rename_i hsz
   simp at hs;obtain⟨rfl,rfl⟩:=hs
   cases hx
   refine⟨by simp[Builtin.lenOf],by simp[bJ],(bs.extract 0 bs.size).data.map fun b=>.int .u8 b.toNat,fun w' _=>rfl,?_⟩
   refine⟨by simp,fun i c v a b=>?_⟩
   simp only[List.getElem?_map,Option.map_eq_some_iff] at a
   obtain⟨y,hy,rfl⟩:=a
   rw[show bs.extract 0 bs.size=bs from by simp] at b
   simp only[Array.toList_map,List.getElem?_map,hy,Option.map_some,Option.some.injEq] at b
   rw[←b];exact .int _ _
  ·simp at hs
 ·simp at hs
theorem Eu {size n b off len cap sz:Nat} {ex:Bool} {l:List TV} {h:List HB} (hs:bg size h (.slc b off len cap sz ex)=some (n,l)):sz=size∧n=len∧l.length=len*size:=by
 simp only[bg] at hs
 split at hs
 ·rename_i hz
  split at hs
  ·rename_i h0;cases hs;exact⟨hz,h0.symm,by simp[h0]⟩
  ·split at hs
   ·simp only[Option.map_eq_some_iff,Prod.mk.injEq] at hs
    obtain⟨r,hr,rfl,rfl⟩:=hs
    exact⟨hz,rfl,(jJ hr).2.2⟩
   ·cases hs
 ·cases hs
theorem Dk (N:Nat):∀ (r c:Nat),c≤2*N+192→Builtin.growBy N r c≤2*N+192
 | 0,c,h=>by simpa[Builtin.growBy] using h
 | r+1,c,h=>by
  simp only[Builtin.growBy]
  split
  ·exact h
  ·exact Dk N r _ (by omega)
theorem Io {need c:Nat} (h:c<need):Builtin.nextslicecap need c≤2*need+192:=by
 unfold Builtin.nextslicecap
 split
 ·omega
 ·split
  ·omega
  ·exact Dk need 4 c (by omega)
theorem RU {need c b:Nat} (h:c<need) (h1:need*b≤2^40) (h2:b≤2^20):¬(Builtin.nextslicecap need c*b>2^48):=by
 have e1:=Io h
 have e2:Builtin.nextslicecap need c*b≤(2*need+192)*b:=Nat.mul_le_mul_right b e1
 have e3:(2*need+192)*b=2*(need*b)+192*b:=by rw[Nat.add_mul,Nat.mul_assoc]
 omega
theorem kJ (z:Array Value) (n:Nat):(Builtin.zeroCells z n).size=n*z.size:=by simp[Builtin.zeroCells]
def kL:TypeDesc→Bool
 | .int _=>true
 | _=>false
theorem Ip {t:TypeId} (h:¬(Eo P t||(P.underlying t).isNone)=true):∃ d,P.underlying t=some d∧kL d=false:=by
 simp only[Bool.or_eq_true,not_or,Bool.not_eq_true] at h
 obtain⟨h1,h2⟩:=h
 cases hu:P.underlying t with
 | none=>simp[hu] at h2
 | some d=>
  refine⟨d,rfl,?_⟩
  unfold Eo at h1
  rw[hu] at h1
  cases d<;>simp_all [kL]
theorem sV {at_:Array TypeId} {st xt e:TypeId} {size n sLen sCap:Nat} {i:TypeInfo} {z sv xv:Value} {base:Option Addr} {d:TypeDesc} {old new:Array Value} {ty:TypeId}
  (h0:at_[0]? = some st) (h1:at_[1]? = some xt) (hu:P.underlying st=some (.slice e)) (hn:sizeT P e=some size) (hxt:P.underlying xt=some d) (hd:kL d=false)
  (hi:P.info? e=some i) (hz:i.zero=some z) (hsv:sv=.slice base sLen sCap)
  (hl:(Builtin.lenOf xv).run P w=.ok n w) (hcap:sCap<sLen+n) (hb1:(sLen+n)*i.bytes≤2^40) (hb2:sLen+n≤2^40) (hb3:i.bytes≤2^20)
  (hold:∀ w':World,w'.heap=w.heap→(Builtin.firstCells size sLen sv).run P w'=.ok old w') (hnew:∀ w':World,w'.heap=w.heap→(Builtin.firstCells size n xv).run P w'=.ok new w') :
  ∃ newCap,sLen+n≤newCap∧newCap<2^63∧(Builtin.append_ at_ ty #[sv,xv]).run P w=.ok (.slice (some ⟨w.heap.size,0,none⟩) (sLen+n) newCap) (w.drew.alloc (.cells (old++new++Builtin.zeroCells z.cells (newCap-(sLen+n))) e)):=by
 subst hsv
 refine⟨(Question.appendCap (sLen+n) sCap e).cut (w.tape w.drawn (.appendCap (sLen+n) sCap e)),by simp[Question.cut],?_,?_⟩
 ·have:=Nat.mod_lt (w.tape w.drawn (.appendCap (sLen+n) sCap e)) (show 0<2^63-(sLen+n) by omega)
  simp only[Question.cut];omega
 have hz':∀ w,(zeroValue e).run P w=.ok z w:=fun w=>by simp[zeroValue,dW hi,hz]
 have hq:(Question.appendCap (sLen+n) sCap e).forced=false:=rfl
 have hle:¬(sLen+n≤sCap):=by omega
 have hbig:¬(((sLen+n:Nat):Int)>IntKind.i64.max):=by
  have:IntKind.i64.max=2^63-1:=rfl
  rw[this];omega
 have hroom:=RU hcap hb1 hb3
 have e1:=hold w.drew rfl
 have e2:=hnew w.drew rfl
 unfold Builtin.append_
 simp only[List.getElem?_toArray,List.getElem?_cons_zero,List.getElem?_cons_succ,h0,h1]
 simp only[Sem.run_bind,run_underlying hu,Result.andThen_ok,aH hn,run_underlying hxt,Sem.run_pure]
 rw[if_neg (by cases d<;>simp_all [kL])]
 simp only[Sem.run_bind,hl,Result.andThen_ok]
 rw[if_neg hle]
 simp only[Sem.run_bind,dW hi,Result.andThen_ok]
 rw[if_neg (fun h=>hbig h.1)]
 simp only[Sem.run_bind,dW hi,Result.andThen_ok]
 rw[if_neg hroom]
 simp only[Sem.run_bind,Sem.run_pure,run_choose,hq,Bool.false_eq_true,if_false,Result.andThen_ok,dW hi,run_askRoom,World.drew_eq,e1]
 rw[if_pos (by cases d<;>simp_all [kL])]
 simp only[Sem.run_bind,Sem.run_pure,Result.andThen_ok,e2,hz',newRow,run_newObj,World.size_drew,World.alloc_eq]
theorem Dl {at_:Array TypeId} {st xt e:TypeId} {size n sLen sCap:Nat} {a:Addr} {sv xv:Value} {d:TypeDesc} {new:Array Value} {ty:TypeId} {w':World}
  (h0:at_[0]? = some st) (h1:at_[1]? = some xt) (hu:P.underlying st=some (.slice e)) (hn:sizeT P e=some size) (hxt:P.underlying xt=some d) (hd:kL d=false)
  (hsv:sv=.slice (some a) sLen sCap) (hl:(Builtin.lenOf xv).run P w=.ok n w) (hcap:sLen+n≤sCap)
  (hnew:(Builtin.firstCells size n xv).run P w=.ok new w) (hst:(storeCells (a.add (sLen*size)) new.toList).run P w=.ok () w') :
  (Builtin.append_ at_ ty #[sv,xv]).run P w=.ok (.slice (some a) (sLen+n) sCap) w':=by
 subst hsv
 unfold Builtin.append_
 simp only[List.getElem?_toArray,List.getElem?_cons_zero,List.getElem?_cons_succ,h0,h1]
 simp only[Sem.run_bind,run_underlying hu,Result.andThen_ok,aH hn,run_underlying hxt,Sem.run_pure]
 rw[if_neg (by cases d<;>simp_all [kL])]
 simp only[Sem.run_bind,hl,Result.andThen_ok]
 rw[if_pos hcap]
 rw[if_pos (by cases d<;>simp_all [kL])]
 simp only[Sem.run_bind,hnew,Result.andThen_ok,hst,Sem.run_pure]
theorem FV {at_:Array TypeId} {st xt e:TypeId} {size sLen sCap:Nat} {base:Option Addr} {sv xv:Value} {d:TypeDesc} {new:Array Value} {ty:TypeId}
  (h0:at_[0]? = some st) (h1:at_[1]? = some xt) (hu:P.underlying st=some (.slice e)) (hn:sizeT P e=some size) (hxt:P.underlying xt=some d) (hd:kL d=false)
  (hsv:sv=.slice base sLen sCap) (hl:(Builtin.lenOf xv).run P w=.ok 0 w) (hcap:sLen≤sCap)
  (hnew:(Builtin.firstCells size 0 xv).run P w=.ok new w) (hne:new.toList=[]) :
  (Builtin.append_ at_ ty #[sv,xv]).run P w=.ok sv w:=by
 subst hsv
 unfold Builtin.append_
 simp only[List.getElem?_toArray,List.getElem?_cons_zero,List.getElem?_cons_succ,h0,h1]
 simp only[Sem.run_bind,run_underlying hu,Result.andThen_ok,aH hn,run_underlying hxt,Sem.run_pure]
 rw[if_neg (by cases d<;>simp_all [kL])]
 simp only[Sem.run_bind,hl,Result.andThen_ok]
 rw[if_pos (by omega)]
 rw[if_pos (by cases d<;>simp_all [kL])]
 simp only[Sem.run_bind,hnew,Result.andThen_ok]
 cases base<;>simp[hne,storeCells]
end
end Tw
namespace Tw
open Go
section
variable {P:Program} {M:Mp} {D:Key→Prop} {w:World} {s:St}
def BOk (P:Program) (M:Mp) (D:Key→Prop) (C:Ct) (w:World) (c:Sem Value) (v:TV) (C1:Ct) (ws:List Key):Prop:=
 ∃ x w' M',c.run P w=.ok x w'∧Post M D C w (.val v) C1 ws x w' M'
theorem Ext.drew' {M0:Mp} {C0:Ct} {w0:World} {M:Mp} {C:Ct} {w:World} {ws:List Key} (h:Ext M0 C0 w0.drew M C w ws):Ext M0 C0 w0 M C w ws:=
 ⟨h.wL,h.frame,h.keep,h.fK,h.fresh,h.size,h.has,h.wsub,h.wrote,h.os,h.output,h.tape⟩
theorem aG.Ew {N:Np} {l:List TV} {arr:Array Value} (h:aG N l arr.toList) {i:Nat} {c:TV} {v:Value} (a:l[i]? = some c) (b:arr[i]? = some v):VR N c v:=
 h.at_ i c v a (by rw[Array.getElem?_toList];exact b)
theorem FW (hV:Valid M D s.get w) (mO:M (.h s.heap.length)=none) {cs:List TV} {pre rest:Array Value} {e:TypeId} (hx:aG M.h cs pre.toList) (hn:∀ c∈cs,bJ c=true)
  {len newCap size:Nat} (hcs:cs.length=len*size) (hle:len≤newCap) (hk:newCap<2^63) (hrest:rest.size=(newCap-len)*size) :
  ∃ M',Post M D s.get w (.val (.slc s.heap.length 0 len len size false)) (St.get { s with heap:=s.heap++[.cells .own cs] }) [] (.slice (some ⟨w.heap.size,0,none⟩) len newCap) (w.drew.alloc (.cells (pre++rest) e)) M':=by
 have hget:s.get (.h s.heap.length)=none:=by simp[St.get]
 have hpl:pre.size=cs.length:=by have:=hx.len;simp at this;omega
 have htot:(pre++rest).size=newCap*size:=by
  have:len*size+(newCap-len)*size=newCap*size:=by rw[←Nat.add_mul];congr 1;omega
  simp;omega
 have hmul:len*size≤newCap*size:=Nat.mul_le_mul_right size hle
 have hV':Valid M D s.get w.drew:=hV.of_heap rfl
 have hnew:=zX hV' (cs:=cs) (arr:=pre++rest) e mO hget (by omega) (fun i c v a b=>by
  have hi:=(List.getElem?_eq_some_iff.1 a).1
  rw[Array.getElem?_append_left (by omega)] at b
  exact hx.Ew a b) hn
 refine⟨aO M (.h s.heap.length) (.cells [⟨w.heap.size,0,cs.length,(pre++rest).size⟩]),⟨?_,?_,?_,iW mO⟩⟩
 ·rw[eP];exact hnew.1
 ·rw[eP];exact hnew.2.drew'
 ·exact .val (.slc (ls:=[⟨w.heap.size,0,cs.length,(pre++rest).size⟩]) (p:=⟨w.heap.size,0,cs.length,(pre++rest).size⟩) (by simp[Mp.h,aO]) (by simp) (by simp[hcs]) (Nat.le_refl _) hle (fun h=>by simp at h) (.inr ⟨by simp,by simp only[Nat.zero_add];omega⟩) hk)
theorem rV:∀ {ls:List Pl},(ls.map (·.c)).Nodup→∀ {p q:Pl},p∈ls→q∈ls→q.c=p.c→q=p
 | [],_,p,q,hp,_,_=>by simp at hp
 | a::ls,h,p,q,hp,hq,e=>by
  simp only[List.map_cons,List.nodup_cons] at h
  rcases List.mem_cons.1 hp with h1 | h1<;>rcases List.mem_cons.1 hq with h2 | h2
  ·rw[h1,h2]
  ·exact (h.1 (List.mem_map.2 ⟨q,h2,by rw[e,h1]⟩)).elim
  ·exact (h.1 (List.mem_map.2 ⟨p,h1,by rw[←e,h2]⟩)).elim
  ·exact rV h.2 h1 h2 e
theorem JV (hV:Valid M D s.get w) {b:Nat} {k:BK} {cs new:List TV} {ls:List Pl} {p:Pl} {x:Array Value} (hm:M (.h b)=some (.cells ls)) (hd:D (.h b)) (hb:s.heap[b]? = some (.cells k cs))
  (hk:k≠.ro) (hp:p∈ls) (hext:cs.length≤p.ext) (hx:aG M.h new x.toList) (hn:∀ c∈new,bJ c=true) (hne:new≠[]) {w':World}
  (fl:Bool) (old rest:Array Value) (ty0:TypeId)
  (hw:(fl=true∧cs.length+new.length≤p.tot∧(storeCells ⟨p.c,cs.length,none⟩ x.toList).run P w=.ok () w') ∨
   (fl=false∧aG M.h cs old.toList∧w'=w.drew.alloc (.cells (old++x++rest) ty0))) :
  ∃ M' q,Valid M' D (St.get { s with heap:=s.heap.set b (.cells k.more (cs++new)) }) w'∧Ext M s.get w M' (St.get { s with heap:=s.heap.set b (.cells k.more (cs++new)) }) w' [.h b] ∧
   (∀ j l,M (.l j)=some l→M' (.l j)=some l)∧(∃ ls',M' (.h b)=some (.cells ls')∧q∈ls')∧cs.length+new.length≤q.ext∧q.base=0 ∧
   ((fl=true∧q.c=p.c∧q.tot=p.tot)∨(fl=false∧q.c=w.heap.size∧q.tot=(old++x++rest).size)):=by
 have hg:s.get (.h b)=some (.cells k cs):=by simp[St.get,hb]
 have hbl:=(List.getElem?_eq_some_iff.1 hb).1
 obtain⟨blk,h1,h2⟩:=hV.ok _ _ hm hd
 rw[hg] at h1;cases h1
 obtain⟨ho,hpl,Yg,hgrow⟩:=h2
 have hxl:=hx.len
 simp only[Array.length_toList] at hxl
 have hnd:(ls.map (·.c)).Nodup:=by
  cases k with
  | ro=>exact absurd rfl hk
  | own=>obtain⟨q,rfl,_⟩:=Yg rfl;simp
  | grow=>exact (hgrow (.inl rfl)).1
  | last=>exact (hgrow (.inr rfl)).1
 have a4q:∀ q∈ls,q.ext=cs.length→q=p:=by
  intro q hq he
  cases k with
  | ro=>exact absurd rfl hk
  | own=>
   obtain⟨q',e',_⟩:=Yg rfl
   rw[e'] at hp hq;simp at hp hq;rw[hq,hp]
  | grow=>
   have:=(hpl p hp).ext
   exact (hgrow (.inl rfl)).2 q hq p hp he (by omega)
  | last=>
   have:=(hpl p hp).ext
   exact (hgrow (.inr rfl)).2 q hq p hp he (by omega)
 have hpe:p.ext=cs.length:=by have:=(hpl p hp).ext;omega
 have hpb:p.base=0:=(hpl p hp).base hk
 have hmr:k.more≠.own:=by cases k<;>simp[BK.more]
 have hml:k.more=.last→k=.last:=by cases k<;>simp[BK.more]
 have hone:∀ c∈cs++new,bJ c=true:=by
  intro c hc
  rcases List.mem_append.1 hc with h | h
  ·exact ho c h
  ·exact hn c h
 rcases hw with⟨hfl,hroom,hst⟩ | ⟨hfl,hold,rfl⟩
 ·-- in place
  let p':Pl:={ p with ext:=cs.length+new.length }
  let ls':List Pl:=ls.map fun q=>if q.c=p.c then p' else q
  have hqp:∀ q∈ls,q.c=p.c→q=p:=by
   intro q hq he
   exact rV hnd hp hq he
  have hp':p'∈ls':=List.mem_map.2 ⟨p,hp,by simp⟩
  have hmap:ls'.map (·.c)=ls.map (·.c):=by
   simp only[ls',List.map_map]
   apply List.map_congr_left
   intro q hq
   simp only[Function.comp]
   split
   ·rename_i he;exact he.symm
   ·rfl
  have hlc:yN (.cells ls) (.cells ls'):=by
   intro q hq
   by_cases he:q.c=p.c
   ·have:=hqp q hq he;subst this
    exact⟨p',hp',rfl,rfl,by simp[p'];omega,rfl⟩
   ·exact⟨q,List.mem_map.2 ⟨q,hq,by simp[he]⟩,rfl,rfl,Nat.le_refl _,rfl⟩
  obtain⟨arr,ty,fz,r1,r2,r3,r4⟩:=(hpl p hp).row
  have:=r3 hk;subst this
  have hone':∀ v∈x.toList,v.oneCell'=true:=by
   intro v hv
   obtain⟨i,hi,rfl⟩:=List.mem_iff_getElem.1 hv
   have hi':i<new.length:=by simp at hi;omega
   exact wM (hx.at_ i new[i] x.toList[i] (by simp[hi']) (by simp)) (hn _ (List.getElem_mem hi'))
  have hrun:=run_storeCells_at (P:=P) p.c cs.length ty x.toList 0 arr w r1 (by simp;omega) hone'
  simp only[Nat.add_zero,Array.length_toList] at hrun
  rw[hrun] at hst
  have hst':=Result.ok.inj hst
  obtain⟨_,rfl⟩:=hst'
  let w':World:=w.setRow p.c (arr.toList.take cs.length++x.toList++arr.toList.drop (cs.length+x.size)).toArray
  have hframe:∀ c,c<w.heap.size→c∉ah (.cells ls')→w'.heap[c]? = w.heap[c]?:=fun c _ hc=>jX w p.c _ c (fun e=>hc (by rw[e];exact List.mem_map.2 ⟨p',hp',rfl⟩))
  have hnew:∀ c∈ah (.cells ls'),(∃ l0,M (.h b)=some l0∧c∈ah l0)∨w.heap.size≤c:=fun c hc=>.inl ⟨_,hm,by simp only[ah] at hc ⊢;rwa [hmap] at hc⟩
  have hle':jR M (aO M (.h b) (.cells ls')):=iJ fun l0 h0=>by rw[hm] at h0;cases h0;exact hlc
  have harr:∀ i,(arr.toList.take cs.length++x.toList++arr.toList.drop (cs.length+x.size)).toArray[i]? = if i<cs.length then arr[i]? else if i<cs.length+x.size then x[i-cs.length]? else arr[i]?:=by
   intro i
   have:=FM (arr:=arr) (off:=cs.length) (xs:=x.toList) i (by simp;omega)
   simpa using this
  have hok:jm (aO M (.h b) (.cells ls')).h w' (.cells k.more (cs++new)) (.cells ls'):=by
   refine⟨hone,fun q hq=>?_,fun e=>absurd e hmr,fun _=>⟨by rw[hmap];exact hnd,fun q1 hq1 q2 hq2 e1 e2=>?_⟩⟩
   ·obtain⟨q0,hq0,rfl⟩:=List.mem_map.1 hq
    by_cases he:q0.c=p.c
    ·simp only[he,if_true]
     refine⟨⟨_,ty,(0,0),zV w p.c _ arr ty (0,0) r1,by simp[p'];omega,fun _=>rfl,fun _ i c v hi a b=>?_⟩,by simp[p',hpb];omega,by simp[p'],fun _=>hpb⟩
     simp only[p',hpb,Nat.zero_add] at b hi
     rw[harr i] at b
     by_cases h1:i<cs.length
     ·rw[if_pos h1] at b
      rw[List.getElem?_append_left h1] at a
      exact (r4 (fun _=>hpe) i c v (by omega) a (by simpa[hpb] using b)).mono hle'.h
     ·rw[if_neg h1,if_pos (by omega)] at b
      rw[List.getElem?_append_right (by omega)] at a
      exact (hx.Ew a b).mono hle'.h
    ·simp only[he,if_false]
     have hq1:=hpl q0 hq0
     obtain⟨arr',ty',fz',t1,t2,t3,t4⟩:=hq1.row
     refine⟨⟨arr',ty',fz',(jX w p.c _ q0.c he).trans t1,t2,fun _=>t3 hk,fun hz i c v hi a b=>?_⟩,hq1.fit,by have:=hq1.ext;simp;omega,fun _=>hq1.base hk⟩
     have:=hq1.ext
     rw[List.getElem?_append_left (by omega)] at a
     exact (t4 (fun e=>by have:=hz (by rw[e];rfl);have:0<new.length:=List.length_pos_iff.2 hne;simp at *;omega) i c v hi a b).mono hle'.h
   ·have aux:∀ q∈ls',q.ext=(cs++new).length→new≠[]→q=p':=by
     intro q hq e hne
     obtain⟨q0,hq0,rfl⟩:=List.mem_map.1 hq
     by_cases he:q0.c=p.c
     ·simp[he]
     ·simp only[he,if_false] at e
      have:=(hpl q0 hq0).ext
      have:0<new.length:=List.length_pos_iff.2 hne
      simp at e;omega
    rw[aux q1 hq1 e1 hne,aux q2 hq2 e2 hne]
  refine⟨aO M (.h b) (.cells ls'),p',?_,?_,?_,⟨ls',by simp[aO],hp'⟩,Nat.le_refl _,hpb,.inl ⟨hfl,rfl,rfl⟩⟩
  ·rw[fC s b _ hbl]
   exact hV.upd (.h b) _ _ (fun j hj=>.inl hj) (fun l0 h0=>by
    rw[hm] at h0;cases h0
    exact⟨hd,hlc,fun b0 hb0=>by rw[hg] at hb0;cases hb0;cases k<;>simp_all [wr]⟩) hframe hnew (by simp) hok
  ·rw[fC s b _ hbl]
   exact Ext.upd (.h b) _ _ [.h b] (.inl ⟨by simp[hg],rfl,by simp[hm],fun b0 hb0=>by rw[hg] at hb0;cases hb0;cases k<;>simp_all [wr]⟩) hle' hframe hnew (by simp) rfl rfl rfl
  ·intro j l hj
   simp[aO,hj]
 ·-- a new row
  let p':Pl:=⟨w.heap.size,0,cs.length+new.length,(old++x++rest).size⟩
  let ls':List Pl:=p'::ls
  let w':World:=w.drew.alloc (.cells (old++x++rest) ty0)
  have hol:=hold.len
  simp only[Array.length_toList] at hol
  have hlt:∀ q∈ls,q.c<w.heap.size:=fun q hq=>hV.inb _ _ hm q.c (List.mem_map.2 ⟨q,hq,rfl⟩)
  have hlc:yN (.cells ls) (.cells ls'):=fun q hq=>⟨q,List.mem_cons_of_mem _ hq,rfl,rfl,Nat.le_refl _,rfl⟩
  have hframe:∀ c,c<w.heap.size→c∉ah (.cells ls')→w'.heap[c]? = w.heap[c]?:=fun c hc _=>kG w.drew _ c hc
  have hnew:∀ c∈ah (.cells ls'),(∃ l0,M (.h b)=some l0∧c∈ah l0)∨w.heap.size≤c:=by
   intro c hc
   simp only[ah,ls',List.map_cons,List.mem_cons] at hc
   rcases hc with rfl | hc
   ·exact .inr (Nat.le_refl _)
   ·exact .inl ⟨_,hm,hc⟩
  have hle':jR M (aO M (.h b) (.cells ls')):=iJ fun l0 h0=>by rw[hm] at h0;cases h0;exact hlc
  have hok:jm (aO M (.h b) (.cells ls')).h w' (.cells k.more (cs++new)) (.cells ls'):=by
   refine⟨hone,fun q hq=>?_,fun e=>absurd e hmr,fun _=>⟨?_,fun q1 hq1 q2 hq2 e1 e2=>?_⟩⟩
   ·rcases List.mem_cons.1 hq with rfl | hq
    ·refine⟨⟨_,ty0,(0,0),heap_alloc_new w.drew _,rfl,fun _=>rfl,fun _ i c v hi a b=>?_⟩,by simp[p'];omega,by simp[p'],fun _=>rfl⟩
     simp only[p',Nat.zero_add] at b hi
     by_cases h1:i<cs.length
     ·rw[List.getElem?_append_left h1] at a
      rw[Array.append_assoc,Array.getElem?_append_left (by omega)] at b
      exact (hold.Ew a b).mono hle'.h
     ·rw[List.getElem?_append_right (by omega)] at a
      rw[Array.append_assoc,Array.getElem?_append_right (by omega),Array.getElem?_append_left (by omega),←hol] at b
      exact (hx.Ew a b).mono hle'.h
    ·have hq1:=hpl q hq
     obtain⟨arr',ty',fz',t1,t2,t3,t4⟩:=hq1.row
     refine⟨⟨arr',ty',fz',(kG w.drew _ q.c (hlt q hq)).trans t1,t2,fun _=>t3 hk,fun hz i c v hi a b=>?_⟩,hq1.fit,by have:=hq1.ext;simp;omega,fun _=>hq1.base hk⟩
     have:=hq1.ext
     rw[List.getElem?_append_left (by omega)] at a
     exact (t4 (fun e=>by have:=hz (by rw[e];rfl);have:0<new.length:=List.length_pos_iff.2 hne;simp at *;omega) i c v hi a b).mono hle'.h
   ·simp only[ls',List.map_cons,List.nodup_cons]
    refine⟨fun hmem=>?_,hnd⟩
    obtain⟨q,hq,he⟩:=List.mem_map.1 hmem
    have:=hlt q hq
    simp only[p'] at he;omega
   ·have hpos:0<new.length:=List.length_pos_iff.2 hne
    have aux:∀ q∈ls',q.ext=(cs++new).length→q=p':=by
     intro q hq e
     rcases List.mem_cons.1 hq with rfl | hq
     ·rfl
     ·have:=(hpl q hq).ext
      simp at e;omega
    rw[aux q1 hq1 e1,aux q2 hq2 e2]
  refine⟨aO M (.h b) (.cells ls'),p',?_,?_,?_,⟨ls',by simp[aO],List.mem_cons_self⟩,Nat.le_refl _,rfl,.inr ⟨hfl,rfl,rfl⟩⟩
  ·rw[fC s b _ hbl]
   exact hV.upd (.h b) _ _ (fun j hj=>.inl hj) (fun l0 h0=>by
    rw[hm] at h0;cases h0
    exact⟨hd,hlc,fun b0 hb0=>by rw[hg] at hb0;cases hb0;cases k<;>simp_all [wr]⟩) hframe hnew (by simp) hok
  ·rw[fC s b _ hbl]
   exact Ext.upd (.h b) _ _ [.h b] (.inl ⟨by simp[hg],rfl,by simp[hm],fun b0 hb0=>by rw[hg] at hb0;cases hb0;cases k<;>simp_all [wr]⟩) hle' hframe hnew (by simp) rfl rfl rfl
  ·intro j l hj
   simp[aO,hj]
end
end Tw
namespace Tw
open Go
section
variable {P:Program} {M:Mp} {D:Key→Prop} {w:World} {s:St}
theorem wU {at_:Array TypeId} {ty:TypeId} {d x r:TV} {s1:St} {i:Inf} {dv xv:Value} (hV:Valid M D s.get w) (mO:M (.h s.heap.length)=none)
  (h:dN P at_ s d x=some (r,s1,i)) (hd:VR M.h d dv) (hx:VR M.h x xv) (hD:∀ k∈i.ts,D k) :
  s1.env=s.env∧BOk P M D s.get w (Builtin.append_ at_ ty #[dv,xv]) r s1.get i.ws:=by
 unfold dN at h
 split at h
 case h_2=>simp at h
 rename_i st xt h0 h1
 split at h
 ·simp at h
 rename_i hint
 obtain⟨dd,hxt,hdd⟩:=Ip hint
 split at h
 case h_2=>simp at h
 rename_i e size hse
 obtain⟨hu,hn,hn0⟩:=iY hse
 split at h
 case h_2=>simp at h
 rename_i n new hsrc
 split at h
 ·-- nothing
  rename_i hz
  subst hz
  have key:∀ (base:Option Addr) (l c:Nat),dv=.slice base l c→l≤c→(∀ k∈aJ x,D k)→(Builtin.append_ at_ ty #[dv,xv]).run P w=.ok dv w:=by
   intro base l c e hlc Vq
   obtain⟨s1',s2',arr,s3',JW⟩:=src_ok (P:=P) (fun b=>rfl) hV hsrc hx Vq
   refine FV h0 h1 hu hn hxt hdd e s1' hlc (s3' w rfl) ?_
   have Oh:new=[]:=by
    unfold bg at hsrc
    split at hsrc
    ·simp at hsrc;exact hsrc
    ·split at hsrc
     ·split at hsrc
      ·simpa using hsrc
      split at hsrc
      ·simp only[Option.map_eq_some_iff,Prod.mk.injEq] at hsrc
       obtain⟨r',hr',e1,e2⟩:=hsrc
       subst e2
       exact List.eq_nil_of_length_eq_zero (by rw[(jJ hr').2.2,e1];simp)
      ·simp at hsrc
     ·simp at hsrc
    ·split at hsrc
     ·simp at hsrc
      obtain⟨e1,e2⟩:=hsrc
      rw[←e2]
      rename_i bs _
      have:bs.data.toList=[]:=List.eq_nil_of_length_eq_zero (by simpa using e1)
      simp[this]
     ·simp at hsrc
    ·simp at hsrc
   rw[Oh] at JW
   exact JW.iI
  split at h
  ·simp at h;obtain⟨rfl,rfl,rfl⟩:=h
   have hd':=hd
   cases hd
   exact⟨rfl,_,w,M,key none 0 0 rfl (Nat.le_refl _) hD,.same hV (.val hd')⟩
  ·split at h
   ·simp at h;obtain⟨rfl,rfl,rfl⟩:=h
    have hd':=hd
    cases hd with
    | slc hb hp hext hle hcap hex ha hk=>
     exact⟨rfl,_,w,M,key _ _ _ rfl (by omega) hD,.same hV (.val hd')⟩
   ·simp at h
  ·simp at h
 rename_i hz
 split at h
 case isFalse=>simp at h
 rename_i hlen
 have UE:new≠[]:=by
  intro e
  have:0<n*size:=Nat.mul_pos (by omega) hn0
  rw[e] at hlen
  simp only[List.length_nil] at hlen
  omega
 split at h
 ·-- nil
  split at h
  case isFalse=>simp at h
  rename_i hroom
  simp at h;obtain⟨rfl,rfl,rfl⟩:=h
  obtain⟨inf,z,hi,hiz,hzs,hb1,hb2,hb3,hb4⟩:=nO hroom
  obtain⟨s1',s2',arr,s3',JW⟩:=src_ok (P:=P) (fun b=>rfl) hV hsrc hx hD
  have hsz:inf.size=size:=by obtain⟨i',e1,e2⟩:=sQ hn;rw[hi] at e1;cases e1;exact e2
  cases hd
  obtain⟨newCap,c1,c1',c2⟩:=sV (P:=P) (w:=w) (ty:=ty) (base:=none) (sLen:=0) (sCap:=0) (old:=#[]) (new:=arr) h0 h1 hu hn hxt hdd hi hiz rfl s1' (by omega) (by simpa using hb1) (by omega) hb3
   (fun w' hw'=>by simp[Builtin.firstCells]) s3'
  simp only[Nat.zero_add] at c1 c2
  obtain⟨M',hp⟩:=FW (size:=size) (len:=n) (rest:=Builtin.zeroCells z.cells (newCap-n)) (e:=e) (pre:=#[]++arr) hV mO (by simpa using JW) s2' hlen c1 c1' (by rw[kJ,hzs,hsz])
  exact⟨rfl,_,_,M',c2,hp⟩
 ·-- a slice
  rename_i b off len cap sz ex
  split at h
  case isFalse=>simp at h
  rename_i hsz'
  subst hsz'
  have hd0:=hd
  cases hd with
  | slc hb hp hext hle hcap hex ha hk=>
  rename_i ls p a cap'
  split at h
  ·-- room
   rename_i hfit
   simp only[Option.map_eq_some_iff,Prod.mk.injEq] at h
   obtain⟨hp',hset,rfl,rfl,rfl⟩:=h
   obtain⟨kk,rU,cs,cs',hbc,hkk,ho,rfl⟩:=wR hset
   have hDs:∀ k∈aJ x,D k:=fun k hk=>hD k (List.mem_cons_of_mem _ hk)
   obtain⟨s1',s2',arr,s3',JW⟩:=src_ok (P:=P) (fun b=>rfl) hV hsrc hx hDs
   have hg:s.get (.h b)=some (.cells kk cs):=by simp[St.get,hbc]
   have hbl:=(List.getElem?_eq_some_iff.1 hbc).1
   rcases ha with ha | ⟨rfl,ha⟩
   ·omega
   have RV:=hD (.h b) (by simp)
   have hp:=hp.resolve_left (by omega)
   obtain⟨w',r1,r2,r3⟩:=mM (P:=P) hV hb RV hg hp (hV.Ig hb RV hg hp hext hkk) ho JW s2'
   obtain⟨o1,o2,o3⟩:=kC ho
   have hmul:len*sz+n*sz=(len+n)*sz:=by rw[Nat.add_mul]
   refine⟨rfl,_,w',M,Dl (P:=P) (w:=w) (ty:=ty) (a:=⟨p.c,p.base+off,none⟩) h0 h1 hu hn hxt hdd rfl s1' (by omega) (s3' w rfl) (by rw[addr_add,Nat.add_assoc];exact r1),⟨?_,?_,?_,fun _ _ h=>h⟩⟩
   ·rw[fC s b _ hbl]
    exact⟨fun k l hk hd=>r2.ok k l hk (hd.elim id fun⟨x1,x2⟩=>by
      simp only[fJ] at x2;split at x2
      ·rename_i e;subst e;rw[hg] at x1;cases x1
      ·simp[x1] at x2),fun k k' l l' b' a1 a2 a3 hd=>r2.own k k' l l' b' a1 a2 a3 (hd.elim id fun⟨x1,x2⟩=>by
      simp only[fJ] at x2;split at x2
      ·rename_i e;subst e;rw[hg] at x1;cases x1
      ·simp[x1] at x2),r2.inb⟩
   ·rw[fC s b _ hbl];exact r3
   ·exact .val (.slc hb (.inr hp) (by omega) (by omega) hcap hex (.inr ⟨rfl,ha⟩) hk)
  ·rename_i hfit
   split at h
   case isFalse=>simp at h
   rename_i hroom
   obtain⟨inf,z,hi,hiz,hzs,hb1,hb2,hb3,hb4⟩:=nO hroom
   have hsz:inf.size=sz:=by obtain⟨i',e1,e2⟩:=sQ hn;rw[hi] at e1;cases e1;exact e2
   have hmul:len*sz+n*sz=(len+n)*sz:=by rw[Nat.add_mul]
   split at h
   ·-- exact: always a new row
    rename_i Yh
    have hcc:=hex Yh
    simp only[Option.map_eq_some_iff,Prod.mk.injEq] at h
    obtain⟨⟨l0,old⟩,hself,rfl,rfl,rfl⟩:=h
    obtain⟨_,hl0,hold⟩:=Eu hself
    rw[hl0] at hself
    have hDs:∀ k∈aJ x,D k:=fun k hk=>hD k (List.mem_cons_of_mem _ hk)
    obtain⟨s1',s2',arr,s3',JW⟩:=src_ok (P:=P) (fun b=>rfl) hV hsrc hx hDs
    obtain⟨t1',t2',Oi,t3',t4'⟩:=src_ok (P:=P) (fun b=>rfl) hV hself hd0 (fun k hk=>hD k (by simp[aJ] at hk;simp[hk,bT]))
    obtain⟨newCap,c1,c1',c2⟩:=sV (P:=P) (w:=w) (ty:=ty) (base:=some a) (sLen:=len) (sCap:=cap') (old:=Oi) (new:=arr) h0 h1 hu hn hxt hdd hi hiz rfl s1' (by omega) hb1 hb2 hb3 t3' s3'
    obtain⟨M',hpost⟩:=FW (size:=sz) (len:=len+n) (rest:=Builtin.zeroCells z.cells (newCap-(len+n))) (e:=e) (pre:=Oi++arr) hV mO (by simpa using t4'.append JW) (fun c hc=>(List.mem_append.1 hc).elim (t2' c) (s2' c)) (by simp[hold,hlen,hmul]) c1 c1' (by rw[kJ,hzs,hsz])
    exact⟨rfl,_,_,M',c2,hpost⟩
   ·-- it grows
    split at h
    case h_2=>simp at h
    rename_i Yh _ k cs hbc
    split at h
    ·simp at h
    ·rename_i hcond
     simp only[not_or,ne_eq,Decidable.not_not] at hcond
     have hkc:=hk
     obtain⟨hk,rfl,rfl,hcl,hl0⟩:=hcond
     have hp:=hp.resolve_left (by omega)
     simp only[Option.some.injEq,Prod.mk.injEq] at h
     obtain⟨rfl,rfl,rfl⟩:=h
     have hDs:∀ k∈aJ x,D k:=fun k hk=>hD k (List.mem_cons_of_mem _ hk)
     have RV:=hD (.h b) (by simp)
     obtain⟨s1',s2',arr,s3',JW⟩:=src_ok (P:=P) (fun b=>rfl) hV hsrc hx hDs
     have hg:s.get (.h b)=some (.cells k cs):=by simp[St.get,hbc]
     have hnb:∀ (M':Mp) (w':World),Valid M' D (St.get { s with heap:=s.heap.set b (.cells k.more (cs++new)) }) w' →
       Valid M' (fun j=>D j∨(s.get j=none∧(St.get { s with heap:=s.heap.set b (.cells k.more (cs++new)) } j).isSome=true)) (St.get { s with heap:=s.heap.set b (.cells k.more (cs++new)) }) w':=by
      intro M' w' hv
      have aux:∀ j,(D j∨(s.get j=none∧(St.get { s with heap:=s.heap.set b (.cells k.more (cs++new)) } j).isSome=true))→D j:=by
       intro j hj
       rcases hj with hj | ⟨x1,x2⟩
       ·exact hj
       ·rw[fC s b _ (List.getElem?_eq_some_iff.1 hbc).1] at x2
        simp only[fJ] at x2;split at x2
        ·rename_i e;subst e;exact RV
        ·simp[x1] at x2
      exact⟨fun k l hk hd=>hv.ok k l hk (aux k hd),fun k k' l l' b' a1 a2 a3 hd=>hv.own k k' l l' b' a1 a2 a3 (aux k hd),hv.inb⟩
     have hlenA:arr.size=n*sz:=by have:=JW.len;simp at this;omega
     have Yi:p.base=0∧p.ext≤cs.length:=by
      obtain⟨blk,q1,q2⟩:=hV.ok _ _ hb RV
      rw[hg] at q1;cases q1
      exact⟨(q2.2.1 p hp).base hk,(q2.2.1 p hp).ext⟩
     by_cases hin:len+n≤cap'
     ·-- in place
      rcases ha with ha | ⟨rfl,ha⟩
      ·omega
      have UD:(len+n)*sz≤cap'*sz:=Nat.mul_le_mul_right sz hin
      have hone:∀ v∈arr.toList,v.oneCell'=true:=by
       intro v hv
       obtain⟨i,hi,rfl⟩:=List.mem_iff_getElem.1 hv
       have hi':i<new.length:=by simp at hi;omega
       exact wM (JW.at_ i new[i] arr.toList[i] (by simp[hi']) (by simp)) (s2' _ (List.getElem_mem hi'))
      obtain⟨blk,q1,q2⟩:=hV.ok _ _ hb RV
      rw[hg] at q1;cases q1
      obtain⟨row,rty,rfz,z1,z2,z3,z4⟩:=(q2.2.1 p hp).row
      have:=z3 hk;subst this
      have hrun:=run_storeCells_at (P:=P) p.c cs.length rty arr.toList 0 row w z1 (by simp;omega) hone
      obtain⟨M',q,v1,v2,v3,⟨ls',v4,v5⟩,v6,v7,v8⟩:=JV (P:=P) hV hb RV hbc hk hp (by omega) JW s2' UE true #[] #[] 0 (.inl ⟨rfl,by omega,hrun⟩)
      rcases v8 with⟨_,v9,v10⟩ | ⟨v9,_⟩
      ·refine⟨rfl,_,_,M',Dl (P:=P) (w:=w) (ty:=ty) (a:=⟨p.c,p.base+0,none⟩) h0 h1 hu hn hxt hdd rfl s1' hin (s3' w rfl) (by rw[addr_add,Yi.1];simp only[Nat.zero_add,Nat.add_zero];rw[←hcl];exact hrun),⟨hnb _ _ v1,v2,?_,v3⟩⟩
       refine .val (.slc v4 (.inr v5) (by omega) (Nat.le_refl _) hin (fun h=>by simp at h) (.inr ⟨by rw[v9,v7,Yi.1],by rw[v7,v10];omega⟩) hkc)
      ·cases v9
     ·-- a new row
      have hself:bg sz s.heap (.slc b 0 len len sz ex)=some (len,cs):=by
       have:sub cs 0 (len*sz)=some cs:=by
        unfold sub
        rw[if_pos (by omega)]
        simp[←hcl]
       simp[bg,gq,hbc,this,hcl,hl0]
      obtain⟨t1',t2',Oi,t3',t4'⟩:=src_ok (P:=P) (fun b=>rfl) hV hself hd0 (fun k hk=>by simp[aJ] at hk;rw[hk];exact RV)
      obtain⟨newCap,c1,c1',c2⟩:=sV (P:=P) (w:=w) (ty:=ty) (base:=some a) (sLen:=len) (sCap:=cap') (old:=Oi) (new:=arr) h0 h1 hu hn hxt hdd hi hiz rfl s1' (by omega) hb1 hb2 hb3 t3' s3'
      obtain⟨M',q,v1,v2,v3,⟨ls',v4,v5⟩,v6,v7,v8⟩:=JV (P:=P) hV hb RV hbc hk hp (by omega) JW s2' UE false Oi (Builtin.zeroCells z.cells (newCap-(len+n))) e (.inr ⟨rfl,t4',rfl⟩)
      rcases v8 with⟨v9,_⟩ | ⟨_,v10,v11⟩
      ·cases v9
      ·refine⟨rfl,_,_,M',c2,⟨hnb _ _ v1,v2,?_,v3⟩⟩
       refine .val (.slc v4 (.inr v5) (by omega) (Nat.le_refl _) c1 (fun h=>by simp at h) (.inr ⟨by rw[v10,v7],?_⟩) c1')
       rw[v11,v7]
       have hol:=t4'.len
       simp only[Array.length_toList] at hol
       have hm3:(len+n)*sz+(newCap-(len+n))*sz=newCap*sz:=by rw[←Nat.add_mul];congr 1;omega
       simp only[Array.size_append,kJ,hzs,hsz]
       omega
 ·simp at h
end
end Tw
namespace Tw
open Go
section
variable {P:Program} {M:Mp} {D:Key→Prop} {w:World} {s:St}
theorem Oj {cs l:List TV} {off n m:Nat} (h:sub cs off n=some l) (hm:m≤n):sub cs off m=some (l.take m):=by
 obtain⟨h1,h2,h3⟩:=jJ h
 unfold sub
 rw[if_pos (by omega),h2,List.take_take,Nat.min_eq_left hm]
theorem Ey {at_:Array TypeId} {ty:TypeId} {d x r:TV} {s1:St} {i:Inf} {dv xv:Value} (hV:Valid M D s.get w)
  (h:uh P at_ s d x=some (r,s1,i)) (hd:VR M.h d dv) (hx:VR M.h x xv) (hD:∀ k∈i.ts,D k) :
  s1.env=s.env∧BOk P M D s.get w (Builtin.copy_ at_ ty #[dv,xv]) r s1.get i.ws:=by
 unfold uh at h
 split at h
 case h_2=>simp at h
 rename_i st h0
 split at h
 case h_2=>simp at h
 rename_i e size hse
 obtain⟨hu,hn,hn0⟩:=iY hse
 split at h
 case h_2=>simp at h
 rename_i n new hsrc
 split at h
 case isFalse=>simp at h
 rename_i hlen
 obtain⟨hlen,hstr⟩:=hlen
 have first:∀ (m:Nat),m≤n→(∀ k∈aJ x,D k)→(Builtin.lenOf xv).run P w=.ok n w∧(∀ c∈new.take (m*size),bJ c=true) ∧
   ∃ arr,(Builtin.firstCells size m xv).run P w=.ok arr w∧aG M.h (new.take (m*size)) arr.toList:=by
  intro m hm hDs
  obtain⟨s1',s2',arr,s3',JW⟩:=src_ok (P:=P) (fun b=>rfl) hV hsrc hx hDs
  refine⟨s1',fun c hc=>s2' c (List.mem_of_mem_take hc),?_⟩
  have hmul:m*size≤n*size:=Nat.mul_le_mul_right size hm
  cases hx with
  | Ep=>
   unfold bg at hsrc
   simp at hsrc
   obtain⟨rfl,rfl⟩:=hsrc
   exact⟨#[],by simp[Builtin.firstCells],by simpa using aG.nil⟩
  | slc hb hp hext hle hcap hex ha hk=>
   rename_i b off len cap sz ex ls p a cap'
   unfold bg at hsrc
   simp only at hsrc
   split at hsrc
   case isFalse=>simp at hsrc
   rename_i hsz
   subst hsz
   split at hsrc
   ·rename_i hz
    simp at hsrc;obtain⟨rfl,rfl⟩:=hsrc
    have:m=0:=by omega
    subst this
    exact⟨#[],by simp[Builtin.firstCells,loadCells,loadCellsFrom],by simpa using aG.nil⟩
   split at hsrc
   case h_2=>simp at hsrc
   rename_i cs hbc
   simp only[Option.map_eq_some_iff,Prod.mk.injEq] at hsrc
   obtain⟨r',hr,rfl,rfl⟩:=hsrc
   obtain⟨k,hk,hlast⟩:=lD hbc
   obtain⟨blk,h1,h2⟩:=hV.ok _ _ hb (hDs _ (by simp[aJ]))
   simp only[St.get,hk,Option.some.injEq] at h1;subst h1
   by_cases h00:cap'=0
   ·have hl0:len=0:=by omega
    subst hl0
    have:m=0:=by omega
    subst this
    exact⟨#[],by simp[Builtin.firstCells,loadCells,loadCellsFrom],by simpa using aG.nil⟩
   ·rcases ha with ha | ⟨rfl,ha⟩
    ·exact absurd ha h00
    ·obtain⟨xs,x1,x2⟩:=lX (P:=P) (h2.2.1 p (hp.resolve_left h00)) (Oj hr hmul) (by have:=Nat.mul_le_mul_right sz hle;omega) (fun e=>by have:=hlast e;have:=(h2.2.1 p (hp.resolve_left h00)).ext;omega)
     exact⟨xs.toArray,by simp[Builtin.firstCells,x2 w rfl],x1⟩
  | str bs=>simp[isStr] at hstr
  | _=>simp[bg] at hsrc
 split at h
 ·simp at h;obtain⟨rfl,rfl,rfl⟩:=h
  cases hd
  obtain⟨f1,f2,arr,f3,f4⟩:=first 0 (Nat.zero_le _) hD
  have f5:=f4.len
  simp at f5
  exact⟨rfl,.int .i64 0,w,M,by simp[Builtin.copy_,h0,run_underlying hu,f1,aH hn,f3,goInt],.same hV (.val (.int _ _))⟩
 ·rename_i b off len cap sz ex
  split at h
  case isFalse=>simp at h
  rename_i hsz
  subst hsz
  have hd0:=hd
  cases hd with
  | slc hb hp hext hle hcap hex ha hk=>
  rename_i ls p a cap'
  split at h
  ·rename_i hm
   simp at h;obtain⟨rfl,rfl,rfl⟩:=h
   obtain⟨f1,f2,arr,f3,f4⟩:=first 0 (Nat.zero_le _) hD
   have f5:arr.toList=[]:=by
    have:=f4.len
    simp only[Nat.zero_mul,List.take_zero,List.length_nil] at this
    exact List.eq_nil_of_length_eq_zero this.symm
   refine⟨rfl,.int .i64 0,w,M,?_,.same hV (.val (.int _ _))⟩
   have e1:Nat.min n len=0:=hm
   simp[Builtin.copy_,h0,run_underlying hu,f1,aH hn,e1,f3,goInt,f5,storeCells]
  ·rename_i hm
   simp only[Option.map_eq_some_iff,Prod.mk.injEq] at h
   obtain⟨hp',hset,rfl,rfl,rfl⟩:=h
   obtain⟨kk,rU,cs,cs',hbc,hkk,ho,rfl⟩:=wR hset
   obtain⟨f1,f2,arr,f3,f4⟩:=first (min n len) (Nat.min_le_left _ _) (fun k hk=>hD k (List.mem_cons_of_mem _ hk))
   have hg:s.get (.h b)=some (.cells kk cs):=by simp[St.get,hbc]
   have hbl:=(List.getElem?_eq_some_iff.1 hbc).1
   rcases ha with ha | ⟨rfl,ha⟩
   ·omega
   obtain⟨w',r1,r2,r3⟩:=mM (P:=P) hV hb (hD (.h b) (by simp)) hg (hp.resolve_left (by omega)) (hV.Ig hb (hD (.h b) (by simp)) hg (hp.resolve_left (by omega)) hext hkk) ho f4 f2
   refine⟨rfl,.int .i64 (min n len:Nat),w',M,?_,⟨?_,?_,.val (.int _ _),fun _ _ h=>h⟩⟩
   ·have e1:Nat.min n len=min n len:=rfl
    simp[Builtin.copy_,h0,run_underlying hu,f1,aH hn,e1,f3,goInt,r1]
   ·rw[fC s b _ hbl]
    exact r2.widen (qN (by simp[hg]))
   ·rw[fC s b _ hbl];exact r3
 ·simp at h
end
end Tw
namespace Tw
open Go
section
variable {P:Program} {M:Mp} {D:Key→Prop} {w:World} {s:St} {N:Np}
theorem aQ {α β:Type} (x:Sem α) (f:α→Sem β):au P (x >>= f)=(au P x).bind fun a=>au P (f a):=by
 show au P (x.bind f)=_
 induction x with
 | pure a=>rfl
 | program k ih=>exact ih P
 | mark m k ih=>exact ih
 | _=>rfl
def wV (b:Nat→Bool) (L:List MapEntry) (i0:Nat):Option (Nat×Value)→Prop
 | none=>∀ i,i<L.length→b i=false
 | some (i,v)=>i0≤i∧b (i-i0)=true∧∃ x,L[i-i0]? = some x∧v=x.val
theorem wV.succ {b:Nat→Bool} {e:MapEntry} {L:List MapEntry} {i0:Nat} {r:Option (Nat×Value)} (hb:b 0=false) (h:wV (fun i=>b (i+1)) L (i0+1) r):wV b (e::L) i0 r:=by
 cases r with
 | none=>
  intro i hi
  cases i with
  | zero=>exact hb
  | succ i=>exact h i (by simpa using hi)
 | some r=>
  obtain⟨h1,h2,x,h3,h4⟩:=h
  have e1:r.1-i0=(r.1-(i0+1))+1:=by omega
  refine⟨by omega,by rw[e1];exact h2,x,by rw[e1];simpa using h3,h4⟩
theorem yh (kind:TypeDesc) (k:Value):∀ (L:List MapEntry) (i0:Nat) (b:Nat→Bool),(∀ i x,L[i]? = some x→Instr.sameNow kind k x.key=some (b i)) →
  ∃ r,Instr.findNow kind k L i0=some r∧wV b L i0 r
 | [],i0,b,_=>⟨none,rfl,fun i hi=>absurd hi (by simp)⟩
 | e::L,i0,b,h=>by
  have h0:=h 0 e rfl
  obtain⟨r,g1,g2⟩:=yh kind k L (i0+1) (fun i=>b (i+1)) fun i x hx=>h (i+1) x (by simpa using hx)
  simp only[Instr.findNow,h0]
  cases hb:b 0 with
  | true=>exact⟨_,rfl,Nat.le_refl _,by simpa using hb,e,by simp,rfl⟩
  | false=>exact⟨r,g1,g2.succ hb⟩
theorem oW (kt:TypeId) (k:Value):∀ (L:List MapEntry) (i0:Nat) (b:Nat→Bool),(∀ i x,L[i]? = some x→au P (Op.equal kt k x.key)=some (b i)) →
  ∃ r,(∀ w,(Instr.findAsking kt k L i0).run P w=.ok r w)∧wV b L i0 r
 | [],i0,b,_=>⟨none,fun w=>rfl,fun i hi=>absurd hi (by simp)⟩
 | e::L,i0,b,h=>by
  have h0:=fun w=>dU (h 0 e rfl) w
  obtain⟨r,g1,g2⟩:=oW kt k L (i0+1) (fun i=>b (i+1)) fun i x hx=>h (i+1) x (by simpa using hx)
  cases hb:b 0 with
  | true=>exact⟨some (i0,e.val),fun w=>by simp[Instr.findAsking,h0 w,hb],Nat.le_refl _,by simpa using hb,e,by simp,rfl⟩
  | false=>exact⟨r,fun w=>by simp[Instr.findAsking,h0 w,hb,g1 w],g2.succ hb⟩
theorem JX:∀ {l:List TV} {vs:List Value},oK l=some vs→∀ (i:Nat) (c:TV),l[i]? = some c→∃ v,vs[i]? = some v∧c.oJ=some v
 | [],vs,h,i,c,hc=>by simp at hc
 | a::l,vs,h,i,c,hc=>by
  simp only[oK] at h
  split at h
  ·rename_i v ws h1 h2
   cases h
   cases i with
   | zero=>simp at hc;subst hc;exact⟨v,rfl,h1⟩
   | succ i=>simpa using JX h2 i c (by simpa using hc)
  ·cases h
def FR (N:Np) (o:List Nat) (es:List (TV×TV)) (xs:Array MapEntry):Option Nat→Option (Nat×Value)→Prop
 | none,none=>True
 | some j,some (i,v)=>o[i]? = some j∧∃ e x,es[j]? = some e∧xs[i]? = some x∧v=x.val∧VR N e.1 x.key∧VR N e.2 x.val
 | _,_=>False
theorem find_ok {o:List Nat} {kt:TypeId} {k:Value} {es:List (TV×TV)} {r:Option Nat} {xs:Array MapEntry} (h:uj P kt k es=some r) (hx:rO N o es xs) :
  (∀ w,(Instr.checkKey xs.isEmpty 10000 kt k).run P w=.ok () w)∧∃ r',(∀ w,(Instr.findKey kt k xs.toList).run P w=.ok r' w) ∧
   FR N o es xs r r':=by
 unfold uj at h
 split at h
 case h_2=>simp at h
 rename_i ks hks
 split at h
 case h_2=>simp at h
 rename_i r0 hr
 split at h
 case isFalse=>simp at h
 rename_i Dn
 cases h
 generalize r0.map (·.1)=r at Dn ⊢
 have hl:es.isEmpty=xs.isEmpty:=by
  rw[Bool.eq_iff_iff];simp[List.isEmpty_iff,←List.length_eq_zero_iff,hx.len]
 have hkl:ks.length=es.length:=by
  have:∀ {l:List TV} {vs:List Value},oK l=some vs→vs.length=l.length:=by
   intro l
   induction l with
   | nil=>intro vs h;simp[oK] at h;subst h;rfl
   | cons a l ih=>
    intro vs h
    simp only[oK] at h
    split at h
    ·rename_i v ws h1 h2;cases h;simp[ih h2]
    ·cases h
  simpa using this hks
 rw[aQ] at hr
 cases hc:au P (Instr.checkKey es.isEmpty 10000 kt k) with
 | none=>simp[hc] at hr
 | some u=>
  refine⟨fun w=>by rw[←hl];exact dU hc w,?_⟩
  unfold FK at Dn
  split at Dn
  case h_2=>simp at Dn
  rename_i kind hd
  have hdr:=fun w=>dU hd w
  simp only[Bool.and_eq_true] at Dn
  obtain⟨hj,hs⟩:=Dn
  have hkey:∀ (i:Nat) (x:MapEntry),xs.toList[i]? = some x→∃ (j:Nat) (e:TV×TV),o[i]? = some j∧es[j]? = some e∧VR N e.1 x.key∧VR N e.2 x.val∧ks[j]? = some x.key:=by
   intro i x hi
   obtain⟨_,j,e,h1,h2,h3,h4⟩:=hx.at_ i x (by simpa using hi)
   obtain⟨v,g1,g2⟩:=JX hks j e.1 (by simp[h2])
   exact⟨j,e,h1,h2,h3,h4,by rw[g1,nK g2 h3]⟩
  let b:Nat→Bool:=fun i=>o[i]? == r
  have hb:∀ i j,o[i]? = some j→b i=(some j==r):=fun i j h=>by simp only[b,h]
  have fin:∀ r',wV b xs.toList 0 r'→FR N o es xs r r':=by
   intro r' hf
   cases r' with
   | none=>
    cases r with
    | none=>trivial
    | some j=>
     simp only[decide_eq_true_eq] at hj
     obtain⟨i,hi⟩:=List.mem_iff_getElem?.1 (hx.Vp j (by omega))
     have h1:=hf i (by have:=(List.getElem?_eq_some_iff.1 hi).1;have:=hx.ord;simp;omega)
     rw[hb i j hi] at h1
     simp at h1
   | some q=>
    obtain⟨i,v⟩:=q
    obtain⟨_,h1,x,h2,h3⟩:=hf
    simp only[Nat.sub_zero] at h1 h2
    obtain⟨j,e,g1,g2,g3,g4,_⟩:=hkey i x h2
    rw[hb i j g1] at h1
    simp only[beq_iff_eq] at h1
    subst h1
    exact⟨g1,e,x,g2,by simpa using h2,h3,g3,g4⟩
  have hall:∀ {p:Value×Nat→Bool},ks.zipIdx.all p=true→∀ j x,ks[j]? = some x→p (x,j)=true:=by
   intro p hp j x hjx
   exact List.all_eq_true.1 hp (x,j) (List.mem_zipIdx_iff_getElem?.2 (by simpa using hjx))
  unfold Instr.findKey
  rcases Bool.or_eq_true _ _▸hs with hs | hs
  ·obtain⟨r',g1,g2⟩:=yh kind k xs.toList 0 b fun i x hi=>by
    obtain⟨j,e,h1,_,_,_,h5⟩:=hkey i x hi
    have:=hall hs j _ h5
    simp only[beq_iff_eq] at this
    rw[this,hb i j h1]
   exact⟨r',fun w=>by simp[hdr w,g1],fin r' g2⟩
  ·by_cases h0:xs.toList=[]
   ·refine⟨none,fun w=>by simp[hdr w,h0,Instr.findNow],fin none (by rw[h0];intro i hi;simp at hi)⟩
   ·have hno:Instr.findNow kind k xs.toList 0=none:=by
     cases hL:xs.toList with
     | nil=>exact absurd hL h0
     | cons x L=>
      obtain⟨j,e,h1,_,_,_,h5⟩:=hkey 0 x (by rw[hL];rfl)
      have:=hall hs j _ h5
      simp only[Bool.and_eq_true,beq_iff_eq] at this
      simp only[Instr.findNow,this.1]
    obtain⟨r',g1,g2⟩:=oW (P:=P) kt k xs.toList 0 b fun i x hi=>by
     obtain⟨j,e,h1,_,_,_,h5⟩:=hkey i x hi
     have:=hall hs j _ h5
     simp only[Bool.and_eq_true,beq_iff_eq] at this
     rw[this.2,hb i j h1]
    exact⟨r',fun w=>by simp[hdr w,hno,g1 w],fin r' g2⟩
theorem Me {t:TypeId} {m k r:TV} {ok:Bool} {mv kv:Value} (hV:Valid M D s.get w) (h:jU P t s.heap m k ok=some r) (hm:VR M.h m mv) (hk:VR M.h k kv)
  (hD:∀ j∈(match m with | .map r=>[Key.h r] | _=>[]),D j):∃ z,VR M.h r z∧(Instr.lookup t mv kv ok).run P w=.ok z w:=by
 unfold jU at h
 split at h
 case h_2=>simp at h
 rename_i kt e kx hu hkx
 have:=nK hkx hk
 subst this
 simp only at h
 have main:∀ (o:List Nat) (es:List (TV×TV)) (xs:Array MapEntry),rO M.h o es xs→((mv=.map none∧xs=#[])∨∃ r1 ck,mv=.map (some r1)∧w.heap[r1]? = some (.map xs ck)) →
   (match uj P kt kv es with
   | some (some i)=>match es[i]? with
    | some (_,v)=>some (if ok then .bf [v,.bool true] else v)
    | none=>none
   | some none=>match P.info? e with
    | some i=>match i.zero with
     | some z=>(TV.FH z).map fun z=>if ok then .bf [z,.bool false] else z
     | none=>none
    | none=>none
   | none=>none)=some r→∃ z,VR M.h r z∧(Instr.lookup t mv kv ok).run P w=.ok z w:=by
  intro o es xs hx hrun h
  cases hf:uj P kt kv es with
  | none=>simp[hf] at h
  | some r0=>
   rw[hf] at h
   obtain⟨c1,r',c2,c3⟩:=find_ok hf hx
   cases r0 with
   | some j=>
    cases r' with
    | none=>exact c3.elim
    | some jv=>
     obtain⟨j',v⟩:=jv
     obtain⟨_,e',x',e1,e2,rfl,_,hv⟩:=c3
     simp only[e1,Option.some.injEq] at h
     subst h
     refine⟨if ok then .tuple #[x'.val,.bool true] else x'.val,?_,?_⟩
     ·cases ok
      ·exact hv
      ·exact .CU (.cons hv (.cons (.bool true) .nil))
     ·rcases hrun with⟨rfl,rfl⟩ | ⟨r1,ck,rfl,hmp⟩
      ·simp only[Instr.lookup,Sem.run_bind,run_underlying hu,Result.andThen_ok,c1 w,c2 w,Sem.run_pure]
      ·simp only[Instr.lookup,Sem.run_bind,run_underlying hu,Result.andThen_ok,getObj,Sem.run,hmp,c1 w,c2 w,Sem.run_pure]
   | none=>
    cases r' with
    | some jv=>exact c3.elim
    | none=>
     simp only at h
     split at h
     case h_2=>simp at h
     rename_i inf hi
     split at h
     case h_2=>simp at h
     rename_i z hz
     simp only[Option.map_eq_some_iff] at h
     obtain⟨zt,hzt,rfl⟩:=h
     have hv:VR M.h zt z:=.oU hzt
     refine⟨if ok then .tuple #[z,.bool false] else z,?_,?_⟩
     ·cases ok
      ·exact hv
      ·exact .CU (.cons hv (.cons (.bool false) .nil))
     ·have NZ:(zeroValue e).run P w=.ok z w:=by simp[zeroValue,dW hi,hz]
      rcases hrun with⟨rfl,rfl⟩ | ⟨r1,ck,rfl,hmp⟩
      ·simp only[Instr.lookup,Sem.run_bind,run_underlying hu,Result.andThen_ok,c1 w,c2 w,Sem.run_pure,NZ]
      ·simp only[Instr.lookup,Sem.run_bind,run_underlying hu,Result.andThen_ok,getObj,Sem.run,hmp,c1 w,c2 w,Sem.run_pure,NZ]
 cases hm with
 | Ie=>exact main [] [] #[] ⟨rfl,rfl,.nil,by simp,by simp⟩ (.inl ⟨rfl,rfl⟩) h
 | map hmm=>
  rename_i r0 r1 o1
  obtain⟨blk,b1,b2⟩:=hV.ok _ _ hmm (hD _ (by simp))
  simp only[St.get] at b1
  simp only[b1] at h
  cases blk with
  | map es=>
   obtain⟨xs,g1,g2⟩:=b2
   exact main o1 es xs g2 (.inr ⟨r1,xs.size,rfl,g1⟩) h
  | cells k cs=>exact b2.elim
  | loop=>simp at h
  | mark=>simp at h
  | oH=>simp at h
  | aV=>simp at h
 | _=>simp at h
end
end Tw
namespace Tw
open Go
section
variable {P:Program} {M:Mp} {D:Key→Prop} {w:World} {s:St}
theorem Dp (hV:Valid M D s.get w) {r r1:Nat} {o o':List Nat} {es es':List (TV×TV)} {xs xs':Array MapEntry} (hm:M (.h r)=some (.obj r1 o)) (hd:D (.h r)) (hb:s.heap[r]? = some (.map es))
  (hr:w.heap[r1]? = some (.map xs xs.size)) (ho:o <+: o') (hx:rO (aO M (.h r) (.obj r1 o')).h o' es' xs') :
  Valid (aO M (.h r) (.obj r1 o')) (fun j=>D j∨(s.get j=none∧(St.get { s with heap:=s.heap.set r (.map es') } j).isSome=true)) (St.get { s with heap:=s.heap.set r (.map es') }) { w with heap:=w.heap.setIfInBounds r1 (.map xs' xs'.size) } ∧
  Ext M s.get w (aO M (.h r) (.obj r1 o')) (St.get { s with heap:=s.heap.set r (.map es') }) { w with heap:=w.heap.setIfInBounds r1 (.map xs' xs'.size) } [.h r]:=by
 have hg:s.get (.h r)=some (.map es):=by simp[St.get,hb]
 have hbl:=(List.getElem?_eq_some_iff.1 hb).1
 have hle:jR M (aO M (.h r) (.obj r1 o')):=iJ fun l0 h0=>by rw[hm] at h0;cases h0;exact⟨rfl,ho⟩
 have hlt:r1<w.heap.size:=(Array.getElem?_eq_some_iff.1 hr).1
 have hframe:∀ c,c<w.heap.size→c∉ah (.obj r1 o')→(w.heap.setIfInBounds r1 (Obj.map xs' xs'.size))[c]? = w.heap[c]?:=fun c _ hc=>by
  rw[Array.getElem?_setIfInBounds,if_neg (by simp[ah] at hc;omega)]
 have hnew:∀ c∈ah (.obj r1 o'),(∃ l0,M (.h r)=some l0∧c∈ah l0)∨w.heap.size≤c:=fun c hc=>.inl ⟨_,hm,hc⟩
 constructor
 ·rw[fC s r _ hbl]
  refine Valid.widen ?_ (qN (by simp[hg]))
  exact hV.upd (D':=D) (w':={ w with heap:=w.heap.setIfInBounds r1 (.map xs' xs'.size) }) (.h r) (.map es') (.obj r1 o') (fun j hj=>.inl hj) (fun l0 h0=>by
   rw[hm] at h0;cases h0
   exact⟨hd,⟨rfl,ho⟩,fun b0 hb0=>by rw[hg] at hb0;cases hb0;rfl⟩) hframe hnew (by simp) ⟨xs',by simp[hlt],hx⟩
 ·rw[fC s r _ hbl]
  exact Ext.upd (M:=M) (C:=s.get) (w:=w) (w':={ w with heap:=w.heap.setIfInBounds r1 (.map xs' xs'.size) }) (.h r) (.map es') (.obj r1 o') [.h r] (.inl ⟨by simp[hg],rfl,by simp[hm],fun b0 hb0=>by rw[hg] at hb0;cases hb0;rfl⟩) hle hframe hnew (by simp) rfl rfl rfl
theorem Dq {t:TypeId} {m k v:TV} {s1:St} {i:Inf} {mv kv vv:Value} (hV:Valid M D s.get w) (h:iV P t s m k v=some (s1,i)) (hm:VR M.h m mv) (hk:VR M.h k kv) (hv:VR M.h v vv)
  (hD:∀ j∈i.ts,D j):s1.env=s.env∧∃ w' M',(Instr.mapUpdate t mv kv vv).run P w=.ok () w' ∧
   Valid M' (fun j=>D j∨(s.get j=none∧(s1.get j).isSome=true)) s1.get w'∧Ext M s.get w M' s1.get w' i.ws∧(∀ k l,M (.l k)=some l→M' (.l k)=some l):=by
 unfold iV at h
 split at h
 case h_2=>simp at h
 rename_i kt et kx r hu hkx
 have:=nK hkx hk
 subst this
 split at h
 case h_2=>simp at h
 rename_i es hes hck
 have c0:=dU hck w
 cases hm with
 | map hmm=>
 rename_i r1 o1
 have hloc:∀ o',∀ k l,M (.l k)=some l→aO M (.h r) (.obj r1 o') (.l k)=some l:=fun o' k l h=>by simp[aO,h]
 have go:D (.h r)→∃ xs,w.heap[r1]? = some (.map xs xs.size)∧rO M.h o1 es xs:=by
  intro hd
  obtain⟨blk,b1,b2⟩:=hV.ok _ _ hmm hd
  simp only[St.get,hes,Option.some.injEq] at b1;subst b1
  exact b2
 split at h
 ·-- an entry that is there
  rename_i j hf
  split at h
  case h_2=>simp at h
  rename_i old ov0 hj
  split at h
  case h_2=>simp at h
  rename_i ov hov
  split at h
  case isFalse=>simp at h
  rename_i hsame
  simp only[Option.some.injEq,Prod.mk.injEq] at h
  obtain⟨rfl,rfl⟩:=h
  have hd:=hD (.h r) (by simp[jO])
  obtain⟨xs,g1,g2⟩:=go hd
  obtain⟨c1,r',c2,c3⟩:=find_ok hf g2
  cases r' with
  | none=>exact c3.elim
  | some jv=>
   obtain⟨i,v'⟩:=jv
   obtain⟨q1,e',x',e1,e2,rfl,q2,_⟩:=c3
   rw[hj] at e1;cases e1
   have hold:x'.key=ov:=nK hov q2
   have hle:jR M (aO M (.h r) (.obj r1 o1)):=iJ fun l0 h0=>by
    have h0':M (.h r)=some l0:=h0
    have hmm':M (.h r)=some (.obj r1 o1):=hmm
    rw[hmm'] at h0';cases h0';exact .refl _
   have hx':rO (aO M (.h r) (.obj r1 o1)).h o1 (es.set j (k,v)) (xs.modify i fun e=>{ e with key:=kv,val:=vv }):=by
    have g3:=g2.mono hle.h
    refine⟨by simp[g2.len],by simp[g2.ord],g2.Vo,fun j' hj'=>g2.Vp j' (by simpa using hj'),fun a x h2=>?_⟩
    rw[Array.getElem?_modify] at h2
    by_cases ha:i=a
    ·subst ha
     rw[if_pos rfl,e2] at h2
     simp only[Option.map_some,Option.some.injEq] at h2;subst h2
     exact⟨(g2.at_ i x' e2).1,j,(k,v),q1,by rw[List.getElem?_set];simp[(List.getElem?_eq_some_iff.1 hj).1],hk.mono hle.h,hv.mono hle.h⟩
    ·rw[if_neg ha] at h2
     obtain⟨z1,j2,e2',z2,z3,z4,z5⟩:=g3.at_ a x h2
     refine⟨z1,j2,e2',z2,?_,z4,z5⟩
     have hne:j≠j2:=fun e=>by
      subst e
      have i1:=List.getElem?_eq_some_iff.1 q1
      have i2:=List.getElem?_eq_some_iff.1 z2
      exact ha ((List.getElem_inj g2.Vo (h₀:=i1.1) (h₁:=i2.1)).1 (i1.2.trans i2.2.symm))
     rw[List.getElem?_set,if_neg hne];exact z3
   obtain⟨v1,v2⟩:=Dp hV hmm hd hes g1 (List.prefix_refl _) hx'
   refine⟨rfl,_,_,?_,v1,v2,hloc _⟩
   simp only[Instr.mapUpdate,Sem.run_bind,run_underlying hu,Result.andThen_ok,getObj,Sem.run,g1]
   simp only[c0,c2 w,Result.andThen_ok,e2,Option.map_some,Option.getD_some,Instr.keyThatStays,hold,hsame,if_true,setObj]
   simp only[Sem.run_bind,Sem.run_pure,Result.andThen_ok,Sem.run,g1,Array.size_modify]
 ·-- a new entry
  rename_i hf
  simp only[Option.some.injEq,Prod.mk.injEq] at h
  obtain⟨rfl,rfl⟩:=h
  have hd:=hD (.h r) (by simp[jO])
  obtain⟨xs,g1,g2⟩:=go hd
  obtain⟨c1,r',c2,c3⟩:=find_ok hf g2
  cases r' with
  | some jv=>exact c3.elim
  | none=>
   have hpre:o1 <+: o1++[es.length]:=⟨_,rfl⟩
   have hle:jR M (aO M (.h r) (.obj r1 (o1++[es.length]))):=iJ fun l0 h0=>by
    have h0':M (.h r)=some l0:=h0
    have hmm':M (.h r)=some (.obj r1 o1):=hmm
    rw[hmm'] at h0';cases h0';exact⟨rfl,hpre⟩
   have hlt:∀ j∈o1,j<es.length:=fun j hj=>by
    obtain⟨i,hi⟩:=List.mem_iff_getElem?.1 hj
    have:i<xs.size:=by rw[←g2.ord];exact (List.getElem?_eq_some_iff.1 hi).1
    obtain⟨_,j',e,z1,z2,_⟩:=g2.at_ i _ (Array.getElem?_eq_getElem this)
    rw[hi] at z1;cases z1
    exact (List.getElem?_eq_some_iff.1 z2).1
   have hx':rO (aO M (.h r) (.obj r1 (o1++[es.length]))).h (o1++[es.length]) (es++[(k,v)]) (xs.push { key:=kv,val:=vv,born:=xs.size }):=by
    have g3:=g2.mono hle.h
    refine⟨by simp[g2.len],by simp[g2.ord],?_,fun j hj=>?_,fun a x h2=>?_⟩
    ·rw[List.nodup_append]
     exact⟨g2.Vo,by simp,fun x hx y hy=>by simp at hy;subst hy;have:=hlt x hx;omega⟩
    ·simp only[List.length_append,List.length_cons,List.length_nil] at hj
     rcases Nat.lt_or_ge j es.length with h1 | h1
     ·exact List.mem_append_left _ (g2.Vp j h1)
     ·exact List.mem_append_right _ (by simp;omega)
    ·rw[Array.getElem?_push] at h2
     by_cases ha:a=xs.size
     ·rw[if_pos ha] at h2
      simp only[Option.some.injEq] at h2
      subst h2
      exact⟨ha.symm,es.length,(k,v),by rw[List.getElem?_append_right (by rw[g2.ord];omega),g2.ord,ha];simp,by simp,hk.mono hle.h,hv.mono hle.h⟩
     ·rw[if_neg ha] at h2
      obtain⟨z1,j2,e2',z2,z3,z4,z5⟩:=g3.at_ a x h2
      exact⟨z1,j2,e2',by rw[List.getElem?_append_left (List.getElem?_eq_some_iff.1 z2).1];exact z2,by rw[List.getElem?_append_left (List.getElem?_eq_some_iff.1 z3).1];exact z3,z4,z5⟩
   obtain⟨v1,v2⟩:=Dp hV hmm hd hes g1 hpre hx'
   refine⟨rfl,_,_,?_,v1,v2,hloc _⟩
   simp only[Instr.mapUpdate,Sem.run_bind,run_underlying hu,Result.andThen_ok,getObj,Sem.run,g1]
   simp only[c0,c2 w,Result.andThen_ok,setObj,Sem.run,g1,Array.size_push]
 ·simp at h
end
end Tw
namespace Tw
open Go
def uq (M:Mp) (env:List (Nat×EV)) (a:Act) (X:Array Operand):Prop:=∀ x∈X,∀ e,xZ env x=some e→ER M e (a.eval x)
theorem fH.on {M:Mp} {env:List (Nat×EV)} {a:Act} (hE:fH M env a.tmps) (X:Array Operand):uq M env a X:=fun _ _ _ he=>Ob hE he
section
variable {M:Mp} {env:List (Nat×EV)} {a:Act} {X:Array Operand}
theorem iZ (hE:uq M env a X) {x:Operand} (hx:x∈X) {e:EV} (h:xZ env x=some e):ER M e (a.eval x):=hE x hx e h
theorem bZ (hE:uq M env a X) {x:Operand} (hx:x∈X) {v:TV} (h:jP env x=some v):VR M.h v (a.eval x):=by
 unfold jP at h
 split at h
 ·rename_i v' he
  simp at h;subst h
  exact (iZ hE hx he).jV
 ·simp at h
theorem uw (hE:uq M env a X):∀ {xs:List Operand} {vs:List TV},(∀ x∈xs,x∈X)→zL env xs=some vs→aG M.h vs (xs.map a.eval)
 | [],vs,_,h=>by simp[zL] at h;subst h;exact .nil
 | x::xs,vs,hx,h=>by
  simp only[zL] at h
  split at h
  ·rename_i v vs' h1 h2
   simp at h;subst h
   exact .cons (bZ hE (hx x (by simp)) h1) (uw hE (fun y hy=>hx y (by simp[hy])) h2)
  ·simp at h
theorem Ez (hE:uq M env a X):∀ {xs:List (Nat×Operand)} {vs:List (Nat×TV)},(∀ p∈xs,p.2∈X)→CP env xs=some vs →
  PR M.h vs (xs.map fun (i,x)=>(i,a.eval x))
 | [],vs,_,h=>by simp[CP] at h;subst h;exact .nil
 | (i,x)::xs,vs,hx,h=>by
  simp only[CP] at h
  split at h
  ·rename_i v vs' h1 h2
   simp at h;subst h
   exact .cons (bZ hE (hx (i,x) (by simp)) h1) (Ez hE (fun y hy=>hx y (by simp[hy])) h2)
  ·simp at h
theorem uy (hE:uq M env a X) {o:Option Operand} (hx:∀ x,o=some x→x∈X) {v:Option TV} (h:CQ env o=some v):OR M.h v (o.map a.eval):=by
 unfold CQ at h
 split at h
 ·simp at h;subst h;exact .none
 ·rename_i x
  split at h
  ·rename_i v' hv
   simp at h;subst h;exact .some (bZ hE (hx x rfl) hv)
  ·simp at h
end
section
variable {P:Program} {M:Mp} {D:Key→Prop} {w:World} {s:St}
def uz:Op→Bool
 | .call { callee:=.value _,.. }=>true
 | _=>false
theorem sS.fD {C:Ct} {c:Sem Next} {v:TV} {S:Sem Value} (hV:Valid M D C w) (hc:c=(do pure (.value (←S)))) (h:∃ z,VR M.h v z∧S.run P w=.ok z w):sS P M D C w c (.val v) C []:=by
 obtain⟨z,h1,h2⟩:=h
 exact .same hV (by rw[hc];simp[h2]) (.val h1)
theorem sS.FX {C:Ct} {c:Sem Next} {v:EV} {S:Sem Value} (hV:Valid M D C w) (hc:c=(do pure (.value (←S)))) (h:∃ z,ER M v z∧S.run P w=.ok z w):sS P M D C w c v C []:=by
 obtain⟨z,h1,h2⟩:=h
 exact .same hV (by rw[hc];simp[h2]) h1
theorem sS.Yj {C:Ct} {c:Sem Next} {v:TV} {S:Sem Value} {C1:Ct} {ws:List Key} (hc:c=(do pure (.value (←S)))) (h:BOk P M D C w S v C1 ws):sS P M D C w c (.val v) C1 ws:=by
 obtain⟨x,w',M',h1,h2⟩:=h
 exact⟨x,w',M',.inl (by rw[hc];simp[h1]),h2⟩
theorem sS.Yk {C:Ct} {c:Sem Next} {S:Sem Unit} {C1:Ct} {ws:List Key} (hc:c=(do S;pure .skip)) (h:∃ w' M',S.run P w=.ok () w'∧Valid M' (fun j=>D j∨(C j=none∧(C1 j).isSome=true)) C1 w'∧Ext M C w M' C1 w' ws∧(∀ k l,M (.l k)=some l→M' (.l k)=some l)):sS P M D C w c .undef C1 ws:=by
 obtain⟨w',M',h1,h2,h3,h4⟩:=h
 exact⟨Go.undef,w',M',.inr ⟨rfl,by rw[hc];simp[h1]⟩,⟨h2,h3,.undef,h4⟩⟩
theorem sS.a2f {C:Ct} {c:Sem Next} {S:Sem Unit} {C1:Ct} {ws:List Key} (hc:c=(do S;pure .skip)) (h:∃ w',S.run P w=.ok () w'∧Valid M (fun j=>D j∨(C j=none∧(C1 j).isSome=true)) C1 w'∧Ext M C w M C1 w' ws):sS P M D C w c .undef C1 ws:=by
 obtain⟨w',h1,h2,h3⟩:=h
 exact⟨Go.undef,w',M,.inr ⟨rfl,by rw[hc];simp[h1]⟩,⟨h2,h3,.undef,fun _ _ h=>h⟩⟩
theorem Iq {b:Builtin} {at_:Array TypeId} {t:TypeId} {cs:Array Bool} {az:List TV} {xs:List Value} {v:TV} {s1:St} {i:Inf} (hV:Valid M D s.get w) (mO:M (.h s.heap.length)=none)
  (h:iG P b at_ t s az=some (v,s1,i)) (hx:aG M.h az xs) (hD:∀ k∈i.ts,D k):s1.env=s.env∧sS P M D s.get w (builtin b at_ t cs xs.toArray) (.val v) s1.get i.ws:=by
 unfold iG at h
 split at h
 ·simp only[Option.map_eq_some_iff,Prod.mk.injEq] at h
  obtain⟨⟨v',i'⟩,h1,rfl,rfl,rfl⟩:=h
  obtain⟨x,xs',rfl,hx1,hx2⟩:=hx.cu
  have:=hx2.iI;subst this
  obtain⟨e1,e2⟩:=Il (t:=t) hV h1 hx1 hD
  refine⟨rfl,?_⟩
  simp only
  rw[e1]
  exact .fD hV rfl e2
 ·obtain⟨x,xs',rfl,hx1,hx2⟩:=hx.cu
  obtain⟨y,ys',rfl,hy1,hy2⟩:=hx2.cu
  have:=hy2.iI;subst this
  obtain⟨e1,e2⟩:=wU (ty:=t) hV mO h hx1 hy1 hD
  exact⟨e1,.Yj rfl e2⟩
 ·obtain⟨x,xs',rfl,hx1,hx2⟩:=hx.cu
  obtain⟨y,ys',rfl,hy1,hy2⟩:=hx2.cu
  have:=hy2.iI;subst this
  obtain⟨e1,e2⟩:=Ey (ty:=t) hV h hx1 hy1 hD
  exact⟨e1,.Yj rfl e2⟩
 ·simp only[Option.map_eq_some_iff,Prod.mk.injEq] at h
  obtain⟨v',h1,rfl,rfl,rfl⟩:=h
  exact⟨rfl,.fD hV rfl (mP h1 hx)⟩
 ·simp only[Option.map_eq_some_iff,Prod.mk.injEq] at h
  obtain⟨v',h1,rfl,rfl,rfl⟩:=h
  exact⟨rfl,.fD hV rfl (mP h1 hx)⟩
 ·simp at h
theorem Yl {call:ay} {site:Nat→Bool} {o:Oper} {a:Act} {v:EV} {s1:St} {i:Inf} (hV:Valid M D s.get w) (hE:uq M s.env a o.op.operands) (mO:M (.h s.heap.length)=none) (hnl:M (.l s.loc.length)=none)
  (h:iH P call site s o=some (v,s1,i)) (hc:uz o.op=false) (hD:∀ k∈i.ts,D k):s1.env=s.env∧sS P M D s.get w (execOp a.eval o) v s1.get i.ws:=by
 unfold iH at h
 unfold execOp
 split at h
 ·-- move
  rename_i x ho
  rw[ho]
  simp only[Option.map_eq_some_iff,Prod.mk.injEq] at h
  obtain⟨e,he,rfl,rfl,rfl⟩:=h
  exact⟨rfl,.same hV rfl (iZ hE (by simp[ho,Op.operands]) he)⟩
 ·rename_i x ho
  rw[ho]
  simp only[Option.map_eq_some_iff,Prod.mk.injEq] at h
  obtain⟨e,he,rfl,rfl,rfl⟩:=h
  exact⟨rfl,.same hV rfl (iZ hE (by simp[ho,Op.operands]) he)⟩
 ·-- pick
  rename_i c x y ho
  rw[ho]
  split at h
  ·rename_i t ht
   simp only[Option.map_eq_some_iff,Prod.mk.injEq] at h
   obtain⟨e,he,rfl,rfl,rfl⟩:=h
   have hb:=bZ hE (by simp[ho,Op.operands]) ht
   have hb':a.eval c=.bool t:=by cases hb':a.eval c<;>rw[hb'] at hb<;>cases hb;rfl
   have:=iZ hE (by cases t<;>simp[ho,Op.operands]) he
   refine⟨rfl,.same hV (x:=a.eval (if t then x else y)) ?_ this⟩
   simp only[Sem.run_bind,hb',asBool,Sem.run_pure,Result.andThen_ok]
   cases t<;>rfl
  ·simp at h
 ·-- alloc
  rename_i e ho
  rw[ho]
  simp only[Option.map_eq_some_iff] at h
  obtain⟨z,hz,h⟩:=h
  obtain⟨i',x,v',_,_,_,_,hz1,RD,NZ⟩:=kH hz
  simp only[Prod.mk.injEq] at h
  obtain⟨rfl,rfl,rfl⟩:=h
  obtain⟨M',hp⟩:=Oc hV mO hnl (site (o.dst.getD 0)) e (RD M.h) hz1 rfl
  refine⟨by unfold iD;split<;>rfl,_,_,M',.inl ?_,hp⟩
  simp[Instr.alloc,NZ w,newVar,newRow]
 ·-- box
  rename_i t x ho
  rw[ho]
  split at h
  ·rename_i v0 hv0
   split at h
   ·rename_i hone
    simp only[Option.some.injEq,Prod.mk.injEq] at h
    obtain⟨rfl,rfl,rfl⟩:=h
    obtain⟨M',hp⟩:=Oc hV mO hnl (site (o.dst.getD 0)) t (bZ hE (by simp[ho,Op.operands]) hv0).cells (yU hone) rfl
    refine⟨by unfold iD;split<;>rfl,_,_,M',.inl ?_,hp⟩
    simp[Instr.box,newVar,newRow]
   ·simp at h
  ·simp at h
 ·-- build
  rename_i t ps ho
  rw[ho]
  split at h
  ·rename_i qs hq
   simp only[Option.map_eq_some_iff,Prod.mk.injEq] at h
   obtain⟨v0,hb,rfl,rfl,rfl⟩:=h
   obtain⟨x,h1,h2⟩:=Oe hb (Ez hE (fun p hp=>by simp[ho,Op.operands];exact⟨p.1,by simpa using hp⟩) hq)
   refine⟨rfl,.fD hV rfl ⟨x,h1,?_⟩⟩
   have:=h2 w
   rwa [show (List.map (fun x=>(x.1,a.eval x.2)) ps.toList).toArray=ps.map (fun x=>(x.1,a.eval x.2)) from by apply Array.ext';simp] at this
  ·simp at h
 ·-- buildSlice
  rename_i t len ps ho
  rw[ho]
  split at h
  ·rename_i qs hq
   simp only[Option.map_eq_some_iff,Prod.mk.injEq] at h
   obtain⟨⟨v0,s0⟩,hb,rfl,rfl,rfl⟩:=h
   obtain⟨e1,x,w',M',h1,h2⟩:=lZ hV mO hb (Ez hE (fun p hp=>by simp[ho,Op.operands];exact⟨p.1,by simpa using hp⟩) hq)
   refine⟨e1,x,w',M',.inl ?_,h2⟩
   rw[show (List.map (fun x=>(x.1,a.eval x.2)) ps.toList).toArray=ps.map (fun x=>(x.1,a.eval x.2)) from by apply Array.ext';simp] at h1
   simp[h1]
  ·simp at h
 ·-- load
  rename_i t x ho
  rw[ho]
  split at h
  ·rename_i e he
   simp only[Option.map_eq_some_iff,Prod.mk.injEq] at h
   obtain⟨⟨v0,i0⟩,hl,rfl,rfl,rfl⟩:=h
   obtain⟨e1,e2⟩:=um hV hl (iZ hE (by simp[ho,Op.operands]) he) hD
   refine⟨rfl,?_⟩
   simp only
   rw[e1]
   exact .fD hV rfl e2
  ·simp at h
 ·-- store
  rename_i t x y ho
  rw[ho]
  split at h
  ·rename_i e v0 he hv0
   simp only[Option.map_eq_some_iff,Prod.mk.injEq] at h
   obtain⟨⟨s0,i0⟩,hl,rfl,rfl,rfl⟩:=h
   obtain⟨e1,w',e2,e3,e4,e5⟩:=Ij hV hl (iZ hE (by simp[ho,Op.operands]) he) (bZ hE (by simp[ho,Op.operands]) hv0) hD
   exact⟨e1,.a2f rfl ⟨w',e2,e3.widen e5,e4⟩⟩
  ·simp at h
 ·-- nilCheck
  rename_i x ho
  rw[ho]
  split at h
  ·rename_i k off he
   simp only[Option.some.injEq,Prod.mk.injEq] at h
   obtain⟨rfl,rfl,rfl⟩:=h
   have hx:=iZ hE (by simp[ho,Op.operands]) he
   refine⟨rfl,.same hV (x:=a.eval x) ?_ hx⟩
   cases hxe:a.eval x<;>rw[hxe] at hx<;>cases hx
   simp[hxe]
  ·rename_i b off lim he
   simp only[Option.some.injEq,Prod.mk.injEq] at h
   obtain⟨rfl,rfl,rfl⟩:=h
   have hx:=iZ hE (by simp[ho,Op.operands]) he
   refine⟨rfl,.same hV (x:=a.eval x) ?_ hx⟩
   have hx':=hx.jV
   cases hxe:a.eval x<;>rw[hxe] at hx'<;>cases hx'
   simp[hxe]
  ·rename_i f b c he
   simp only[Option.some.injEq,Prod.mk.injEq] at h
   obtain⟨rfl,rfl,rfl⟩:=h
   have hx:=iZ hE (by simp[ho,Op.operands]) he
   refine⟨rfl,.same hV (x:=a.eval x) ?_ hx⟩
   have hx':=hx.jV
   cases hxe:a.eval x<;>rw[hxe] at hx'<;>cases hx'
   simp[hxe]
  ·rename_i l he
   simp only[Option.some.injEq,Prod.mk.injEq] at h
   obtain⟨rfl,rfl,rfl⟩:=h
   have hx:=iZ hE (by simp[ho,Op.operands]) he
   refine⟨rfl,.same hV (x:=a.eval x) ?_ hx⟩
   have hx':=hx.jV
   cases hxe:a.eval x<;>rw[hxe] at hx'<;>cases hx'
   simp[hxe]
  ·simp at h
 ·-- binOp
  rename_i op t x y t' ho
  rw[ho]
  split at h
  ·rename_i u v0 hu hv
   simp only[Option.map_eq_some_iff,Prod.mk.injEq] at h
   obtain⟨r,hb,rfl,rfl,rfl⟩:=h
   exact⟨rfl,.fD hV rfl (Ik hb (bZ hE (by simp[ho,Op.operands]) hu) (bZ hE (by simp[ho,Op.operands]) hv))⟩
  ·simp at h
 ·-- unOp
  rename_i op t x ho
  rw[ho]
  split at h
  ·rename_i u hu
   simp only[Option.map_eq_some_iff,Prod.mk.injEq] at h
   obtain⟨r,hb,rfl,rfl,rfl⟩:=h
   exact⟨rfl,.fD hV rfl (dn hb (bZ hE (by simp[ho,Op.operands]) hu))⟩
  ·simp at h
 ·-- convert
  rename_i t t' x ho
  rw[ho]
  split at h
  ·rename_i u hu
   simp only[Option.map_eq_some_iff,Prod.mk.injEq] at h
   obtain⟨r,hb,rfl,rfl,rfl⟩:=h
   exact⟨rfl,.fD hV rfl (Et hb (bZ hE (by simp[ho,Op.operands]) hu))⟩
  ·simp at h
 ·-- makeFunc
  rename_i f az bs ho
  rw[ho]
  split at h
  ·rename_i us vs hu hv
   simp only[Option.some.injEq,Prod.mk.injEq] at h
   obtain⟨rfl,rfl,rfl⟩:=h
   have h1:=uw hE (fun x hx=>by simp[ho,Op.operands];exact .inl (by simpa using hx)) hu
   have h2:=uw hE (fun x hx=>by simp[ho,Op.operands];exact .inr (by simpa using hx)) hv
   refine⟨rfl,.fD hV rfl ⟨.func (.func f) (az.map a.eval) (bs.map a.eval),?_,rfl⟩⟩
   have:=VR.fn (f:=f) h1.len h1.at_ h2.len h2.at_
   rwa [show (List.map a.eval az.toList).toArray=az.map a.eval from by apply Array.ext';simp,show (List.map a.eval bs.toList).toArray=bs.map a.eval from by apply Array.ext';simp] at this
  ·simp at h
 ·-- makeMap
  rename_i t r ho
  rw[ho]
  have hget:s.get (.h s.heap.length)=none:=by simp[St.get]
  have hle:jR M (aO M (.h s.heap.length) (.obj w.heap.size [])):=iJ fun l0 h0=>by rw[mO] at h0;cases h0
  have hframe:∀ c,c<w.heap.size→c∉ah (.obj w.heap.size [])→(w.alloc (.map #[] 0)).heap[c]? = w.heap[c]?:=fun c hc _=>kG w _ c hc
  have hnew:∀ c∈ah (.obj w.heap.size []),(∃ l0,M (.h s.heap.length)=some l0∧c∈ah l0)∨w.heap.size≤c:=fun c hc=>.inr (by simp[ah] at hc;omega)
  have key:Post M D s.get w (.val (.map s.heap.length)) (St.get { s with heap:=s.heap++[.map []] }) [] (.map (some w.heap.size)) (w.alloc (.map #[] 0)) (aO M (.h s.heap.length) (.obj w.heap.size [])):=by
   refine⟨?_,?_,.val (.map (o:=[]) (by simp[Mp.h,aO])),iW mO⟩
   ·rw[eP]
    refine hV.upd _ _ _ (fun j hj=>?_) (fun l0 h0=>by rw[mO] at h0;cases h0) hframe hnew (by simp) ⟨#[],heap_alloc_new w _,rfl,rfl,.nil,by simp,by simp⟩
    rcases hj with hj | ⟨x1,x2⟩
    ·exact .inl hj
    ·right
     unfold fJ at x2
     split at x2
     ·assumption
     ·simp[x1] at x2
   ·rw[eP]
    exact Ext.upd _ _ _ [] (.inr ⟨hget,mO,rfl⟩) hle hframe hnew (by simp) rfl rfl rfl
  split at h
  ·rename_i _ hr
   simp only[Option.some.injEq,Prod.mk.injEq] at h
   obtain⟨rfl,rfl,rfl⟩:=h
   have:=uy hE (fun x hx=>by simp[ho,Op.operands,hx]) hr
   refine⟨rfl,_,_,_,.inl ?_,key⟩
   cases hrr:r.map a.eval with
   | none=>simp[hrr,Instr.makeMap]
   | some y=>rw[hrr] at this;cases this
  ·rename_i k n _ _ hr hu
   simp only[Option.some.injEq,Prod.mk.injEq] at h
   obtain⟨rfl,rfl,rfl⟩:=h
   have:=uy hE (fun x hx=>by simp[ho,Op.operands,hx]) hr
   refine⟨rfl,_,_,_,.inl ?_,key⟩
   cases hrr:r.map a.eval with
   | none=>rw[hrr] at this;cases this
   | some y=>
    rw[hrr] at this
    cases this with
    | some hy=>
     cases hy
     simp[hrr,Instr.makeMap,run_underlying hu,asInt,asIntOf]
  ·simp at h
 ·-- makeSlice
  rename_i t l c ho
  rw[ho]
  split at h
  ·rename_i u v0 hu hv
   simp only[Option.map_eq_some_iff,Prod.mk.injEq] at h
   obtain⟨⟨r,s0⟩,hb,rfl,rfl,rfl⟩:=h
   obtain⟨e1,z,w',M',e2,e3⟩:=nP hV mO hb (bZ hE (by simp[ho,Op.operands]) hu) (bZ hE (by simp[ho,Op.operands]) hv)
   exact⟨e1,z,w',M',.inl (by simp[e2]),e3⟩
  ·simp at h
 ·-- slice
  rename_i t x lo hi mx ho
  rw[ho]
  split at h
  ·rename_i e lo' hi' mx' he hlo hhi hmx
   have h1:=uy hE (fun x hx=>by simp[ho,Op.operands,hx]) hlo
   have h2:=uy hE (fun x hx=>by simp[ho,Op.operands,hx]) hhi
   have h3:=uy hE (fun x hx=>by simp[ho,Op.operands,hx]) hmx
   split at h
   ·simp only[Option.map_eq_some_iff,Prod.mk.injEq] at h
    obtain⟨r,hb,rfl,rfl,rfl⟩:=h
    exact⟨rfl,.fD hV rfl (oV hb (iZ hE (by simp[ho,Op.operands]) he) h1 h2 h3)⟩
   ·simp only[Option.map_eq_some_iff,Prod.mk.injEq] at h
    obtain⟨r,hb,rfl,rfl,rfl⟩:=h
    exact⟨rfl,.fD hV rfl (Ac hb (iZ hE (by simp[ho,Op.operands]) he).jV h1 h2 h3)⟩
   ·simp at h
  ·simp at h
 ·-- fieldAddr
  rename_i t x f ho
  rw[ho]
  split at h
  ·rename_i e n he hn
   simp only[Option.map_eq_some_iff,Prod.mk.injEq] at h
   obtain⟨r,hb,rfl,rfl,rfl⟩:=h
   exact⟨rfl,.FX hV rfl (Es hn hb (iZ hE (by simp[ho,Op.operands]) he))⟩
  ·simp at h
 ·-- field
  rename_i t x f ho
  rw[ho]
  split at h
  ·rename_i u hu
   simp only[Option.map_eq_some_iff,Prod.mk.injEq] at h
   obtain⟨r,hb,rfl,rfl,rfl⟩:=h
   exact⟨rfl,.fD hV rfl (A8 hb (bZ hE (by simp[ho,Op.operands]) hu))⟩
  ·simp at h
 ·-- indexAddr
  rename_i t x y ho
  rw[ho]
  split at h
  ·rename_i e u he hu
   simp only[Option.map_eq_some_iff,Prod.mk.injEq] at h
   obtain⟨r,hb,rfl,rfl,rfl⟩:=h
   exact⟨rfl,.FX hV rfl (nN hb (iZ hE (by simp[ho,Op.operands]) he) (bZ hE (by simp[ho,Op.operands]) hu))⟩
  ·simp at h
 ·-- index
  rename_i t x y ho
  rw[ho]
  split at h
  ·rename_i u v0 hu hv
   simp only[Option.map_eq_some_iff,Prod.mk.injEq] at h
   obtain⟨r,hb,rfl,rfl,rfl⟩:=h
   exact⟨rfl,.fD hV rfl (Aa hb (bZ hE (by simp[ho,Op.operands]) hu) (bZ hE (by simp[ho,Op.operands]) hv))⟩
  ·simp at h
 ·-- lookup
  rename_i t m k ok ho
  rw[ho]
  split at h
  ·rename_i u v0 hu hv
   simp only[Option.map_eq_some_iff,Prod.mk.injEq] at h
   obtain⟨r,hb,rfl,rfl,rfl⟩:=h
   exact⟨rfl,.fD hV rfl (Me hV hb (bZ hE (by simp[ho,Op.operands]) hu) (bZ hE (by simp[ho,Op.operands]) hv) hD)⟩
  ·simp at h
 ·-- mapUpdate
  rename_i t m k x ho
  rw[ho]
  split at h
  ·rename_i u v0 y hu hv hy
   simp only[Option.map_eq_some_iff,Prod.mk.injEq] at h
   obtain⟨⟨s0,i0⟩,hb,rfl,rfl,rfl⟩:=h
   obtain⟨e1,e2⟩:=Dq hV hb (bZ hE (by simp[ho,Op.operands]) hu) (bZ hE (by simp[ho,Op.operands]) hv) (bZ hE (by simp[ho,Op.operands]) hy) hD
   exact⟨e1,.Yk rfl e2⟩
  ·simp at h
 ·-- insert
  rename_i t m k x ho
  rw[ho]
  split at h
  ·rename_i u v0 y hu hv hy
   simp only[Option.map_eq_some_iff,Prod.mk.injEq] at h
   obtain⟨⟨s0,i0⟩,hb,rfl,rfl,rfl⟩:=h
   obtain⟨e1,e2⟩:=Dq hV hb (bZ hE (by simp[ho,Op.operands]) hu) (bZ hE (by simp[ho,Op.operands]) hv) (bZ hE (by simp[ho,Op.operands]) hy) hD
   exact⟨e1,.Yk rfl e2⟩
  ·simp at h
 ·-- extract
  rename_i x n ho
  rw[ho]
  split at h
  ·rename_i vs hvs
   simp only[Option.map_eq_some_iff,Prod.mk.injEq] at h
   obtain⟨r,hb,rfl,rfl,rfl⟩:=h
   have hx:=bZ hE (by simp[ho,Op.operands]) hvs
   refine⟨rfl,.fD hV rfl ?_⟩
   generalize a.eval x=xv at hx
   cases hx with
   | bf g1 g2=>
    obtain⟨y,y1,y2⟩:=(aG.mk g1 g2).get hb
    exact⟨y,y2,by simp[Instr.extract,y1]⟩
  ·simp at h
 ·-- call
  rename_i c ho
  rw[ho] at hc ⊢
  unfold y9 at h
  split at h
  ·rename_i b az hb has
   simp only[Option.map_eq_some_iff,Prod.mk.injEq] at h
   obtain⟨⟨v0,s0,i0⟩,hb',rfl,rfl,rfl⟩:=h
   obtain⟨e1,e2⟩:=Iq (cs:=c.args.map fun | .const _=>true | _=>false) hV mO hb' (uw hE (fun x hx=>by simp[ho,Op.operands,Call.operands,hb];simpa using hx) has) hD
   refine⟨e1,?_⟩
   obtain⟨x,w',M',r1,r2⟩:=e2
   refine⟨x,w',M',?_,r2⟩
   rw[show (List.map a.eval c.args.toList).toArray=c.args.map a.eval from by apply Array.ext';simp] at r1
   unfold Runs at r1 ⊢
   simp only[resolve,hb,Sem.run_bind,Sem.run_pure,Result.andThen_ok,invoke]
   exact r1
  ·rename_i f az hf has
   obtain⟨callee,args,ats⟩:=c
   simp only at hf
   subst hf
   simp[uz] at hc
  ·simp at h
 ·-- range
  rename_i t x ho
  rw[ho]
  split at h
  ·rename_i r k el hv hu
   split at h
   ·rename_i es hes
    simp only[Option.some.injEq,Prod.mk.injEq] at h
    obtain⟨rfl,rfl,rfl⟩:=h
    have hx:=bZ hE (by simp[ho,Op.operands]) hv
    refine⟨rfl,?_⟩
    generalize hxv:a.eval x=xv at hx
    cases hx with
    | map hm=>
    rename_i r1 o1
    obtain⟨blk,b1,b2⟩:=hV.ok _ _ hm (hD (.h r) (by simp[lu]))
    simp only[St.get,hes,Option.some.injEq] at b1;subst b1
    obtain⟨xs,g1,g2⟩:=b2
    have hget:s.get (.h s.heap.length)=none:=by simp[St.get]
    have hrl:r<s.heap.length:=(List.getElem?_eq_some_iff.1 hes).1
    have hle:jR M (aO M (.h s.heap.length) (.obj w.heap.size [])):=iJ fun l0 h0=>by rw[mO] at h0;cases h0
    have hframe:∀ c,c<w.heap.size→c∉ah (.obj w.heap.size [])→(w.alloc (.mapIter (some r1) xs.size #[] xs.size)).heap[c]? = w.heap[c]?:=fun c hc _=>kG w _ c hc
    have hnew:∀ c∈ah (.obj w.heap.size []),(∃ l0,M (.h s.heap.length)=some l0∧c∈ah l0)∨w.heap.size≤c:=fun c hc=>.inr (by simp[ah] at hc;omega)
    refine⟨.pointer (some ⟨w.heap.size,0,none⟩),w.alloc (.mapIter (some r1) xs.size #[] xs.size),aO M (.h s.heap.length) (.obj w.heap.size []),.inl ?_,?_,?_,.val (.iter (o:=[]) (by simp[Mp.h,aO])),iW mO⟩
    ·simp[hxv,Instr.range,run_underlying hu,getObj,Sem.run,g1,newObj]
    ·rw[eP]
     refine hV.upd _ _ _ (fun j hj=>?_) (fun l0 h0=>by rw[mO] at h0;cases h0) hframe hnew (by simp) ⟨r1,o1,#[],?_,?_,?_,rfl⟩
     ·rcases hj with hj | ⟨x1,x2⟩
      ·exact .inl hj
      ·right
       unfold fJ at x2
       split at x2
       ·assumption
       ·simp[x1] at x2
     ·have:(Key.h r)≠.h s.heap.length:=fun e=>by cases e;omega
      simp only[Mp.h,aO,if_neg this];exact hm
     ·rw[g2.len];exact heap_alloc_new w _
     ·rw[g2.len,g2.ord];exact Nat.le_refl _
    ·rw[eP]
     exact Ext.upd _ _ _ [] (.inr ⟨hget,mO,rfl⟩) hle hframe hnew (by simp) rfl rfl rfl
   ·simp at h
  ·simp at h
 ·-- entry
  rename_i x ho
  rw[ho]
  split at h
  ·rename_i b hv
   split at h
   ·rename_i r n i seen hb
    split at h
    ·rename_i es hes
     split at h
     case isFalse=>simp at h
     rename_i hn
     simp only[Option.map_eq_some_iff,Prod.mk.injEq] at h
     obtain⟨e,he,rfl,rfl,rfl⟩:=h
     have hx:=bZ hE (by simp[ho,Op.operands]) hv
     refine⟨rfl,.fD hV rfl ?_⟩
     generalize a.eval x=xv at hx
     cases hx with
     | iter hm=>
     rename_i b1 o1
     obtain⟨blk,c1,c2⟩:=hV.ok _ _ hm (hD (.h b) (by simp[bT]))
     simp only[St.get,hb,Option.some.injEq] at c1;subst c1
     obtain⟨r1,o,sa,d1,d2,d3,d4⟩:=c2
     obtain⟨blk,c1,c2⟩:=hV.ok (.h r) _ d1 (hD (.h r) (by simp[bT]))
     simp only[St.get,hes,Option.some.injEq] at c1;subst c1
     obtain⟨xs,g1,g2⟩:=c2
     have hne:sa.toList≠[]:=fun e=>by rw[e] at d4;simp at d4
     obtain⟨k,hk⟩:∃ k,sa.back? = some k∧o[k]? = some i:=by
      have h1:(sa.toList.map fun i=>o[i]?).getLast? = some (some i):=by rw[d4];simp
      rw[List.getLast?_map] at h1
      simp only[Option.map_eq_some_iff] at h1
      obtain⟨k,h2,h3⟩:=h1
      exact⟨k,by rw[←Array.getLast?_toList];exact h2,h3⟩
     have hk2:k<xs.size:=by rw[←g2.ord];exact (List.getElem?_eq_some_iff.1 hk.2).1
     obtain⟨q1,j,e',q2,q3,q4,q5⟩:=g2.at_ k _ (Array.getElem?_eq_getElem hk2)
     rw[hk.2] at q2;cases q2
     rw[he] at q3;cases q3
     refine⟨.tuple #[xs[k].key,xs[k].val],.CU (.cons q4 (.cons q5 .nil)),?_⟩
     have hf:xs.find? (·.born==k)=some xs[k]:=by
      rw[←Array.find?_toList]
      have:xs[k].born==k:=by simpa using q1
      rw[List.find?_eq_some_iff_getElem]
      refine⟨this,k,by simpa using hk2,by simp,fun j hj=>?_⟩
      have hj2:j<xs.size:=by omega
      have:=(g2.at_ j _ (Array.getElem?_eq_getElem hj2)).1
      simp only[Array.getElem_toList]
      rw[this];simp;omega
     have hc:xs.size=n:=by rw[←g2.len];exact hn
     simp only[Instr.entry,getObj,Sem.run_bind,Sem.run,d2,g1,Result.andThen_ok,hk.1,hc,bne_self_eq_false,Bool.false_eq_true,if_false,hf]
     rfl
    ·simp at h
   ·simp at h
  ·simp at h
 ·simp at h
end
end Tw
namespace Tw
open Go
abbrev fQ (h:List HB):Ct:=St.get ⟨[],[],h,[]⟩
def Mp.only (M:Mp):Mp
 | .h b=>M (.h b)
 | .l _=>none
abbrev iO (r:Option Nat):Fence:={ Fence.wide with round:=r }
def uD (R:Value→World→Prop):Ending→World→Prop
 | .returned v,w=>R v w
 | _,_=>False
def dL (M:Mp) (h:List HB) (w:World) (v:TV) (h':List HB) (ws:List Nat) (y:Value) (w':World):Prop:=
 ∃ M',Valid M' jW (fQ h') w'∧(∀ k,M' (.l k)=none)∧Ext M (fQ h) w M' (fQ h') w' (ws.map .h)∧VR M'.h v y
def yV (P:Program) (d:Deferred) (w:World) (R:Value→World→Prop):Prop:=
 ∃ f az,(invoke d.target d.args).run P w=.ok (.enter f az) w∧∀ n,CallsIn Fence.wide n P f az w (uD R)
def EC (P:Program) (d:Deferred) (w:World) (R:Value→World→Prop):Prop:=
 ∃ l f tmps ku body,(invoke d.target d.args).run P w=.ok (.round l f tmps ku body) w∧∀ n,RoundIn Fence.wide n P l f tmps ku body w (uD R)
def aj (P:Program) (call:ay):Prop:=
 ∀ fv args h v h' ws,call fv args h=some (v,h',ws)→∀ (M:Mp) (w:World) (x:Value) (xs:List Value),Valid M jW (fQ h) w→(∀ k,M (.l k)=none)→VR M.h fv x→aG M.h args xs →
  ∃ d,(∀ w,(Deferred.ofValue x xs.toArray).run P w=.ok d w)∧((yV P d w (dL M h w v h' ws)∧∃ f a b,fv=.fn f a b)∨(EC P d w (dL M h w v h' ws)∧∃ l,fv=.iF l))
theorem CallsIn.ex {n:Nat} {P:Program} {f:FuncId} {az:Array Value} {w:World} {R:Value→World→Prop} (h:CallsIn Fence.wide n P f az w (uD R)):∃ y w',R y w':=by
 obtain⟨e,w',fr,hR,_⟩:=h.2 [] (room_wide _)
 cases e with
 | returned v=>exact⟨v,w',hR⟩
 | panicked c=>exact hR.elim
 | outgrown=>exact hR.elim
theorem RoundIn.ex {n:Nat} {P:Program} {l:Nat} {f:FuncId} {tmps:Array Value} {ku body:Code} {w:World} {R:Value→World→Prop} (h:RoundIn Fence.wide n P l f tmps ku body w (uD R)):∃ y w',R y w':=by
 obtain⟨e,w',hR,_⟩:=h.2 default [] (room_wide _)
 cases e with
 | returned v=>exact⟨v,w',hR⟩
 | panicked c=>exact hR.elim
 | outgrown=>exact hR.elim
section
variable {P:Program} {call:ay}
theorem aj.ex (hC:aj P call) {fv:TV} {args:List TV} {h:List HB} {v:TV} {h':List HB} {ws:List Nat} (hc:call fv args h=some (v,h',ws)) {M:Mp} {w:World} {x:Value} {xs:List Value}
  (hV:Valid M jW (fQ h) w) (hl:∀ k,M (.l k)=none) (hx:VR M.h fv x) (hxs:aG M.h args xs):∃ y w',dL M h w v h' ws y w':=by
 obtain⟨d,_,h1 | h1⟩:=hC _ _ _ _ _ _ hc M w x xs hV hl hx hxs
 ·obtain⟨⟨f,az,_,h2⟩,_⟩:=h1
  exact CallsIn.ex (h2 0)
 ·obtain⟨⟨l,f,tmps,ku,body,_,h2⟩,_⟩:=h1
  exact RoundIn.ex (h2 0)
def UF (M' M:Mp):Mp
 | .h b=>M' (.h b)
 | .l j=>M (.l j)
theorem sW {M:Mp} {D:Key→Prop} {s:St} {w:World} (hV:Valid M D s.get w) (hh:∀ b l,M (.h b)=some l→D (.h b)):Valid M.only jW (fQ s.heap) w:=by
 refine⟨?_,?_,?_⟩
 ·intro k l hk _
  cases k with
  | l j=>cases hk
  | h b=>exact hV.ok (.h b) l hk (hh b l hk)
 ·intro k k' l l' b hne hk hk' _ hc hw
  cases k with
  | l j=>cases hk
  | h b=>
   cases k' with
   | l j=>cases hk'
   | h b'=>exact hV.own _ _ _ _ _ hne hk hk' (hh b l hk) hc hw
 ·intro k l hk
  cases k with
  | l j=>cases hk
  | h b=>exact hV.inb _ _ hk
theorem Du {M:Mp} {D:Key→Prop} {s:St} {w:World} (hV:Valid M D s.get w)
  (hloc:∀ j l,M (.l j)=some l→∀ k' l',Key.l j≠k'→M k'=some l'→∀ c∈ah l,c∉ah l')
  {v:TV} {h':List HB} {ws:List Nat} {y:Value} {w':World} (hr:dL M.only s.heap w v h' ws y w') :
  ∃ M',Post M D s.get w (.val v) (St.get { s with heap:=h' }) (ws.map .h) y w' M':=by
 obtain⟨M',hV',hl',hX,hy⟩:=hr
 have hcl:∀ (b j:Nat) (l l':Lc),M' (.h b)=some l→M (.l j)=some l'→∀ c∈ah l,c∉ah l':=by
  intro b j l l' hb hj c hc hc'
  have hlt:=hV.inb _ _ hj c hc'
  obtain⟨l0,h1,h2⟩:=hX.fresh _ _ hb c hc hlt
  exact hloc j l' hj (.h b) l0 (by simp) h1 c hc' h2
 refine⟨UF M' M,⟨⟨?_,?_,?_⟩,?_,.val hy,fun _ _ h=>h⟩⟩
 ·intro k l hk hd
  cases k with
  | h b=>exact hV'.ok (.h b) l hk trivial
  | l j=>
   rcases hd with hd | ⟨h1,h2⟩
   ·obtain⟨b0,h1,h2⟩:=hV.ok (.l j) l hk hd
    refine⟨b0,h1,h2.mono (N:=M.h) (N':=(UF M' M).h) (hX.wL.h) fun c hc=>?_⟩
    refine hX.frame c (hV.inb _ _ hk c hc) fun k' hk' l' hl' hcl'=>?_
    obtain⟨b',_,rfl⟩:=List.mem_map.1 hk'
    exact hloc j l hk (.h b') l' (by simp) hl' c hc hcl'
   ·simp only[St.get] at h1 h2;rw[h1] at h2;cases h2
 ·intro k k' l l' b0 hne hk hk' hd hc hw
  cases k with
  | h b=>
   cases k' with
   | h b'=>exact hV'.own (.h b) (.h b') l l' b0 hne hk hk' trivial hc hw
   | l j=>exact hcl b j l l' hk hk'
  | l j=>
   cases k' with
   | h b'=>exact fun c hc hc'=>hcl b' j l' l hk' hk c hc' hc
   | l j'=>exact hloc j l hk (.l j') l' hne hk'
 ·intro k l hk c hc
  cases k with
  | h b=>exact hV'.inb (.h b) l hk c hc
  | l j=>exact Nat.lt_of_lt_of_le (hV.inb (.l j) l hk c hc) hX.size
 ·exact
  {wL:=by
    intro k l hk
    cases k with
    | h b=>exact hX.wL (.h b) l hk
    | l j=>exact⟨l,hk,.refl l⟩
   frame:=fun c hc hf=>hX.frame c hc fun k hk l hl=>by
    obtain⟨b',_,rfl⟩:=List.mem_map.1 hk
    exact hf _ hk l hl
   keep:=fun k hk hn=>by
    cases k with
    | h b=>exact hX.keep (.h b) hk hn
    | l j=>rfl
   fK:=fun k hk hn=>by
    cases k with
    | h b=>exact hX.fK (.h b) hk hn
    | l j=>rfl
   fresh:=fun k l hk c hc hlt=>by
    cases k with
    | h b=>exact hX.fresh (.h b) l hk c hc hlt
    | l j=>exact⟨l,hk,hc⟩
   size:=hX.size
   has:=fun k hk=>by
    cases k with
    | h b=>exact hX.has (.h b) hk
    | l j=>exact hk
   wsub:=fun k hk=>by
    obtain⟨b',_,rfl⟩:=List.mem_map.1 hk
    exact hX.wsub _ hk
   wrote:=fun k hk=>by
    obtain⟨b',_,rfl⟩:=List.mem_map.1 hk
    exact hX.wrote _ hk
   os:=hX.os
   output:=hX.output
   tape:=hX.tape }
theorem getEnv (s:St) (env:List (Nat×EV)) (ws:List Nat):St.get { s with env:=env,ws:=ws }=s.get:=by
 funext k;cases k<;>rfl
theorem Ir (s:St) (d:Option Nat) (v:EV):St.get (s.put d v)=s.get:=by
 funext k;cases d<;>cases k<;>rfl
theorem Valid.sub {M:Mp} {D D':Key→Prop} {C:Ct} {w:World} (hV:Valid M D C w) (h:∀ k,D' k→D k):Valid M D' C w:=
 ⟨fun k l hk hd=>hV.ok k l hk (h k hd),fun k k' l l' b a1 a2 a3 hd=>hV.own k k' l l' b a1 a2 a3 (h k hd),hV.inb⟩
theorem MC {site:Nat→Bool} {s:St} {o:Oper} {c:Call} (h:o.op=.defer c):iH P call site s o=none:=by
 simp[iH,h]
def StepT (P:Program) (call:ay) (site:Nat→Bool) (fl nt:Nat) (ops:Array Oper) (o:Oper) (s:St) (i:Inf) (s':St):Prop:=
 rQ nt o=true∧((oD ops s.env o=some true∧∃ v s1,iH P call site s o=some (v,s1,i)∧s'=St.put { s1 with ws:=bU fl i.ws s.ws } o.dst v) ∨
  (oD ops s.env o=some false∧i=aA∧s'=s.put o.dst .undef))
def touches (i:Inf) (k:Key):Prop:=k∈i.ts∨k∈i.ws∨(i.all=true∧k.NY=true)
def yX (M:Mp) (env:List (Nat×EV)) (tmps:Array Value) (ops:Array Oper) (o:Oper):Prop:=
 ∀ j want d,o.guard=some (j,want)→(ops[j]?).bind (·.dst)=some d→∀ e,aK d env=some e→ER M e (tmps.getD d Go.undef)
theorem yY {M:Mp} {env:List (Nat×EV)} {tmps:Array Value} {ops:Array Oper} {o:Oper} {b:Bool} (hG:yX M env tmps ops o) (h:oD ops env o=some b):Region.wanted o (yielded ops tmps)=b:=by
 unfold oD at h
 unfold Region.wanted
 split at h
 ·rename_i hg;rw[hg];simpa using h
 ·rename_i j want hg
  rw[hg]
  simp only
  split at h
  ·rename_i d hd
   split at h
   ·rename_i b0 he
    have h3:=(hG j want d hg hd _ he).jV
    have hb:tmps.getD d Go.undef=.bool b0:=by
     generalize tmps.getD d Go.undef=z at h3
     cases h3;rfl
    have:tmps[d]? = some (.bool b0):=by
     by_cases h1:d<tmps.size
     ·simp only[Array.getD,h1,dite_true] at hb
      rw[Array.getElem?_eq_getElem h1]
      exact congrArg some hb
     ·simp[Array.getD,h1,Go.undef] at hb
    simp only[yielded,hd,Option.bind_some,this]
    simpa using h
   ·rename_i he
    have h2:=hG j want d hg hd _ he
    have hb:tmps.getD d Go.undef=Go.undef:=by
     generalize tmps.getD d Go.undef=z at h2
     cases h2;rfl
    have:tmps[d]? = some Go.undef∨tmps[d]? = none:=by
     by_cases h1:d<tmps.size
     ·simp only[Array.getD,h1,dite_true] at hb
      rw[Array.getElem?_eq_getElem h1]
      exact .inl (congrArg some hb)
     ·right;simpa using h1
    simp at h;subst h
    rcases this with this | this<;>simp only[yielded,hd,Option.bind_some,this]<;>rfl
   ·simp at h
  ·simp at h
def yj (M:Mp) (D:Key→Prop) (s:St) (w:World) (o:Oper) (i:Inf) (s':St) (x:Value) (w':World):Prop:=
 ∃ v M',s'=St.put { s' with env:=s.env } o.dst v∧Post M D s.get w v s'.get i.ws x w' M'
theorem ED (s:St) (env:List (Nat×EV)) (d:Option Nat) (v:EV) (h:s.env=env):s.put d v=St.put { s.put d v with env:=env } d v:=by
 subst h
 cases d<;>rfl
theorem step_ok (hC:aj P call) {site:Nat→Bool} {fl nt:Nat} {ops:Array Oper} {o:Oper} {s s':St} {i:Inf} {M:Mp} {D:Key→Prop} {w:World} {a:Act}
  (hS:StepT P call site fl nt ops o s i s') (hV:Valid M D s.get w) (mO:M (.h s.heap.length)=none) (hnl:M (.l s.loc.length)=none)
  (hloc:∀ j l,M (.l j)=some l→∀ k' l',Key.l j≠k'→M k'=some l'→∀ c∈ah l,c∉ah l')
  (hE:uq M s.env a o.op.operands) (hG:yX M s.env a.tmps ops o) (hD:∀ k,touches i k→(M k).isSome=true→D k) :
  (∃ x w',yj M D s w o i s' x w') ∧
   ∀ (r:Option Nat) (n:Nat) (Q:Exit→Act→World→Prop) (idx:Nat) (K:Act→World→Prop),ops[idx]? = some o →
    (∀ x w',yj M D s w o i s' x w'→K (a.put o.dst x) w')→wpOpIn (iO r) n P ops Q idx K a w:=by
 obtain⟨_,⟨hw,v,s1,hop,rfl⟩ | ⟨hw,rfl,rfl⟩⟩:=hS
 ·have hwant:=yY hG hw
  by_cases hc:uz o.op=true
  ·-- a call
   have:∃ f args ats,o.op=.call { callee:=.value f,args:=args,argTypes:=ats }:=by
    unfold uz at hc
    split at hc
    ·rename_i f args ats ho
     exact⟨_,_,_,ho⟩
    ·cases hc
   obtain⟨f,args,ats,ho⟩:=this
   simp only[iH,ho,y9] at hop
   split at hop
   ·rename_i b az hb has
    cases hb
   ·rename_i f' az hf has
    injection hf with hf
    subst hf
    split at hop
    ·rename_i fv hfv
     split at hop
     ·rename_i v0 h' ws hcall
      simp only[Option.some.injEq,Prod.mk.injEq] at hop
      obtain⟨rfl,rfl,rfl⟩:=hop
      have hh:∀ b l,M (.h b)=some l→D (.h b):=fun b l hb=>hD _ (.inr (.inr ⟨rfl,rfl⟩)) (by simp[hb])
      have hVo:=sW hV hh
      have hfx:VR M.only.h fv (a.eval f):=bZ hE (by simp[ho,Op.operands,Call.operands]) hfv
      have hax:aG M.only.h az (args.toList.map a.eval):=uw hE (fun x hx=>by simp[ho,Op.operands,Call.operands];exact .inr (by simpa using hx)) has
      have conv:∀ y w',dL M.only s.heap w v0 h' ws y w'→yj M D s w o ⟨true,[],ws.map .h⟩ (St.put { s with heap:=h',ws:=bU fl (ws.map .h) s.ws } o.dst (.val v0)) y w':=by
       intro y w' hr
       obtain⟨M',hp⟩:=Du hV hloc hr
       refine⟨.val v0,M',ED _ _ _ _ rfl,?_⟩
       rw[Ir]
       exact hp
      obtain⟨d,hd,hcase⟩:=hC _ _ _ _ _ _ hcall M.only w (a.eval f) (args.toList.map a.eval) hVo (fun _=>rfl) hfx hax
      refine⟨?_,?_⟩
      ·obtain⟨y,w',hr⟩:=aj.ex hC hcall hVo (fun _=>rfl) hfx hax
       exact⟨y,w',conv y w' hr⟩
      ·intro r n Q idx K hidx hK
       unfold wpOpIn
       simp only[hidx,hwant,if_true]
       refine⟨fun _ _=>trivial,?_⟩
       have Ym:∀ nx,(invoke d.target d.args).run P w=.ok nx w→(o.semAt (iO r).round a.eval).run P w=.ok nx w:=by
        intro nx hnx
        rw[Oper.semAt_eq _ _ _ (fun c=>by rw[ho];simp)]
        unfold execOp
        rw[ho]
        have:=hd w
        rw[show (List.map a.eval args.toList).toArray=args.map a.eval from by apply Array.ext';simp] at this
        simp[resolve,this,hnx]
       rcases hcase with⟨⟨f1,as1,hinv,hcl⟩,_⟩ | ⟨⟨l1,f1,tm1,ag1,bd1,hinv,hrd⟩,_⟩
       ·rw[Ym _ hinv]
        refine⟨fun h=>by simp[Fence.wide] at h,CallsIn.mono (F:=iO r) (hcl (n-1)) fun e w' he=>?_⟩
        cases e with
        | returned y=>exact hK y w' (conv y w' he)
        | panicked c=>exact he.elim
        | outgrown=>exact he.elim
       ·rw[Ym _ hinv]
        refine⟨fun h=>by simp[Fence.wide] at h,RoundIn.mono (F:=iO r) (hrd (n-1)) fun e w' he=>?_⟩
        cases e with
        | returned y=>exact hK y w' (conv y w' he)
        | panicked c=>exact he.elim
        | outgrown=>exact he.elim
     ·simp at hop
    ·simp at hop
   ·simp at hop
  ·-- no call
   have hc':uz o.op=false:=by simpa using hc
   have hV':Valid M (fun k=>D k∨M k=none) s.get w:=⟨fun k l hk hd=>hV.ok k l hk (hd.resolve_right (by simp[hk])),fun k k' l l' b a1 a2 a3 hd=>hV.own k k' l l' b a1 a2 a3 (hd.resolve_right (by simp[a2])),hV.inb⟩
   obtain⟨he,x,w',M',hr,hp⟩:=Yl hV' hE mO hnl hop hc' (fun k hk=>by
    cases hm:M k with
    | none=>exact .inr rfl
    | some l=>exact .inl (hD k (.inl hk) (by simp[hm])))
   have hst:yj M D s w o i (St.put { s1 with ws:=bU fl i.ws s.ws } o.dst v) x w':=by
    refine⟨v,M',ED _ _ _ _ he,?_⟩
    have hg:St.get { s1 with ws:=bU fl i.ws s.ws }=s1.get:=getEnv s1 s1.env _
    rw[Ir,hg]
    exact⟨hp.val.sub fun k hk=>hk.imp .inl id,hp.ext,hp.er,hp.loc⟩
   refine⟨⟨x,w',hst⟩,fun r n Q idx K hidx hK=>?_⟩
   unfold wpOpIn
   simp only[hidx,hwant,if_true]
   refine⟨fun _ _=>trivial,?_⟩
   rw[Oper.semAt_eq _ _ _ (fun c ho=>by rw[MC ho] at hop;cases hop)]
   rcases hr with hr | ⟨rfl,hr⟩
   ·rw[hr];exact hK x w' hst
   ·rw[hr];exact hK _ w' hst
 ·have hwant:=yY hG hw
  have hst:yj M D s w o aA (s.put o.dst .undef) Go.undef w:=by
   refine⟨.undef,M,ED _ _ _ _ rfl,?_⟩
   rw[Ir]
   exact .same hV .undef
  refine⟨⟨_,_,hst⟩,fun r n Q idx K hidx hK=>?_⟩
  unfold wpOpIn
  simp only[hidx,hwant,Bool.false_eq_true,if_false]
  exact⟨fun _ _=>trivial,hK _ _ hst⟩
end
end Tw
namespace Tw
open Go
structure Base (M0:Mp) (h0:List HB) (w0:World):Prop where
 val:Valid M0 jW (fQ h0) w0
 loc:∀ k,M0 (.l k)=none
structure Rel (M0:Mp) (h0:List HB) (w0:World) (nt:Nat) (M:Mp) (s:St) (a:Act) (w:World):Prop where
 val:Valid M jW s.get w
 ext:Ext M0 (fQ h0) w0 M s.get w (s.ws.map .h)
 env:fH M s.env a.tmps
 size:nt≤a.tmps.size
 marks:∀ d∈a.defers,∃ k r,d=⟨.collected r,#[]⟩∧fQ h0 (.h k)=none∧(∃ o,M (.h k)=some (.obj r o))∧s.get (.h k)=some .mark∧w.heap[r]? = some (.deferred (some []))
 apart:a.defers.Pairwise (·≠·)
theorem Ol {fl b c:Nat} {ws:List Nat}:c∈ug fl b ws↔c∈ws∨(c=b∧b<fl):=by
 unfold ug
 split
 ·rename_i h
  split
  ·rename_i hc
   have hc:b∈ws:=by simpa using hc
   constructor
   ·exact .inl
   ·rintro (h1 | ⟨rfl,_⟩)
    ·exact h1
    ·exact hc
  ·simp only[List.mem_cons]
   constructor
   ·rintro (rfl | h1)
    ·exact .inr ⟨rfl,h⟩
    ·exact .inl h1
   ·rintro (h1 | ⟨rfl,_⟩)
    ·exact .inr h1
    ·exact .inl rfl
 ·rename_i h
  constructor
  ·exact .inl
  ·rintro (h1 | ⟨_,h1⟩)
   ·exact h1
   ·exact absurd h1 h
theorem gY {fl c:Nat}:∀ {ks:List Key} {ws:List Nat},c∈bU fl ks ws↔c∈ws∨(Key.h c∈ks∧c<fl)
 | [],ws=>by simp[bU]
 | .h b::ks,ws=>by
  rw[bU,gY,Ol]
  simp only[List.mem_cons,Key.h.injEq]
  constructor
  ·rintro ((h | ⟨rfl,h⟩) | ⟨h1,h2⟩)
   ·exact .inl h
   ·exact .inr ⟨.inl rfl,h⟩
   ·exact .inr ⟨.inr h1,h2⟩
  ·rintro (h | ⟨rfl | h1,h2⟩)
   ·exact .inl (.inl h)
   ·exact .inl (.inr ⟨rfl,h2⟩)
   ·exact .inr ⟨h1,h2⟩
 | .l b::ks,ws=>by
  rw[bU,gY]
  simp
theorem qO {t:Nat} {s:St} {d:Option Nat} {v:EV}:aK t (s.put d v).env=if d=some t then some v else aK t s.env:=by
 cases d with
 | none=>simp[St.put]
 | some d=>simp[St.put,aK]
theorem uF {a:Act} {d:Option Nat} {x:Value} {t:Nat}:(a.put d x).tmps.getD t Go.undef=if d=some t∧t<a.tmps.size then x else a.tmps.getD t Go.undef:=by
 cases d with
 | none=>simp[Act.put]
 | some d=>
  simp only[Act.put,Option.some.injEq]
  simp only[←Array.getElem?_toList,Array.getD_eq_getD_getElem?,Array.getElem?_setIfInBounds]
  by_cases h:d=t
  ·subst h
   by_cases h1:d<a.tmps.size
   ·simp[h1]
   ·simp[h1]
  ·simp[h]
theorem size_put {a:Act} {d:Option Nat} {x:Value}:(a.put d x).tmps.size=a.tmps.size:=by
 cases d<;>simp[Act.put]
theorem gy {a:Act} {d:Option Nat} {x:Value}:(a.put d x).defers=a.defers:=by
 cases d<;>rfl
section
variable {P:Program} {call:ay} {site:Nat→Bool} {fl nt:Nat} {ops:Array Oper} {o:Oper} {s s':St} {i:Inf}
theorem StepT.JY (h:StepT P call site fl nt ops o s i s'):s'.ws=bU fl i.ws s.ws:=by
 obtain⟨_,⟨_,v,s1,_,rfl⟩ | ⟨_,rfl,rfl⟩⟩:=h
 ·cases o.dst<;>rfl
 ·cases o.dst<;>rfl
theorem StepT.dst (h:StepT P call site fl nt ops o s i s') {d:Nat} (hd:o.dst=some d):d<nt:=by
 have:=h.1
 simp only[rQ,hd] at this
 simpa using this
variable {M0:Mp} {h0:List HB} {w0:World} {M:Mp} {a:Act} {w:World}
theorem Rel.loc (hR:Rel M0 h0 w0 nt M s a w):∀ j l,M (.l j)=some l→∀ k' l',Key.l j≠k'→M k'=some l'→∀ c∈ah l,c∉ah l':=by
 intro j l hj k' l' hne hk'
 obtain⟨b,h1,_⟩:=hR.val.ok _ _ hj trivial
 refine hR.val.own _ _ _ _ b hne hj hk' trivial h1 ?_
 simp only[St.get,Option.map_eq_some_iff] at h1
 obtain⟨_,_,rfl⟩:=h1
 rfl
theorem Rel.nh (hR:Rel M0 h0 w0 nt M s a w):M (.h s.heap.length)=none:=by
 cases h:M (.h s.heap.length) with
 | none=>rfl
 | some l=>have:=hR.val.has h;simp[St.get] at this
theorem Rel.nl (hR:Rel M0 h0 w0 nt M s a w):M (.l s.loc.length)=none:=by
 cases h:M (.l s.loc.length) with
 | none=>rfl
 | some l=>have:=hR.val.has h;simp[St.get] at this
theorem oZ {h:List HB} {k:Key} (hk:(fQ h k).isSome=true):∃ b,k=.h b∧b<h.length:=by
 cases k with
 | h b=>exact⟨b,rfl,by simpa[fQ,St.get] using hk⟩
 | l j=>simp[fQ,St.get] at hk
theorem Iu {h:List HB} {b:Nat} (hb:b<h.length):(fQ h (.h b)).isSome=true:=by simp[fQ,St.get,hb]
theorem Dv (hR:Rel M0 h0 w0 nt M s a w) {M':Mp} {C':Ct} {w':World} {ws:List Key} (hX:Ext M s.get w M' C' w' ws) :
  ∀ d∈a.defers,∃ k r,d=⟨.collected r,#[]⟩∧fQ h0 (.h k)=none∧(∃ o,M' (.h k)=some (.obj r o))∧C' (.h k)=some .mark∧w'.heap[r]? = some (.deferred (some [])):=by
 intro d hd
 obtain⟨k,r,h1,h2,⟨o,h3⟩,h4,h5⟩:=hR.marks d hd
 have hn:Key.h k∉ws:=fun hin=>by
  have:=(hX.wrote _ hin).2 _ h4
  cases this
 obtain⟨l',g1,g2⟩:=hX.wL _ _ h3
 obtain⟨o',hl⟩:∃ o',l'=.obj r o':=by
  cases l' with
  | cells ls=>exact g2.elim
  | obj r' o'=>cases g2.1;exact⟨o',rfl⟩
 refine⟨k,r,h1,h2,⟨o',by rw[g1,hl]⟩,by rw[hX.keep _ (by simp[h4]) hn,h4],?_⟩
 rw[hX.frame r (Array.getElem?_eq_some_iff.1 h5).1 fun k' hk' l0 hl0 hc=>?_,h5]
 obtain⟨b,hb,_⟩:=hR.val.ok _ _ hl0 trivial
 exact hR.val.own k' (.h k) l0 (.obj r o) b (fun e=>hn (e▸hk')) hl0 h3 trivial hb ((hX.wrote _ hk').2 b hb) r hc (by simp[ah])
theorem Ad (hB:Base M0 h0 w0) (hR:Rel M0 h0 w0 nt M s a w) (hS:StepT P call site h0.length nt ops o s i s') {x:Value} {w':World} (hst:yj M jW s w o i s' x w') :
  ∃ M',Rel M0 h0 w0 nt M' s' (a.put o.dst x) w':=by
 obtain⟨v,M',he,hp⟩:=hst
 refine⟨M',hp.val.sub fun k _=>.inl trivial,?_,?_,by rw[size_put];exact hR.size,by rw[gy];exact Dv hR hp.ext,by rw[gy];exact hR.apart⟩
 ·refine hR.ext.trans hp.ext (fun k l hk=>hB.val.has hk) (fun k hk hin=>?_) (fun k hk=>?_)
  ·obtain⟨b,rfl,hb⟩:=oZ hk
   rw[hS.JY]
   refine List.mem_map.2 ⟨b,gY.2 ?_,rfl⟩
   rcases hin with h1 | h1
   ·obtain⟨b',h2,h3⟩:=List.mem_map.1 h1
    cases h3;exact .inl h2
   ·exact .inr ⟨h1,hb⟩
  ·rw[hS.JY] at hk
   obtain⟨b,hb,rfl⟩:=List.mem_map.1 hk
   rcases gY.1 hb with h1 | ⟨h1,h2⟩
   ·have:Key.h b∈s.ws.map .h:=List.mem_map.2 ⟨b,h1,rfl⟩
    exact⟨hR.ext.wsub _ this,.inl this⟩
   ·exact⟨Iu h2,.inr h1⟩
 ·intro t e hl
  rw[he,qO] at hl
  rw[uF]
  by_cases hd:o.dst=some t
  ·rw[if_pos hd] at hl
   have:=hS.dst hd
   have:=hR.size
   rw[if_pos ⟨hd,by omega⟩]
   cases hl
   exact hp.er
  ·rw[if_neg hd] at hl
   rw[if_neg (fun h=>hd h.1)]
   exact (hR.env t e hl).mono hp.ext.wL hp.loc
theorem Rel.guard (hR:Rel M0 h0 w0 nt M s a w):yX M s.env a.tmps ops o:=fun _ _ d _ _ e he=>hR.env d e he
theorem uG (hC:aj P call) (hR:Rel M0 h0 w0 nt M s a w) (hS:StepT P call site h0.length nt ops o s i s') :
  (∃ x w',yj M jW s w o i s' x w') ∧
   ∀ (r:Option Nat) (n:Nat) (Q:Exit→Act→World→Prop) (idx:Nat) (K:Act→World→Prop),ops[idx]? = some o →
    (∀ x w',yj M jW s w o i s' x w'→K (a.put o.dst x) w')→wpOpIn (iO r) n P ops Q idx K a w:=
 step_ok hC hS hR.val hR.nh hR.nl hR.loc (hR.env.on _) hR.guard fun _ _ _=>trivial
theorem pq {o:Oper} {os:List Oper} {s s':St} {is:List Inf} (h:cZ P call site fl nt ops (o::os) s=some (s',is)) :
  ∃ i s1 is',StepT P call site fl nt ops o s i s1∧cZ P call site fl nt ops os s1=some (s',is')∧is=i::is':=by
 simp only[cZ] at h
 split at h
 ·simp at h
 ·rename_i hd
  have hd:rQ nt o=true:=by simpa using hd
  split at h
  ·rename_i hw
   split at h
   ·rename_i v s1 i hop
    split at h
    ·rename_i s2 is2 hr
     simp only[Option.some.injEq,Prod.mk.injEq] at h
     obtain⟨rfl,rfl⟩:=h
     exact⟨i,_,_,⟨hd,.inl ⟨hw,v,s1,hop,rfl⟩⟩,hr,rfl⟩
    ·simp at h
   ·simp at h
  ·rename_i hw
   split at h
   ·rename_i s2 is2 hr
    simp only[Option.some.injEq,Prod.mk.injEq] at h
    obtain⟨rfl,rfl⟩:=h
    exact⟨_,_,_,⟨hd,.inr ⟨hw,rfl,rfl⟩⟩,hr,rfl⟩
   ·simp at h
  ·simp at h
theorem seq_ok (hC:aj P call) (hB:Base M0 h0 w0) {r:Option Nat} {n:Nat} {Q:Exit→Act→World→Prop}:∀ (os:List Oper) (k:Nat) (s s':St) (is:List Inf) (M:Mp) (a:Act) (w:World),ops.toList.drop k=os →
  cZ P call site h0.length nt ops os s=some (s',is)→Rel M0 h0 w0 nt M s a w →
  (∀ M' a' w',Rel M0 h0 w0 nt M' s' a' w'→a'.defers=a.defers→Q .normal a' w')→wpOpsIn (iO r) n P ops Q (List.range' k os.length) a w
 | [],k,s,s',is,M,a,w,_,h,hR,hQ=>by
  simp only[cZ,Option.some.injEq,Prod.mk.injEq] at h
  obtain⟨rfl,rfl⟩:=h
  exact hQ M a w hR rfl
 | o::os,k,s,s',is,M,a,w,hd,h,hR,hQ=>by
  obtain⟨i,s1,is',hS,hr,rfl⟩:=pq h
  have ho:ops[k]? = some o:=by
   have:=congrArg (fun l=>l[0]?) hd
   simpa using this
  have hd':ops.toList.drop (k+1)=os:=by
   rw[←List.drop_drop,hd];rfl
  simp only[List.length_cons,List.range'_succ]
  rw[wpOpsIn_cons]
  refine (uG hC hR hS).2 r n Q k _ ho fun x w' hst=>?_
  obtain⟨M',hR'⟩:=Ad hB hR hS hst
  exact seq_ok hC hB os (k+1) s1 s' is' M' _ w' hd' hr hR' fun M2 a2 w2 h2 hdf=>hQ M2 a2 w2 h2 (hdf.trans gy)
theorem MF (hC:aj P call) (hB:Base M0 h0 w0) {r:Option Nat} {n:Nat} {Q:Exit→Act→World→Prop} {id:Nat} {s s':St} {is:List Inf} {M:Mp} {a:Act} {w:World}
  (h:cZ P call site h0.length nt ops ops.toList s=some (s',is)) (hR:Rel M0 h0 w0 nt M s a w)
  (hQ:∀ M' a' w',Rel M0 h0 w0 nt M' s' a' w'→a'.defers=a.defers→Q .normal a' w'):(Code.region id ops false).wpIn (iO r) n P Q a w:=by
 refine wpIn_region ?_
 have:=seq_ok (r:=r) (n:=n) (Q:=Q) hC hB ops.toList 0 s s' is M a w rfl h hR hQ
 simpa[List.range_eq_range'] using this
end
end Tw
namespace Tw
open Go
theorem Ae {i:Nat}:∀ {xs l:List Nat},i∈nI xs l→i∈xs∨i∈l
 | [],l,h=>.inr h
 | x::xs,l,h=>by
  simp only[nI] at h
  rcases Ae h with h1 | h1
  ·exact .inl (List.mem_cons_of_mem _ h1)
  ·split at h1
   ·exact .inr h1
   ·rcases List.mem_cons.1 h1 with rfl | h2
    ·exact .inl List.mem_cons_self
    ·exact .inr h2
theorem uH {acc:List (List Nat)} {i:Nat}:∀ {es:List Edge} {l:List Nat},
  i∈es.foldl (fun l e=>if Region.binds .any e then nI (e.on::acc.getD e.on []) l else l) l→i∈l∨∃ e∈es,Region.binds .any e=true∧(i=e.on∨i∈acc.getD e.on [])
 | [],l,h=>.inl h
 | e::es,l,h=>by
  simp only[List.foldl_cons] at h
  rcases uH h with h1 | ⟨e',h2,h3⟩
  ·split at h1
   ·rename_i hb
    rcases Ae h1 with h2 | h2
    ·refine .inr ⟨e,List.mem_cons_self,hb,?_⟩
     exact List.mem_cons.1 h2
    ·exact .inl h2
   ·exact .inl h1
  ·exact .inr ⟨e',List.mem_cons_of_mem _ h2,h3⟩
theorem Iw {acc:List (List Nat)} {o:Oper} {i:Nat} (h:i∈kE acc o):∃ e∈o.after,Region.binds .any e=true∧(i=e.on∨i∈acc.getD e.on []):=by
 rcases uH h with h1 | ⟨e,h2,h3⟩
 ·cases h1
 ·exact⟨e,by simpa using h2,h3⟩
theorem uI:∀ (os:List Oper) (acc:List (List Nat)),∃ t,mJ os acc=acc++t
 | [],acc=>⟨[],by simp[mJ]⟩
 | o::os,acc=>by
  obtain⟨t,ht⟩:=uI os (acc++[kE acc o])
  exact⟨kE acc o::t,by simp[mJ,ht]⟩
theorem Dw:∀ (os:List Oper) (acc:List (List Nat)) (k:Nat) (o:Oper),os[k]? = some o →
  (mJ os acc)[acc.length+k]? = some (kE ((mJ os acc).take (acc.length+k)) o)
 | [],acc,k,o,h=>by simp at h
 | o'::os,acc,0,o,h=>by
  simp at h;subst h
  obtain⟨t,ht⟩:=uI os (acc++[kE acc o'])
  simp[mJ,ht]
 | o'::os,acc,k+1,o,h=>by
  have:=Dw os (acc++[kE acc o']) k o (by simpa using h)
  simp only[mJ]
  simp only[List.length_append,List.length_cons,List.length_nil] at this
  rwa [show acc.length+(0+1)+k=acc.length+(k+1) by omega] at this
def Iy (ops:List Oper) (j:Nat):List Nat:=(mJ ops []).getD j []
theorem Om {ops:List Oper} {j i:Nat} {o:Oper} (hj:ops[j]? = some o) (h:i∈Iy ops j):∃ e∈o.after,Region.binds .any e=true∧(i=e.on∨(e.on<j∧i∈Iy ops e.on)):=by
 have:=Dw ops [] j o hj
 simp only[List.length_nil,Nat.zero_add] at this
 unfold Iy at h
 rw[List.getD_eq_getElem?_getD,this] at h
 simp only[Option.getD_some] at h
 obtain⟨e,h1,h2,h3⟩:=Iw h
 refine⟨e,h1,h2,h3.imp id fun h4=>?_⟩
 rw[List.getD_eq_getElem?_getD,List.getElem?_take] at h4
 split at h4
 ·rename_i hlt
  exact⟨hlt,by unfold Iy;rw[List.getD_eq_getElem?_getD];exact h4⟩
 ·simp at h4
def Waits (D:Nat→Prop) (o:Oper):Prop:=∀ e∈o.after,Region.binds .any e=true→D e.on
theorem JZ {ops:List Oper} {D:Nat→Prop} (hc:∀ j o,ops[j]? = some o→D j→Waits D o):∀ (j:Nat) (o:Oper),ops[j]? = some o→Waits D o→∀ i∈Iy ops j,D i:=by
 intro j
 induction j using Nat.strongRecOn with
 | _ j ih=>
  intro o ho hw i hi
  obtain⟨e,h1,h2,h3⟩:=Om ho hi
  rcases h3 with rfl | ⟨hlt,h4⟩
  ·exact hw e h1 h2
  ·have hd:=hw e h1 h2
   have hl:j<ops.length:=(List.getElem?_eq_some_iff.1 ho).1
   have hoe:ops[e.on]? = some ops[e.on]:=List.getElem?_eq_getElem (by omega)
   exact ih e.on hlt _ hoe (hc _ _ hoe hd) i h4
theorem rW {ops:List Oper} {i j:Nat} (hij:i<j) (hj:j<ops.length) (hn:i∉Iy ops j):(i,j)∈fE ops:=by
 simp only[fE,List.mem_flatMap,List.mem_range,List.mem_map,List.mem_filter]
 exact⟨j,hj,i,⟨hij,by simpa[Iy] using hn⟩,rfl⟩
theorem FY {ops:List Oper} (h:dZ ops=true) {i:Nat} {o:Oper} (ho:ops[i]? = some o) {e:Edge} (he:e∈o.after) (hb:Region.binds .any e=true):e.on<i:=by
 simp only[dZ,Bool.and_eq_true,List.all_eq_true] at h
 have:=h.1 (o,i) (by
  rw[List.mem_zipIdx_iff_getElem?]
  simpa using ho)
 simp only[Array.all_eq_true_iff_forall_mem] at this
 have:=this e he
 simpa[hb] using this
theorem uJ {ops:List Oper} (h:dZ ops=true) {i j:Nat} {a b:Oper} (hp:(i,j)∈fE ops) (ha:ops[i]? = some a) (hb:ops[j]? = some b):a.apart ops.toArray b=true∧b.apart ops.toArray a=true:=by
 simp only[dZ,Bool.and_eq_true,List.all_eq_true] at h
 have:=h.2 (i,j) hp
 simpa[ha,hb] using this
theorem Dx {lC:List Inf}:∀ {ps:List (Nat×Nat)},jQ lC ps=true→∀ {i j:Nat} {a b:Inf},(i,j)∈ps→lC[i]? = some a→lC[j]? = some b→calm a b=true
 | [],_,i,j,a,b,h,_,_=>by cases h
 | (x,y)::r,hd,i,j,a,b,h,ha,hb=>by
  simp only[jQ,Bool.and_eq_true] at hd
  rcases List.mem_cons.1 h with h1 | h1
  ·cases h1
   simpa[ha,hb] using hd.1
  ·exact Dx hd.2 h1 ha hb
section
variable {P:Program} {call:ay} {site:Nat→Bool} {s s1:St} {o:Oper} {v:EV} {i:Inf}
theorem Oo {t:TypeId} {a:EV} {r:TV×Inf} (h:loadT P t s a=some r):r.2.ws=[]:=by
 unfold loadT at h
 split at h
 ·split at h
  ·simp only[Option.map_eq_some_iff] at h
   obtain⟨_,_,rfl⟩:=h;rfl
  ·simp at h
 ·split at h
  ·split at h
   ·simp only[Option.map_eq_some_iff] at h
    obtain⟨_,_,rfl⟩:=h;rfl
   ·simp at h
  ·simp at h
 ·simp at h
theorem RX {at_:Array TypeId} {h0:List HB} {x:TV} {r:TV×Inf} (h:Ib P at_ h0 x=some r):r.2.ws=[]:=by
 unfold Ib at h
 repeat' (split at h)
 all_goals first
  | (simp at h;done)
  | (simp only[Option.some.injEq] at h;subst h;rfl)
theorem Yn (h:iH P call site s o=some (v,s1,i)) (hm:sO o.op=false):i.ws=[]:=by
 unfold iH at h
 split at h
 all_goals first
  | (simp at h;done)
  | (rename_i ho;rw[ho] at hm;simp[sO] at hm;done)
  | (simp only[Option.map_eq_some_iff,Prod.mk.injEq] at h;obtain⟨_,_,_,_,rfl⟩:=h;rfl)
  | (split at h<;>first | (simp at h;done) | (simp only[Option.map_eq_some_iff,Prod.mk.injEq,Option.some.injEq] at h;first | (obtain⟨_,_,_,_,rfl⟩:=h;rfl) | (obtain⟨_,_,rfl⟩:=h;rfl)))
  | skip
 ·split at h
  ·split at h
   ·simp only[Option.some.injEq,Prod.mk.injEq] at h
    obtain⟨_,_,rfl⟩:=h;rfl
   ·simp at h
  ·simp at h
 ·split at h
  ·simp only[Option.map_eq_some_iff,Prod.mk.injEq] at h
   obtain⟨r,hr,_,_,rfl⟩:=h
   exact Oo hr
  ·simp at h
 ·split at h
  ·split at h
   ·simp only[Option.map_eq_some_iff,Prod.mk.injEq] at h
    obtain⟨_,_,_,_,rfl⟩:=h;rfl
   ·simp only[Option.map_eq_some_iff,Prod.mk.injEq] at h
    obtain⟨_,_,_,_,rfl⟩:=h;rfl
   ·simp at h
  ·simp at h
 ·rename_i c ho
  rw[ho] at hm
  obtain⟨callee,args,ats⟩:=c
  unfold y9 at h
  simp only at h
  split at h
  ·rename_i b az
   simp only[Option.map_eq_some_iff,Prod.mk.injEq] at h
   obtain⟨⟨v0,s0,i0⟩,hb,_,_,rfl⟩:=h
   simp only[sO] at hm
   unfold iG at hb
   split at hb
   ·simp only[Option.map_eq_some_iff,Prod.mk.injEq] at hb
    obtain⟨r,hr,_,_,rfl⟩:=hb
    exact RX hr
   ·simp at hm
   ·simp at hm
   ·simp only[Option.map_eq_some_iff,Prod.mk.injEq] at hb
    obtain⟨r,hr,_,_,rfl⟩:=hb
    rfl
   ·simp only[Option.map_eq_some_iff,Prod.mk.injEq] at hb
    obtain⟨r,hr,_,_,rfl⟩:=hb
    rfl
   ·simp at hb
  ·simp[sO] at hm
  ·simp at h
 ·split at h
  ·split at h
   ·simp only[Option.some.injEq,Prod.mk.injEq] at h
    obtain⟨_,_,rfl⟩:=h;rfl
   ·simp at h
  ·simp at h
 ·split at h
  ·split at h
   ·split at h
    ·split at h
     ·simp only[Option.map_eq_some_iff,Prod.mk.injEq] at h
      obtain⟨_,_,_,_,rfl⟩:=h;rfl
     ·simp at h
    ·simp at h
   ·simp at h
  ·simp at h
theorem Yo (h:iH P call site s o=some (v,s1,i)) (hm:wI o.op=false):i.ts=[]∧i.ws=[]∧i.all=false:=by
 unfold iH at h
 split at h
 all_goals first
  | (simp at h;done)
  | (rename_i ho;rw[ho] at hm;simp[wI] at hm;done)
  | (simp only[Option.map_eq_some_iff,Prod.mk.injEq] at h;obtain⟨_,_,_,_,rfl⟩:=h;exact⟨rfl,rfl,rfl⟩)
  | (split at h<;>first | (simp at h;done) | (simp only[Option.map_eq_some_iff,Prod.mk.injEq,Option.some.injEq] at h;first | (obtain⟨_,_,_,_,rfl⟩:=h;exact⟨rfl,rfl,rfl⟩) | (obtain⟨_,_,rfl⟩:=h;exact⟨rfl,rfl,rfl⟩)))
  | skip
 ·split at h
  ·split at h
   ·simp only[Option.some.injEq,Prod.mk.injEq] at h
    obtain⟨_,_,rfl⟩:=h;exact⟨rfl,rfl,rfl⟩
   ·simp at h
  ·simp at h
 ·split at h
  ·split at h
   ·simp only[Option.map_eq_some_iff,Prod.mk.injEq] at h
    obtain⟨_,_,_,_,rfl⟩:=h;exact⟨rfl,rfl,rfl⟩
   ·simp only[Option.map_eq_some_iff,Prod.mk.injEq] at h
    obtain⟨_,_,_,_,rfl⟩:=h;exact⟨rfl,rfl,rfl⟩
   ·simp at h
  ·simp at h
 ·rename_i c ho
  rw[ho] at hm
  obtain⟨callee,args,ats⟩:=c
  unfold y9 at h
  simp only at h
  split at h
  ·rename_i b az
   simp only[Option.map_eq_some_iff,Prod.mk.injEq] at h
   obtain⟨⟨v0,s0,i0⟩,hb,_,_,rfl⟩:=h
   simp only[wI] at hm
   unfold iG at hb
   split at hb
   ·simp at hm
   ·simp at hm
   ·simp at hm
   ·simp only[Option.map_eq_some_iff,Prod.mk.injEq] at hb
    obtain⟨r,hr,_,_,rfl⟩:=hb
    exact⟨rfl,rfl,rfl⟩
   ·simp only[Option.map_eq_some_iff,Prod.mk.injEq] at hb
    obtain⟨r,hr,_,_,rfl⟩:=hb
    exact⟨rfl,rfl,rfl⟩
   ·simp at hb
  ·simp[wI] at hm
  ·simp at h
variable {fl nt:Nat} {ops:Array Oper} {s':St}
theorem StepT.w (h:StepT P call site fl nt ops o s i s') (hm:sO o.op=false):i.ws=[]:=by
 obtain⟨_,⟨_,v,s1,h1,_⟩ | ⟨_,rfl,_⟩⟩:=h
 ·exact Yn h1 hm
 ·rfl
theorem StepT.t (h:StepT P call site fl nt ops o s i s') (hm:wI o.op=false):i.ts=[]∧i.ws=[]∧i.all=false:=by
 obtain⟨_,⟨_,v,s1,h1,_⟩ | ⟨_,rfl,_⟩⟩:=h
 ·exact Yo h1 hm
 ·exact⟨rfl,rfl,rfl⟩
theorem Af {ws:List Key} {b:Inf} (h:zO ws b=true) {k:Key} (hk:k∈ws):¬touches b k:=by
 simp only[zO,List.all_eq_true] at h
 have:=h k hk
 simp only[Bool.and_eq_true,Bool.not_eq_true',Bool.and_eq_false_iff] at this
 obtain⟨⟨h1,h2⟩,h3⟩:=this
 rintro (h4 | h4 | ⟨h4,h5⟩)
 ·simp[h4] at h2
 ·simp[h4] at h3
 ·simp[h4,h5] at h1
theorem MG {lC:List Inf} {ol:List Oper} (hd:jQ lC (dK ol)=true) {x y:Nat} {a b:Oper} {ia ib:Inf} {sa sa' sb sb':St} (hp:(x,y)∈fE ol) (ha:ol[x]? = some a) (hb:ol[y]? = some b)
  (hia:lC[x]? = some ia) (hib:lC[y]? = some ib) (sta:StepT P call site fl nt ops a sa ia sa') (stb:StepT P call site fl nt ops b sb ib sb') :
  (∀ k∈ia.ws,¬touches ib k)∧(∀ k∈ib.ws,¬touches ia k):=by
 by_cases hh:((sO a.op&&wI b.op)||(wI a.op&&sO b.op))=true
 ·have hm:(x,y)∈dK ol:=by
   simp only[dK,List.mem_filter]
   refine⟨hp,?_⟩
   simpa[ha,hb] using hh
  have:=Dx hd hm hia hib
  simp only[calm,Bool.and_eq_true] at this
  exact⟨fun k hk=>Af this.1 hk,fun k hk=>Af this.2 hk⟩
 ·simp only[Bool.or_eq_true,Bool.and_eq_true,not_or,not_and,Bool.not_eq_true] at hh
  constructor
  ·intro k hk ht
   have h1:sO a.op=true:=by
    cases h2:sO a.op with
    | true=>rfl
    | false=>rw[sta.w h2] at hk;cases hk
   obtain⟨t1,t2,t3⟩:=stb.t (hh.1 h1)
   rcases ht with h | h | ⟨h,_⟩
   ·rw[t1] at h;cases h
   ·rw[t2] at h;cases h
   ·rw[t3] at h;cases h
  ·intro k hk ht
   have h1:sO b.op=true:=by
    cases h2:sO b.op with
    | true=>rfl
    | false=>rw[stb.w h2] at hk;cases hk
   have h2:wI a.op=false:=by
    cases h3:wI a.op with
    | false=>rfl
    | true=>have:=hh.2 h3;rw[h1] at this;cases this
   obtain⟨t1,t2,t3⟩:=sta.t h2
   rcases ht with h | h | ⟨h,_⟩
   ·rw[t1] at h;cases h
   ·rw[t2] at h;cases h
   ·rw[t3] at h;cases h
end
end Tw
namespace Tw
open Go
structure dX (P:Program) (call:ay) (site:Nat→Bool) (nt:Nat) (ops:Array Oper) (M0:Mp) (h0:List HB) (w0:World) (S:Nat→St) (I:Nat→Inf):Prop where
 base:Base M0 h0 w0
 step:∀ j o,ops[j]? = some o→StepT P call site h0.length nt ops o (S j) (I j) (S (j+1))
 ok:∀ j,j≤ops.size→∃ M a w,Rel M0 h0 w0 nt M (S j) a w
 Yp:∀ j o,ops[j]? = some o→∃ M w M' w' v,S (j+1)=St.put { S (j+1) with env:=(S j).env } o.dst v∧Ext M (S j).get w M' (S (j+1)).get w' (I j).ws
 stat:dZ ops.toList=true
 calm:∀ x y a b,(x,y)∈fE ops.toList→ops[x]? = some a→ops[y]? = some b→(∀ k∈(I x).ws,¬touches (I y) k)∧(∀ k∈(I y).ws,¬touches (I x) k)
theorem Ag {P:Program} {call:ay} {site:Nat→Bool} {fl nt:Nat} {ops:Array Oper}:∀ (os:List Oper) (s s':St) (is:List Inf),cZ P call site fl nt ops os s=some (s',is) →
  ∃ (S:Nat→St) (I:Nat→Inf),S 0=s∧S os.length=s'∧(∀ j o,os[j]? = some o→StepT P call site fl nt ops o (S j) (I j) (S (j+1)))∧∀ j,j<os.length→is[j]? = some (I j)
 | [],s,s',is,h=>by
  simp only[cZ,Option.some.injEq,Prod.mk.injEq] at h
  obtain⟨rfl,rfl⟩:=h
  exact⟨fun _=>s,fun _=>aA,rfl,rfl,by simp,by simp⟩
 | o::os,s,s',is,h=>by
  obtain⟨i,s1,is',hS,hr,rfl⟩:=pq h
  obtain⟨S,I,e1,e2,e3,e4⟩:=Ag os s1 s' is' hr
  refine⟨fun j=>match j with | 0=>s | j+1=>S j,fun j=>match j with | 0=>i | j+1=>I j,rfl,e2,?_,?_⟩
  ·intro j o' ho
   cases j with
   | zero=>simp at ho;subst ho;simp only[e1];exact hS
   | succ j=>exact e3 j o' (by simpa using ho)
  ·intro j hj
   cases j with
   | zero=>rfl
   | succ j=>simpa using e4 j (by simpa using hj)
theorem Oq {P:Program} {call:ay} {site:Nat→Bool} {nt:Nat} {ops:Array Oper} {M0:Mp} {h0:List HB} {w0:World} (hC:aj P call) (hB:Base M0 h0 w0) {s s':St} {is:List Inf} {M:Mp} {a:Act} {w:World}
  (h:cZ P call site h0.length nt ops ops.toList s=some (s',is)) (hR:Rel M0 h0 w0 nt M s a w) (hs:dZ ops.toList=true) (hd:jQ is (dK ops.toList)=true) :
  ∃ S I,S 0=s∧S ops.size=s'∧dX P call site nt ops M0 h0 w0 S I:=by
 obtain⟨S,I,e1,e2,e3,e4⟩:=Ag _ _ _ _ h
 have e3':∀ j o,ops[j]? = some o→StepT P call site h0.length nt ops o (S j) (I j) (S (j+1)):=fun j o ho=>e3 j o (by simpa using ho)
 have hok:∀ j,j≤ops.size→∃ M a w,Rel M0 h0 w0 nt M (S j) a w:=by
  intro j
  induction j with
  | zero=>intro _;exact⟨M,a,w,by rw[e1];exact hR⟩
  | succ j ih=>
   intro hj
   obtain⟨M1,a1,w1,hR1⟩:=ih (by omega)
   have ho:ops[j]? = some ops[j]:=Array.getElem?_eq_getElem (by omega)
   obtain⟨x,w',hst⟩:=(uG hC hR1 (e3' j _ ho)).1
   obtain⟨M',hR'⟩:=Ad hB hR1 (e3' j _ ho) hst
   exact⟨M',_,w',hR'⟩
 refine⟨S,I,e1,by simpa using e2,hB,e3',hok,?_,hs,?_⟩
 ·intro j o ho
  have hj:j<ops.size:=(Array.getElem?_eq_some_iff.1 ho).1
  obtain⟨M1,a1,w1,hR1⟩:=hok j (by omega)
  obtain⟨x,w',v,M',he,hp⟩:=(uG hC hR1 (e3' j _ ho)).1
  exact⟨M1,w1,M',w',v,he,hp.ext⟩
 ·intro x y a b hp ha hb
  have hx:x<ops.size:=(Array.getElem?_eq_some_iff.1 ha).1
  have hy:y<ops.size:=(Array.getElem?_eq_some_iff.1 hb).1
  exact MG hd hp (by simpa using ha) (by simpa using hb) (e4 x (by simpa using hx)) (e4 y (by simpa using hy)) (e3' x a ha) (e3' y b hb)
def kM (M:Mp) (C:Ct):Mp:=fun k=>if (C k).isSome=true then M k else none
theorem aX {M:Mp} {C:Ct} {k:Key} {l:Lc} (h:kM M C k=some l):(C k).isSome=true∧M k=some l:=by
 unfold kM at h
 split at h
 ·rename_i h1;exact⟨h1,h⟩
 ·cases h
theorem jE {M:Mp} {C:Ct} {k:Key} {l:Lc} (hc:(C k).isSome=true) (h:M k=some l):kM M C k=some l:=by simp[kM,hc,h]
theorem uK {M M':Mp} {C C':Ct} (hm:jR M M') (hc:∀ k,(C k).isSome=true→(C' k).isSome=true):jR (kM M C) (kM M' C'):=by
 intro k l h
 obtain⟨h1,h2⟩:=aX h
 obtain⟨l',h3,h4⟩:=hm k l h2
 exact⟨l',jE (hc k h1) h3,h4⟩
theorem Ko {M:Mp} {C:Ct}:jR (kM M C) M:=fun k l h=>⟨l,(aX h).2,.refl l⟩
def Good (W D:Nat→Prop) (τ:Nat):Prop:=(∀ j,D j→W j→j<τ)∧(∀ j,j<τ→W j→D j)∧(τ=0∨W (τ-1))
def Ot (D:Nat→Prop) (i j:Nat):Prop:=(j<i∧¬D j)∨(i<j∧D j)
theorem Good.le {W D:Nat→Prop} {τ i:Nat} (h:Good W D τ) (hi:¬D i) (hn:∀ j,W j→¬Ot D i j):τ≤i∧∀ j,τ≤j→j<i→¬W j:=by
 obtain⟨h1,h2,h3⟩:=h
 constructor
 ·refine Nat.le_of_not_lt fun hlt=>?_
  rcases h3 with rfl | h3
  ·omega
  ·have hd:=h2 (τ-1) (by omega) h3
   have hne:τ-1≠i:=fun e=>hi (e▸hd)
   exact hn _ h3 (.inr ⟨by omega,hd⟩)
 ·intro j hj hji hw
  exact hn j hw (.inl ⟨hji,fun hd=>by have:=h1 j hd hw;omega⟩)
theorem Good.next {W D:Nat→Prop} {i:Nat} (hw:W i) (hn:∀ j,W j→¬Ot D i j):Good W (fun j=>D j∨j=i) (i+1):=by
 refine⟨fun j hd hj=>?_,fun j hj hwj=>?_,.inr (by simpa using hw)⟩
 ·rcases hd with hd | rfl
  ·refine Nat.lt_of_not_le fun h=>hn j hj (.inr ⟨by omega,hd⟩)
  ·omega
 ·by_cases he:j=i
  ·exact .inr he
  ·refine .inl (Classical.byContradiction fun hd=>hn j hwj (.inl ⟨by omega,hd⟩))
theorem Good.other {W D:Nat→Prop} {τ i:Nat} (h:Good W D τ) (hw:¬W i):Good W (fun j=>D j∨j=i) τ:=
 ⟨fun j hd hj=>hd.elim (fun h1=>h.1 j h1 hj) (fun e=>absurd (e▸hj) hw),fun j hj hwj=>.inl (h.2.1 j hj hwj),h.2.2⟩
section
variable {P:Program} {call:ay} {site:Nat→Bool} {nt:Nat} {ops:Array Oper} {M0:Mp} {h0:List HB} {w0:World} {S:Nat→St} {I:Nat→Inf}
def Wk (ops:Array Oper) (S:Nat→St) (I:Nat→Inf) (k:Key) (j:Nat):Prop:=∃ o,ops[j]? = some o∧(k∈(I j).ws∨((S j).get k=none∧((S (j+1)).get k).isSome=true))
def Wt (ops:Array Oper) (t j:Nat):Prop:=∃ o,ops[j]? = some o∧o.dst=some t
theorem dX.has (hZ:dX P call site nt ops M0 h0 w0 S I) {j:Nat} {o:Oper} (ho:ops[j]? = some o) {k:Key} (hk:((S j).get k).isSome=true):((S (j+1)).get k).isSome=true:=by
 obtain⟨M,w,M',w',v,he,hx⟩:=hZ.Yp j o ho
 exact hx.has k hk
theorem dX.wsub (hZ:dX P call site nt ops M0 h0 w0 S I) {j:Nat} {o:Oper} (ho:ops[j]? = some o) {k:Key} (hk:k∈(I j).ws):((S j).get k).isSome=true:=by
 obtain⟨M,w,M',w',v,he,hx⟩:=hZ.Yp j o ho
 exact hx.wsub k hk
theorem dX.keep (hZ:dX P call site nt ops M0 h0 w0 S I) {j:Nat} {o:Oper} (ho:ops[j]? = some o) {k:Key} (hn:¬Wk ops S I k j):(S (j+1)).get k=(S j).get k:=by
 obtain⟨M,w,M',w',v,he,hx⟩:=hZ.Yp j o ho
 cases hk:(S j).get k with
 | some b=>
  rw[hx.keep k (by simp[hk]) (fun h=>hn ⟨o,ho,.inl h⟩),hk]
 | none=>
  cases hk':(S (j+1)).get k with
  | none=>rfl
  | some b=>exact absurd ⟨o,ho,.inr ⟨hk,by simp[hk']⟩⟩ hn
theorem dX.mono (hZ:dX P call site nt ops M0 h0 w0 S I) {k:Key}:∀ {i j:Nat},i≤j→j≤ops.size→((S i).get k).isSome=true→((S j).get k).isSome=true:=by
 intro i j hij
 induction hij with
 | refl=>exact fun _ h=>h
 | step hle ih=>
  rename_i j
  intro hj h
  exact hZ.has (o:=ops[j]'(by simp at hj;omega)) (Array.getElem?_eq_getElem _) (ih (by simp at hj;omega) h)
theorem dX.const (hZ:dX P call site nt ops M0 h0 w0 S I) {k:Key}:∀ {i j:Nat},i≤j→j≤ops.size→(∀ x,i≤x→x<j→¬Wk ops S I k x)→(S j).get k=(S i).get k:=by
 intro i j hij
 induction hij with
 | refl=>exact fun _ _=>rfl
 | step hle ih=>
  rename_i j
  intro hj h
  simp only[Nat.succ_eq_add_one] at *
  rw[hZ.keep (o:=ops[j]'(by omega)) (Array.getElem?_eq_getElem _) (h j hle (by omega))]
  exact ih (by omega) fun x h1 h2=>h x h1 (by omega)
theorem dX.RY (hZ:dX P call site nt ops M0 h0 w0 S I) {j:Nat} {o:Oper} (ho:ops[j]? = some o) {t:Nat} (hn:¬Wt ops t j):aK t (S (j+1)).env=aK t (S j).env:=by
 obtain⟨M,w,M',w',v,he,hx⟩:=hZ.Yp j o ho
 rw[he,qO,if_neg (fun h=>hn ⟨o,ho,h⟩)]
theorem dX.Ou (hZ:dX P call site nt ops M0 h0 w0 S I) {t:Nat}:∀ {i j:Nat},i≤j→j≤ops.size→(∀ x,i≤x→x<j→¬Wt ops t x)→aK t (S j).env=aK t (S i).env:=by
 intro i j hij
 induction hij with
 | refl=>exact fun _ _=>rfl
 | step hle ih=>
  rename_i j
  intro hj h
  simp only[Nat.succ_eq_add_one] at *
  rw[hZ.RY (o:=ops[j]'(by omega)) (Array.getElem?_eq_getElem _) (h j hle (by omega))]
  exact ih (by omega) fun x h1 h2=>h x h1 (by omega)
theorem dX.Iz (hZ:dX P call site nt ops M0 h0 w0 S I) {b:Nat}:∀ {i j:Nat},i≤j→j≤ops.size→b∈(S i).ws→b∈(S j).ws:=by
 intro i j hij
 induction hij with
 | refl=>exact fun _ h=>h
 | step hle ih=>
  rename_i j
  intro hj h
  simp only[Nat.succ_eq_add_one] at *
  rw[(hZ.step j (ops[j]'(by omega)) (Array.getElem?_eq_getElem _)).JY]
  exact gY.2 (.inl (ih (by omega) h))
theorem dX.UG (hZ:dX P call site nt ops M0 h0 w0 S I) {j:Nat} {o:Oper} (ho:ops[j]? = some o) {k:Key} (hk:k∈(I j).ws) (h0k:(fQ h0 k).isSome=true):k∈(S ops.size).ws.map .h:=by
 obtain⟨b,rfl,hb⟩:=oZ h0k
 have hj:j<ops.size:=(Array.getElem?_eq_some_iff.1 ho).1
 refine List.mem_map.2 ⟨b,hZ.Iz (i:=j+1) (by omega) (Nat.le_refl _) ?_,rfl⟩
 rw[(hZ.step j o ho).JY]
 exact gY.2 (.inr ⟨hk,hb⟩)
theorem dX.old (hZ:dX P call site nt ops M0 h0 w0 S I) {j:Nat} (hj:j≤ops.size) {k:Key} (h0k:(fQ h0 k).isSome=true):((S j).get k).isSome=true:=by
 obtain⟨M,a,w,hR⟩:=hZ.ok j hj
 exact hR.ext.has k h0k
theorem dX.mark (hZ:dX P call site nt ops M0 h0 w0 S I) {k:Key} (hk:(S 0).get k=some .mark):∀ j,j≤ops.size→(S j).get k=some .mark:=by
 intro j
 induction j with
 | zero=>exact fun _=>hk
 | succ j ih=>
  intro hj
  obtain⟨M,w,M',w',v,he,hx⟩:=hZ.Yp j ops[j] (Array.getElem?_eq_getElem (by omega))
  have h1:=ih (by omega)
  rw[hx.keep k (by simp[h1]) (fun hin=>by have:=(hx.wrote k hin).2 _ h1;cases this),h1]
structure Inv (nt:Nat) (ops:Array Oper) (M0:Mp) (h0:List HB) (w0:World) (S:Nat→St) (I:Nat→Inf) (D:Nat→Prop) (M:Mp) (a:Act) (w:World):Prop where
 closed:∀ j o,ops[j]? = some o→D j→Waits D o
 size:nt≤a.tmps.size
 mem:∀ k l,M k=some l→∃ τ,τ≤ops.size∧Good (Wk ops S I k) D τ∧∃ b,(S τ).get k=some b∧jm (kM M (S τ).get).h w b l ∧
  (wr b=true→∀ k' l',k≠k'→M k'=some l'→∀ c∈ah l,c∉ah l')
 inb:∀ k l,M k=some l→∀ c∈ah l,c<w.heap.size
 slot:∀ t,∃ τ,τ≤ops.size∧Good (Wt ops t) D τ∧∀ e,aK t (S τ).env=some e→ER (kM M (S τ).get) e (a.tmps.getD t Go.undef)
 Kq:∀ j o k,ops[j]? = some o→D j→k∈(I j).ws→(M k).isSome=true
 wL:jR M0 M
 frame:∀ c,c<w0.heap.size→(∀ k∈(S ops.size).ws.map Key.h,∀ l,M0 k=some l→c∉ah l)→w.heap[c]? = w0.heap[c]?
 fK:∀ k,((fQ h0 k).isSome=true∨(S ops.size).get k=none)→k∉(S ops.size).ws.map Key.h→M k=M0 k
 fresh:∀ k l,M k=some l→∀ c∈ah l,c<w0.heap.size→∃ l0,M0 k=some l0∧c∈ah l0
 hsize:w0.heap.size≤w.heap.size
 os:w.os=w0.os
 output:w.output=w0.output
 tape:w.tape=w0.tape
 marks:∀ d∈a.defers,∃ k r,d=⟨.collected r,#[]⟩∧fQ h0 (.h k)=none∧(∃ o,M (.h k)=some (.obj r o))∧(∀ j,j≤ops.size→(S j).get (.h k)=some .mark)∧w.heap[r]? = some (.deferred (some []))
 apart:a.defers.Pairwise (·≠·)
theorem inv_start (hZ:dX P call site nt ops M0 h0 w0 S I) {M:Mp} {a:Act} {w:World} (hR:Rel M0 h0 w0 nt M (S 0) a w):Inv nt ops M0 h0 w0 S I (fun _=>False) M a w where
 closed:=fun _ _ _ h=>h.elim
 size:=hR.size
 mem:=fun k l hk=>by
  obtain⟨b,h1,h2⟩:=hR.val.ok k l hk trivial
  have hm:jR M (kM M (S 0).get):=fun k l h=>⟨l,jE (hR.val.has h) h,.refl l⟩
  exact⟨0,by omega,⟨fun _ h=>h.elim,fun _ h=>by omega,.inl rfl⟩,b,h1,h2.mono hm.h fun _ _=>rfl,fun hw k' l' hne hk'=>hR.val.own k k' l l' b hne hk hk' trivial h1 hw⟩
 inb:=hR.val.inb
 slot:=fun t=>⟨0,by omega,⟨fun _ h=>h.elim,fun _ h=>by omega,.inl rfl⟩,fun e he=>by
  have hm:jR M (kM M (S 0).get):=fun k l h=>⟨l,jE (hR.val.has h) h,.refl l⟩
  exact (hR.env t e he).mono hm fun k l h=>jE (hR.val.has h) h⟩
 Kq:=fun _ _ _ _ h=>h.elim
 wL:=hR.ext.wL
 frame:=fun c hc hf=>hR.ext.frame c hc fun k hk l hl=>by
  obtain⟨b,hb,rfl⟩:=List.mem_map.1 hk
  exact hf _ (List.mem_map.2 ⟨b,hZ.Iz (Nat.zero_le _) (Nat.le_refl _) hb,rfl⟩) l hl
 fK:=fun k hk hn=>by
  refine hR.ext.fK k (hk.imp id fun h=>?_) (fun h=>hn ?_)
  ·cases hc:(S 0).get k with
   | none=>rfl
   | some b=>have:=hZ.mono (k:=k) (Nat.zero_le _) (Nat.le_refl _) (by simp[hc]);simp[h] at this
  ·obtain⟨b,hb,rfl⟩:=List.mem_map.1 h
   exact List.mem_map.2 ⟨b,hZ.Iz (Nat.zero_le _) (Nat.le_refl _) hb,rfl⟩
 fresh:=hR.ext.fresh
 hsize:=hR.ext.size
 os:=hR.ext.os
 output:=hR.ext.output
 tape:=hR.ext.tape
 marks:=fun d hd=>by
  obtain⟨k,r,h1,h2,h3,h4,h5⟩:=hR.marks d hd
  exact⟨k,r,h1,h2,h3,hZ.mark h4,h5⟩
 apart:=hR.apart
theorem Wk.lt {k:Key} {j:Nat} (h:Wk ops S I k j):j<ops.size:=by
 obtain⟨o,ho,_⟩:=h
 exact (Array.getElem?_eq_some_iff.1 ho).1
theorem Wt.lt {t j:Nat} (h:Wt ops t j):j<ops.size:=by
 obtain⟨o,ho,_⟩:=h
 exact (Array.getElem?_eq_some_iff.1 ho).1
theorem Kr (hZ:dX P call site nt ops M0 h0 w0 S I) {D:Nat→Prop} {M:Mp} {a:Act} {w:World} (h:Inv nt ops M0 h0 w0 S I D M a w) (hD:∀ j,j<ops.size→D j):Rel M0 h0 w0 nt M (S ops.size) a w:=by
 have key:∀ k l,M k=some l→∃ b,(S ops.size).get k=some b∧jm M.h w b l∧(wr b=true→∀ k' l',k≠k'→M k'=some l'→∀ c∈ah l,c∉ah l'):=by
  intro k l hk
  obtain⟨τ,ht,hg,b,h1,h2,h3⟩:=h.mem k l hk
  refine⟨b,?_,h2.mono Ko.h fun _ _=>rfl,h3⟩
  rw[hZ.const ht (Nat.le_refl _) fun x h4 h5 hw=>?_,h1]
  have:=hg.1 x (hD x h5) hw
  omega
 refine⟨⟨?_,?_,h.inb⟩,?_,?_,h.size,fun d hd=>by
  obtain⟨k,r,h1,h2,h3,h4,h5⟩:=h.marks d hd
  exact⟨k,r,h1,h2,h3,h4 _ (Nat.le_refl _),h5⟩,h.apart⟩
 ·intro k l hk _
  obtain⟨b,h1,h2,_⟩:=key k l hk
  exact⟨b,h1,h2⟩
 ·intro k k' l l' b hne hk hk' _ hb hw
  obtain⟨b',h1,_,h3⟩:=key k l hk
  rw[hb] at h1;cases h1
  exact h3 hw k' l' hne hk'
 ·obtain⟨M',a',w',hR'⟩:=hZ.ok ops.size (Nat.le_refl _)
  exact⟨h.wL,h.frame,hR'.ext.keep,h.fK,h.fresh,h.hsize,hR'.ext.has,hR'.ext.wsub,hR'.ext.wrote,h.os,h.output,h.tape⟩
 ·intro t e he
  obtain⟨τ,ht,hg,h1⟩:=h.slot t
  rw[hZ.Ou ht (Nat.le_refl _) fun x h4 h5 hw=>by have:=hg.1 x (hD x h5) hw;omega] at he
  exact (h1 e he).mono Ko fun k l hk=>(aX hk).2
theorem Inv.conf (hZ:dX P call site nt ops M0 h0 w0 S I) {D:Nat→Prop} {M:Mp} {a:Act} {w:World} (h:Inv nt ops M0 h0 w0 S I D M a w) {i j:Nat} {oi oj:Oper} (hi:ops[i]? = some oi) (hj:ops[j]? = some oj)
  (hnd:¬D i) (hw:Waits D oi) (hc:Ot D i j):(∀ k∈(I j).ws,¬touches (I i) k)∧(∀ k∈(I i).ws,¬touches (I j) k)∧oj.apart ops oi=true∧oi.apart ops oj=true:=by
 have hcl:∀ j o,ops.toList[j]? = some o→D j→Waits D o:=fun j o ho=>h.closed j o (by simpa using ho)
 have hi':ops.toList[i]? = some oi:=by simpa using hi
 have hj':ops.toList[j]? = some oj:=by simpa using hj
 have li:i<ops.toList.length:=(List.getElem?_eq_some_iff.1 hi').1
 have lj:j<ops.toList.length:=(List.getElem?_eq_some_iff.1 hj').1
 rcases hc with⟨hlt,hd⟩ | ⟨hlt,hd⟩
 ·have hp:=rW hlt li fun hin=>hd (JZ hcl i oi hi' hw j hin)
  have h1:=hZ.calm j i oj oi hp hj hi
  have h2:=uJ hZ.stat hp hj' hi'
  exact⟨h1.1,h1.2,h2.1,h2.2⟩
 ·have hp:=rW hlt lj fun hin=>hnd (JZ hcl j oj hj' (hcl j oj hj' hd) i hin)
  have h1:=hZ.calm i j oi oj hp hi hj
  have h2:=uJ hZ.stat hp hi' hj'
  exact⟨h1.2,h1.1,h2.2,h2.1⟩
end
end Tw
