/- Part 1 of a proof: closed runs of the given program, and the readings of its code that they use. -/
import Derived.RangeFuncLeaves
import Derived.OrdersIn
import Derived.Laws.CopyRow
import Derived.Laws.Rows
import Derived.Laws.Entries
set_option linter.unusedVariables false
set_option linter.unusedSimpArgs false
set_option linter.unusedSectionVars false
namespace Tw
open Go
inductive NK where
 | ptr | slc | map | fn | ifc
 deriving DecidableEq
inductive TV where
 | bool (b:Bool)
 | int (k:IntKind) (n:Int)
 | str (s:ByteArray)
 | nil (k:NK)
 | ptr (b off lim:Nat)
 | slc (b off len cap sz:Nat) (ex:Bool)
 | map (r:Nat)
 | fn (f:FuncId) (first cap:List TV)
 | jk (l:Nat)
 | agg (cs:List TV)
 | bH (cs:List TV)
 | iter (b:Nat)
inductive EV where
 | val (v:TV)
 | loc (k off:Nat)
 | undef
inductive BK where
 | ro | own | grow | last
 deriving DecidableEq
inductive HB where
 | cells (k:BK) (cs:List TV)
 | map (es:List (TV×TV))
 | rV (cs:List TV)
 | mark
 | bn (r n:Nat) (seen:List Nat)
 | loop (ready:Bool) (f:FuncId) (nt:Nat) (env:List (Nat×EV)) (ps:List Nat) (assign body:Code) (gK:Option Code)
structure St where
 env:List (Nat×EV)
 loc:List (List TV)
 heap:List HB
 ws:List Nat
inductive Key where
 | h (b:Nat)
 | l (k:Nat)
 deriving DecidableEq
def St.get (s:St):Key->Option HB
 | .h b=>s.heap[b]?
 | .l k=>(s.loc[k]?).map (.cells .own)
def TV.toC:TV->Option Value
 | .bool b=>some (.bool b)
 | .int k n=>some (.int k n)
 | .str s=>some (.string s)
 | .nil .ptr=>some (.pointer none)
 | .nil .slc=>some (.slice none 0 0)
 | .nil .map=>some (.map none)
 | .nil .fn=>some .nilFunc
 | .nil .ifc=>some .nilIface
 | _=>none
def TV.LJ:List TV->Option (List Value)
 | []=>some []
 | c::cs=>match c.toC,TV.LJ cs with
  | some v,some vs=>some (v::vs)
  | _,_=>none
def TV.rW:TV->Option Value
 | .agg cs=>(TV.LJ cs).map fun vs=>.agg vs.toArray
 | v=>v.toC
def TV.SQ:Value->Option TV
 | .bool b=>some (.bool b)
 | .int k n=>some (.int k n)
 | .string s=>some (.str s)
 | .pointer none=>some (.nil .ptr)
 | .slice none 0 0=>some (.nil .slc)
 | .map none=>some (.nil .map)
 | .nilFunc=>some (.nil .fn)
 | .nilIface=>some (.nil .ifc)
 | _=>none
def TV.wM:List Value->Option (List TV)
 | []=>some []
 | c::cs=>match TV.SQ c,TV.wM cs with
  | some v,some vs=>some (v::vs)
  | _,_=>none
def TV.Jk:Value->Option TV
 | .agg cs=>(TV.wM cs.toList).map .agg
 | v=>TV.SQ v
def TV.Df:TV->Bool
 | .bool _ | .int _ _ | .str _ | .nil _=>true
 | _=>false
def TV.Js:TV->Bool
 | .agg cs=>cs.all TV.Df
 | v=>v.Df
def TV.flat:TV->Bool
 | .bH vs=>vs.all TV.Js
 | v=>v.Js
def TV.cells:TV->List TV
 | .agg cs=>cs
 | v=>[v]
def bW:TV->Bool
 | .agg _ | .bH _=>false
 | _=>true
def au {α:Type} (P:Program):Sem α->Option α
 | .pure a=>some a
 | .program k=>au P (k P)
 | .mark _ k=>au P k
 | _=>none
def aT (t:Nat):List (Nat×EV)->Option EV
 | []=>none
 | (k,v)::r=>if k=t then some v else aT t r
def St.put (s:St) (dst:Option Nat) (v:EV):St:=
 match dst with
 | some d=>{ s with env:=(d,v)::s.env }
 | none=>s
def pick (live:List Nat) (env:List (Nat×EV)):List (Nat×EV):=
 match live with
 | []=>[]
 | t::r=>match aT t env with
  | some v=>(t,v)::pick r env
  | none=>pick r env
def AL (env:List (Nat×EV)):Operand->Option EV
 | .tmp t=>aT t env
 | .const v=>(TV.Jk v).map .val
 | .func f=>some (.val (.fn f [] []))
 | .global _=>none
def lJ (env:List (Nat×EV)) (x:Operand):Option TV:=
 match AL env x with
 | some (.val v)=>some v
 | _=>none
def Dh (env:List (Nat×EV)):List Operand->Option (List TV)
 | []=>some []
 | x::xs=>match lJ env x,Dh env xs with
  | some v,some vs=>some (v::vs)
  | _,_=>none
def FQ (env:List (Nat×EV)):List (Nat×Operand)->Option (List (Nat×TV))
 | []=>some []
 | (i,x)::xs=>match lJ env x,FQ env xs with
  | some v,some vs=>some ((i,v)::vs)
  | _,_=>none
structure gy where
 all:Bool
 ts:List Key
 ws:List Key
def aA:gy:=⟨false,[],[]⟩
def nT (k:Key):gy:=⟨false,[k],[]⟩
def bY (k:List Key):gy:=⟨false,k,[]⟩
def lF (k:Key):gy:=⟨false,[k],[k]⟩
def sub (cs:List TV) (off n:Nat):Option (List TV):=
 if off+n<=cs.length then some ((cs.drop off).take n) else none
def lX (cs:List TV) (off:Nat) (new:List TV):Option (List TV):=
 if off+new.length<=cs.length then some (cs.take off++new++cs.drop (off+new.length)) else none
def oL (P:Program) (t:TypeId):Option Bool:=
 match P.underlying t with
 | some (.struct _) | some (.array _ _)=>some true
 | some _=>some false
 | none=>none
def aZ (P:Program) (t:TypeId):Option Nat:=(P.info? t).map (·.size)
def l7 (P:Program) (t:TypeId) (cs:List TV) (off:Nat):Option TV:=
 match oL P t,aZ P t with
 | some true,some n=>(sub cs off n).map .agg
 | some false,some n=>if n=1 then cs[off]? else none
 | _,_=>none
def xK (P:Program) (t:TypeId):Option (List TV):=
 match P.info? t with
 | some i=>match i.zero with
  | some z=>(TV.Jk z).map TV.cells
  | none=>none
 | none=>none
def aB (h:List HB) (b:Nat):Option (List TV):=
 match h[b]? with
 | some (.cells _ cs)=>some cs
 | _=>none
def iw (h:List HB) (b lim:Nat):Option (List TV):=
 match h[b]? with
 | some (.cells k cs)=>if k=.last∧lim≠cs.length then none else some cs
 | _=>none
def xM (floor:Nat) (b:Nat) (ws:List Nat):List Nat:=
 if b<floor then (if ws.contains b then ws else b::ws) else ws
def dn (floor:Nat):List Key->List Nat->List Nat
 | [],ws=>ws
 | .h b::r,ws=>dn floor r (xM floor b ws)
 | .l _::r,ws=>dn floor r ws
def sK (k:BK) (whole:Bool):Option BK:=
 match k,whole with
 | .own,_=>some .own
 | .grow,true=>some .last
 | .last,true=>some .last
 | _,_=>none
def Ie (h:List HB) (b off lim:Nat) (new:List TV):Option (List HB):=
 match h[b]? with
 | some (.cells k cs)=>match sK k (lim==cs.length) with
  | some k'=>(lX cs off new).map fun cs'=>h.set b (.cells k' cs')
  | none=>none
 | _=>none
def BK.more:BK->BK
 | .last=>.last
 | _=>.grow
def kG (place:Nat->Option (Nat×Nat)):List TV->List (Nat×TV)->Option (List TV)
 | cs,[]=>some cs
 | cs,(i,v)::r=>match place i with
  | some (off,size)=>if v.cells.length=size then (match lX cs off v.cells with | some cs'=>kG place cs' r | none=>none) else none
  | none=>none
def Ig (P:Program) (fs:Array Field) (i:Nat):Option (Nat×Nat):=
 match fs[i]? with
 | some f=>(aZ P f.type).map fun n=>(f.offset,n)
 | none=>none
def sN (P:Program) (fs:List Field):Bool:=fs.all fun f=>(aZ P f.type).isSome
def zH (P:Program) (t:TypeId) (parts:List (Nat×TV)):Option TV:=
 match xK P t,P.underlying t with
 | some z,some (.struct fs)=>if sN P fs.toList then (kG (Ig P fs) z parts).map .agg else none
 | some z,some (.array _ e)=>match aZ P e with
  | some n=>(kG (fun i=>some (i*n,n)) z parts).map .agg
  | none=>none
 | _,_=>none
def times (z:List TV):Nat->List TV
 | 0=>[]
 | n+1=>z++times z n
def dM (P:Program) (t:TypeId):Option (TypeId×Nat):=
 match P.underlying t with
 | some (.slice e)=>match aZ P e with
  | some n=>if n=0 then none else some (e,n)
  | none=>none
 | _=>none
def jh (site:Bool) (s:St) (cs:List TV):EV×St:=
 if site then (.val (.ptr s.heap.length 0 cs.length),{ s with heap:=s.heap++[.cells .own cs] })
 else (.loc s.loc.length 0,{ s with loc:=s.loc++[cs] })
def loadT (P:Program) (t:TypeId) (s:St):EV->Option (TV×gy)
 | .loc k off=>match s.loc[k]? with
  | some cs=>(l7 P t cs off).map fun v=>(v,nT (.l k))
  | none=>none
 | .val (.ptr b off lim)=>match iw s.heap b lim,aZ P t with
  | some cs,some n=>if off+n<=lim then (l7 P t cs off).map fun v=>(v,nT (.h b)) else none
  | _,_=>none
 | _=>none
def storeT (P:Program) (t:TypeId) (s:St) (a:EV) (v:TV):Option (St×gy):=
 match aZ P t with
 | some n=>
  if v.cells.length=n∧v.cells.all bW=true then
   match a with
   | .loc k off=>match s.loc[k]? with
    | some cs=>(lX cs off v.cells).map fun cs'=>({ s with loc:=s.loc.set k cs' },lF (.l k))
    | none=>none
   | .val (.ptr b off lim)=>if off+n<=lim then (Ie s.heap b off lim v.cells).map fun h=>({ s with heap:=h },lF (.h b)) else none
   | _=>none
  else none
 | none=>none
def Di (o:Nat):EV->Option EV
 | .loc k off=>some (.loc k (off+o))
 | .val (.ptr b off lim)=>if off+o<=lim then some (.val (.ptr b (off+o) lim)) else none
 | _=>none
def sO (P:Program) (t:TypeId) (i:Nat):Option Nat:=
 match P.underlying t with
 | some (.struct fs)=>match fs[i]? with
  | some f=>match aZ P f.type with
   | some n=>if n=0 then none else some f.offset
   | none=>none
  | none=>none
 | _=>none
def idx (n:Nat):TV->Option Nat
 | .int _ i=>if 0<=i∧i<n then some i.toNat else none
 | _=>none
def eF (P:Program) (t:TypeId) (x:EV) (i:TV):Option EV:=
 match P.underlying t with
 | some (.slice e)=>match aZ P e,x with
  | some n,.val (.slc b off len cap sz _)=>if n=sz then (idx len i).map fun j=>.val (.ptr b (off+j*n) (off+cap*n)) else none
  | _,_=>none
 | some (.array len e)=>match aZ P e with
  | some n=>match idx len i with
   | some j=>Di (j*n) x
   | none=>none
  | none=>none
 | _=>none
def wP (P:Program) (t:TypeId) (x i:TV):Option TV:=
 match P.underlying t,x with
 | some (.array len e),.agg cs=>match aZ P e,idx len i with
  | some n,some j=>l7 P e cs (j*n)
  | _,_=>none
 | some .string,.str s=>match idx s.size i with
  | some j=>(s[j]?).map fun b=>.int .u8 b.toNat
  | none=>none
 | _,_=>none
def jJ (n:Nat):TV->Option Nat
 | .int _ i=>if 0<=i∧i<=n then some i.toNat else none
 | _=>none
def eX (n d:Nat):Option TV->Option Nat
 | none=>some d
 | some v=>jJ n v
def jB (P:Program) (t:TypeId) (x:TV) (lo hi mx:Option TV):Option TV:=
 match P.underlying t,x with
 | some .string,.str s=>match mx with
  | some _=>none
  | none=>match eX s.size s.size hi with
   | some h=>match eX h 0 lo with
    | some l=>some (.str (s.extract l h))
    | none=>none
   | none=>none
 | some (.slice e),.slc b off len cap sz ex=>match aZ P e with
  | some n=>
   if n=sz then
    match mx with
    | some m=>match jJ cap m,hi with
     | some m,some h=>match jJ (min m len) h with
      | some h=>match eX h 0 lo with
       | some l=>some (.slc b (off+l*n) (h-l) (m-l) sz true)
       | none=>none
      | none=>none
     | _,_=>none
    | none=>match eX len len hi with
     | some h=>match eX h 0 lo with
      | some l=>some (.slc b (off+l*n) (h-l) (cap-l) sz ex)
      | none=>none
     | none=>none
   else none
  | none=>none
 | some (.slice e),.nil .slc=>match aZ P e,eX 0 0 mx,eX 0 0 hi,eX 0 0 lo with
  | some _,some _,some _,some _=>if mx.isSome&&hi.isNone then none else some (.nil .slc)
  | _,_,_,_=>none
 | _,_=>none
def iT (P:Program) (t:TypeId) (x:EV) (lo hi mx:Option TV):Option TV:=
 match P.underlying t,x with
 | some (.array n e),.val (.ptr b off lim)=>match aZ P e with
  | some size=>
   if size=0∨lim<off+n*size∨2^24<n then none else
   match eX n n mx with
   | some m=>match eX m n hi with
    | some h=>match eX h 0 lo with
     | some l=>if mx.isSome&&hi.isNone then none else some (.slc b (off+l*size) (h-l) (m-l) size true)
     | none=>none
    | none=>none
   | none=>none
  | none=>none
 | _,_=>none
def aS (size:Nat) (h:List HB):TV->Option (Nat×List TV)
 | .nil .slc=>some (0,[])
 | .slc b off len cap sz _=>if sz=size then (if len=0 then some (0,[]) else match iw h b (off+cap*sz) with | some cs=>(sub cs off (len*size)).map fun l=>(len,l) | none=>none) else none
 | .str s=>if size=1 then some (s.size,s.data.toList.map fun b=>.int .u8 b.toNat) else none
 | _=>none
def aF:TV->List Key
 | .slc b _ _ _ _ _=>[.h b]
 | _=>[]
def zI (P:Program) (t:TypeId):Bool:=
 match P.underlying t with
 | some (.int _)=>true
 | _=>false
def SS (i:TypeInfo):Bool:=
 match i.zero with
 | some z=>z.cells.size==i.size
 | none=>false
def jK (P:Program) (e:TypeId) (n:Nat):Bool:=
 match P.info? e with
 | some i=>decide (n*i.bytes<=2^40)&&decide (n<=2^40)&&decide (i.bytes<=2^20)&&decide (0<i.bytes)&&SS i
 | none=>false
def bQ (P:Program) (at_:Array TypeId) (s:St) (d x:TV):Option (TV×St×gy):=
 match at_[0]?,at_[1]? with
 | some st,some xt=>
  if zI P xt||(P.underlying xt).isNone then none else
  match dM P st with
  | some (e,size)=>match aS size s.heap x with
   | some (n,new)=>
    if n=0 then (match d with
     | .nil .slc=>some (d,s,bY (aF x))
     | .slc _ _ _ _ sz _=>if sz=size then some (d,s,bY (aF x)) else none
     | _=>none)
    else if new.length=n*size then
     match d with
     | .nil .slc=>if jK P e n then some (.slc s.heap.length 0 n n size false,{ s with heap:=s.heap++[.cells .own new] },bY (aF x)) else none
     | .slc b off len cap sz ex=>
      if sz=size then
       if len+n<=cap then
        (Ie s.heap b (off+len*size) (off+cap*size) new).map fun h=>(.slc b off (len+n) cap sz ex,{ s with heap:=h },⟨false,.h b::aF x,[.h b]⟩)
       else if jK P e (len+n) then
        if ex then
         (aS size s.heap (.slc b off len cap sz ex)).map fun r=>(.slc s.heap.length 0 (len+n) (len+n) size false,{ s with heap:=s.heap++[.cells .own (r.2++new)] },bY (.h b::aF x))
        else match s.heap[b]? with
         | some (.cells k cs)=>
          if k=.ro∨off≠0∨len≠cap∨cs.length≠len*size∨len=0 then
           if k=.ro∨off≠0∨cap<=len∨cs.length≠cap*size∨len=0 then none
           else some (.slc b 0 (len+n) (len+n) size false,{ s with heap:=s.heap.set b (.cells .last (cs.take (len*size)++new))},⟨false,.h b::aF x,[.h b]⟩)
          else some (.slc b 0 (len+n) (len+n) size false,{ s with heap:=s.heap.set b (.cells k.more (cs++new))},⟨false,.h b::aF x,[.h b]⟩)
         | _=>none
       else none
      else none
     | _=>none
    else none
   | none=>none
  | none=>none
 | _,_=>none
def isStr:TV->Bool
 | .str _=>true
 | _=>false
def xO (P:Program) (at_:Array TypeId) (s:St) (d x:TV):Option (TV×St×gy):=
 match at_[0]? with
 | some st=>match dM P st with
  | some (_,size)=>match aS size s.heap x with
   | some (n,new)=>
    if new.length=n*size∧isStr x=false then
     match d with
     | .nil .slc=>some (.int .i64 0,s,bY (aF x))
     | .slc b off len cap sz _=>
      if sz=size then
       if min n len=0 then some (.int .i64 0,s,bY (aF x))
       else (Ie s.heap b off (off+cap*size) (new.take (min n len*size))).map fun h=>(.int .i64 (min n len:Nat),{ s with heap:=h },⟨false,.h b::aF x,[.h b]⟩)
      else none
     | _=>none
    else none
   | none=>none
  | none=>none
 | none=>none
def LK (P:Program) (at_:Array TypeId) (h:List HB) (x:TV):Option (TV×gy):=
 match at_[0]? with
 | some t=>match P.underlying t,x with
  | some .string,.str s=>some (.int .i64 s.size,aA)
  | some (.array n _),_=>some (.int .i64 n,aA)
  | some (.slice _),.slc _ _ len _ _ _=>some (.int .i64 len,aA)
  | some (.slice _),.nil .slc=>some (.int .i64 0,aA)
  | some (.map _ _),.nil .map=>some (.int .i64 0,aA)
  | some (.map _ _),.map r=>match h[r]? with
   | some (.map es)=>some (.int .i64 es.length,nT (.h r))
   | _=>none
  | _,_=>none
 | none=>none
def rX:List TV->Option (List Value)
 | []=>some []
 | c::cs=>match c.rW,rX cs with
  | some v,some vs=>some (v::vs)
  | _,_=>none
def Jt (P:Program) (kt:TypeId) (k:Value) (ks:List Value) (r:Option Nat):Bool:=
 match au P (underlying kt) with
 | some kind=>(match r with | some j=>decide (j<ks.length) | none=>true)&&((ks.zipIdx.all fun (x,i)=>Instr.sameNow kind k x==some (some i==r)) ||
   (ks.zipIdx.all fun (x,i)=>Instr.sameNow kind k x==none&&au P (Op.equal kt k x)==some (some i==r)))
 | none=>false
def xP (P:Program) (kt:TypeId) (k:Value) (es:List (TV×TV)):Option (Option Nat):=
 match rX (es.map (·.1)) with
 | some ks=>match au P (do Instr.checkKey es.isEmpty 10000 kt k;Instr.findKey kt k (ks.map fun x=>⟨x,.bool false,0⟩)) with
  | some r=>if Jt P kt k ks (r.map (·.1)) then some (r.map (·.1)) else none
  | none=>none
 | none=>none
def AO:TV->Option NK
 | .ptr _ _ _=>some .ptr
 | .slc _ _ _ _ _ _=>some .slc
 | .map _=>some .map
 | .fn _ _ _ | .jk _=>some .fn
 | _=>none
def LM:TV->Option NK
 | .nil k=>some k
 | _=>none
def AP (P:Program) (t:TypeId):Option NK:=
 match P.underlying t with
 | some (.pointer _)=>some .ptr
 | some (.slice _)=>some .slc
 | some (.map _ _)=>some .map
 | some (.func _ _ _)=>some .fn
 | _=>none
def sQ (P:Program) (t:TypeId) (x y:TV):Bool:=
 match AP P t with
 | some k=>(LM x==some k&&AO y==some k)||(AO x==some k&&LM y==some k)
 | none=>false
def kH (P:Program) (op:BinOp) (t:TypeId) (x y:Operand) (a b:TV):Option TV:=
 match a.rW,b.rW with
 | some u,some v=>match au P (do eqGuard op t x y u v;binOp op t u v) with
  | some r=>TV.Jk r
  | none=>none
 | _,_=>if sQ P t a b then (match op with
  | .eql=>some (.bool false)
  | .neq=>some (.bool true)
  | _=>none) else none
def unT (P:Program) (op:UnOp) (a:TV):Option TV:=
 match a.rW with
 | some u=>match au P (Op.unary op u) with
  | some r=>TV.Jk r
  | none=>none
 | none=>none
def Dj (P:Program) (src dst:TypeId) (a:TV):Option TV:=
 match a.rW with
 | some u=>match au P (convert src dst u) with
  | some r=>TV.Jk r
  | none=>none
 | none=>none
def uT (P:Program) (mx:Bool) (at_:Array TypeId) (t:TypeId) (az:List TV):Option TV:=
 match rX az with
 | some vs=>match au P (if mx then Builtin.max_ at_ t vs.toArray else Builtin.min_ at_ t vs.toArray) with
  | some r=>TV.Jk r
  | none=>none
 | none=>none
def zJ (P:Program) (t:TypeId) (x:TV) (i:Nat):Option TV:=
 match P.underlying t,x with
 | some (.struct fs),.agg cs=>match fs[i]? with
  | some f=>l7 P f.type cs f.offset
  | none=>none
 | _,_=>none
def iJ (P:Program) (t:TypeId) (len:Nat) (s:St) (ps:List (Nat×TV)):Option (TV×St):=
 match dM P t with
 | some (e,n)=>if len*n<=2^24∧ps.all (fun p=>p.2.cells.all bW)=true then
   match xK P e with
   | some z=>if z.length=n then
     match kG (fun i=>some (i*n,n)) (times z len) ps with
     | some cs=>some (.slc s.heap.length 0 len len n true,{ s with heap:=s.heap++[.cells .own cs] })
     | none=>none
    else none
   | none=>none
  else none
 | none=>none
def Qs:TV->Option Nat
 | .int _ i=>if 0<=i∧i<=2^40 then some i.toNat else none
 | _=>none
def jC (P:Program) (t:TypeId) (s:St) (l c:TV):Option (TV×St):=
 match dM P t,Qs l,Qs c with
 | some (e,n),some l,some c=>
  if l<=c∧jK P e c then
   match xK P e with
   | some z=>if z.length=n then some (.slc s.heap.length 0 l c n true,{ s with heap:=s.heap++[.cells .own (times z c)] }) else none
   | none=>none
  else none
 | _,_,_=>none
def lY (P:Program) (t:TypeId) (h:List HB) (m k:TV) (ok:Bool):Option TV:=
 match P.underlying t,k.rW with
 | some (.map kt e),some kv=>
  let es:=match m with
   | .nil .map=>some []
   | .map r=>match h[r]? with
    | some (.map es)=>some es
    | _=>none
   | _=>none
  match es with
  | some es=>match xP P kt kv es with
   | some (some i)=>match es[i]? with
    | some (_,v)=>some (if ok then .bH [v,.bool true] else v)
    | none=>none
   | some none=>match P.info? e with
    | some i=>match i.zero with
     | some z=>(TV.Jk z).map fun z=>if ok then .bH [z,.bool false] else z
     | none=>none
    | none=>none
   | none=>none
  | none=>none
 | _,_=>none
def jL (P:Program) (t:TypeId) (s:St) (m k v:TV):Option (St×gy):=
 match P.underlying t,k.rW,m with
 | some (.map kt _),some kv,.map r=>match s.heap[r]?,au P (Instr.checkKey false 10000 kt kv) with
  | some (.map es),some ()=>match xP P kt kv es with
   | some (some i)=>match es[i]? with
    | some (old,_)=>match old.rW with
     | some ov=>if Instr.sameBits 10000 ov kv then some ({ s with heap:=s.heap.set r (.map (es.set i (k,v))) },lF (.h r)) else none
     | none=>none
    | none=>none
   | some none=>some ({ s with heap:=s.heap.set r (.map (es++[(k,v)])) },lF (.h r))
   | none=>none
  | _,_=>none
 | _,_,_=>none
abbrev ay:=TV->List TV->List HB->Option (TV×List HB×List Nat)
def jl (P:Program) (b:Builtin) (at_:Array TypeId) (t:TypeId) (s:St) (az:List TV):Option (TV×St×gy):=
 match b,az with
 | .len,[x]=>(LK P at_ s.heap x).map fun (v,i)=>(v,s,i)
 | .append,[d,x]=>bQ P at_ s d x
 | .copy,[d,x]=>xO P at_ s d x
 | .min,az=>(uT P false at_ t az).map fun v=>(v,s,aA)
 | .max,az=>(uT P true at_ t az).map fun v=>(v,s,aA)
 | _,_=>none
def FT (env:List (Nat×EV)):Option Operand->Option (Option TV)
 | none=>some none
 | some x=>match lJ env x with
  | some v=>some (some v)
  | none=>none
def AQ (P:Program) (call:ay) (s:St) (c:Call) (t:TypeId):Option (EV×St×gy):=
 match c.callee,Dh s.env c.args.toList with
 | .builtin b,some az=>(jl P b c.argTypes t s az).map fun (v,s,i)=>(.val v,s,i)
 | .value f,some az=>match lJ s.env f with
  | some fv=>match call fv az s.heap with
   | some (v,h,ws)=>some (.val v,{ s with heap:=h },⟨true,[],ws.map .h⟩)
   | none=>none
  | none=>none
 | _,_=>none
def jq (P:Program) (call:ay) (site:Nat->Bool) (s:St) (o:Oper):Option (EV×St×gy):=
 match o.op with
 | .move x | .assign x=>(AL s.env x).map fun v=>(v,s,aA)
 | .pick c a b=>match lJ s.env c with
  | some (.bool t)=>(AL s.env (if t then a else b)).map fun v=>(v,s,aA)
  | _=>none
 | .alloc e=>(xK P e).map fun z=>let (v,s):=jh (site (o.dst.getD 0)) s z;(v,s,aA)
 | .box _ x=>match lJ s.env x with
  | some v=>if v.cells.all bW then let (v,s):=jh (site (o.dst.getD 0)) s v.cells;some (v,s,aA) else none
  | none=>none
 | .build t ps=>match FQ s.env ps.toList with
  | some ps=>(zH P t ps).map fun v=>(.val v,s,aA)
  | none=>none
 | .buildSlice t len ps=>match FQ s.env ps.toList with
  | some ps=>(iJ P t len s ps).map fun (v,s)=>(.val v,s,aA)
  | none=>none
 | .load t a=>match AL s.env a with
  | some a=>(loadT P t s a).map fun (v,i)=>(.val v,s,i)
  | none=>none
 | .store t a x=>match AL s.env a,lJ s.env x with
  | some a,some v=>(storeT P t s a v).map fun (s,i)=>(.undef,s,i)
  | _,_=>none
 | .nilCheck x=>match AL s.env x with
  | some (.loc k o)=>some (.loc k o,s,aA)
  | some (.val (.ptr b o lim))=>some (.val (.ptr b o lim),s,aA)
  | some (.val (.fn f a b))=>some (.val (.fn f a b),s,aA)
  | some (.val (.jk l))=>some (.val (.jk l),s,aA)
  | _=>none
 | .binOp op t x y _=>match lJ s.env x,lJ s.env y with
  | some a,some b=>(kH P op t x y a b).map fun v=>(.val v,s,aA)
  | _,_=>none
 | .unOp op _ x=>match lJ s.env x with
  | some a=>(unT P op a).map fun v=>(.val v,s,aA)
  | none=>none
 | .convert src dst x=>match lJ s.env x with
  | some a=>(Dj P src dst a).map fun v=>(.val v,s,aA)
  | none=>none
 | .makeFunc (.func f) first cap=>match Dh s.env first.toList,Dh s.env cap.toList with
  | some a,some b=>some (.val (.fn f a b),s,aA)
  | _,_=>none
 | .makeMap t r=>match FT s.env r,P.underlying t with
  | some none,_=>some (.val (.map s.heap.length),{ s with heap:=s.heap++[.map []] },aA)
  | some (some (.int _ _)),some (.map _ _)=>some (.val (.map s.heap.length),{ s with heap:=s.heap++[.map []] },aA)
  | _,_=>none
 | .makeSlice t l c=>match lJ s.env l,lJ s.env c with
  | some l,some c=>(jC P t s l c).map fun (v,s)=>(.val v,s,aA)
  | _,_=>none
 | .slice t x lo hi mx=>match AL s.env x,FT s.env lo,FT s.env hi,FT s.env mx with
  | some x,some lo,some hi,some mx=>match P.underlying t,x with
   | some (.array _ _),x=>(iT P t x lo hi mx).map fun v=>(.val v,s,aA)
   | _,.val x=>(jB P t x lo hi mx).map fun v=>(.val v,s,aA)
   | _,_=>none
  | _,_,_,_=>none
 | .fieldAddr t x f=>match AL s.env x,sO P t f with
  | some a,some n=>(Di n a).map fun v=>(v,s,aA)
  | _,_=>none
 | .field t x f=>match lJ s.env x with
  | some a=>(zJ P t a f).map fun v=>(.val v,s,aA)
  | none=>none
 | .indexAddr t x i=>match AL s.env x,lJ s.env i with
  | some a,some i=>(eF P t a i).map fun v=>(v,s,aA)
  | _,_=>none
 | .index t x i=>match lJ s.env x,lJ s.env i with
  | some a,some i=>(wP P t a i).map fun v=>(.val v,s,aA)
  | _,_=>none
 | .lookup t m k ok=>match lJ s.env m,lJ s.env k with
  | some m,some k=>(lY P t s.heap m k ok).map fun v=>(.val v,s,bY (match m with | .map r=>[.h r] | _=>[]))
  | _,_=>none
 | .mapUpdate t m k x | .insert t m k x=>match lJ s.env m,lJ s.env k,lJ s.env x with
  | some m,some k,some v=>(jL P t s m k v).map fun (s,i)=>(.undef,s,i)
  | _,_,_=>none
 | .extract t i=>match lJ s.env t with
  | some (.bH vs)=>(vs[i]?).map fun v=>(.val v,s,aA)
  | _=>none
 | .call c=>AQ P call s c o.type
 | .range t x=>match lJ s.env x,P.underlying t with
  | some (.map r),some (.map _ _)=>match s.heap[r]? with
   | some (.map es)=>some (.val (.iter s.heap.length),{ s with heap:=s.heap++[.bn r es.length []] },nT (.h r))
   | _=>none
  | _,_=>none
 | .entry x=>match lJ s.env x with
  | some (.iter b)=>match s.heap[b]? with
   | some (.bn r n (i::_))=>match s.heap[r]? with
    | some (.map es)=>if es.length=n then (es[i]?).map fun e=>(.val (.bH [e.1,e.2]),s,bY [.h b,.h r]) else none
    | _=>none
   | _=>none
  | _=>none
 | _=>none
def rM (ops:Array Oper) (env:List (Nat×EV)) (o:Oper):Option Bool:=
 match o.guard with
 | none=>some true
 | some (j,want)=>match (ops[j]?).bind (·.dst) with
  | some d=>match aT d env with
   | some (.val (.bool b))=>some (b==want)
   | some .undef=>some false
   | _=>none
  | none=>none
def vX (nt:Nat) (o:Oper):Bool:=
 match o.dst with
 | some d=>decide (d<nt)
 | none=>true
def dN (P:Program) (call:ay) (site:Nat->Bool) (fl nt:Nat) (ops:Array Oper):List Oper->St->Option (St×List gy)
 | [],s=>some (s,[])
 | o::os,s=>if !vX nt o then none else match rM ops s.env o with
  | some true=>match jq P call site s o with
   | some (v,s1,i)=>match dN P call site fl nt ops os ({ s1 with ws:=dn fl i.ws s.ws }.put o.dst v) with
    | some (s,is)=>some (s,i::is)
    | none=>none
   | none=>none
  | some false=>match dN P call site fl nt ops os (s.put o.dst .undef) with
   | some (s,is)=>some (s,aA::is)
   | none=>none
  | none=>none
def qI:List Nat->List Nat->List Nat
 | [],l=>l
 | x::xs,l=>qI xs (if l.contains x then l else x::l)
def mO (acc:List (List Nat)) (o:Oper):List Nat:=
 o.after.toList.foldl (fun l e=>if Region.binds .any e then qI (e.on::acc.getD e.on []) l else l) []
def pR:List Oper->List (List Nat)->List (List Nat)
 | [],acc=>acc
 | o::os,acc=>pR os (acc++[mO acc o])
def wR:Op->Bool
 | .store .. | .mapUpdate .. | .insert ..=>true
 | .call { callee:=.builtin b,.. }=>match b with
  | .len | .min | .max=>false
  | _=>true
 | .call _=>true
 | _=>false
def zK:Op->Bool
 | .store .. | .mapUpdate .. | .insert .. | .load .. | .lookup .. | .range .. | .entry ..=>true
 | .call { callee:=.builtin b,.. }=>match b with
  | .min | .max=>false
  | _=>true
 | .call _=>true
 | _=>false
def gQ (ops:List Oper):List (Nat×Nat):=
 let pr:=pR ops []
 (List.range ops.length).flatMap fun j=>((List.range j).filter fun i=>!(pr.getD j []).contains i).map fun i=>(i,j)
def fF (ops:List Oper):Bool:=
 (ops.zipIdx.all fun (o,i)=>o.after.all fun e=>!Region.binds .any e||decide (e.on<i)) &&
 (gQ ops).all fun (i,j)=>match ops[i]?,ops[j]? with
  | some a,some b=>a.apart ops.toArray b&&b.apart ops.toArray a
  | _,_=>false
def eH (ops:List Oper):List (Nat×Nat):=
 (gQ ops).filter fun (i,j)=>match ops[i]?,ops[j]? with
  | some a,some b=>(wR a.op&&zK b.op)||(zK a.op&&wR b.op)
  | _,_=>false
def Key.Sj:Key->Bool
 | .h _=>true
 | .l _=>false
def Dk (ws:List Key) (b:gy):Bool:=
 ws.all fun k=>!(b.all&&k.Sj)&&!b.ts.contains k&&!b.ws.contains k
def calm (a b:gy):Bool:=Dk a.ws b&&Dk b.ws a
def lN (nU:List gy):List (Nat×Nat)->Bool
 | []=>true
 | (i,j)::r=>(match nU[i]?,nU[j]? with
  | some a,some b=>calm a b
  | _,_=>false)&&lN nU r
inductive Ex where
 | norm | exit (id:Nat) | ret
structure FnT where
 nt:Nat
 body:Code
 results:List ResultVar
def FU (P:Program) (f:Nat):Option FnT:=
 match P.funcs[f]? with
 | some fn => if fn.name == "runtime.NumGoroutine" then none else match fn.body with
  | some b=>some ⟨fn.ntmps,b,fn.results.toList⟩
  | none=>none
 | none=>none
structure iF where
 live:List (Nat×List (Nat×List Nat))
 head:List (Nat×List (Nat×List Nat))
 site:List (Nat×List Nat)
 exts:List Nat:=[]
 ext:TV->List TV->List HB->Option (TV×List HB×List Nat):=fun _ _ _=>none
 Lm:List Nat:=[]
 din:List Nat:=[]
 a1b:List Nat:=[]
def Gh {α:Type} (k:Nat):List (Nat×List α)->List α
 | []=>[]
 | (j,l)::r=>if j=k then l else Gh k r
def iF.fO (T:iF) (f id:Nat):List Nat:=Gh id (Gh f T.live)
def iF.dG (T:iF) (f id:Nat):List Nat:=Gh id (Gh f T.head)
def iF.zL (T:iF) (f d:Nat):Bool:=(Gh f T.site).contains d
def vP:List (Nat×EV)->Nat
 | []=>0
 | (_,.loc k _)::r=>max (k+1) (vP r)
 | _::r=>vP r
def dO (live:List Nat) (s:St):St:=
 let env:=pick live s.env
 { s with env:=env,loc:=s.loc.take (vP env) }
def bZ:Code->Nat
 | .region id _ _=>id
 | .seq a _=>bZ a
 | .block _ b=>bZ b
 | .loop b=>bZ b
 | .scope b=>bZ b
 | _=>0
def iter (g:St->Option (Ex×St)):Nat->St->Option (Ex×St)
 | 0,_=>none
 | n+1,s=>match g s with
  | some (.norm,s)=>iter g n s
  | r=>r
def isVal:Nat×EV->Bool
 | (_,.loc _ _)=>false
 | _=>true
def Dl:Bool->Option Code->Option Ex
 | true,none=>some .norm
 | false,some .ret=>some .ret
 | false,some (.exit id)=>some (.exit id)
 | _,_=>none
def exec (P:Program) (T:iF) (call:ay) (L:Nat) (f:Nat) (eu:Bool) (fl nt:Nat):Code->St->Option (Ex×St)
 | .skip,s=>some (.norm,s)
 | .label _,s=>some (.norm,s)
 | .region id ops draw,s=>match dN P call (fun d=>eu||T.zL f d) fl nt ops ops.toList s with
  | some (s,nU)=>if !draw||(fF ops.toList&&lN nU (eH ops.toList)) then some (.norm,{ s with env:=pick (T.fO f id) s.env }) else none
  | none=>none
 | .seq a b,s=>match exec P T call L f eu fl nt a s with
  | some (.norm,s)=>exec P T call L f eu fl nt b s
  | r=>r
 | .cond c a b,s=>match lJ s.env c with
  | some (.bool true)=>exec P T call L f eu fl nt a s
  | some (.bool false)=>exec P T call L f eu fl nt b s
  | _=>none
 | .block id b,s=>match exec P T call L f eu fl nt b s with
  | some (.exit i,s)=>some (if i=id then .norm else .exit i,s)
  | r=>r
 | .scope b,s=>exec P T call L f eu fl nt b s
 | .loop b,s=>iter (fun s=>exec P T call L f eu fl nt b (dO (T.dG f (bZ b)) s)) L s
 | .exit id,s=>some (.exit id,s)
 | .ret,s=>some (.ret,s)
 | .rangeFunc g ps assign body,s=>match lJ s.env g with
  | some (.fn f1 a1 b1)=>
   if s.env.all isVal&&!eu then
    match call (.fn f1 a1 b1) [.jk (s.heap.length+1)] (s.heap++[.mark,.loop true f nt s.env ps.toList assign body none]) with
    | some (_,h,ws)=>match h[s.heap.length+1]? with
     | some (.loop rd f2 Dn e2 rY a2 b2 gK)=>match Dl rd gK with
      | some e=>some (e,{ s with heap:=h.set (s.heap.length+1) (.loop false f2 Dn e2 rY a2 b2 (some .skip)),ws:=dn fl (ws.map .h) s.ws })
      | none=>none
     | _=>none
    | none=>none
   else none
  | _=>none
 | _,_=>none
def SV (P:Program) (s:St):ResultVar->Option TV
 | .tmp t=>match aT t s.env with
  | some (.val v)=>some v
  | _=>none
 | .cell a t=>match aT a s.env with
  | some a=>(loadT P t s a).map (·.1)
  | none=>none
def l9 (P:Program) (s:St):List ResultVar->Option (List TV)
 | []=>some []
 | r::rs=>match SV P s r,l9 P s rs with
  | some v,some vs=>some (v::vs)
  | _,_=>none
def one:List TV->TV
 | [v]=>v
 | vs=>.bH vs
def gu:Nat->List TV->List (Nat×EV)
 | _,[]=>[]
 | k,v::vs=>(k,.val v)::gu (k+1) vs
def qJ (env:List (Nat×EV)):List Nat->List TV->List (Nat×EV)
 | p::ps,v::vs=>qJ ((p,.val v)::env) ps vs
 | _,_=>env
def SX (P:Program) (T:iF) (call:ay) (L:Nat) (f:Nat) (args:List TV) (h:List HB):Option (TV×List HB×List Nat):=
 match FU P f with
 | some t=>match exec P T call L f false h.length t.nt t.body ⟨gu 0 args,[],h,[]⟩ with
  | some (.norm,s) | some (.ret,s)=>match l9 P s t.results with
   | some vs=>if s.ws.isEmpty&&(one vs).flat then some (one vs,h,[]) else some (one vs,s.heap,s.ws)
   | none=>none
  | _=>none
 | none=>none
def mP:Ex->Option Code
 | .norm=>none
 | .ret=>some .ret
 | .exit id=>some (.exit id)
def kJ:Ex->Bool
 | .norm=>true
 | _=>false
def zM (P:Program) (T:iF) (call:ay) (L:Nat) (l:Nat) (args:List TV) (h:List HB):Option (TV×List HB×List Nat):=
 match h[l]? with
 | some (.loop true f nt env ps assign body _)=>
  if args.length=ps.length∧ps.all (fun p=>decide (p<nt)) then
   match exec P T call L f true h.length nt assign ⟨qJ env ps args,[],h,[]⟩ with
   | some (.norm,s)=>match s.heap[l]? with
    | some (.loop true f' WQ env' WR a' b' _)=>
     match exec P T call L f true h.length nt body { s with heap:=s.heap.set l (.loop false f' WQ env' WR a' b' none),ws:=xM h.length l s.ws } with
     | some (e,s)=>match s.heap[l]? with
      | some (.loop false f' WQ env' WR a' b' none)=>some (.bool (kJ e),s.heap.set l (.loop (kJ e) f' WQ env' WR a' b' (mP e)),xM h.length l s.ws)
      | _=>none
     | none=>none
    | _=>none
   | _=>none
  else none
 | _=>none
def ap (P:Program) (T:iF) (L:Nat):Nat->ay
 | 0,_,_,_=>none
 | n+1,.fn f first cap,args,h=>SX P T (ap P T L n) L f (first++args++cap) h
 | n+1,.jk l,args,h=>zM P T (ap P T L n) L l args h
 | _,_,_,_=>none
def run (P:Program) (T:iF) (L n f:Nat) (args:List TV) (h:List HB):Option (TV×List HB×List Nat):=ap P T L n (.fn f [] []) args h
structure Pl where
 c:Nat
 base:Nat
 ext:Nat
 tot:Nat
inductive Lc where
 | cells (ls:List Pl)
 | obj (r:Nat) (o:List Nat)
abbrev Mp:=Key->Option Lc
abbrev Np:=Nat->Option Lc
def Mp.h (M:Mp):Np:=fun b=>M (.h b)
inductive VR (M:Np):TV->Value->Prop
 | bool (b:Bool):VR M (.bool b) (.bool b)
 | int (k:IntKind) (n:Int):VR M (.int k n) (.int k n)
 | str (s:ByteArray):VR M (.str s) (.string s)
 | Qu:VR M (.nil .ptr) (.pointer none)
 | Ih:VR M (.nil .slc) (.slice none 0 0)
 | LP:VR M (.nil .map) (.map none)
 | nfn:VR M (.nil .fn) .nilFunc
 | Qv:VR M (.nil .ifc) .nilIface
 | ptr {b off lim:Nat} {ls:List Pl} {p:Pl} (hb:M b=some (.cells ls)) (hp:p∈ls) (h:lim<=p.ext) (ht:p.base+lim<=p.tot) :
   VR M (.ptr b off lim) (.pointer (some ⟨p.c,p.base+off,none⟩))
 | slc {b off len cap sz:Nat} {ex:Bool} {ls:List Pl} {p:Pl} {a:Addr} {cap':Nat} (hb:M b=some (.cells ls)) (hp:cap'=0∨p∈ls)
   (h:off+cap*sz<=p.ext) (hl:len<=cap) (hc:cap<=cap') (hx:ex=true->cap'=cap)
   (ha:cap'=0∨(a=⟨p.c,p.base+off,none⟩∧p.base+off+cap'*sz<=p.tot)) (hk:cap'<2^63) :
   VR M (.slc b off len cap sz ex) (.slice (some a) len cap')
 | map {r r':Nat} {o:List Nat} (h:M r=some (.obj r' o)):VR M (.map r) (.map (some r'))
 | jk {l l':Nat} {o:List Nat} (h:M l=some (.obj l' o)):VR M (.jk l) (.func (.yield l') #[] #[])
 | iter {l l':Nat} {o:List Nat} (h:M l=some (.obj l' o)):VR M (.iter l) (.pointer (some ⟨l',0,none⟩))
 | fn {f:FuncId} {az bs:List TV} {xs ys:List Value} (h1:az.length=xs.length) (h2:∀ (i:Nat) (c:TV) (v:Value),az[i]? = some c->xs[i]? = some v->VR M c v)
   (h3:bs.length=ys.length) (h4:∀ (i:Nat) (c:TV) (v:Value),bs[i]? = some c->ys[i]? = some v->VR M c v):VR M (.fn f az bs) (.func (.func f) xs.toArray ys.toArray)
 | agg {az:List TV} {xs:List Value} (h1:az.length=xs.length) (h2:∀ (i:Nat) (c:TV) (v:Value),az[i]? = some c->xs[i]? = some v->VR M c v):VR M (.agg az) (.agg xs.toArray)
 | bH {az:List TV} {xs:List Value} (h1:az.length=xs.length) (h2:∀ (i:Nat) (c:TV) (v:Value),az[i]? = some c->xs[i]? = some v->VR M c v):VR M (.bH az) (.tuple xs.toArray)
structure aH (M:Np) (az:List TV) (xs:List Value):Prop where
 len:az.length=xs.length
 at_:∀ (i:Nat) (c:TV) (v:Value),az[i]? = some c->xs[i]? = some v->VR M c v
theorem VR.agg' {M:Np} {az:List TV} {xs:List Value} (h:aH M az xs):VR M (.agg az) (.agg xs.toArray):=.agg h.len h.at_
theorem VR.FV {M:Np} {az:List TV} {xs:List Value} (h:aH M az xs):VR M (.bH az) (.tuple xs.toArray):=.bH h.len h.at_
theorem aH.nil {M:Np}:aH M [] []:=⟨rfl,fun i c v h=>by simp at h⟩
theorem aH.cons {M:Np} {c:TV} {v:Value} {az:List TV} {xs:List Value} (h:VR M c v) (hs:aH M az xs):aH M (c::az) (v::xs):=
 ⟨by simp[hs.len],fun i c' v' h1 h2=>by
  cases i with
  | zero=>simp at h1 h2;subst h1;subst h2;exact h
  | succ i=>simp at h1 h2;exact hs.at_ i _ _ h1 h2⟩
theorem aH.jr {M:Np} {xs:List Value} (h:aH M [] xs):xs=[]:=by
 have:=h.len;simp at this;exact List.eq_nil_of_length_eq_zero this.symm
theorem aH.dJ {M:Np} {c:TV} {az:List TV} {xs:List Value} (h:aH M (c::az) xs):∃ v vs,xs=v::vs∧VR M c v∧aH M az vs:=by
 cases xs with
 | nil=>have:=h.len;simp at this
 | cons v vs=>exact⟨v,vs,rfl,h.at_ 0 c v rfl rfl,⟨by have:=h.len;simpa using this,fun i c' v' h1 h2=>h.at_ (i+1) c' v' (by simpa using h1) (by simpa using h2)⟩⟩
theorem aH.append {M:Np} {az bs:List TV} {xs ys:List Value} (h:aH M az xs) (h':aH M bs ys):aH M (az++bs) (xs++ys):=by
 induction az generalizing xs with
 | nil=>have:=h.jr;subst this;simpa using h'
 | cons c az ih=>
  obtain⟨v,vs,rfl,hv,Jl⟩:=h.dJ;exact .cons hv (ih Jl)
theorem aH.take {M:Np} {az:List TV} {xs:List Value} (h:aH M az xs) (n:Nat):aH M (az.take n) (xs.take n):=
 ⟨by simp[h.len],fun i c v h1 h2=>by
  rw[List.getElem?_take] at h1 h2;split at h1
  ·rename_i hi;rw[if_pos hi] at h2;exact h.at_ i c v h1 h2
  ·simp at h1⟩
theorem aH.drop {M:Np} {az:List TV} {xs:List Value} (h:aH M az xs) (n:Nat):aH M (az.drop n) (xs.drop n):=
 ⟨by simp[h.len],fun i c v h1 h2=>by
  rw[List.getElem?_drop] at h1 h2;exact h.at_ _ c v h1 h2⟩
theorem aH.get {M:Np} {az:List TV} {xs:List Value} (h:aH M az xs) {i:Nat} {c:TV} (hc:az[i]? = some c):∃ v,xs[i]? = some v∧VR M c v:=by
 have hi:i<az.length:=(List.getElem?_eq_some_iff.1 hc).1;have nP:i<xs.length:=by rw[<-h.len];exact hi
 exact⟨xs[i],by simp[nP],h.at_ i c _ hc (by simp[nP])⟩
def xQ:Lc->Lc->Prop
 | .cells ls,.cells iH=>∀ p∈ls,∃ q∈iH,q.c=p.c∧q.base=p.base∧p.ext<=q.ext∧q.tot=p.tot
 | .obj r o,.obj r' o'=>r=r'∧o <+: o'
 | _,_=>False
def lG {α:Type} (M M':α->Option Lc):Prop:=∀ k l,M k=some l->∃ l',M' k=some l'∧xQ l l'
theorem xQ.refl (l:Lc):xQ l l:=by
 cases l with
 | cells ls=>exact fun p hp=>⟨p,hp,rfl,rfl,Nat.le_refl _,rfl⟩
 | obj r o=>exact⟨rfl,List.prefix_refl o⟩
theorem xQ.trans {a b c:Lc} (h:xQ a b) (h':xQ b c):xQ a c:=by
 cases a<;>cases b<;>cases c<;>simp only[xQ] at *
 ·intro p hp;obtain⟨q,hq,h1,h2,h3,h4⟩:=h p hp;obtain⟨r,hr,g1,g2,g3,g4⟩:=h' q hq;exact⟨r,hr,g1.trans h1,g2.trans h2,Nat.le_trans h3 g3,g4.trans h4⟩
 exact⟨h.1.trans h'.1,h.2.trans h'.2⟩
theorem lG.refl {α:Type} (M:α->Option Lc):lG M M:=fun _ l h=>⟨l,h,.refl l⟩
theorem lG.trans {α:Type} {a b c:α->Option Lc} (h:lG a b) (h':lG b c):lG a c:=fun k l hl=>
 let ⟨l',h1,h2⟩:=h k l hl
 let ⟨l'',g1,g2⟩:=h' k l' h1
 ⟨l'',g1,h2.trans g2⟩
theorem lG.h {M M':Mp} (hm:lG M M'):lG M.h M'.h:=fun b l hl=>hm (.h b) l hl
theorem VR.mono {M M':Np} (hm:lG M M') {v:TV} {x:Value} (h:VR M v x):VR M' v x:=by
 induction h with
 | bool b=>exact .bool b
 | int k n=>exact .int k n
 | str s=>exact .str s
 | Qu=>exact .Qu
 | Ih=>exact .Ih
 | LP=>exact .LP
 | nfn=>exact .nfn
 | Qv=>exact .Qv
 | ptr hb hp h ht=>
  obtain⟨l',h1,h2⟩:=hm _ _ hb;cases l' with
  | obj r _=>exact h2.elim
  | cells iH=>
   obtain⟨q,hq,e1,e2,e3,e4⟩:=h2 _ hp;rw[<-e1,<-e2];exact .ptr h1 hq (Nat.le_trans h e3) (by rw[e2,e4];exact ht)
 | slc hb hp h hl hc hx ha hk=>
  obtain⟨l',h1,h2⟩:=hm _ _ hb;cases l' with
  | obj r _=>exact h2.elim
  | cells iH=>
   rcases hp with hp | hp
   ·exact .slc h1 (.inl hp) h hl hc hx (.inl hp) hk
   obtain⟨q,hq,e1,e2,e3,e4⟩:=h2 _ hp;exact .slc h1 (.inr hq) (Nat.le_trans h e3) hl hc hx (by rw[e1,e2,e4];exact ha) hk
 | map h=>
  obtain⟨l',h1,h2⟩:=hm _ _ h;cases l' with
  | obj r _=>cases h2.1;exact .map h1
  | cells iH=>exact h2.elim
 | jk h=>
  obtain⟨l',h1,h2⟩:=hm _ _ h;cases l' with
  | obj r _=>cases h2.1;exact .jk h1
  | cells iH=>exact h2.elim
 | iter h=>
  obtain⟨l',h1,h2⟩:=hm _ _ h;cases l' with
  | obj r _=>cases h2.1;exact .iter h1
  | cells iH=>exact h2.elim
 | fn h1 _ h3 _ ih2 ih4=>exact .fn h1 ih2 h3 ih4
 | agg h1 _ ih=>exact .agg h1 ih
 | bH h1 _ ih=>exact .bH h1 ih
theorem aH.mono {M M':Np} (hm:lG M M') {az:List TV} {xs:List Value} (h:aH M az xs):aH M' az xs:=
 ⟨h.len,fun i c v h1 h2=>(h.at_ i c v h1 h2).mono hm⟩
theorem SY {M:Np} {v:TV} {x y:Value} (h:v.toC=some x) (hy:VR M v y):y=x:=by
 cases hy<;>simp[TV.toC] at h<;>first | exact h | exact h.symm | skip
theorem Ou {M:Np}:∀ {az:List TV} {xs ys:List Value},TV.LJ az=some xs->aH M az ys->ys=xs
 | [],xs,ys,h,hy=>by simp[TV.LJ] at h;subst h;exact hy.jr
 | c::az,xs,ys,h,hy=>by
  simp only[TV.LJ] at h;split at h
  ·rename_i v vs h1 h2;simp at h;subst h;obtain⟨w,ws,rfl,hw,Sl⟩:=hy.dJ;rw[SY h1 hw,Ou h2 Sl]
  simp at h
theorem qK {M:Np} {v:TV} {x y:Value} (h:v.rW=some x) (hy:VR M v y):y=x:=by
 unfold TV.rW at h;split at h
 ·simp only[Option.map_eq_some_iff] at h;obtain⟨vs,h1,rfl⟩:=h;cases hy with
  | agg g1 g2=>rw[Ou h1 ⟨g1,g2⟩]
 exact SY h hy
theorem VR.Tc {M:Np} {v:TV} {x:Value} (h:TV.SQ x=some v):VR M v x:=by
 unfold TV.SQ at h;split at h<;>simp at h<;>subst h<;>constructor
theorem aH.Ov {M:Np}:∀ {xs:List Value} {az:List TV},TV.wM xs=some az->aH M az xs
 | [],az,h=>by simp[TV.wM] at h;subst h;exact .nil
 | x::xs,az,h=>by
  simp only[TV.wM] at h;split at h
  ·rename_i v vs h1 h2;simp at h;subst h;exact .cons (.Tc h1) (aH.Ov h2)
  simp at h
theorem VR.sS {M:Np} {v:TV} {x:Value} (h:TV.Jk x=some v):VR M v x:=by
 unfold TV.Jk at h;split at h
 ·rename_i cs;simp only[Option.map_eq_some_iff] at h;obtain⟨vs,h1,rfl⟩:=h;have:=VR.agg' (aH.Ov (M:=M) h1);simpa using this
 exact .Tc h
theorem VR.cells {M:Np} {v:TV} {x:Value} (h:VR M v x):aH M v.cells x.cells.toList:=by
 cases h with
 | agg h1 h2=>exact⟨by simpa[TV.cells,Value.cells] using h1,by simpa[TV.cells,Value.cells] using h2⟩
 | _=>exact .cons (by first | assumption | constructor<;>assumption) .nil
theorem fB {α:Type} {P:Program}:∀ {s:Sem α} {a:α},au P s=some a->∀ w,s.run P w=.ok a w
 | .pure b,a,h,w=>by simp[au] at h;simp[Sem.run,h]
 | .program k,a,h,w=>by simp only[au] at h;simp only[Sem.run];exact fB h w
 | .mark _ k,a,h,w=>by simp only[au] at h;simp only[Sem.run];exact fB h w
 | .load ..,a,h,w=>by simp[au] at h
 | .store ..,a,h,w=>by simp[au] at h
 | .new ..,a,h,w=>by simp[au] at h
 | .shape ..,a,h,w=>by simp[au] at h
 | .freeze ..,a,h,w=>by simp[au] at h
 | .frozen ..,a,h,w=>by simp[au] at h
 | .getObj ..,a,h,w=>by simp[au] at h
 | .setObj ..,a,h,w=>by simp[au] at h
 | .choose ..,a,h,w=>by simp[au] at h
 | .sys ..,a,h,w=>by simp[au] at h
 | .halt ..,a,h,w=>by simp[au] at h
def wr:HB->Bool
 | .cells .ro _=>false
 | .mark=>false
 | _=>true
def ah:Lc->List Nat
 | .cells ls=>ls.map (·.c)
 | .obj r _=>[r]
structure Dp (N:Np) (w:World) (k:BK) (cs:List TV) (p:Pl):Prop where
 row:∃ (arr:Array Value) (ty:TypeId) (fz:Nat×Nat),w.heap[p.c]? = some (.cells arr ty fz)∧arr.size=p.tot∧(k≠.ro->fz=(0,0)) ∧
  ((k=.last->p.ext=cs.length)->∀ (i:Nat) (c:TV) (v:Value),i<p.ext->cs[i]? = some c->arr[p.base+i]? = some v->VR N c v)
 fit:p.base+p.ext<=p.tot
 ext:p.ext<=cs.length
 base:k≠.ro->p.base=0
inductive ER (M:Mp):EV->Value->Prop
 | val {v:TV} {x:Value} (h:VR M.h v x):ER M (.val v) x
 | loc {k off:Nat} {p:Pl} (h:M (.l k)=some (.cells [p])) (hb:p.base=0):ER M (.loc k off) (.pointer (some ⟨p.c,off,none⟩))
 | undef:ER M .undef Go.undef
theorem ER.lZ {M:Mp} {v:TV} {x:Value} (h:ER M (.val v) x):VR M.h v x:=by cases h;assumption
def gG (M:Mp) (env:List (Nat×EV)) (tmps:Array Value):Prop:=∀ t e,aT t env=some e->ER M e (tmps.getD t Go.undef)
structure X8 (N:Np) (rd:Bool) (f nt:Nat) (env:List (Nat×EV)) (ps:List Nat) (a b:Code) (gK:Option Code) (lp:Loop):Prop where
 ps:lp.params.toList=ps
 mG:lp.assign=a
 body:lp.body=b
 size:nt<=lp.tmps.size
 BI:∀ t v,aT t env=some (.val v)->VR N v (lp.tmps.getD t Go.undef)
 Ii:∀ t,aT t env=some .undef->lp.tmps.getD t Go.undef=Go.undef
 nol:∀ t k o,aT t env≠some (.loc k o)
 ready:rd=true->lp.state=.ready∧lp.pending=none
 busy:rd=false->gK=none->lp.state=.busy
 done:rd=false->∀ j,gK=some j->j≠.skip->lp.state=.done∧lp.pending=some j
structure vS (N:Np) (o:List Nat) (es:List (TV×TV)) (xs:Array MapEntry):Prop where
 len:es.length=xs.size
 ord:o.length=xs.size
 nod:o.Nodup
 sur:∀ j,j<es.length->j∈o
 at_:∀ (i:Nat) (x:MapEntry),xs[i]? = some x->x.born=i∧∃ j e,o[i]? = some j∧es[j]? = some e∧VR N e.1 x.key∧VR N e.2 x.val
def a4c (N:Np) (w:World) (es:List (TV×TV)) (r:Nat) (o:List Nat):Prop:=
 ∃ xs:Array MapEntry,w.heap[r]? = some (.map xs xs.size)∧vS N o es xs
theorem vS.mono {N N':Np} {o:List Nat} {es:List (TV×TV)} {xs:Array MapEntry} (hm:lG N N') (h:vS N o es xs):vS N' o es xs:=
 ⟨h.len,h.ord,h.nod,h.sur,fun i x hx=>let ⟨b,j,e,h1,h2,h3,h4⟩:=h.at_ i x hx;⟨b,j,e,h1,h2,h3.mono hm,h4.mono hm⟩⟩
def iy (N:Np) (w:World) (k:BK) (cs:List TV) (ls:List Pl):Prop:=
 (∀ c∈cs,bW c=true)∧(∀ p∈ls,Dp N w k cs p)∧(k=.own->∃ p,ls=[p]∧p.ext=cs.length) ∧
   ((k=.grow∨k=.last)->(ls.map (·.c)).Nodup∧∀ p∈ls,∀ q∈ls,p.ext=cs.length->q.ext=cs.length->p=q)
def jF (N:Np) (w:World):HB->Lc->Prop
 | .cells k cs,.cells ls=>iy N w k cs ls
 | .rV cs,.cells ls=>∃ cs',cs'.Perm cs∧iy N w .last cs' ls
 | .map es,.obj r o=>a4c N w es r o
 | .mark,.obj r _=>r<w.heap.size
 | .bn m n seen,.obj r _=>∃ (b:Nat) (o:List Nat) (sa:Array Nat),N m=some (.obj b o)∧w.heap[r]? = some (.mapIter (some b) n sa n)∧n<=o.length∧sa.toList.map (fun i=>o[i]?)=seen.reverse.map some
 | .loop rd f nt env ps a b gK,.obj r _=>∃ lp,w.heap[r]? = some (.loop lp)∧X8 N rd f nt env ps a b gK lp
 | _,_=>False
theorem Dp.mono {N N':Np} {w w':World} {k:BK} {cs:List TV} {p:Pl} (hm:lG N N') (hw:w'.heap[p.c]? = w.heap[p.c]?) (h:Dp N w k cs p):Dp N' w' k cs p:=
 ⟨let ⟨arr,ty,fz,h1,h2,h3,h4⟩:=h.row;⟨arr,ty,fz,hw.trans h1,h2,h3,fun z i c v a b d=>(h4 z i c v a b d).mono hm⟩,h.fit,h.ext,h.base⟩
theorem X8.mono {N N':Np} {rd:Bool} {f nt:Nat} {env:List (Nat×EV)} {ps:List Nat} {a b:Code} {gK:Option Code} {lp:Loop} (hm:lG N N') (h:X8 N rd f nt env ps a b gK lp):X8 N' rd f nt env ps a b gK lp:=
 { h with BI:=fun t v e=>(h.BI t v e).mono hm }
theorem iy.mono {N N':Np} {w w':World} {k:BK} {cs:List TV} {ls:List Pl} (hm:lG N N') (hw:∀ p∈ls,w'.heap[p.c]? = w.heap[p.c]?) (h:iy N w k cs ls):iy N' w' k cs ls:=
 ⟨h.1,fun p hp=>(h.2.1 p hp).mono hm (hw p hp),h.2.2⟩
theorem jF.mono {N N':Np} {w w':World} {b:HB} {l:Lc} (hm:lG N N') (hw:∀ c∈ah l,w'.heap[c]? = w.heap[c]?) (h:jF N w b l):jF N' w' b l:=by
 cases b with
 | cells k cs=>
  cases l with
  | obj r _=>exact h.elim
  | cells ls=>exact iy.mono hm (fun p hp=>hw p.c (List.mem_map.2 ⟨p,hp,rfl⟩)) h
 | rV cs=>
  cases l with
  | obj r _=>exact h.elim
  | cells ls=>
   obtain⟨cs',h1,h2⟩:=h;exact⟨cs',h1,h2.mono hm fun p hp=>hw p.c (List.mem_map.2 ⟨p,hp,rfl⟩)⟩
 | map es=>
  cases l with
  | cells ls=>exact h.elim
  | obj r _=>
   obtain⟨xs,h1,h2⟩:=h;exact⟨xs,(hw r (by simp[ah])).trans h1,h2.mono hm⟩
 | mark=>
  cases l with
  | cells ls=>exact h.elim
  | obj r _=>
   have h':r<w.heap.size:=h;have:=hw r (by simp[ah]);rw[Array.getElem?_eq_getElem h'] at this;exact (Array.getElem?_eq_some_iff.1 this).1
 | bn m n seen=>
  cases l with
  | cells ls=>exact h.elim
  | obj r _=>
   obtain⟨b,o,sa,h1,h2,h3,h4⟩:=h;obtain⟨l',g1,g2⟩:=hm _ _ h1;cases l' with
   | cells iH=>exact g2.elim
   | obj b' o'=>
    obtain⟨rfl,g3⟩:=g2;refine⟨b,o',sa,g1,(hw r (by simp[ah])).trans h2,Nat.le_trans h3 g3.length_le,?_⟩;rw[<-h4];refine List.map_congr_left fun i hi=>?_;have:o[i]?∈sa.toList.map (fun i=>o[i]?):=List.mem_map.2 ⟨i,hi,rfl⟩;rw[h4] at this;obtain⟨j,_,hj⟩:=List.mem_map.1 this;have aN:=(List.getElem?_eq_some_iff.1 hj.symm).1;obtain⟨t,rfl⟩:=g3;rw[List.getElem?_append_left aN]
 | loop rd f nt env ps a b gK=>
  cases l with
  | cells ls=>exact h.elim
  | obj r _=>
   obtain⟨lp,h1,h2⟩:=h;exact⟨lp,(hw r (by simp[ah])).trans h1,h2.mono hm⟩
theorem jF.inb {N:Np} {w:World} {b:HB} {l:Lc} (h:jF N w b l):∀ c∈ah l,c<w.heap.size:=by
 intro c hc;cases b with
 | cells k cs=>
  cases l with
  | obj r _=>exact h.elim
  | cells ls=>
   obtain⟨p,hp,rfl⟩:=List.mem_map.1 hc;obtain⟨arr,ty,fz,h1,_⟩:=(h.2.1 p hp).row;exact (Array.getElem?_eq_some_iff.1 h1).1
 | rV cs=>
  cases l with
  | obj r _=>exact h.elim
  | cells ls=>
   obtain⟨p,hp,rfl⟩:=List.mem_map.1 hc;obtain⟨cs',_,h⟩:=h;obtain⟨arr,ty,fz,h1,_⟩:=(h.2.1 p hp).row;exact (Array.getElem?_eq_some_iff.1 h1).1
 | map es=>
  cases l with
  | cells ls=>exact h.elim
  | obj r _=>
   obtain⟨xs,h1,_⟩:=h;simp[ah] at hc;subst hc;exact (Array.getElem?_eq_some_iff.1 h1).1
 | mark=>
  cases l with
  | cells ls=>exact h.elim
  | obj r _=>
   simp[ah] at hc;subst hc;exact h
 | bn m n seen=>
  cases l with
  | cells ls=>exact h.elim
  | obj r _=>
   obtain⟨b,o,sa,_,h1,_⟩:=h;simp[ah] at hc;subst hc;exact (Array.getElem?_eq_some_iff.1 h1).1
 | loop rd f nt env ps a b gK=>
  cases l with
  | cells ls=>exact h.elim
  | obj r _=>
   obtain⟨lp,h1,_⟩:=h;simp[ah] at hc;subst hc;exact (Array.getElem?_eq_some_iff.1 h1).1
abbrev Ct:=Key->Option HB
structure Valid (M:Mp) (D:Key->Prop) (C:Ct) (w:World):Prop where
 ok:∀ k l,M k=some l->D k->∃ b,C k=some b∧jF M.h w b l
 own:∀ k k' l l' b,k≠k'->M k=some l->M k'=some l'->D k->C k=some b->wr b=true->∀ c∈ah l,c∉ah l'
 inb:∀ k l,M k=some l->∀ c∈ah l,c<w.heap.size
def mg:Key->Prop:=fun _=>True
theorem Valid.has {M:Mp} {C:Ct} {w:World} (h:Valid M mg C w) {k:Key} {l:Lc} (hk:M k=some l):(C k).isSome=true:=
 let ⟨_,h1,_⟩:=h.ok k l hk trivial;by simp[h1]
theorem Valid.of_heap {M:Mp} {D:Key->Prop} {C:Ct} {w w':World} (h:Valid M D C w) (hw:w'.heap=w.heap):Valid M D C w':=
 ⟨fun k l hk hd=>let ⟨b,h1,h2⟩:=h.ok k l hk hd;⟨b,h1,h2.mono (.refl _) (fun c _=>by rw[hw])⟩,h.own,by rw[hw];exact h.inb⟩
def aQ (M:Mp) (k:Key) (l:Lc):Mp:=fun j=>if j=k then some l else M j
def gU (C:Ct) (k:Key) (b:HB):Ct:=fun j=>if j=k then some b else C j
theorem iI {M:Mp} {k:Key} {l:Lc} (h:∀ l0,M k=some l0->xQ l0 l):lG M (aQ M k l):=by
 intro j l0 hj;by_cases hjk:j=k
 ·subst hjk;exact⟨l,by simp[aQ],h l0 hj⟩
 exact⟨l0,by simp[aQ,hjk,hj],.refl _⟩
theorem Valid.upd {M:Mp} {D D':Key->Prop} {C:Ct} {w w':World} (h:Valid M D C w) (k:Key) (b:HB) (l:Lc)
  (hD:∀ j,D' j->D j∨j=k)
  (hold:∀ l0,M k=some l0->D k∧xQ l0 l∧∀ b0,C k=some b0->wr b0=true)
  (bg:∀ c,c<w.heap.size->c∉ah l->w'.heap[c]? = w.heap[c]?)
  (dh:∀ c∈ah l,(∃ l0,M k=some l0∧c∈ah l0)∨w.heap.size<=c)
  (vY:w.heap.size<=w'.heap.size)
  (Ju:jF (aQ M k l).h w' b l):Valid (aQ M k l) D' (gU C k b) w':=by
 have hle:lG M (aQ M k l):=iI fun l0 h0=>(hold l0 h0).2.1;refine⟨?_,?_,?_⟩
 ·intro j l0 hj hd;by_cases hjk:j=k
  ·subst hjk;simp only[aQ,if_true,Option.some.injEq] at hj;subst hj;exact⟨b,by simp[gU],Ju⟩
  ·simp only[aQ,hjk,if_false] at hj;obtain⟨b0,h1,h2⟩:=h.ok j l0 hj ((hD j hd).resolve_right hjk);refine⟨b0,by simp[gU,hjk,h1],h2.mono hle.h fun c hc=>?_⟩;have aN:=h.inb j l0 hj c hc;refine bg c aN fun pK=>?_;rcases dh c pK with⟨l1,Lr,Sm⟩ | zF
   ·obtain⟨hDk,_,hw⟩:=hold l1 Lr;obtain⟨b1,uU,_⟩:=h.ok k l1 Lr hDk;exact h.own k j l1 l0 b1 (fun e=>hjk e.symm) Lr hj hDk uU (hw b1 uU) c Sm hc
   ·omega
 ·intro j j' l0 l0' b0 dZ hj BJ hd hb hw c hc Gi;by_cases hjk:j=k
  ·subst hjk;have X9:j'≠j:=fun e=>dZ e.symm;simp only[aQ,if_true,Option.some.injEq] at hj;subst hj;simp only[aQ,X9,if_false] at BJ;have aN:=h.inb j' l0' BJ c Gi;rcases dh c hc with⟨l1,Lr,Sm⟩ | zF
   ·obtain⟨hDk,_,hw⟩:=hold l1 Lr;obtain⟨b1,uU,_⟩:=h.ok j l1 Lr hDk;exact h.own j j' l1 l0' b1 dZ Lr BJ hDk uU (hw b1 uU) c Sm Gi
   ·omega
  ·simp only[aQ,hjk,if_false] at hj;simp only[gU,hjk,if_false] at hb;have hdj:=(hD j hd).resolve_right hjk;have aN:=h.inb j l0 hj c hc;by_cases X9:j'=k
   ·subst X9;simp only[aQ,if_true,Option.some.injEq] at BJ;subst BJ;rcases dh c Gi with⟨l1,Lr,Sm⟩ | zF
    ·exact h.own j j' l0 l1 b0 dZ hj Lr hdj hb hw c hc Sm
    ·omega
   ·simp only[aQ,X9,if_false] at BJ;exact h.own j j' l0 l0' b0 dZ hj BJ hdj hb hw c hc Gi
 ·intro j l0 hj c hc;by_cases hjk:j=k
  ·subst hjk;simp only[aQ,if_true,Option.some.injEq] at hj;subst hj;exact Ju.inb c hc
  ·simp only[aQ,hjk,if_false] at hj;exact Nat.lt_of_lt_of_le (h.inb j l0 hj c hc) vY
structure Ext (M0:Mp) (C0:Ct) (w0:World) (M:Mp) (C:Ct) (w:World) (ws:List Key):Prop where
 zN:lG M0 M
 frame:∀ c,c<w0.heap.size->(∀ k∈ws,∀ l,M0 k=some l->c∉ah l)->w.heap[c]? = w0.heap[c]?
 iC:∀ k,(C0 k).isSome=true->k∉ws->C k=C0 k
 gZ:∀ k,((C0 k).isSome=true∨C k=none)->k∉ws->M k=M0 k
 fresh:∀ k l,M k=some l->∀ c∈ah l,c<w0.heap.size->∃ l0,M0 k=some l0∧c∈ah l0
 size:w0.heap.size<=w.heap.size
 has:∀ k,(C0 k).isSome=true->(C k).isSome=true
 wsub:∀ k∈ws,(C0 k).isSome=true
 wrote:∀ k∈ws,(M0 k).isSome=true∧∀ b,C0 k=some b->wr b=true
 os:w.os=w0.os
 output:w.output=w0.output
 tape:w.tape=w0.tape
theorem Ext.refl (M:Mp) (C:Ct) (w:World):Ext M C w M C w []:=
 ⟨.refl _,fun _ _ _=>rfl,fun _ _ _=>rfl,fun _ _ _=>rfl,fun _ l h c hc _=>⟨l,h,hc⟩,Nat.le_refl _,fun _ h=>h,(by simp),(by simp),rfl,rfl,rfl⟩
theorem Ext.drew {M0:Mp} {C0:Ct} {w0:World} {M:Mp} {C:Ct} {w w':World} {ws:List Key} (h:Ext M0 C0 w0 M C w ws)
  (hh:w'.heap=w.heap) (ho:w'.os=w.os) (hu:w'.output=w.output) (ht:w'.tape=w.tape):Ext M0 C0 w0 M C w' ws:=
 { h with frame:=(by rw[hh];exact h.frame),size:=(by rw[hh];exact h.size),os:=ho.trans h.os,output:=hu.trans h.output,tape:=ht.trans h.tape }
theorem Ext.trans {M0 M M':Mp} {C0 C C':Ct} {w0 w w':World} {ws FK a1g:List Key} (h:Ext M0 C0 w0 M C w ws) (h':Ext M C w M' C' w' FK)
  (hd:∀ k l,M0 k=some l->(C0 k).isSome=true) (hs:∀ k,(C0 k).isSome=true->(k∈ws∨k∈FK)->k∈a1g) (hb:∀ k∈a1g,(C0 k).isSome=true∧(k∈ws∨k∈FK)) :
  Ext M0 C0 w0 M' C' w' a1g where
 zN:=h.zN.trans h'.zN
 frame:=by
  intro c hc hf;have h1:w.heap[c]? = w0.heap[c]?:=h.frame c hc fun k hk l hl=>hf k (hs k (h.wsub k hk) (.inl hk)) l hl;rw[<-h1];refine h'.frame c (Nat.lt_of_lt_of_le hc h.size) fun k hk l hl pK=>?_;obtain⟨l0,h2,h3⟩:=h.fresh k l hl c pK hc;exact hf k (hs k (hd k l0 h2) (.inr hk)) l0 h2 h3
 iC:=fun k hk hn=>by
  have hn1:k∉ws:=fun e=>hn (hs k hk (.inl e));have Td:k∉FK:=fun e=>hn (hs k hk (.inr e));rw[h'.iC k (h.has k hk) Td,h.iC k hk hn1]
 gZ:=fun k hk hn=>by
  rcases hk with hk | hk
  ·have hn1:k∉ws:=fun e=>hn (hs k hk (.inl e));have Td:k∉FK:=fun e=>hn (hs k hk (.inr e));rw[h'.gZ k (.inl (h.has k hk)) Td,h.gZ k (.inl hk) hn1]
  ·have hC:C k=none:=by
    cases hc:C k with
    | none=>rfl
    | some b=>have:=h'.has k (by simp[hc]);simp[hk] at this
   have Td:k∉FK:=fun e=>by have:=h'.wsub k e;simp[hC] at this
   have hn1:k∉ws:=fun e=>by have:=h.has k (h.wsub k e);simp[hC] at this
   rw[h'.gZ k (.inr hk) Td,h.gZ k (.inr hC) hn1]
 fresh:=fun k l hl c hc aN=>by
  obtain⟨l1,h1,h2⟩:=h'.fresh k l hl c hc (Nat.lt_of_lt_of_le aN h.size);exact h.fresh k l1 h1 c h2 aN
 size:=Nat.le_trans h.size h'.size
 has:=fun k hk=>h'.has k (h.has k hk)
 wsub:=fun k hk=>(hb k hk).1
 wrote:=fun k hk=>by
  by_cases h1:k∈ws
  ·exact h.wrote k h1
  ·have h2:=h'.wrote k ((hb k hk).2.resolve_left h1);rw[h.gZ k (.inl (hb k hk).1) h1,h.iC k (hb k hk).1 h1] at h2;exact h2
 os:=h'.os.trans h.os
 output:=h'.output.trans h.output
 tape:=h'.tape.trans h.tape
theorem Ext.upd {M:Mp} {C:Ct} {w w':World} (k:Key) (b:HB) (l:Lc) (ws:List Key)
  (Sl:((C k).isSome=true∧ws=[k]∧(M k).isSome=true∧∀ b,C k=some b->wr b=true)∨(C k=none∧M k=none∧ws=[]))
  (hle:lG M (aQ M k l))
  (bg:∀ c,c<w.heap.size->c∉ah l->w'.heap[c]? = w.heap[c]?)
  (dh:∀ c∈ah l,(∃ l0,M k=some l0∧c∈ah l0)∨w.heap.size<=c)
  (vY:w.heap.size<=w'.heap.size) (ho:w'.os=w.os) (hou:w'.output=w.output) (ht:w'.tape=w.tape) :
  Ext M C w (aQ M k l) (gU C k b) w' ws where
 zN:=hle
 frame:=by
  intro c hc hf;refine bg c hc fun pK=>?_;rcases dh c pK with⟨l0,h1,h2⟩ | zF
  ·rcases Sl with⟨_,rfl,_⟩ | ⟨_,hn,_⟩
   ·exact hf k (by simp) l0 h1 h2
   ·rw[hn] at h1;cases h1
  ·omega
 iC:=fun j hj hn=>by
  have:j≠k:=by
   rintro rfl;rcases Sl with⟨_,rfl,_⟩ | ⟨h1,_⟩
   ·simp at hn
   ·simp[h1] at hj
  simp[gU,this]
 gZ:=fun j hj hn=>by
  have:j≠k:=by
   rintro rfl;rcases Sl with⟨_,rfl,_⟩ | ⟨h1,_⟩
   ·simp at hn
   ·rcases hj with hj | hj
    ·simp[h1] at hj
    ·simp[gU] at hj
  simp[aQ,this]
 fresh:=fun j l0 hj c hc aN=>by
  by_cases hjk:j=k
  ·subst hjk;simp only[aQ,if_true,Option.some.injEq] at hj;subst hj;rcases dh c hc with h1 | zF
   ·exact h1
   ·omega
  ·simp only[aQ,hjk,if_false] at hj;exact⟨l0,hj,hc⟩
 size:=vY
 has:=fun j hj=>by
  by_cases hjk:j=k
  ·simp[gU,hjk]
  ·simpa[gU,hjk] using hj
 wsub:=by
  rcases Sl with⟨h1,rfl,_⟩ | ⟨_,_,rfl⟩
  ·intro j hj;simp at hj;subst hj;exact h1
  ·simp
 wrote:=by
  rcases Sl with⟨_,rfl,h1⟩ | ⟨_,_,rfl⟩
  ·intro j hj;simp at hj;subst hj;exact h1
  ·simp
 os:=ho
 output:=hou
 tape:=ht
theorem ER.mono {M M':Mp} (hm:lG M M') (hl:∀ k l,M (.l k)=some l->M' (.l k)=some l) {e:EV} {x:Value} (h:ER M e x):ER M' e x:=by
 cases h with
 | val h=>exact .val (h.mono hm.h)
 | loc h hb=>exact .loc (hl _ _ h) hb
 | undef=>exact .undef
structure Dq (M:Mp) (D:Key->Prop) (C:Ct) (w:World) (v:EV) (C1:Ct) (ws:List Key) (x:Value) (w':World) (M':Mp):Prop where
 val:Valid M' (fun k=>D k∨(C k=none∧(C1 k).isSome=true)) C1 w'
 ext:Ext M C w M' C1 w' ws
 er:ER M' v x
 loc:∀ k l,M (.l k)=some l->M' (.l k)=some l
theorem Dq.same {M:Mp} {D:Key->Prop} {C:Ct} {w:World} {v:EV} {x:Value} (h:Valid M D C w) (he:ER M v x):Dq M D C w v C [] x w M:=
 ⟨⟨fun k l hk hd=>h.ok k l hk (hd.elim id fun⟨a,b⟩=>by simp[a] at b),fun k k' l l' b a1 a2 a3 hd=>h.own k k' l l' b a1 a2 a3 (hd.elim id fun⟨a,b⟩=>by simp[a] at b),h.inb⟩,.refl M C w,he,fun _ _ h=>h⟩
theorem jM (w:World) (o:Obj) (i:Nat) (h:i<w.heap.size):(w.alloc o).heap[i]? = w.heap[i]?:=by
 show (w.heap.push o)[i]? = w.heap[i]?;rw[Array.getElem?_push,if_neg (Nat.ne_of_lt h)]
section
variable {P:Program} {w:World}
theorem fC {t:TypeId} {i:TypeInfo} (h:P.info? t=some i):(typeInfo t).run P w=.ok i w:=by simp[typeInfo,h]
theorem wS {t:TypeId} {n:Nat} (h:aZ P t=some n):∃ i,P.info? t=some i∧i.size=n:=by
 simpa[aZ] using h
theorem aJ {t:TypeId} {n:Nat} (h:aZ P t=some n):(Go.sizeOf t).run P w=.ok n w:=by
 obtain⟨i,h1,h2⟩:=wS h;simp[Go.sizeOf,fC h1,h2]
theorem qL {t:TypeId} {b:Bool} (h:oL P t=some b):(isAgg t).run P w=.ok b w:=by
 unfold oL at h;split at h<;>simp at h<;>subst h
 ·simp[isAgg,run_underlying ‹_›]
 ·simp[isAgg,run_underlying ‹_›]
 rename_i d _ _ hu;simp only[isAgg,Sem.run_bind,run_underlying hu,Result.andThen_ok];cases d<;>simp_all
theorem jO (c o n:Nat):(⟨c,o,none⟩:Addr).add n=⟨c,o+n,none⟩:=by
 unfold Addr.add;split<;>simp_all
theorem pU {N:Np} {c:TV} {v:Value} (h:VR N c v) (ho:bW c=true):v.oneCell'=true:=by
 cases h<;>first | rfl | simp[bW] at ho
theorem lq {cs:List TV} {off n:Nat} {r:List TV} (h:sub cs off n=some r):off+n<=cs.length∧r=(cs.drop off).take n∧r.length=n:=by
 unfold sub at h;split at h
 ·rename_i hl;simp at h;subst h;exact⟨hl,rfl,by simp;omega⟩
 simp at h
theorem mJ {cs:List TV} {off:Nat} {new r:List TV} (h:lX cs off new=some r) :
  off+new.length<=cs.length∧r=cs.take off++new++cs.drop (off+new.length)∧r.length=cs.length:=by
 unfold lX at h;split at h
 ·rename_i hl;simp at h;subst h;exact⟨hl,by simp,by simp;omega⟩
 ·simp at h
theorem Dp.slice {N:Np} {k:BK} {cs:List TV} {p:Pl} (h:Dp N w k cs p) {off n:Nat} {r:List TV} (hr:sub cs off n=some r) (he:off+n<=p.ext) (hz:k=.last->p.ext=cs.length) :
  ∃ xs:List Value,aH N r xs∧∀ (j:Nat) (v:Value),xs[j]? = some v->w.cell? ⟨p.c,p.base+off+j,none⟩=some v:=by
 obtain⟨arr,ty,fz,h1,h2,_,h4⟩:=h.row;obtain⟨s1,s2,s3⟩:=lq hr;have hf:=h.fit;refine⟨(arr.toList.drop (p.base+off)).take n,⟨by rw[s3];simp;omega,fun i c v a b=>?_⟩,fun j v hj=>?_⟩
 ·rw[s2,List.getElem?_take] at a;rw[List.getElem?_take] at b;split at a
  ·rename_i hi;rw[if_pos hi,List.getElem?_drop] at b;rw[List.getElem?_drop] at a;exact h4 hz (off+i) c v (by omega) a (by simpa[Nat.add_assoc] using b)
  ·simp at a
 ·rw[List.getElem?_take] at hj;split at hj
  ·rw[List.getElem?_drop] at hj;simp only[World.cell?,h1];simpa using hj
  ·simp at hj
theorem oM {N:Np} {k:BK} {cs:List TV} {p:Pl} (h:Dp N w k cs p) {off n:Nat} {r:List TV} (hr:sub cs off n=some r) (he:off+n<=p.ext) (hz:k=.last->p.ext=cs.length) :
  ∃ xs:List Value,aH N r xs∧∀ w':World,w'.heap=w.heap->(loadCells ⟨p.c,p.base+off,none⟩ n).run P w'=.ok xs.toArray w':=by
 obtain⟨xs,h1,h2⟩:=h.slice hr he hz;refine⟨xs,h1,fun w' hw'=>?_⟩;have hl:xs.length=n:=by rw[<-h1.len];exact (lq hr).2.2
 have:=run_loadCells_list (P:=P) w' ⟨p.c,p.base+off,none⟩ xs (fun j v hj=>by
  rw[jO];have e:=h2 j v hj;simp only[World.cell?,hw'] at e ⊢;exact e)
 rwa [hl] at this
theorem AU {N:Np} {k:BK} {cs:List TV} {p:Pl} (h:Dp N w k cs p) {t:TypeId} {off n:Nat} {v:TV} (hs:aZ P t=some n)
  (hv:l7 P t cs off=some v) (he:off+n<=p.ext) (hz:k=.last->p.ext=cs.length) :
  ∃ x,VR N v x∧(loadVar t ⟨p.c,p.base+off,none⟩).run P w=.ok x w:=by
 unfold l7 at hv;rw[hs] at hv;cases ha:oL P t with
 | none=>simp[ha] at hv
 | some b=>
  cases b with
  | true=>
   simp only[ha,Option.map_eq_some_iff] at hv;obtain⟨r,hr,rfl⟩:=hv;obtain⟨xs,g1,g2⟩:=oM (P:=P) h hr he hz;exact⟨_,.agg' g1,by simp[loadVar,qL ha,aJ hs,g2 w rfl]⟩
  | false=>
   simp only[ha] at hv;split at hv
   case isFalse=>simp at hv
   rename_i hn1;have he1:off+1<=p.ext:=(by omega);have aN:=(List.getElem?_eq_some_iff.1 hv).1;have hr:sub cs off 1=some [v]:=by
    unfold sub;rw[if_pos (by omega)];congr 1;rw[List.drop_eq_getElem_cons aN];have:=(List.getElem?_eq_some_iff.1 hv).2;simp[this]
   obtain⟨xs,g1,g2⟩:=h.slice hr he1 hz;obtain⟨x,xs',rfl,gx,_⟩:=g1.dJ;have:=g2 0 x rfl;simp only[Nat.add_zero] at this;exact⟨x,gx,by simp[loadVar,qL ha,this]⟩
end
theorem zO {M:Mp} {k:Key} {l:Lc} (h:M k=some l):aQ M k l=M:=by
 funext j;unfold aQ;split
 ·rename_i e;rw[e,h]
 rfl
theorem fQ (s:St) (b:HB) (e:List (Nat×EV)) (ws:List Nat):St.get { s with heap:=s.heap++[b],env:=e,ws:=ws }=gU s.get (.h s.heap.length) b:=by
 funext k
 cases k with
 | h j=>
  simp only[St.get,gU,Key.h.injEq];split
  ·rename_i e;subst e;simp
  rename_i e;by_cases hj:j<s.heap.length
  ·rw[List.getElem?_append_left hj]
  rw[List.getElem?_eq_none (by simp;omega),List.getElem?_eq_none (by omega)]
 | l j=>simp[St.get,gU]
theorem dU (s:St) (i:Nat) (b:HB) (h:i<s.heap.length) (e:List (Nat×EV)) (ws:List Nat):St.get { s with heap:=s.heap.set i b,env:=e,ws:=ws }=gU s.get (.h i) b:=by
 funext k
 cases k with
 | h j=>
  simp only[St.get,gU,Key.h.injEq];rw[List.getElem?_set];by_cases hj:i=j
  ·subst hj;simp[h]
  rw[if_neg hj,if_neg (fun e=>hj e.symm)]
 | l j=>simp[St.get,gU]
theorem Gj (s:St) (cs:List TV) (e:List (Nat×EV)) (ws:List Nat):St.get { s with loc:=s.loc++[cs],env:=e,ws:=ws }=gU s.get (.l s.loc.length) (.cells .own cs):=by
 funext k
 cases k with
 | l j=>
  simp only[St.get,gU,Key.l.injEq];split
  ·rename_i e;subst e;simp
  rename_i e;by_cases hj:j<s.loc.length
  ·rw[List.getElem?_append_left hj]
  rw[List.getElem?_eq_none (by simp;omega),List.getElem?_eq_none (by omega)]
 | h j=>simp[St.get,gU]
theorem Du (s:St) (i:Nat) (cs:List TV) (h:i<s.loc.length) (e:List (Nat×EV)) (ws:List Nat):St.get { s with loc:=s.loc.set i cs,env:=e,ws:=ws }=gU s.get (.l i) (.cells .own cs):=by
 funext k
 cases k with
 | l j=>
  simp only[St.get,gU,Key.l.injEq];rw[List.getElem?_set];by_cases hj:i=j
  ·subst hj;simp[h]
  rw[if_neg hj,if_neg (fun e=>hj e.symm)]
 | h j=>simp[St.get,gU]
theorem nX {h:List HB} {b lim:Nat} {cs:List TV} (e:iw h b lim=some cs):∃ k,h[b]? = some (.cells k cs)∧(k=.last->lim=cs.length):=by
 unfold iw at e;split at e
 ·rename_i k cs' hb;split at e
  ·cases e
  rename_i hn;simp at e;subst e;exact⟨k,hb,fun hk=>Decidable.not_not.1 fun hl=>hn ⟨hk,hl⟩⟩
 simp at e
theorem AV {k k':BK} {b:Bool} (e:sK k b=some k'):(k=.own∧k'=.own)∨((k=.grow∨k=.last)∧k'=.last∧b=true):=by
 unfold sK at e;split at e<;>simp_all
theorem zQ {h h':List HB} {b off lim:Nat} {new:List TV} (e:Ie h b off lim new=some h') :
  ∃ k k' cs cs',h[b]? = some (.cells k cs)∧((k=.own∧k'=.own)∨((k=.grow∨k=.last)∧k'=.last∧lim=cs.length))∧lX cs off new=some cs'∧h'=h.set b (.cells k' cs'):=by
 unfold Ie at e;split at e
 ·rename_i k cs hb;split at e
  ·rename_i k' hk;simp only[Option.map_eq_some_iff] at e;obtain⟨cs',h1,h2⟩:=e;refine⟨k,k',cs,cs',hb,?_,h1,h2.symm⟩;rcases AV hk with h | ⟨a,b,c⟩
   ·exact .inl h
   ·exact .inr ⟨a,b,by simpa using c⟩
  ·cases e
 ·simp at e
theorem Dv {arr:Array Value} {off:Nat} {xs:List Value} (i:Nat) (h:off+xs.length<=arr.size) :
  (arr.toList.take off++xs++arr.toList.drop (off+xs.length)).toArray[i]? = if i<off then arr[i]? else if i<off+xs.length then xs[i-off]? else arr[i]?:=by
 have hl:(arr.toList.take off).length=off:=by simp;omega
 simp only[List.getElem?_toArray];by_cases h1:i<off
 ·rw[if_pos h1,List.append_assoc,List.getElem?_append_left (by omega),List.getElem?_take,if_pos h1];simp
 ·rw[if_neg h1];by_cases h2:i<off+xs.length
  ·rw[if_pos h2,List.append_assoc,List.getElem?_append_right (by omega),hl,List.getElem?_append_left (by omega)]
  ·rw[if_neg h2,List.getElem?_append_right (by simp;omega),List.getElem?_drop];have:off+xs.length+(i-(List.take off arr.toList++xs).length)=i:=by simp;omega
   rw[this];simp
theorem Qw {cs new r:List TV} {off:Nat} (h:lX cs off new=some r) (i:Nat) :
  r[i]? = if i<off then cs[i]? else if i<off+new.length then new[i-off]? else cs[i]?:=by
 obtain⟨h1,h2,_⟩:=mJ h;have hl:(cs.take off).length=off:=by simp;omega
 rw[h2];by_cases h1:i<off
 ·rw[if_pos h1,List.append_assoc,List.getElem?_append_left (by omega),List.getElem?_take,if_pos h1]
 ·rw[if_neg h1];by_cases h2:i<off+new.length
  ·rw[if_pos h2,List.append_assoc,List.getElem?_append_right (by omega),hl,List.getElem?_append_left (by omega)]
  ·rw[if_neg h2,List.getElem?_append_right (by simp;omega),List.getElem?_drop];congr 1;simp;omega
theorem Jv {cs new r:List TV} {off:Nat} (h:lX cs off new=some r) (hc:∀ c∈cs,bW c=true) (hn:∀ c∈new,bW c=true):∀ c∈r,bW c=true:=by
 obtain⟨_,h2,_⟩:=mJ h;intro c hcr;rw[h2] at hcr;simp only[List.mem_append] at hcr;rcases hcr with (h | h) | h
 ·exact hc c (List.mem_of_mem_take h)
 ·exact hn c h
 exact hc c (List.mem_of_mem_drop h)
theorem iU (w:World) (g:Nat) (arr:Array Value) (c:Nat) (h:c≠g):(w.setRow g arr).heap[c]? = w.heap[c]?:=by
 simp only[World.setRow,Array.getElem?_modify];rw[if_neg (fun e=>h e.symm)]
theorem wU (w:World) (g:Nat) (arr cur:Array Value) (ty:TypeId) (fz:Nat×Nat) (h:w.heap[g]? = some (.cells cur ty fz)):(w.setRow g arr).heap[g]? = some (.cells arr ty fz):=by
 simp[World.setRow,Array.getElem?_modify,h]
theorem Valid.widen {M:Mp} {D:Key->Prop} {C C1:Ct} {w':World} (h:Valid M D C1 w') (hn:∀ k,C k=none->C1 k=none):Valid M (fun j=>D j∨(C j=none∧(C1 j).isSome=true)) C1 w':=
 have aux:∀ j,(D j∨(C j=none∧(C1 j).isSome=true))->D j:=fun j hj=>hj.elim id fun⟨a,b⟩=>by rw[hn j a] at b;cases b
 ⟨fun k l hk hd=>h.ok k l hk (aux k hd),fun k k' l l' b a1 a2 a3 hd=>h.own k k' l l' b a1 a2 a3 (aux k hd),h.inb⟩
theorem uV {C:Ct} {k:Key} {b:HB} (hk:(C k).isSome=true):∀ j,C j=none->gU C k b j=none:=by
 intro j hj;unfold gU;split
 ·rename_i e;subst e;rw[hj] at hk;cases hk
 exact hj
theorem Valid.wrB {M:Mp} {D:Key->Prop} {C:Ct} {w:World} (h:Valid M D C w) {k:Key} {ls:List Pl} {p:Pl} {cs:List TV} {kk oN:BK} (hk:M k=some (.cells ls)) (hd:D k)
  (hc:C k=some (.cells kk cs)) (hp:p∈ls) (qM:(kk=.own∧oN=.own)∨((kk=.grow∨kk=.last)∧oN=.last∧p.ext=cs.length)) :
  p.base=0∧p.ext=cs.length∧(∀ c∈cs,bW c=true)∧(∀ q∈ls,Dp M.h w kk cs q)∧(ls.map (·.c)).Nodup∧(∀ q∈ls,q.ext=cs.length->q=p) ∧
  ∃ (arr:Array Value) (ty:TypeId),w.heap[p.c]? = some (.cells arr ty (0,0))∧arr.size=p.tot∧cs.length<=p.tot ∧
   ∀ (i:Nat) (c:TV) (v:Value),cs[i]? = some c->arr[i]? = some v->VR M.h c v:=by
 obtain⟨b,h1,h2⟩:=h.ok k _ hk hd;rw[hc] at h1;cases h1;obtain⟨g1,g2,g3,g4⟩:=h2;have dZ:kk≠.ro:=by rcases qM with⟨e,_⟩ | ⟨e | e,_⟩<;>rw[e]<;>simp
 have qN:=g2 p hp;have hb:=qN.base dZ;have hx:p.ext=cs.length∧(ls.map (·.c)).Nodup∧∀ q∈ls,q.ext=cs.length->q=p:=by
  rcases qM with⟨e,_⟩ | ⟨e,_,he⟩
  ·obtain⟨q,rfl,hq⟩:=g3 e;simp at hp;subst hp;exact⟨hq,by simp,fun q' hq' _=>by simpa using hq'⟩
  ·obtain⟨n1,n2⟩:=g4 e;exact⟨he,n1,fun q hq hqe=>n2 q hq p hp hqe he⟩
 obtain⟨arr,ty,fz,r1,r2,r3,r4⟩:=qN.row;have:=r3 dZ;subst this;have hf:=qN.fit;refine⟨hb,hx.1,g1,g2,hx.2.1,hx.2.2,arr,ty,r1,r2,by omega,fun i c v a b=>?_⟩;have hi:=(List.getElem?_eq_some_iff.1 a).1;exact r4 (fun _=>hx.1) i c v (by omega) a (by simpa[hb] using b)
theorem Valid.LQ {M:Mp} {D:Key->Prop} {C:Ct} {w:World} (h:Valid M D C w) {k:Key} {ls:List Pl} {p:Pl} {cs:List TV} {kk oN:BK} {lim:Nat} (hk:M k=some (.cells ls)) (hd:D k)
  (hc:C k=some (.cells kk cs)) (hp:p∈ls) (hl:lim<=p.ext) (qM:(kk=.own∧oN=.own)∨((kk=.grow∨kk=.last)∧oN=.last∧lim=cs.length)) :
  (kk=.own∧oN=.own)∨((kk=.grow∨kk=.last)∧oN=.last∧p.ext=cs.length):=by
 rcases qM with e | ⟨e1,e2,e3⟩
 ·exact .inl e
 ·obtain⟨b,h1,h2⟩:=h.ok k _ hk hd;rw[hc] at h1;cases h1;have:=(h2.2.1 p hp).ext;exact .inr ⟨e1,e2,by omega⟩
theorem Dw:∀ {ls:List Pl},(ls.map (·.c)).Nodup->∀ {p q:Pl},p∈ls->q∈ls->q.c=p.c->q=p
 | [],_,p,q,hp,_,_=>by simp at hp
 | a::ls,h,p,q,hp,hq,e=>by
  simp only[List.map_cons,List.nodup_cons] at h;rcases List.mem_cons.1 hp with h1 | h1<;>rcases List.mem_cons.1 hq with h2 | h2
  ·rw[h1,h2]
  ·exact (h.1 (List.mem_map.2 ⟨q,h2,by rw[e,h1]⟩)).elim
  ·exact (h.1 (List.mem_map.2 ⟨p,h1,by rw[<-e,h2]⟩)).elim
  exact Dw h.2 h1 h2 e
theorem pV {P:Program} {M:Mp} {D:Key->Prop} {C:Ct} {w:World} (h:Valid M D C w) {k:Key} {ls:List Pl} {p:Pl} {cs cs' new:List TV} {off:Nat} {xs:List Value} {kk oN:BK}
  (hk:M k=some (.cells ls)) (hd:D k) (hc:C k=some (.cells kk cs)) (hp:p∈ls) (qM:(kk=.own∧oN=.own)∨((kk=.grow∨kk=.last)∧oN=.last∧p.ext=cs.length))
  (ho:lX cs off new=some cs') (hx:aH M.h new xs) (hn:∀ c∈new,bW c=true) :
  ∃ w',(storeCells ⟨p.c,p.base+off,none⟩ xs).run P w=.ok () w'∧Valid M D (gU C k (.cells oN cs')) w'∧Ext M C w M (gU C k (.cells oN cs')) w' [k]:=by
 obtain⟨hb,he,h1,qN,lH,huq,arr,ty,hr,hs,hle,hv⟩:=h.wrB hk hd hc hp qM;obtain⟨o1,o2,o3⟩:=mJ ho;have hlen:=hx.len;have dZ:kk≠.ro:=by rcases qM with⟨e,_⟩ | ⟨e | e,_⟩<;>rw[e]<;>simp
 have Xa:oN≠.ro:=by rcases qM with⟨_,e⟩ | ⟨_,e,_⟩<;>rw[e]<;>simp
 have Sr:∀ b0,C k=some b0->wr b0=true:=fun b0 lQ=>by rw[hc] at lQ;cases lQ;cases kk<;>simp_all [wr]
 have pW:∀ v∈xs,v.oneCell'=true:=by
  intro v hv;obtain⟨i,hi,rfl⟩:=List.mem_iff_getElem.1 hv;have nP:i<new.length:=by omega
  exact pU (hx.at_ i new[i] xs[i] (by simp[nP]) (by simp[hi])) (hn _ (List.getElem_mem nP))
 have kE:=run_storeCells_at (P:=P) p.c (p.base+off) ty xs 0 arr w hr (by omega) pW;simp only[Nat.add_zero,hb,Nat.zero_add] at kE
 let w':World:=w.setRow p.c (arr.toList.take off++xs++arr.toList.drop (off+xs.length)).toArray
 have jf:aQ M k (.cells ls)=M:=zO hk;have bg:∀ c,c<w.heap.size->c∉ah (.cells ls)->w'.heap[c]? = w.heap[c]?:=fun c _ hc=>iU w p.c _ c (fun e=>hc (by rw[e];exact List.mem_map.2 ⟨p,hp,rfl⟩));have dh:∀ c∈ah (.cells ls),(∃ l0,M k=some l0∧c∈ah l0)∨w.heap.size<=c:=fun c hc=>.inl ⟨_,hk,hc⟩;have nR:w.heap.size<=w'.heap.size:=by simp[w']
 have mQ:lG M (aQ M k (.cells ls)):=by rw[jf];exact .refl _
 refine⟨w',by rw[hb,Nat.zero_add];exact kE,?_,?_⟩
 ·have:=h.upd (D':=D) (w':=w') k (.cells oN cs') (.cells ls) (fun j hj=>.inl hj) (fun l0 h0=>by
   rw[hk] at h0;cases h0;exact⟨hd,.refl _,Sr⟩) bg dh nR (by
   rw[jf];refine⟨Jv ho h1 hn,fun q hq=>?_,fun e=>?_,fun e=>⟨lH,fun q1 lS q2 FM e1 e2=>by rw[huq q1 lS (by omega),huq q2 FM (by omega)]⟩⟩
   ·have Jm:=qN q hq;by_cases Qx:q.c=p.c
    ·have:=Dw lH hp hq Qx;subst this;refine⟨⟨_,ty,(0,0),wU w q.c _ arr ty (0,0) hr,by simp;omega,fun _=>rfl,fun _ i c v hi a b=>?_⟩,by omega,by omega,fun _=>hb⟩;rw[hb,Nat.zero_add,Dv i (by omega)] at b;rw[Qw ho i,hlen] at a;split at a
     ·rename_i Tf;rw[if_pos Tf] at b;exact hv i c v a b
     ·rename_i Tf;rw[if_neg Tf] at b;split at a
      ·rename_i WS;rw[if_pos WS] at b;exact hx.at_ _ c v a b
      ·rename_i WS;rw[if_neg WS] at b;exact hv i c v a b
    ·obtain⟨jP,Sv,Xb,t1,t2,t3,t4⟩:=Jm.row;refine⟨⟨jP,Sv,Xb,(iU w p.c _ q.c Qx).trans t1,t2,fun _=>t3 dZ,fun hz i c v hi a b=>?_⟩,Jm.fit,by have:=Jm.ext;omega,fun _=>Jm.base dZ⟩;exfalso;apply Qx;rcases qM with⟨e,_⟩ | ⟨_,e,_⟩
     ·obtain⟨b',g1,g2⟩:=h.ok k _ hk hd;rw[hc] at g1;cases g1;obtain⟨q',g3,_⟩:=g2.2.2.1 e;rw[g3] at hq hp;simp at hq hp;rw[hq,hp]
     ·rw[huq q hq (by rw[hz e];omega)]
   ·rcases qM with⟨e0,_⟩ | ⟨_,e1,_⟩
    ·obtain⟨b',g1,g2⟩:=h.ok k _ hk hd;rw[hc] at g1;cases g1;obtain⟨q',g3,g4⟩:=g2.2.2.1 e0;exact⟨q',g3,by omega⟩
    ·rw[e1] at e;cases e)
  rwa [jf] at this
 ·have:=Ext.upd (M:=M) (C:=C) (w:=w) (w':=w') k (.cells oN cs') (.cells ls) [k] (.inl ⟨by simp[hc],rfl,by simp[hk],Sr⟩) mQ bg dh nR rfl rfl rfl
  rwa [jf] at this
theorem Dx {M:Mp} {D:Key->Prop} {C:Ct} {w:World} (h:Valid M D C w) {k:Key} {cs:List TV} {arr:Array Value} (ty:TypeId)
  (hk:M k=none) (hc:C k=none) (hl:cs.length<=arr.size) (hx:∀ (i:Nat) (c:TV) (v:Value),cs[i]? = some c->arr[i]? = some v->VR M.h c v) (hn:∀ c∈cs,bW c=true) :
  Valid (aQ M k (.cells [⟨w.heap.size,0,cs.length,arr.size⟩])) (fun j=>D j∨(C j=none∧(gU C k (.cells .own cs) j).isSome=true)) (gU C k (.cells .own cs)) (w.alloc (.cells arr ty)) ∧
  Ext M C w (aQ M k (.cells [⟨w.heap.size,0,cs.length,arr.size⟩])) (gU C k (.cells .own cs)) (w.alloc (.cells arr ty)) []:=by
 have hle:lG M (aQ M k (.cells [⟨w.heap.size,0,cs.length,arr.size⟩])):=iI fun l0 h0=>by rw[hk] at h0;cases h0
 have bg:∀ c,c<w.heap.size->c∉ah (.cells [⟨w.heap.size,0,cs.length,arr.size⟩])->(w.alloc (.cells arr ty)).heap[c]? = w.heap[c]?:=fun c hc _=>jM w _ c hc;have dh:∀ c∈ah (.cells [⟨w.heap.size,0,cs.length,arr.size⟩]),(∃ l0,M k=some l0∧c∈ah l0)∨w.heap.size<=c:=fun c hc=>.inr (by simp[ah] at hc;omega);refine⟨h.upd k _ _ (fun j hj=>?_) (fun l0 h0=>by rw[hk] at h0;cases h0) bg dh (by simp) ?_,Ext.upd k _ _ [] (.inr ⟨hc,hk,rfl⟩) hle bg dh (by simp) rfl rfl rfl⟩
 ·rcases hj with hj | ⟨a,b⟩
  ·exact .inl hj
  ·right;unfold gU at b;split at b
   ·assumption
   ·simp[a] at b
 ·refine⟨hn,fun q hq=>?_,fun _=>⟨_,rfl,rfl⟩,by simp⟩;simp at hq;subst hq;exact⟨⟨arr,ty,(0,0),heap_alloc_new w _,rfl,fun _=>rfl,fun _ i c v _ a b=>(hx i c v a (by simpa using b)).mono hle.h⟩,by simpa using hl,Nat.le_refl _,fun _=>rfl⟩
theorem Ti {M:Mp} {env:List (Nat×EV)} {a:Act} (hE:gG M env a.tmps) {x:Operand} {e:EV} (h:AL env x=some e):ER M e (a.eval x):=by
 cases x with
 | tmp t=>exact hE t e h
 | const v=>
  simp only[AL,Option.map_eq_some_iff] at h;obtain⟨t,h1,rfl⟩:=h;exact .val (.sS h1)
 | func f=>
  simp only[AL,Option.some.injEq] at h;subst h;exact .val (VR.fn (xs:=[]) (ys:=[]) rfl (by simp) rfl (by simp))
 | global g=>simp[AL] at h
theorem LU {M:Mp} {env:List (Nat×EV)} {a:Act} (hE:gG M env a.tmps) {x:Operand} {v:TV} (h:lJ env x=some v):VR M.h v (a.eval x):=by
 unfold lJ at h;split at h
 ·rename_i v' he;simp at h;subst h;exact (Ti hE he).lZ
 simp at h
structure PR (N:Np) (ps:List (Nat×TV)) (qs:List (Nat×Value)):Prop where
 len:ps.length=qs.length
 at_:∀ (i:Nat) (p:Nat×TV) (q:Nat×Value),ps[i]? = some p->qs[i]? = some q->p.1=q.1∧VR N p.2 q.2
theorem PR.nil {N:Np}:PR N [] []:=⟨rfl,by simp⟩
theorem PR.cons {N:Np} {i:Nat} {v:TV} {x:Value} {ps:List (Nat×TV)} {qs:List (Nat×Value)} (h:VR N v x) (hs:PR N ps qs):PR N ((i,v)::ps) ((i,x)::qs):=
 ⟨by simp[hs.len],fun j p q a b=>by
  cases j with
  | zero=>simp at a b;subst a;subst b;exact⟨rfl,h⟩
  | succ j=>simp at a b;exact hs.at_ j p q a b⟩
theorem PR.dJ {N:Np} {i:Nat} {v:TV} {ps:List (Nat×TV)} {qs:List (Nat×Value)} (h:PR N ((i,v)::ps) qs):∃ x qs',qs=(i,x)::qs'∧VR N v x∧PR N ps qs':=by
 cases qs with
 | nil=>have:=h.len;simp at this
 | cons q qs'=>
  have h0:=h.at_ 0 (i,v) q rfl rfl;obtain⟨j,x⟩:=q;obtain⟨h1,h2⟩:=h0;simp only at h1;subst h1;exact⟨x,qs',rfl,h2,⟨by have:=h.len;simpa using this,fun j p q a b=>h.at_ (j+1) p q (by simpa using a) (by simpa using b)⟩⟩
theorem PR.jr {N:Np} {qs:List (Nat×Value)} (h:PR N [] qs):qs=[]:=by
 have:=h.len;simp at this;exact List.eq_nil_of_length_eq_zero this.symm
def a4e (P:Program) (c:Sem Next) (w:World) (x:Value) (w':World):Prop:=
 c.run P w=.ok (.value x) w'∨(x=Go.undef∧c.run P w=.ok .skip w')
def wV (P:Program) (M:Mp) (D:Key->Prop) (C:Ct) (w:World) (c:Sem Next) (v:EV) (C1:Ct) (ws:List Key):Prop:=
 ∃ x w' M',a4e P c w x w'∧Dq M D C w v C1 ws x w' M'
section
variable {P:Program} {M:Mp} {D:Key->Prop} {w:World} {s:St}
theorem wV.same {C:Ct} {c:Sem Next} {v:EV} {x:Value} (hV:Valid M D C w) (hr:c.run P w=.ok (.value x) w) (he:ER M v x):wV P M D C w c v C []:=
 ⟨x,w,M,.inl hr,.same hV he⟩
theorem jQ {k:Key} {l:Lc} (hk:M k=none):∀ j l',M (.l j)=some l'->aQ M k l (.l j)=some l':=by
 intro j l' h;unfold aQ;rw[if_neg (fun e=>by rw[<-e,h] at hk;cases hk)];exact h
theorem Tj (hV:Valid M D s.get w) (pX:M (.h s.heap.length)=none) (Sz:M (.l s.loc.length)=none) (site:Bool) {cs:List TV} {xs:Array Value} (ty:TypeId)
  (hx:aH M.h cs xs.toList) (hn:∀ c∈cs,bW c=true) {v:EV} {s1:St} (h:jh site s cs=(v,s1)) :
  ∃ M',Dq M D s.get w v s1.get [] (.pointer (some ⟨w.heap.size,0,none⟩)) (w.alloc (.cells xs ty)) M':=by
 have hlen:cs.length<=xs.size:=by have:=hx.len;simpa using Nat.le_of_eq this
 have Ij:∀ (i:Nat) (c:TV) (v:Value),cs[i]? = some c->xs[i]? = some v->VR M.h c v:=fun i c v a b=>hx.at_ i c v a (by simpa using b);unfold jh at h;cases site with
 | true=>
  simp only[if_true,Prod.mk.injEq] at h;obtain⟨rfl,rfl⟩:=h;have hc:s.get (.h s.heap.length)=none:=by simp[St.get]
  have:=Dx hV ty pX hc hlen Ij hn;refine⟨aQ M (.h s.heap.length) (.cells [⟨w.heap.size,0,cs.length,xs.size⟩]),⟨?_,?_,?_,jQ pX⟩⟩
  ·rw[fQ];exact this.1
  ·rw[fQ];exact this.2
  ·exact .val (VR.ptr (p:=⟨w.heap.size,0,cs.length,xs.size⟩) (ls:=[⟨w.heap.size,0,cs.length,xs.size⟩]) (by simp[Mp.h,aQ]) (by simp) (Nat.le_refl _) (by simpa using hlen))
 | false=>
  simp only[Bool.false_eq_true,if_false,Prod.mk.injEq] at h;obtain⟨rfl,rfl⟩:=h;have hc:s.get (.l s.loc.length)=none:=by simp[St.get]
  have:=Dx hV ty Sz hc hlen Ij hn;refine⟨aQ M (.l s.loc.length) (.cells [⟨w.heap.size,0,cs.length,xs.size⟩]),⟨?_,?_,?_,jQ Sz⟩⟩
  ·rw[Gj];exact this.1
  ·rw[Gj];exact this.2
  ·exact ER.loc (p:=⟨w.heap.size,0,cs.length,xs.size⟩) (by simp[aQ]) rfl
theorem Ox {x:Value} {c:TV} (h:TV.SQ x=some c):bW c=true:=by
 unfold TV.SQ at h;split at h<;>simp at h<;>subst h<;>rfl
theorem Jw:∀ {xs:List Value} {cs:List TV},TV.wM xs=some cs->∀ c∈cs,bW c=true
 | [],cs,h=>by simp[TV.wM] at h;subst h;simp
 | x::xs,cs,h=>by
  simp only[TV.wM] at h;split at h
  ·rename_i v vs h1 h2;simp at h;subst h;intro c hc;rcases List.mem_cons.1 hc with rfl | hc
   ·exact Ox h1
   exact Jw h2 c hc
  simp at h
theorem Qy {x:Value} {v:TV} (h:TV.Jk x=some v):∀ c∈v.cells,bW c=true:=by
 unfold TV.Jk at h;split at h
 ·simp only[Option.map_eq_some_iff] at h;obtain⟨vs,h1,rfl⟩:=h;exact Jw h1
 have h1:=Ox h;cases v<;>simp[bW] at h1<;>simp[TV.cells,bW]
theorem mV {t:TypeId} {z:List TV} (h:xK P t=some z):∃ i x v,P.info? t=some i∧i.zero=some x∧TV.Jk x=some v∧z=v.cells∧(∀ c∈z,bW c=true) ∧
  (∀ N:Np,aH N z x.cells.toList)∧∀ w,(zeroValue t).run P w=.ok x w:=by
 unfold xK at h;split at h
 ·rename_i i hi;split at h
  ·rename_i x hx;simp only[Option.map_eq_some_iff] at h;obtain⟨v,h1,rfl⟩:=h;exact⟨i,x,v,hi,hx,h1,rfl,Qy h1,fun N=>(VR.sS h1).cells,fun w=>by simp[zeroValue,fC hi,hx]⟩
  ·simp at h
 ·simp at h
theorem LV (vs:List Value):∀ (k off:Nat) (arr:Array Value),off+k+vs.length<=arr.size ->
  ((vs.zipIdx k).foldl (fun (cs:Array Value) (c:Value×Nat)=>cs.setIfInBounds (off+c.2) c.1) arr).toList=arr.toList.take (off+k)++vs++arr.toList.drop (off+k+vs.length):=by
 induction vs with
 | nil=>intro k off arr h;simp
 | cons v vs ih=>
  intro k off arr h;simp only[List.length_cons] at h;simp only[List.zipIdx_cons,List.foldl_cons];rw[ih (k+1) off _ (by simp;omega)];have e:=list_seg_step arr.toList (off+k) v vs (by simp;omega);simpa[Array.toList_setIfInBounds,Nat.add_assoc] using e
theorem BZ {N:Np} {place place':Nat->Option (Nat×Nat)} (hp:∀ i x,place i=some x->place' i=some x):∀ {ps:List (Nat×TV)} {qs:List (Nat×Value)} {cs r:List TV} {arr:Array Value},kG place cs ps=some r->PR N ps qs ->
  aH N cs arr.toList->∃ jP,Instr.fill place' arr qs=some jP∧aH N r jP.toList
 | [],qs,cs,r,arr,h,hq,hc=>by
  have:=hq.jr;subst this;simp[kG] at h;subst h;exact⟨arr,rfl,hc⟩
 | (i,v)::ps,qs,cs,r,arr,h,hq,hc=>by
  obtain⟨x,qs',rfl,hx,hq'⟩:=hq.dJ;simp only[kG] at h;split at h
  ·rename_i off size qN;split at h
   ·rename_i nR;split at h
    ·rename_i cs' ho;obtain⟨o1,o2,o3⟩:=mJ ho;have hxc:=hx.cells;have hl1:=hxc.len;have SA:=hc.len;simp only[Array.length_toList] at hl1 SA;have e:(x.cells.zipIdx.foldl (fun (cs:Array Value) (c:Value×Nat)=>cs.setIfInBounds (off+c.2) c.1) arr).toList=arr.toList.take off++x.cells.toList++arr.toList.drop (off+x.cells.toList.length):=by
      rw[<-Array.foldl_toList,Array.toList_zipIdx];have:=LV x.cells.toList 0 off arr (by simp;omega);simpa using this
     have Gi:aH N cs' (x.cells.zipIdx.foldl (fun (cs:Array Value) (c:Value×Nat)=>cs.setIfInBounds (off+c.2) c.1) arr).toList:=by
      have hlx:x.cells.toList.length=v.cells.length:=(by simp[hl1]);rw[e,o2,hlx];exact ((hc.take off).append hxc).append (hc.drop _)
     obtain⟨jP,g1,g2⟩:=BZ hp h hq' Gi;refine⟨jP,?_,g2⟩;simp only[Instr.fill,hp i _ qN];rw[if_neg (by simp;omega)];exact g1
    ·simp at h
   ·simp at h
  ·simp at h
theorem Dy {w:World}:∀ (fs:List Field),sN P fs=true->(fs.mapM (fun f=>Functor.map (Prod.mk f.offset) (Go.sizeOf f.type):Field->Sem (Nat×Nat))).run P w=.ok (fs.map fun f=>(f.offset,(aZ P f.type).getD 0)) w
 | [],_=>by simp
 | f::fs,h=>by
  simp only[sN,List.all_cons,Bool.and_eq_true] at h;obtain⟨n,hn⟩:=Option.isSome_iff_exists.1 h.1;have ih:=Dy (w:=w) fs (by simpa[sN] using h.2);simp only[List.mapM_cons,Sem.run_bind,Sem.run_map,aJ hn,Result.andThen_ok,Sem.run_pure,ih,List.map_cons,hn,Option.getD_some]
theorem Tn {N:Np} {t:TypeId} {ps:List (Nat×TV)} {qs:List (Nat×Value)} {v:TV} (h:zH P t ps=some v) (hq:PR N ps qs) :
  ∃ x,VR N v x∧∀ w,(Instr.build t qs.toArray).run P w=.ok x w:=by
 unfold zH at h;split at h
 ·rename_i z fs hz hu;split at h
  ·rename_i ha;simp only[Option.map_eq_some_iff] at h;obtain⟨r,hr,rfl⟩:=h;obtain⟨i,x,v,_,_,_,_,_,WT,SB⟩:=mV hz;obtain⟨jP,g1,g2⟩:=BZ (place':=fun i=>(fs.map fun f=>(f.offset,(aZ P f.type).getD 0))[i]?) (fun i x hx=>by
    unfold Ig at hx;split at hx
    ·rename_i f hf;simp only[Option.map_eq_some_iff] at hx;obtain⟨n,hn,rfl⟩:=hx;simp[hf,hn]
    ·simp at hx) hr hq (WT N)
   refine⟨_,.agg' g2,fun w=>?_⟩;have hm:(fs.mapM (fun f=>Functor.map (Prod.mk f.offset) (Go.sizeOf f.type):Field->Sem (Nat×Nat))).run P w=.ok (fs.map fun f=>(f.offset,(aZ P f.type).getD 0)) w:=by
    rw[Array.mapM_eq_mapM_toList,Sem.run_map,Dy fs.toList ha];simp only[Result.andThen_ok];congr 1;apply Array.ext';simp
   simp only[Array.getElem?_map] at g1;simp[Instr.build,SB w,run_underlying hu,hm,g1]
  ·simp at h
 ·rename_i z n e hz hu;split at h
  ·rename_i n hn;simp only[Option.map_eq_some_iff] at h;obtain⟨r,hr,rfl⟩:=h;obtain⟨i,x,v,_,_,_,_,_,WT,SB⟩:=mV hz;obtain⟨jP,g1,g2⟩:=BZ (place':=fun i=>some (i*n,n)) (fun i x hx=>hx) hr hq (WT N);exact⟨_,.agg' g2,fun w=>by simp[Instr.build,SB w,run_underlying hu,aJ hn,g1]⟩
  ·simp at h
 ·simp at h
end
section
variable {P:Program} {M:Mp} {D:Key->Prop} {w:World} {s:St}
theorem Jy {t:TypeId} {cs:List TV} {off:Nat} {v:TV} (h:l7 P t cs off=some v):∃ n,aZ P t=some n∧off+n<=cs.length:=by
 unfold l7 at h;split at h
 ·rename_i n _ hn;simp only[Option.map_eq_some_iff] at h;obtain⟨r,hr,_⟩:=h;exact⟨n,hn,(lq hr).1⟩
 ·rename_i n _ hn;split at h
  ·rename_i h1;subst h1;exact⟨1,hn,(List.getElem?_eq_some_iff.1 h).1⟩
  simp at h
 simp at h
theorem Oy {N:Np} {t:TypeId} {cs:List TV} {off:Nat} {v:TV} {xs:List Value} (h:l7 P t cs off=some v) (hx:aH N cs xs) :
  ∃ x,VR N v x∧(Go.part t xs.toArray off).run P w=.ok x w:=by
 unfold l7 at h;split at h
 ·rename_i n ha hn;simp only[Option.map_eq_some_iff] at h;obtain⟨r,hr,rfl⟩:=h;obtain⟨s1,s2,s3⟩:=lq hr;have hl:=hx.len;refine⟨.agg ((xs.drop off).take n).toArray,.agg' (by rw[s2];exact (hx.drop off).take n),?_⟩;simp[Go.part,qL ha,aJ hn]
 ·rename_i n ha hn;split at h
  ·obtain⟨x,h1,h2⟩:=hx.get h;exact⟨x,h2,by simp[Go.part,qL ha,h1]⟩
  ·simp at h
 ·simp at h
theorem xR {t:TypeId} {e:EV} {v:TV} {i:gy} {x:Value} (hV:Valid M D s.get w) (h:loadT P t s e=some (v,i)) (hx:ER M e x) (hD:∀ k∈i.ts,D k) :
  i.ws=[]∧∃ y,VR M.h v y∧(Instr.loadAt t x).run P w=.ok y w:=by
 unfold loadT at h;split at h
 ·rename_i k off;split at h
  ·rename_i cs hk;simp only[Option.map_eq_some_iff,Prod.mk.injEq] at h;obtain⟨v',hv,rfl,rfl⟩:=h;cases hx with
   | loc hm hb=>
    rename_i p;have hg:s.get (.l k)=some (.cells .own cs):=(by simp[St.get,hk]);have hd:=hD (.l k) (by simp[nT]);obtain⟨b,h1,h2⟩:=hV.ok _ _ hm hd;rw[hg] at h1;cases h1;obtain⟨_,h3,h4,_⟩:=h2;obtain⟨q,hq,he⟩:=h4 rfl;simp at hq;subst hq;obtain⟨n,hn,hle⟩:=Jy hv;obtain⟨y,g1,g2⟩:=AU (P:=P) (h3 p (by simp)) hn hv (by omega) (fun e=>by cases e);rw[hb,Nat.zero_add] at g2;exact⟨rfl,y,g1,by simp[Instr.loadAt,Instr.sureAddr,g2]⟩
  ·simp at h
 ·rename_i b off lim;split at h
  ·rename_i cs n hb hn;split at h
   ·rename_i BL;simp only[Option.map_eq_some_iff,Prod.mk.injEq] at h;obtain⟨v',hv,rfl,rfl⟩:=h;cases hx with
    | val hx=>
     cases hx with
     | ptr hm hp hl ht=>
      rename_i ls p;obtain⟨k,hk,Jz⟩:=nX hb;have hd:=hD (.h b) (by simp[nT]);obtain⟨cO,h1,h2⟩:=hV.ok _ _ hm hd;simp only[St.get,hk,Option.some.injEq] at h1;subst h1;obtain⟨_,h3,_⟩:=h2;obtain⟨y,g1,g2⟩:=AU (P:=P) (h3 p hp) hn hv (by omega) (fun e=>by have:=Jz e;have:=(h3 p hp).ext;omega);exact⟨rfl,y,g1,by simp[Instr.loadAt,Instr.sureAddr,g2]⟩
   ·simp at h
  ·simp at h
 ·simp at h
theorem C9 {l:List TV} (h:l.all bW=true):∀ c∈l,bW c=true:=by simpa using h
theorem LW {t:TypeId} {e:EV} {v:TV} {i:gy} {x y:Value} {s1:St} (hV:Valid M D s.get w) (h:storeT P t s e v=some (s1,i)) (hx:ER M e x) (hy:VR M.h v y) (hD:∀ k∈i.ts,D k) :
  s1.env=s.env∧∃ w',(Instr.storeAt t x y).run P w=.ok () w'∧Valid M D s1.get w'∧Ext M s.get w M s1.get w' i.ws∧∀ k,s.get k=none->s1.get k=none:=by
 unfold storeT at h;split at h
 case h_2=>simp at h
 rename_i n hn;split at h
 case isFalse=>simp at h
 rename_i hc;obtain⟨hlen,pW⟩:=hc;have hyc:=hy.cells;have hyl:y.cells.size=n:=by have:=hyc.len;simp at this;omega
 split at h
 ·rename_i k off;split at h
  ·rename_i cs hk;simp only[Option.map_eq_some_iff,Prod.mk.injEq] at h;obtain⟨cs',ho,rfl,rfl⟩:=h;cases hx with
   | loc hm hb=>
    rename_i p;have hg:s.get (.l k)=some (.cells .own cs):=(by simp[St.get,hk]);obtain⟨w',r1,r2,r3⟩:=pV (P:=P) hV hm (hD _ (by simp[lF])) hg (List.mem_singleton.2 rfl) (.inl ⟨rfl,rfl⟩) ho hyc (C9 pW);have hkl:=(List.getElem?_eq_some_iff.1 hk).1;refine⟨rfl,w',?_,?_,?_,?_⟩
    ·rw[hb,Nat.zero_add] at r1;simp[Instr.storeAt,Instr.sureAddr,storeVar,aJ hn,hyl,r1]
    ·rw[Du s k cs' hkl];exact r2
    ·rw[Du s k cs' hkl];exact r3
    ·rw[Du s k cs' hkl];exact uV (by simp[hg])
  ·simp at h
 ·rename_i b off lim;split at h
  ·rename_i BL;simp only[Option.map_eq_some_iff,Prod.mk.injEq] at h;obtain⟨h',hs,rfl,rfl⟩:=h;cases hx with
   | val hx=>
    cases hx with
    | ptr hm hp hl ht=>
     rename_i ls p;obtain⟨kk,oN,cs,cs',hb,qM,ho,rfl⟩:=zQ hs;have hg:s.get (.h b)=some (.cells kk cs):=(by simp[St.get,hb]);obtain⟨w',r1,r2,r3⟩:=pV (P:=P) hV hm (hD _ (by simp[lF])) hg hp (hV.LQ hm (hD _ (by simp[lF])) hg hp hl qM) ho hyc (C9 pW);have hkl:=(List.getElem?_eq_some_iff.1 hb).1;refine⟨rfl,w',?_,?_,?_,?_⟩
     ·simp[Instr.storeAt,Instr.sureAddr,storeVar,aJ hn,hyl,r1]
     ·rw[dU s b _ hkl];exact r2
     ·rw[dU s b _ hkl];exact r3
     ·rw[dU s b _ hkl];exact uV (by simp[hg])
  ·simp at h
 ·simp at h
theorem xU {n:Nat} {v:TV} {j:Nat} {N:Np} {x:Value} (h:idx n v=some j) (hx:VR N v x):∃ k i,x=.int k i∧0<=i∧i<n∧j=i.toNat∧j<n:=by
 unfold idx at h;split at h
 ·rename_i k i;split at h
  ·rename_i hc;simp at h;subst h;cases hx;exact⟨k,i,rfl,hc.1,hc.2,rfl,by omega⟩
  simp at h
 simp at h
theorem Dz {o:Nat} {e e':EV} {x:Value} (h:Di o e=some e') (hx:ER M e x):∃ a,x=.pointer (some a)∧ER M e' (.pointer (some (a.add o))):=by
 unfold Di at h;split at h
 ·simp at h;subst h;cases hx with
  | loc hm hb=>exact⟨_,rfl,by rw[jO];exact .loc hm hb⟩
 ·rename_i b off lim;split at h
  ·rename_i hl;simp at h;subst h;cases hx with
   | val hx=>
    cases hx with
    | ptr hm hp hl ht=>exact⟨_,rfl,by rw[jO,Nat.add_assoc];exact .val (.ptr hm hp hl ht)⟩
  simp at h
 simp at h
theorem Ik {t:TypeId} {f n:Nat} {e e':EV} {x:Value} (h1:sO P t f=some n) (h:Di n e=some e') (hx:ER M e x) :
  ∃ y,ER M e' y∧(Instr.fieldAt t x f).run P w=.ok y w:=by
 obtain⟨a,rfl,he⟩:=Dz h hx;unfold sO at h1;split at h1
 ·rename_i fs hu;split at h1
  ·rename_i fd hf;split at h1
   ·rename_i m hm;split at h1
    ·simp at h1
    ·rename_i hz;simp at h1;subst h1;refine⟨_,he,?_⟩;simp[Instr.fieldAt,run_underlying hu,hf,Instr.sureAddr,fieldPlace,aJ hm,hz]
   ·simp at h1
  ·simp at h1
 ·simp at h1
theorem DC {N:Np} {t:TypeId} {f:Nat} {v v':TV} {x:Value} (h:zJ P t v f=some v') (hx:VR N v x) :
  ∃ y,VR N v' y∧(Instr.field t x f).run P w=.ok y w:=by
 unfold zJ at h;split at h
 ·rename_i fs cs hu;split at h
  ·rename_i fd hf;cases hx with
   | agg g1 g2=>
    obtain⟨y,r1,r2⟩:=Oy (P:=P) (w:=w) h ⟨g1,g2⟩;exact⟨y,r1,by simp[Instr.field,run_underlying hu,hf,asAgg,r2]⟩
  ·simp at h
 ·simp at h
theorem qO {t:TypeId} {e e':EV} {v:TV} {x y:Value} (h:eF P t e v=some e') (hx:ER M e x) (hy:VR M.h v y) :
  ∃ z,ER M e' z∧(Instr.indexAt t x y).run P w=.ok z w:=by
 unfold eF at h;split at h
 ·rename_i el hu;split at h
  ·rename_i n b off len cap sz ex hn;split at h
   ·rename_i nR;simp only[Option.map_eq_some_iff] at h;obtain⟨j,hj,rfl⟩:=h;subst nR;obtain⟨k,i,rfl,h0,h1,rfl,h2⟩:=xU hj hy;cases hx with
    | val hx=>
     cases hx with
     | slc hb hp hl hle hc hex ha hk=>
      rename_i ls p a cap';rcases ha with ha | ⟨rfl,ha⟩
      ·omega
      ·have hmul:i.toNat*n+n<=len*n:=by
        have:=Nat.mul_le_mul_right n (show i.toNat+1<=len by omega)
        rwa [Nat.add_mul,Nat.one_mul] at this
       have Tq:cap*n<=cap'*n:=Nat.mul_le_mul_right n (by omega);have hp:=hp.resolve_left (by omega);refine⟨_,.val (.ptr hb hp (lim:=off+cap*n) (off:=off+i.toNat*n) (by omega) (by omega)),?_⟩;simp[Instr.indexAt,asIntOf,run_underlying hu,h0,h1,aJ hn,jO,Nat.add_assoc]
   ·simp at h
  ·simp at h
 ·rename_i len el hu;split at h
  ·rename_i n hn;split at h
   ·rename_i j hj;obtain⟨k,i,rfl,h0,h1,rfl,h2⟩:=xU hj hy;obtain⟨a,rfl,he⟩:=Dz h hx;refine⟨_,he,?_⟩;simp[Instr.indexAt,asIntOf,run_underlying hu,Instr.sureAddr,h0,h1,aJ hn]
   ·simp at h
  ·simp at h
 ·simp at h
theorem DF {N:Np} {t:TypeId} {v u r:TV} {x y:Value} (h:wP P t v u=some r) (hx:VR N v x) (hy:VR N u y) :
  ∃ z,VR N r z∧(Instr.index t x y).run P w=.ok z w:=by
 unfold wP at h;split at h
 ·rename_i len el cs hu;split at h
  ·rename_i n j hn hj;obtain⟨k,i,rfl,h0,h1,rfl,h2⟩:=xU hj hy;cases hx with
   | agg g1 g2=>
    obtain⟨z,r1,r2⟩:=Oy (P:=P) (w:=w) h ⟨g1,g2⟩;exact⟨z,r1,by simp[Instr.index,asIntOf,run_underlying hu,h0,h1,aJ hn,r2]⟩
  ·simp at h
 ·rename_i bs hu;split at h
  ·rename_i j hj;obtain⟨k,i,rfl,h0,h1,rfl,h2⟩:=xU hj hy;simp only[Option.map_eq_some_iff] at h;obtain⟨b,hb,rfl⟩:=h;cases hx;exact⟨_,.int _ _,by simp[Instr.index,asIntOf,run_underlying hu,h0,hb]⟩
  ·simp at h
 ·simp at h
end
section
variable {P:Program} {M:Mp} {D:Key->Prop} {w:World} {s:St}
theorem Oz {N:Np}:∀ {az:List TV} {xs ys:List Value},rX az=some xs->aH N az ys->ys=xs
 | [],xs,ys,h,hy=>by simp[rX] at h;subst h;exact hy.jr
 | c::az,xs,ys,h,hy=>by
  simp only[rX] at h;split at h
  ·rename_i v vs h1 h2;simp at h;subst h;obtain⟨u,us,rfl,hu,Xc⟩:=hy.dJ;rw[qK h1 hu,Oz h2 Xc]
  simp at h
def xW:NK->Value->Prop
 | .ptr,x=>x=.pointer none
 | .slc,x=>x=.slice none 0 0
 | .map,x=>x=.map none
 | .fn,x=>x=.nilFunc
 | .ifc,x=>x=.nilIface
def oO:NK->Value->Prop
 | .ptr,x=>∃ a,x=.pointer (some a)
 | .slc,x=>∃ a l c,x=.slice (some a) l c
 | .map,x=>∃ r,x=.map (some r)
 | .fn,x=>∃ f a c,x=.func f a c
 | .ifc,_=>False
theorem OA {N:Np} {v:TV} {k:NK} {x:Value} (h:LM v=some k) (hx:VR N v x):xW k x:=by
 cases hx<;>simp[LM] at h<;>subst h<;>rfl
theorem JA {N:Np} {v:TV} {k:NK} {x:Value} (h:AO v=some k) (hx:VR N v x):oO k x:=by
 cases hx<;>simp[AO] at h<;>subst h<;>simp[oO]
theorem Tt {t:TypeId} {k:NK} (h:AP P t=some k):match k with
  | .ptr=>∃ e,P.underlying t=some (.pointer e)
  | .slc=>∃ e,P.underlying t=some (.slice e)
  | .map=>∃ e f,P.underlying t=some (.map e f)
  | .fn=>∃ e f g,P.underlying t=some (.func e f g)
  | .ifc=>False:=by
 unfold AP at h;split at h<;>simp at h<;>subst h<;>simp_all
theorem Qz {t:TypeId} {k:NK} {x y:Value} (h:AP P t=some k) (Tv:(xW k x∧oO k y)∨(oO k x∧xW k y)) (d:Nat) :
  (Op.equalIn (d+1) t x y).run P w=.ok false w:=by
 have hk:=Tt h;cases k with
 | ptr=>
  obtain⟨e,hu⟩:=hk;rcases Tv with⟨hx,a,rfl⟩ | ⟨⟨a,rfl⟩,hy⟩
  ·cases hx;simp[Op.equalIn,run_underlying hu]
  ·cases hy;simp[Op.equalIn,run_underlying hu]
 | slc=>
  obtain⟨e,hu⟩:=hk;rcases Tv with⟨hx,a,l,c,rfl⟩ | ⟨⟨a,l,c,rfl⟩,hy⟩
  ·cases hx;simp[Op.equalIn,run_underlying hu]
  ·cases hy;simp[Op.equalIn,run_underlying hu]
 | map=>
  obtain⟨e,f,hu⟩:=hk;rcases Tv with⟨hx,a,rfl⟩ | ⟨⟨a,rfl⟩,hy⟩
  ·cases hx;simp[Op.equalIn,run_underlying hu]
  ·cases hy;simp[Op.equalIn,run_underlying hu]
 | fn=>
  obtain⟨e,f,g,hu⟩:=hk;rcases Tv with⟨hx,a,b,c,rfl⟩ | ⟨⟨a,b,c,rfl⟩,hy⟩
  ·cases hx;simp[Op.equalIn,run_underlying hu]
  ·cases hy;simp[Op.equalIn,run_underlying hu]
 | ifc=>exact hk.elim
theorem OB {t:TypeId} {k:NK} {ox oy:Operand} {x y:Value} (h:AP P t=some k) (Tv:(xW k x∧oO k y)∨(oO k x∧xW k y)) (b:Bool) (op:BinOp) (hb:(op=.eql∧b=false)∨(op=.neq∧b=true)) :
  (do eqGuard op t ox oy x y;binOp op t x y:Sem Value).run P w=.ok (.bool b) w:=by
 have he:(Op.equal t x y).run P w=.ok false w:=Qz h Tv 9999;have hg:(eqGuard op t ox oy x y).run P w=.ok () w:=by
  cases k<;>rcases Tv with⟨hx,hy⟩ | ⟨hx,hy⟩<;>simp only[xW,oO] at hx hy <;>
   (first | (exact hy.elim) | (exact hx.elim) | skip)<;>(try obtain⟨_,rfl⟩:=hx)<;>(try obtain⟨_,rfl⟩:=hy)<;>(try obtain⟨_,_,rfl⟩:=hx)<;>(try obtain⟨_,_,rfl⟩:=hy)<;>(try subst hx)<;>(try subst hy) <;>
   (try obtain⟨_,_,_,rfl⟩:=hx)<;>(try obtain⟨_,_,_,rfl⟩:=hy)<;>rcases hb with⟨rfl,rfl⟩ | ⟨rfl,rfl⟩<;>simp[eqGuard]
 have FW:(binOp op t x y).run P w=.ok (.bool b) w:=by
  cases k<;>rcases Tv with⟨hx,hy⟩ | ⟨hx,hy⟩<;>simp only[xW,oO] at hx hy <;>
   (first | (exact hy.elim) | (exact hx.elim) | skip)<;>(try obtain⟨_,rfl⟩:=hx)<;>(try obtain⟨_,rfl⟩:=hy)<;>(try obtain⟨_,_,rfl⟩:=hx)<;>(try obtain⟨_,_,rfl⟩:=hy)<;>(try subst hx)<;>(try subst hy) <;>
   (try obtain⟨_,_,_,rfl⟩:=hx)<;>(try obtain⟨_,_,_,rfl⟩:=hy)<;>rcases hb with⟨rfl,rfl⟩ | ⟨rfl,rfl⟩<;>simp only[binOp,Sem.run_bind,he,Result.andThen_ok,Sem.run_pure,Bool.not_false]
 simp only[Sem.run_bind,hg,Result.andThen_ok,FW]
theorem LX {N:Np} {op:BinOp} {t:TypeId} {ox oy:Operand} {a b r:TV} {x y:Value} (h:kH P op t ox oy a b=some r) (hx:VR N a x) (hy:VR N b y) :
  ∃ z,VR N r z∧(do eqGuard op t ox oy x y;binOp op t x y:Sem Value).run P w=.ok z w:=by
 unfold kH at h;split at h
 ·rename_i u v hu hv;split at h
  ·rename_i z hz;have e1:=qK hu hx;have e2:=qK hv hy;subst e1;subst e2;exact⟨z,.sS h,fB hz w⟩
  ·simp at h
 ·split at h
  ·rename_i hn;unfold sQ at hn;split at hn
   case h_2=>simp at hn
   rename_i k hk;have Tv:(xW k x∧oO k y)∨(oO k x∧xW k y):=by
    simp only[Bool.or_eq_true,Bool.and_eq_true,beq_iff_eq] at hn;rcases hn with⟨h1,h2⟩ | ⟨h1,h2⟩
    ·exact .inl ⟨OA h1 hx,JA h2 hy⟩
    ·exact .inr ⟨JA h1 hx,OA h2 hy⟩
   split at h
   ·simp at h;subst h;exact⟨_,.bool false,OB hk Tv false _ (.inl ⟨rfl,rfl⟩)⟩
   ·simp at h;subst h;exact⟨_,.bool true,OB hk Tv true _ (.inr ⟨rfl,rfl⟩)⟩
   ·simp at h
  ·simp at h
theorem dR {N:Np} {op:UnOp} {a r:TV} {x:Value} (h:unT P op a=some r) (hx:VR N a x):∃ z,VR N r z∧(Op.unary op x).run P w=.ok z w:=by
 unfold unT at h;split at h
 ·rename_i u hu;split at h
  ·rename_i z hz;have e1:=qK hu hx;subst e1;exact⟨z,.sS h,fB hz w⟩
  simp at h
 simp at h
theorem Il {N:Np} {t u:TypeId} {a r:TV} {x:Value} (h:Dj P t u a=some r) (hx:VR N a x):∃ z,VR N r z∧(convert t u x).run P w=.ok z w:=by
 unfold Dj at h;split at h
 ·rename_i u hu;split at h
  ·rename_i z hz;have e1:=qK hu hx;subst e1;exact⟨z,.sS h,fB hz w⟩
  simp at h
 simp at h
theorem pY {N:Np} {mx:Bool} {at_:Array TypeId} {t:TypeId} {az:List TV} {r:TV} {xs:List Value} (h:uT P mx at_ t az=some r) (hx:aH N az xs) :
  ∃ z,VR N r z∧(if mx then Builtin.max_ at_ t xs.toArray else Builtin.min_ at_ t xs.toArray).run P w=.ok z w:=by
 unfold uT at h;split at h
 ·rename_i us hu;split at h
  ·rename_i z hz;have e1:=Oz hu hx;subst e1;exact⟨z,.sS h,fB hz w⟩
  ·simp at h
 ·simp at h
theorem gV {n j:Nat} {v:TV} (h:jJ n v=some j):j<=n:=by
 unfold jJ at h;split at h
 ·split at h
  ·simp at h;omega
  simp at h
 simp at h
theorem kL {N:Np} {n j m:Nat} {v:TV} {x:Value} {code:BoundsCode} (h:jJ n v=some j) (hx:VR N v x) (hm:j<=m) :
  (Instr.sliceBound x m code).run P w=.ok j w:=by
 unfold jJ at h;split at h
 ·rename_i k i;split at h
  ·rename_i hc;simp at h;subst h;cases hx;have:i<=(m:Int):=(by omega);simp[Instr.sliceBound,asIntOf,hc.1,this]
  ·simp at h
 ·simp at h
inductive OR (N:Np):Option TV->Option Value->Prop
 | none:OR N none none
 | some {v:TV} {x:Value} (h:VR N v x):OR N (some v) (some x)
theorem nY {N:Np} {is:Bool} {len cap' n l0 hg:Nat} {lo hi:Option TV} {LY nP:Option Value} (hl:OR N lo LY) (hh:OR N hi nP)
  (h1:eX n len hi=some hg) (h2:eX hg 0 lo=some l0) (h3:hg<=cap'):(Instr.sliceBounds is len cap' LY nP none).run P w=.ok (l0,hg,cap') w:=by
 cases hh with
 | none=>
  simp only[eX,Option.some.injEq] at h1;subst h1;cases hl with
  | none=>simp only[eX,Option.some.injEq] at h2;subst h2;simp[Instr.sliceBounds]
  | some hv=>simp only[eX] at h2;simp[Instr.sliceBounds,kL (P:=P) (w:=w) h2 hv (gV h2)]
 | some WU=>
  simp only[eX] at h1;cases hl with
  | none=>simp only[eX,Option.some.injEq] at h2;subst h2;simp[Instr.sliceBounds,kL (P:=P) (w:=w) h1 WU h3]
  | some hv=>simp only[eX] at h2;simp[Instr.sliceBounds,kL (P:=P) (w:=w) h1 WU h3,kL (P:=P) (w:=w) h2 hv (gV h2)]
theorem wW {N:Np} {is:Bool} {len cap' n k l0 hg m:Nat} {lo:Option TV} {hi mx:TV} {LY:Option Value} {nP Tz:Value} (hl:OR N lo LY) (hh:VR N hi nP) (hm:VR N mx Tz)
  (h0:jJ k mx=some m) (h1:jJ n hi=some hg) (h2:eX hg 0 lo=some l0) (h3:hg<=m) (h4:m<=cap'):(Instr.sliceBounds is len cap' LY (some nP) (some Tz)).run P w=.ok (l0,hg,m) w:=by
 have r1:=fun code=>kL (P:=P) (w:=w) (code:=code) h0 hm h4;have r2:=fun code=>kL (P:=P) (w:=w) (code:=code) h1 hh h3;cases hl with
 | none=>simp only[eX,Option.some.injEq] at h2;subst h2;simp[Instr.sliceBounds,r1,r2]
 | some hv=>simp only[eX] at h2;simp[Instr.sliceBounds,r1,r2,kL (P:=P) (w:=w) h2 hv (gV h2)]
theorem DI {N:Np} {t:TypeId} {v r:TV} {lo hi mx:Option TV} {x:Value} {LY nP Tz:Option Value} (h:jB P t v lo hi mx=some r) (hx:VR N v x)
  (hl:OR N lo LY) (hh:OR N hi nP) (hm:OR N mx Tz):∃ z,VR N r z∧(Instr.sliceAt t x LY nP Tz).run P w=.ok z w:=by
 unfold jB at h;split at h
 ·-- strings
  rename_i bs hu;split at h
  ·simp at h
  ·cases hm;split at h
   ·rename_i h0 Gl;split at h
    ·rename_i l0 kF;simp at h;subst h;cases hx;refine⟨_,.str _,?_⟩;have hle:h0<=bs.size:=by
      cases hi with
      | none=>simp only[eX,Option.some.injEq] at Gl;omega
      | some v=>simp only[eX] at Gl;exact gV Gl
     have e1:=nY (P:=P) (w:=w) (is:=false) (cap':=bs.size) hl hh Gl kF hle;simp[Instr.sliceAt,Instr.slice,run_underlying hu,e1]
    ·simp at h
   ·simp at h
 ·-- slices
  rename_i e b off len cap sz ex hu;split at h
  ·rename_i n hn;split at h
   case isFalse=>simp at h
   rename_i nR;subst nR;cases hx with
   | slc hb hp vT hle qP hex ha hk=>
    rename_i ls p a cap';have fin:∀ (l Xd m:Nat) (SC:Bool),l<=Xd->Xd<=len->Xd<=m->m<=cap'->(m':Nat)->m'<=m->m'<=cap->Xd<=m'->(SC=true->m=m') ->
      VR N (.slc b (off+l*n) (Xd-l) (m'-l) n SC) (.slice (if m=l then some a else (some a).map (·.add (l*n))) (Xd-l) (m-l)):=by
     intro l Xd m SC h1 h2 h3 h4 m' h5 h5' h6 h7;have hmul:l*n+(Xd-l)*n=Xd*n:=by rw[<-Nat.add_mul];congr 1;omega
     have Tq:m'*n<=cap*n:=Nat.mul_le_mul_right n h5';have aby:l*n+(m'-l)*n=m'*n:=by rw[<-Nat.add_mul];congr 1;omega
     have Gm:(if m=l then some a else (some a).map (·.add (l*n)))=some (if m=l then a else a.add (l*n)):=by split<;>rfl
     rw[Gm];refine .slc hb (hp.imp (fun e=>by omega) id) (by omega) (by omega) (by omega) (fun e=>by have:=h7 e;omega) ?_ (by omega);by_cases hml:m=l
     ·left;omega
     ·right;rcases ha with ha | ⟨rfl,ha⟩
      ·omega
      ·rw[if_neg hml,jO];have a4g:l*n+(m-l)*n=m*n:=by rw[<-Nat.add_mul];congr 1;omega
       have a0h:m*n<=cap'*n:=Nat.mul_le_mul_right n h4;exact⟨by rw[Nat.add_assoc],by omega⟩
    split at h
    ·rename_i m0;cases hm with
     | some DJ=>
      split at h
      ·rename_i m h0 Io;split at h
       ·rename_i hg hh1;split at h
        ·rename_i l0 kF;simp at h;subst h;cases hh with
         | some hhv=>
          have b1:=gV Io;have b2:=gV hh1;have b3:l0<=hg:=by
           cases lo with
           | none=>simp only[eX,Option.some.injEq] at kF;omega
           | some v=>simp only[eX] at kF;exact gV kF
          have e1:=wW (P:=P) (w:=w) (is:=true) (len:=len) (cap':=cap') hl hhv DJ Io hh1 kF (by omega) (by omega);exact⟨_,fin l0 hg m true b3 (by omega) (by omega) (by omega) m (by omega) (by omega) (by omega) (fun _=>rfl),by simp[Instr.sliceAt,Instr.slice,run_underlying hu,e1,aJ hn]⟩
        ·simp at h
       ·simp at h
      ·simp at h
    ·cases hm;split at h
     ·rename_i hg Gl;split at h
      ·rename_i l0 kF;simp at h;subst h;have hgl:hg<=len:=by
        cases hi with
        | none=>simp only[eX,Option.some.injEq] at Gl;omega
        | some v=>simp only[eX] at Gl;exact gV Gl
       have hlg:l0<=hg:=by
        cases lo with
        | none=>simp only[eX,Option.some.injEq] at kF;omega
        | some v=>simp only[eX] at kF;exact gV kF
       refine⟨_,fin l0 hg cap' ex hlg hgl (by omega) (by omega) cap qP (by omega) (by omega) hex,?_⟩;have e1:=nY (P:=P) (w:=w) (is:=true) (cap':=cap') hl hh Gl kF (by omega);simp[Instr.sliceAt,Instr.slice,run_underlying hu,e1,aJ hn]
      ·simp at h
     ·simp at h
  ·simp at h
 ·-- nil
  rename_i e hu;split at h
  ·rename_i x0 x1 x2 x3 hn TA Gl kF;split at h
   ·simp at h
   ·rename_i hg;simp at h;subst h;cases hx;refine⟨_,.Ih,?_⟩;have z1:∀ {o:Option TV} {k:Nat},eX 0 0 o=some k->k=0:=fun {o k} e=>by
     cases o with
     | none=>simp only[eX,Option.some.injEq] at e;omega
     | some v=>simp only[eX] at e;have:=gV e;omega
    have e2:=z1 Gl;subst e2;have e3:=z1 kF;subst e3;have e1:(Instr.sliceBounds true 0 0 LY nP Tz).run P w=.ok (0,0,0) w:=by
     cases hm with
     | none=>exact nY hl hh Gl kF (by omega)
     | some DJ=>
      have e4:=z1 TA;subst e4;cases hh with
      | none=>simp at hg
      | some hhv=>exact wW hl hhv DJ TA Gl kF (by omega) (by omega)
    simp[Instr.sliceAt,Instr.slice,run_underlying hu,e1,aJ hn]
  ·simp at h
 ·simp at h
theorem sU {t:TypeId} {e:EV} {r:TV} {lo hi mx:Option TV} {x:Value} {LY nP Tz:Option Value} (h:iT P t e lo hi mx=some r) (hx:ER M e x)
  (hl:OR M.h lo LY) (hh:OR M.h hi nP) (hm:OR M.h mx Tz):∃ z,VR M.h r z∧(Instr.sliceAt t x LY nP Tz).run P w=.ok z w:=by
 unfold iT at h;split at h
 ·rename_i n el b off lim hu;split at h
  ·rename_i size hn;split at h
   ·simp at h
   ·rename_i hc;cases hx with
    | val hx=>
    cases hx with
    | ptr hb hp vT a8D=>
    rename_i ls p;split at h
    ·rename_i m TA;split at h
     ·rename_i hg Gl;split at h
      ·rename_i l0 kF;split at h
       ·simp at h
       ·rename_i hs;simp at h;subst h;have hmn:m<=n:=by
         cases mx with
         | none=>simp only[eX,Option.some.injEq] at TA;omega
         | some v=>simp only[eX] at TA;exact gV TA
        have hgm:hg<=m:=by
         cases hi with
         | none=>
          cases mx with
          | some v=>simp at hs
          | none=>simp only[eX,Option.some.injEq] at Gl TA;omega
         | some v=>simp only[eX] at Gl;exact gV Gl
        have hlg:l0<=hg:=by
         cases lo with
         | none=>simp only[eX,Option.some.injEq] at kF;omega
         | some v=>simp only[eX] at kF;exact gV kF
        have e1:(Instr.sliceBounds false n n LY nP Tz).run P w=.ok (l0,hg,m) w:=by
         cases hm with
         | none=>
          simp only[eX,Option.some.injEq] at TA;subst TA;exact nY hl hh Gl kF (by omega)
         | some DJ=>
          cases hh with
          | none=>simp at hs
          | some hhv=>
           simp only[eX] at TA Gl;exact wW hl hhv DJ TA Gl kF (by omega) hmn
        have m1:l0*size+(hg-l0)*size=hg*size:=by rw[<-Nat.add_mul];congr 1;omega
        have m2:l0*size+(m-l0)*size=m*size:=by rw[<-Nat.add_mul];congr 1;omega
        have m3:hg*size<=n*size:=Nat.mul_le_mul_right size (by omega);have m4:m*size<=n*size:=Nat.mul_le_mul_right size (by omega);refine⟨.slice (some (if m=l0 then (⟨p.c,p.base+off,none⟩:Addr) else (⟨p.c,p.base+off,none⟩:Addr).add (l0*size))) (hg-l0) (m-l0),?_,?_⟩
        ·refine .slc hb (.inr hp) (by omega) (by omega) (by omega) (fun _=>rfl) ?_ (by omega);by_cases hml:m=l0
         ·left;omega
         ·right;rw[if_neg hml,jO];exact⟨by rw[Nat.add_assoc],by omega⟩
        ·simp[Instr.sliceAt,run_underlying hu,Instr.sureAddr,e1,aJ hn]
      ·simp at h
     ·simp at h
    ·simp at h
  ·simp at h
 ·simp at h
theorem iV (z:List TV):∀ n,(times z n).length=n*z.length
 | 0=>by simp[times]
 | n+1=>by simp[times,iV z n,Nat.add_mul,Nat.add_comm]
theorem Gn (z:List TV) (hz:0<z.length):∀ (n i:Nat),i<n*z.length->(times z n)[i]? = z[i%z.length]?
 | 0,i,h=>by simp at h
 | n+1,i,h=>by
  simp only[times];by_cases hi:i<z.length
  ·rw[List.getElem?_append_left hi,Nat.mod_eq_of_lt hi]
  rw[List.getElem?_append_right (by omega),Gn z hz n (i-z.length) (by rw[Nat.add_mul] at h;omega)];congr 1;rw[Nat.mod_eq_sub_mod (a:=i) (by omega)]
theorem zS {z:List TV} (h:∀ c∈z,bW c=true):∀ n,∀ c∈times z n,bW c=true
 | 0=>by simp[times]
 | n+1=>by
  intro c hc;simp only[times,List.mem_append] at hc;rcases hc with hc | hc
  ·exact h c hc
  exact zS h n c hc
theorem JB {N:Np} {z:List TV} {x:Array Value} (h:aH N z x.toList) (n m:Nat) (hm:m=n*z.length) :
  aH N (times z n) ((Array.range m).map (x[·%x.size]!)).toList:=by
 have hl:=h.len;simp only[Array.length_toList] at hl;refine⟨by simp[iV,hm],fun i c v a b=>?_⟩;have hi:i<n*z.length:=by have:=(List.getElem?_eq_some_iff.1 a).1;rwa [iV] at this
 have hz:0<z.length:=by
  rcases Nat.eq_zero_or_pos z.length with e | e
  ·rw[e] at hi;simp at hi
  ·exact e
 rw[Gn z hz n i hi] at a;have a4j:i%x.size<x.size:=Nat.mod_lt _ (by omega);have hb:v=x[i%x.size]:=by
  rw[Array.getElem?_toList,Array.getElem?_map] at b;simp only[Array.getElem?_range] at b;rw[if_pos (by omega)] at b;simp only[Option.map_some,Option.some.injEq] at b;rw[<-b,getElem!_pos x _ a4j]
 rw[hl] at a;exact h.at_ (i%x.size) c v a (by simp[hb,a4j])
theorem jR {t e:TypeId} {n:Nat} (h:dM P t=some (e,n)):P.underlying t=some (.slice e)∧aZ P e=some n∧0<n:=by
 unfold dM at h;split at h
 ·rename_i e' hu;split at h
  ·rename_i n' hn;split at h
   ·simp at h
   simp at h;obtain⟨rfl,rfl⟩:=h;exact⟨hu,hn,by omega⟩
  simp at h
 simp at h
theorem Gp {place:Nat->Option (Nat×Nat)}:∀ {ps:List (Nat×TV)} {cs r:List TV},kG place cs ps=some r->r.length=cs.length
 | [],cs,r,h=>by simp[kG] at h;rw[h]
 | (i,v)::ps,cs,r,h=>by
  simp only[kG] at h;split at h
  ·split at h
   ·split at h
    ·rename_i cs' ho;rw[Gp h,(mJ ho).2.2]
    simp at h
   simp at h
  simp at h
theorem Gq {place:Nat->Option (Nat×Nat)}:∀ {ps:List (Nat×TV)} {cs r:List TV},kG place cs ps=some r->(∀ c∈cs,bW c=true) ->
  (∀ p∈ps,∀ c∈p.2.cells,bW c=true)->∀ c∈r,bW c=true
 | [],cs,r,h,h1,_=>by simp[kG] at h;subst h;exact h1
 | (i,v)::ps,cs,r,h,h1,h2=>by
  simp only[kG] at h;split at h
  ·split at h
   ·split at h
    ·rename_i cs' ho;exact Gq h (Jv ho h1 (h2 (i,v) (by simp))) (fun p hp=>h2 p (by simp[hp]))
    ·simp at h
   ·simp at h
  ·simp at h
theorem oP {t:TypeId} {len:Nat} {ps:List (Nat×TV)} {qs:List (Nat×Value)} {r:TV} {s1:St} (hV:Valid M D s.get w) (pX:M (.h s.heap.length)=none)
  (h:iJ P t len s ps=some (r,s1)) (hq:PR M.h ps qs) :
  s1.env=s.env∧∃ x w' M',(Instr.buildSlice t len qs.toArray).run P w=.ok x w'∧Dq M D s.get w (.val r) s1.get [] x w' M':=by
 unfold iJ at h;split at h
 case h_2=>simp at h
 rename_i e n lT;obtain⟨hu,hn,OC⟩:=jR lT;split at h
 case isFalse=>simp at h
 rename_i hc;obtain⟨Sm,Gs⟩:=hc;split at h
 case h_2=>simp at h
 rename_i z hz;split at h
 case isFalse=>simp at h
 rename_i OD;split at h
 case h_2=>simp at h
 rename_i cs hf;simp at h;obtain⟨rfl,rfl⟩:=h;obtain⟨i,x,v,_,_,_,_,Xe,WT,SB⟩:=mV hz;have hx0:=(WT M.h).len;simp only[Array.length_toList] at hx0;have ht:=JB (WT M.h) len (len*n) (by rw[OD]);obtain⟨jP,g1,g2⟩:=BZ (place':=fun i=>some (i*n,n)) (fun i x hx=>hx) hf hq ht;have pW:∀ c∈cs,bW c=true:=Gq hf (zS Xe len) (fun p hp=>by
  have:=List.all_eq_true.1 Gs p hp;exact C9 this)
 have hlen:cs.length=jP.size:=by have:=g2.len;simpa using this
 have pK:cs.length=len*n:=by rw[Gp hf,iV,OD]
 have rZ:s.get (.h s.heap.length)=none:=by simp[St.get]
 have Ij:∀ (i:Nat) (c:TV) (v:Value),cs[i]? = some c->jP[i]? = some v->VR M.h c v:=fun i c v a b=>g2.at_ i c v a (by simpa using b);have dh:=Dx hV e pX rZ (Nat.le_of_eq hlen) Ij pW;refine⟨rfl,.slice (some ⟨w.heap.size,0,none⟩) len len,w.alloc (.cells jP e),aQ M (.h s.heap.length) (.cells [⟨w.heap.size,0,cs.length,jP.size⟩]),?_,⟨?_,?_,?_,jQ pX⟩⟩
 ·have hle:¬(len*n>2^24):=by omega
  by_cases h0:len*n=0
  ·have a8F:cs=[]:=List.eq_nil_of_length_eq_zero (by omega);have g1':Instr.fill (fun i=>some (i*n,n)) ((Array.range (len*n)).map ((#[]:Array Value)[·%(#[]:Array Value).size]!)) qs=some jP:=by
    rw[h0] at g1 ⊢;have e0:Array.range 0=#[]:=rfl;rw[e0] at g1 ⊢;simpa using g1
   simp only[Instr.buildSlice,Sem.run_bind,run_underlying hu,Result.andThen_ok,aJ hn];rw[if_neg hle,if_pos h0];simp only[Sem.run_pure,Sem.run_bind,Result.andThen_ok,g1',newRow,run_newObj,World.alloc]
  ·simp only[Instr.buildSlice,Sem.run_bind,run_underlying hu,Result.andThen_ok,aJ hn];rw[if_neg hle,if_neg h0];simp only[Sem.run_pure,Sem.run_bind,Result.andThen_ok,SB w,g1,newRow,run_newObj,World.alloc]
 ·rw[fQ];exact dh.1
 ·rw[fQ];exact dh.2
 ·have hlb:len<2^63:=by
   have:=Nat.le_mul_of_pos_right len (show 0<n by omega);omega
  refine .val (.slc (ls:=[⟨w.heap.size,0,cs.length,jP.size⟩]) (p:=⟨w.heap.size,0,cs.length,jP.size⟩) (by simp[Mp.h,aQ]) (by simp) (by simp[pK]) (Nat.le_refl _) (Nat.le_refl _) (fun _=>rfl) (.inr ⟨by simp,by simp;omega⟩) hlb)
end
section
variable {P:Program} {M:Mp} {D:Key->Prop} {w:World} {s:St}
theorem OE {i:Int} (h0:0<=i) (h1:i<=2^40):IntKind.i64.wrap i=i:=by
 have h2:i%(2^64:Int)=i:=Int.emod_eq_of_lt h0 (by omega);simp only[IntKind.wrap,IntKind.bits,IntKind.signed,h2];rw[if_neg];simp only[Bool.true_and,decide_eq_true_eq,ge_iff_le];omega
theorem Gt {N:Np} {v:TV} {n:Nat} {x:Value} (h:Qs v=some n) (hx:VR N v x):∃ k i,x=.int k i∧0<=i∧i<=2^40∧n=i.toNat:=by
 unfold Qs at h;split at h
 ·split at h
  ·rename_i k i hc;simp at h;subst h;cases hx;exact⟨k,i,rfl,hc.1,hc.2,rfl⟩
  simp at h
 simp at h
theorem qQ {e:TypeId} {n:Nat} (h:jK P e n=true):∃ i x,P.info? e=some i∧i.zero=some x∧x.cells.size=i.size∧n*i.bytes<=2^40∧n<=2^40∧i.bytes<=2^20∧0<i.bytes:=by
 unfold jK at h;split at h
 ·rename_i i hi;simp only[Bool.and_eq_true,decide_eq_true_eq] at h;obtain⟨⟨⟨⟨h1,h2⟩,h3⟩,h4⟩,h5⟩:=h;unfold SS at h5;split at h5
  ·rename_i x hx;exact⟨i,x,hi,hx,by simpa using h5,h1,h2,h3,h4⟩
  simp at h5
 simp at h
theorem qR {t:TypeId} {a b r:TV} {x y:Value} {s1:St} (hV:Valid M D s.get w) (pX:M (.h s.heap.length)=none)
  (h:jC P t s a b=some (r,s1)) (hx:VR M.h a x) (hy:VR M.h b y) :
  s1.env=s.env∧∃ z w' M',(Instr.makeSlice t x y).run P w=.ok z w'∧Dq M D s.get w (.val r) s1.get [] z w' M':=by
 unfold jC at h;split at h
 case h_2=>simp at h
 rename_i e n l c lT hl hc;obtain⟨hu,hn,OC⟩:=jR lT;obtain⟨_,li,rfl,l0,l1,rfl⟩:=Gt hl hx;obtain⟨_,ci,rfl,c0,c1,rfl⟩:=Gt hc hy;split at h
 case isFalse=>simp at h
 rename_i xX;obtain⟨Jo,xY⟩:=xX;obtain⟨i,zx,hi,hzx,hzs,uU,vZ,TB,hb4⟩:=qQ xY;split at h
 case h_2=>simp at h
 rename_i z hz;split at h
 case isFalse=>simp at h
 rename_i OD;simp at h;obtain⟨rfl,rfl⟩:=h;obtain⟨i',x,v,nP,FX,_,_,Xe,WT,SB⟩:=mV hz;rw[hi] at nP;cases nP;have ht:=JB (WT M.h) ci.toNat (ci.toNat*n) (by rw[OD])
 let arr:Array Value:=(Array.range (ci.toNat*n)).map (x.cells[·%x.cells.size]!)
 have hlen:(times z ci.toNat).length=arr.size:=by have:=ht.len;simpa[arr] using this
 have pK:(times z ci.toNat).length=ci.toNat*n:=by rw[iV,OD]
 have rZ:s.get (.h s.heap.length)=none:=by simp[St.get]
 have Ij:∀ (i:Nat) (c:TV) (v:Value),(times z ci.toNat)[i]? = some c->arr[i]? = some v->VR M.h c v:=fun i c v a b=>ht.at_ i c v a (by rw[Array.getElem?_toList];exact b);have dh:=Dx hV e pX rZ (Nat.le_of_eq hlen) Ij (zS Xe _);have hmul:(li.toNat)*n<=ci.toNat*n:=Nat.mul_le_mul_right n Jo;refine⟨rfl,.slice (some ⟨w.heap.size,0,none⟩) li.toNat ci.toNat,w.alloc (.cells arr e),aQ M (.h s.heap.length) (.cells [⟨w.heap.size,0,(times z ci.toNat).length,arr.size⟩]),?_,⟨?_,?_,?_,jQ pX⟩⟩
 ·have hwl:=OE l0 l1;have hwc:=OE c0 c1;have su:¬((i.bytes:Int)*ci>2^48):=by
   have e1:(ci.toNat*i.bytes:Nat)<=2^40:=uU;have e2:((i.bytes:Int)*ci)=((ci.toNat*i.bytes:Nat):Int):=by
    rw[Nat.mul_comm,Int.natCast_mul,Int.toNat_of_nonneg c0]
   omega
  simp only[Instr.makeSlice,Sem.run_bind,run_underlying hu,Result.andThen_ok,asInt,asIntOf,Sem.run_pure,fC hi,hwl,hwc];rw[if_neg (by simp;exact⟨⟨⟨c0,by omega⟩,l0⟩,by omega⟩)];simp only[Sem.run_bind,run_askRoom,Result.andThen_ok,aJ hn];by_cases h0:ci.toNat*n=0
  ·rw[if_pos h0];have e0:arr=#[]:=Array.eq_empty_of_size_eq_zero (by omega);have e1:(Array.range (ci.toNat*n)).map ((#[]:Array Value)[·%(#[]:Array Value).size]!)=#[]:=by
    rw[h0];have e0:Array.range 0=#[]:=rfl;rw[e0];simp
   simp only[Sem.run_pure,Result.andThen_ok,e1,newRow,Sem.run_bind,run_newObj,World.alloc,e0]
  ·rw[if_neg h0];simp only[Sem.run_bind,SB w,Sem.run_pure,Result.andThen_ok,newRow,run_newObj,World.alloc,arr]
 ·rw[fQ];exact dh.1
 ·rw[fQ];exact dh.2
 ·refine .val (.slc (ls:=[⟨w.heap.size,0,(times z ci.toNat).length,arr.size⟩]) (p:=⟨w.heap.size,0,(times z ci.toNat).length,arr.size⟩) (by simp[Mp.h,aQ]) (by simp) (by simp[pK]) Jo (Nat.le_refl _) (fun _=>rfl) (.inr ⟨by simp,by simp;omega⟩) (by omega))
theorem LZ {at_:Array TypeId} {t:TypeId} {v r:TV} {i:gy} {x:Value} (hV:Valid M D s.get w) (h:LK P at_ s.heap v=some (r,i)) (hx:VR M.h v x) (hD:∀ k∈i.ts,D k) :
  i.ws=[]∧∃ z,VR M.h r z∧(Builtin.len_ at_ t #[x]).run P w=.ok z w:=by
 unfold LK at h;split at h
 case h_2=>simp at h
 rename_i t0 ht0;split at h
 ·rename_i b hu;simp at h;obtain⟨rfl,rfl⟩:=h;cases hx;exact⟨rfl,_,.int _ _,by simp[Builtin.len_,ht0,run_underlying hu,goInt]⟩
 ·rename_i n el _ hu;simp at h;obtain⟨rfl,rfl⟩:=h;exact⟨rfl,_,.int _ _,by simp[Builtin.len_,ht0,run_underlying hu,goInt]⟩
 ·rename_i el b off len cap sz ex hu;simp at h;obtain⟨rfl,rfl⟩:=h;cases hx;exact⟨rfl,_,.int _ _,by simp[Builtin.len_,ht0,run_underlying hu,goInt]⟩
 ·rename_i el hu;simp at h;obtain⟨rfl,rfl⟩:=h;cases hx;exact⟨rfl,_,.int _ _,by simp[Builtin.len_,ht0,run_underlying hu,goInt]⟩
 ·rename_i k el hu;simp at h;obtain⟨rfl,rfl⟩:=h;cases hx;exact⟨rfl,_,.int _ _,by simp[Builtin.len_,ht0,run_underlying hu,goInt]⟩
 ·rename_i k el r0 hu;split at h
  ·rename_i es he;simp at h;obtain⟨rfl,rfl⟩:=h;cases hx with
   | map hm=>
    obtain⟨cO,h1,h2⟩:=hV.ok _ _ hm (hD _ (by simp[nT]));simp only[St.get,he,Option.some.injEq] at h1;subst h1;obtain⟨xs,g1,g2⟩:=h2;have g2:=g2.len;refine⟨rfl,_,.int _ _,?_⟩;simp[Builtin.len_,ht0,run_underlying hu,goInt,getObj,Sem.run,g1,g2]
  ·simp at h
 ·simp at h
end
section
variable {P:Program} {M:Mp} {D:Key->Prop} {w:World} {s:St}
theorem oQ {C:Ct} {size n:Nat} {v:TV} {l:List TV} {x:Value} {h:List HB} (hh:∀ b,C (.h b)=h[b]?) (hV:Valid M D C w) (hs:aS size h v=some (n,l)) (hx:VR M.h v x) (hD:∀ k∈aF v,D k) :
  (Builtin.lenOf x).run P w=.ok n w∧(∀ c∈l,bW c=true)∧∃ arr,(∀ w':World,w'.heap=w.heap->(Builtin.firstCells size n x).run P w'=.ok arr w')∧aH M.h l arr.toList:=by
 unfold aS at hs;split at hs
 ·simp at hs;obtain⟨rfl,rfl⟩:=hs;cases hx;exact⟨by simp[Builtin.lenOf],by simp,#[],fun w' _=>by simp[Builtin.firstCells],.nil⟩
 ·rename_i b off len cap sz ex;split at hs
  ·rename_i nR;subst nR;split at hs
   ·rename_i hz;subst hz;simp at hs;obtain⟨rfl,rfl⟩:=hs;cases hx with
    | slc hm hp vT hle qP hex ha hk=>
     exact⟨by simp[Builtin.lenOf],by simp,#[],fun w' _=>by simp[Builtin.firstCells,loadCells,loadCellsFrom],.nil⟩
   split at hs
   ·rename_i cs hb;simp only[Option.map_eq_some_iff,Prod.mk.injEq] at hs;obtain⟨r,hr,rfl,rfl⟩:=hs;cases hx with
    | slc hm hp vT hle qP hex ha hk=>
     rename_i ls p a cap';obtain⟨k,hk,Jz⟩:=nX hb;obtain⟨cO,h1,h2⟩:=hV.ok _ _ hm (hD _ (by simp[aF]));rw[hh,hk] at h1;cases h1;obtain⟨g1,g2,_⟩:=h2;obtain⟨s1,s2,s3⟩:=lq hr;refine⟨by simp[Builtin.lenOf],fun c hc=>g1 c (by rw[s2] at hc;exact List.mem_of_mem_drop (List.mem_of_mem_take hc)),?_⟩;by_cases h0:cap'=0
     ·have kF:len=0:=(by omega);subst kF;have:r=[]:=List.eq_nil_of_length_eq_zero (by rw[s3];simp);subst this;exact⟨#[],fun w' _=>by simp[Builtin.firstCells,loadCells,loadCellsFrom],.nil⟩
     ·rcases ha with ha | ⟨rfl,ha⟩
      ·exact absurd ha h0
      ·obtain⟨xs,x1,x2⟩:=oM (P:=P) (g2 p (hp.resolve_left h0)) hr (by have:=Nat.mul_le_mul_right sz hle;omega) (fun e=>by have:=Jz e;have:=(g2 p (hp.resolve_left h0)).ext;omega);exact⟨xs.toArray,fun w' hw'=>by simp[Builtin.firstCells,x2 w' hw'],x1⟩
   ·simp at hs
  ·simp at hs
 ·rename_i bs;split at hs
  ·rename_i nR;simp at hs;obtain⟨rfl,rfl⟩:=hs;cases hx;refine⟨by simp[Builtin.lenOf],by simp[bW],(bs.extract 0 bs.size).data.map fun b=>.int .u8 b.toNat,fun w' _=>rfl,?_⟩;refine⟨by simp,fun i c v a b=>?_⟩;simp only[List.getElem?_map,Option.map_eq_some_iff] at a;obtain⟨y,hy,rfl⟩:=a;rw[show bs.extract 0 bs.size=bs from by simp] at b;simp only[Array.toList_map,List.getElem?_map,hy,Option.map_some,Option.some.injEq] at b;rw[<-b];exact .int _ _
  ·simp at hs
 ·simp at hs
theorem Ip {size n b off len cap sz:Nat} {ex:Bool} {l:List TV} {h:List HB} (hs:aS size h (.slc b off len cap sz ex)=some (n,l)):sz=size∧n=len∧l.length=len*size:=by
 simp only[aS] at hs;split at hs
 ·rename_i hz;split at hs
  ·rename_i h0;cases hs;exact⟨hz,h0.symm,by simp[h0]⟩
  split at hs
  ·simp only[Option.map_eq_some_iff,Prod.mk.injEq] at hs;obtain⟨r,hr,rfl,rfl⟩:=hs;exact⟨hz,rfl,(lq hr).2.2⟩
  cases hs
 cases hs
theorem Gu (N:Nat):∀ (r c:Nat),c<=2*N+192->Builtin.growBy N r c<=2*N+192
 | 0,c,h=>by simpa[Builtin.growBy] using h
 | r+1,c,h=>by
  simp only[Builtin.growBy];split
  ·exact h
  exact Gu N r _ (by omega)
theorem Mc {BM c:Nat} (h:c<BM):Builtin.nextslicecap BM c<=2*BM+192:=by
 unfold Builtin.nextslicecap;split
 ·omega
 split
 ·omega
 exact Gu BM 4 c (by omega)
theorem Xf {BM c b:Nat} (h:c<BM) (h1:BM*b<=2^40) (h2:b<=2^20):¬(Builtin.nextslicecap BM c*b>2^48):=by
 have e1:=Mc h;have e2:Builtin.nextslicecap BM c*b<=(2*BM+192)*b:=Nat.mul_le_mul_right b e1;have e3:(2*BM+192)*b=2*(BM*b)+192*b:=by rw[Nat.add_mul,Nat.mul_assoc]
 omega
theorem jS (z:Array Value) (n:Nat):(Builtin.zeroCells z n).size=n*z.size:=by simp[Builtin.zeroCells]
def mW:TypeDesc->Bool
 | .int _=>true
 | _=>false
theorem Md {t:TypeId} (h:¬(zI P t||(P.underlying t).isNone)=true):∃ d,P.underlying t=some d∧mW d=false:=by
 simp only[Bool.or_eq_true,not_or,Bool.not_eq_true] at h;obtain⟨h1,h2⟩:=h;cases hu:P.underlying t with
 | none=>simp[hu] at h2
 | some d=>
  refine⟨d,rfl,?_⟩;unfold zI at h1;rw[hu] at h1;cases d<;>simp_all [mW]
theorem qU {at_:Array TypeId} {st xt e:TypeId} {size n sLen sCap:Nat} {i:TypeInfo} {z sv xv:Value} {base:Option Addr} {d:TypeDesc} {old new:Array Value} {ty:TypeId}
  (h0:at_[0]? = some st) (h1:at_[1]? = some xt) (hu:P.underlying st=some (.slice e)) (hn:aZ P e=some size) (sJ:P.underlying xt=some d) (hd:mW d=false)
  (hi:P.info? e=some i) (hz:i.zero=some z) (hsv:sv=.slice base sLen sCap)
  (hl:(Builtin.lenOf xv).run P w=.ok n w) (qP:sCap<sLen+n) (uU:(sLen+n)*i.bytes<=2^40) (vZ:sLen+n<=2^40) (TB:i.bytes<=2^20)
  (hold:∀ w':World,w'.heap=w.heap->(Builtin.firstCells size sLen sv).run P w'=.ok old w') (dh:∀ w':World,w'.heap=w.heap->(Builtin.firstCells size n xv).run P w'=.ok new w') :
  ∃ eG,sLen+n<=eG∧eG<2^63∧(Builtin.append_ at_ ty #[sv,xv]).run P w=.ok (.slice (some ⟨w.heap.size,0,none⟩) (sLen+n) eG) (w.drew.alloc (.cells (old++new++Builtin.zeroCells z.cells (eG-(sLen+n))) e)):=by
 subst hsv;refine⟨(Question.appendCap (sLen+n) sCap e).cut (w.tape w.drawn (.appendCap (sLen+n) sCap e)),by simp[Question.cut],?_,?_⟩
 ·have:=Nat.mod_lt (w.tape w.drawn (.appendCap (sLen+n) sCap e)) (show 0<2^63-(sLen+n) by omega);simp only[Question.cut];omega
 have hz':∀ w,(zeroValue e).run P w=.ok z w:=fun w=>by simp[zeroValue,fC hi,hz]
 have hq:(Question.appendCap (sLen+n) sCap e).forced=false:=rfl;have hle:¬(sLen+n<=sCap):=by omega
 have su:¬(((sLen+n:Nat):Int)>IntKind.i64.max):=by
  have:IntKind.i64.max=2^63-1:=rfl;rw[this];omega
 have xY:=Xf qP uU TB;have e1:=hold w.drew rfl;have e2:=dh w.drew rfl;unfold Builtin.append_;simp only[List.getElem?_toArray,List.getElem?_cons_zero,List.getElem?_cons_succ,h0,h1];simp only[Sem.run_bind,run_underlying hu,Result.andThen_ok,aJ hn,run_underlying sJ,Sem.run_pure];rw[if_neg (by cases d<;>simp_all [mW])];simp only[Sem.run_bind,hl,Result.andThen_ok];rw[if_neg hle];simp only[Sem.run_bind,fC hi,Result.andThen_ok];rw[if_neg (fun h=>su h.1)];simp only[Sem.run_bind,fC hi,Result.andThen_ok];rw[if_neg xY];simp only[Sem.run_bind,Sem.run_pure,run_choose,hq,Bool.false_eq_true,if_false,Result.andThen_ok,fC hi,run_askRoom,World.drew_eq,e1];rw[if_pos (by cases d<;>simp_all [mW])];simp only[Sem.run_bind,Sem.run_pure,Result.andThen_ok,e2,hz',newRow,run_newObj,World.size_drew,World.alloc_eq]
theorem zT {at_:Array TypeId} {st xt e:TypeId} {size n sLen sCap:Nat} {a:Addr} {sv xv:Value} {d:TypeDesc} {new:Array Value} {ty:TypeId} {w':World}
  (h0:at_[0]? = some st) (h1:at_[1]? = some xt) (hu:P.underlying st=some (.slice e)) (hn:aZ P e=some size) (sJ:P.underlying xt=some d) (hd:mW d=false)
  (hsv:sv=.slice (some a) sLen sCap) (hl:(Builtin.lenOf xv).run P w=.ok n w) (qP:sLen+n<=sCap)
  (dh:(Builtin.firstCells size n xv).run P w=.ok new w) (jT:(storeCells (a.add (sLen*size)) new.toList).run P w=.ok () w') :
  (Builtin.append_ at_ ty #[sv,xv]).run P w=.ok (.slice (some a) (sLen+n) sCap) w':=by
 subst hsv;unfold Builtin.append_;simp only[List.getElem?_toArray,List.getElem?_cons_zero,List.getElem?_cons_succ,h0,h1];simp only[Sem.run_bind,run_underlying hu,Result.andThen_ok,aJ hn,run_underlying sJ,Sem.run_pure];rw[if_neg (by cases d<;>simp_all [mW])];simp only[Sem.run_bind,hl,Result.andThen_ok];rw[if_pos qP];rw[if_pos (by cases d<;>simp_all [mW])];simp only[Sem.run_bind,dh,Result.andThen_ok,jT,Sem.run_pure]
theorem JC {at_:Array TypeId} {st xt e:TypeId} {size sLen sCap:Nat} {base:Option Addr} {sv xv:Value} {d:TypeDesc} {new:Array Value} {ty:TypeId}
  (h0:at_[0]? = some st) (h1:at_[1]? = some xt) (hu:P.underlying st=some (.slice e)) (hn:aZ P e=some size) (sJ:P.underlying xt=some d) (hd:mW d=false)
  (hsv:sv=.slice base sLen sCap) (hl:(Builtin.lenOf xv).run P w=.ok 0 w) (qP:sLen<=sCap)
  (dh:(Builtin.firstCells size 0 xv).run P w=.ok new w) (dZ:new.toList=[]) :
  (Builtin.append_ at_ ty #[sv,xv]).run P w=.ok sv w:=by
 subst hsv;unfold Builtin.append_;simp only[List.getElem?_toArray,List.getElem?_cons_zero,List.getElem?_cons_succ,h0,h1];simp only[Sem.run_bind,run_underlying hu,Result.andThen_ok,aJ hn,run_underlying sJ,Sem.run_pure];rw[if_neg (by cases d<;>simp_all [mW])];simp only[Sem.run_bind,hl,Result.andThen_ok];rw[if_pos (by omega)];rw[if_pos (by cases d<;>simp_all [mW])];simp only[Sem.run_bind,dh,Result.andThen_ok];cases base<;>simp[dZ,storeCells]
end
section
variable {P:Program} {M:Mp} {D:Key->Prop} {w:World} {s:St}
def BOk (P:Program) (M:Mp) (D:Key->Prop) (C:Ct) (w:World) (c:Sem Value) (v:TV) (C1:Ct) (ws:List Key):Prop:=
 ∃ x w' M',c.run P w=.ok x w'∧Dq M D C w (.val v) C1 ws x w' M'
theorem Ext.drew' {M0:Mp} {C0:Ct} {w0:World} {M:Mp} {C:Ct} {w:World} {ws:List Key} (h:Ext M0 C0 w0.drew M C w ws):Ext M0 C0 w0 M C w ws:=
 ⟨h.zN,h.frame,h.iC,h.gZ,h.fresh,h.size,h.has,h.wsub,h.wrote,h.os,h.output,h.tape⟩
theorem aH.wX {N:Np} {l:List TV} {arr:Array Value} (h:aH N l arr.toList) {i:Nat} {c:TV} {v:Value} (a:l[i]? = some c) (b:arr[i]? = some v):VR N c v:=
 h.at_ i c v a (by rw[Array.getElem?_toList];exact b)
theorem JD (hV:Valid M D s.get w) (pX:M (.h s.heap.length)=none) {cs:List TV} {pre rest:Array Value} {e:TypeId} (hx:aH M.h cs pre.toList) (hn:∀ c∈cs,bW c=true)
  {len eG size:Nat} (QA:cs.length=len*size) (hle:len<=eG) (hk:eG<2^63) (JE:rest.size=(eG-len)*size) :
  ∃ M',Dq M D s.get w (.val (.slc s.heap.length 0 len len size false)) (St.get { s with heap:=s.heap++[.cells .own cs] }) [] (.slice (some ⟨w.heap.size,0,none⟩) len eG) (w.drew.alloc (.cells (pre++rest) e)) M':=by
 have rZ:s.get (.h s.heap.length)=none:=by simp[St.get]
 have qN:pre.size=cs.length:=by have:=hx.len;simp at this;omega
 have a8D:(pre++rest).size=eG*size:=by
  have:len*size+(eG-len)*size=eG*size:=by rw[<-Nat.add_mul];congr 1;omega
  simp;omega
 have hmul:len*size<=eG*size:=Nat.mul_le_mul_right size hle;have Me:Valid M D s.get w.drew:=hV.of_heap rfl;have dh:=Dx Me (cs:=cs) (arr:=pre++rest) e pX rZ (by omega) (fun i c v a b=>by
  have hi:=(List.getElem?_eq_some_iff.1 a).1;rw[Array.getElem?_append_left (by omega)] at b;exact hx.wX a b) hn
 refine⟨aQ M (.h s.heap.length) (.cells [⟨w.heap.size,0,cs.length,(pre++rest).size⟩]),⟨?_,?_,?_,jQ pX⟩⟩
 ·rw[fQ];exact dh.1
 ·rw[fQ];exact dh.2.drew'
 ·exact .val (.slc (ls:=[⟨w.heap.size,0,cs.length,(pre++rest).size⟩]) (p:=⟨w.heap.size,0,cs.length,(pre++rest).size⟩) (by simp[Mp.h,aQ]) (by simp) (by simp[QA]) (Nat.le_refl _) hle (fun h=>by simp at h) (.inr ⟨by simp,by simp only[Nat.zero_add];omega⟩) hk)
theorem oU:∀ {ls:List Pl},(ls.map (·.c)).Nodup->∀ {p q:Pl},p∈ls->q∈ls->q.c=p.c->q=p
 | [],_,p,q,hp,_,_=>by simp at hp
 | a::ls,h,p,q,hp,hq,e=>by
  simp only[List.map_cons,List.nodup_cons] at h;rcases List.mem_cons.1 hp with h1 | h1<;>rcases List.mem_cons.1 hq with h2 | h2
  ·rw[h1,h2]
  ·exact (h.1 (List.mem_map.2 ⟨q,h2,by rw[e,h1]⟩)).elim
  ·exact (h.1 (List.mem_map.2 ⟨p,h1,by rw[<-e,h2]⟩)).elim
  exact oU h.2 h1 h2 e
theorem OG (hV:Valid M D s.get w) {b:Nat} {k:BK} {cs new:List TV} {ls:List Pl} {p:Pl} {x:Array Value} (hm:M (.h b)=some (.cells ls)) (hd:D (.h b)) (hb:s.heap[b]? = some (.cells k cs))
  (hk:k≠.ro) (hp:p∈ls) (vT:cs.length<=p.ext) (hx:aH M.h new x.toList) (hn:∀ c∈new,bW c=true) (dZ:new≠[]) {w':World}
  (fl:Bool) (old rest:Array Value) (ty0:TypeId)
  (hw:(fl=true∧cs.length+new.length<=p.tot∧(storeCells ⟨p.c,cs.length,none⟩ x.toList).run P w=.ok () w') ∨
   (fl=false∧aH M.h cs old.toList∧w'=w.drew.alloc (.cells (old++x++rest) ty0))) :
  ∃ M' q,Valid M' D (St.get { s with heap:=s.heap.set b (.cells k.more (cs++new)) }) w'∧Ext M s.get w M' (St.get { s with heap:=s.heap.set b (.cells k.more (cs++new)) }) w' [.h b] ∧
   (∀ j l,M (.l j)=some l->M' (.l j)=some l)∧(∃ iH,M' (.h b)=some (.cells iH)∧q∈iH)∧cs.length+new.length<=q.ext∧q.base=0 ∧
   ((fl=true∧q.c=p.c∧q.tot=p.tot)∨(fl=false∧q.c=w.heap.size∧q.tot=(old++x++rest).size)):=by
 have hg:s.get (.h b)=some (.cells k cs):=by simp[St.get,hb]
 have mD:=(List.getElem?_eq_some_iff.1 hb).1;obtain⟨cO,h1,h2⟩:=hV.ok _ _ hm hd;rw[hg] at h1;cases h1;obtain⟨ho,qN,TD,xZ⟩:=h2;have hxl:=hx.len;simp only[Array.length_toList] at hxl;have lH:(ls.map (·.c)).Nodup:=by
  cases k with
  | ro=>exact absurd rfl hk
  | own=>obtain⟨q,rfl,_⟩:=TD rfl;simp
  | grow=>exact (xZ (.inl rfl)).1
  | last=>exact (xZ (.inr rfl)).1
 have a4l:∀ q∈ls,q.ext=cs.length->q=p:=by
  intro q hq he;cases k with
  | ro=>exact absurd rfl hk
  | own=>
   obtain⟨q',e',_⟩:=TD rfl;rw[e'] at hp hq;simp at hp hq;rw[hq,hp]
  | grow=>
   have:=(qN p hp).ext;exact (xZ (.inl rfl)).2 q hq p hp he (by omega)
  | last=>
   have:=(qN p hp).ext;exact (xZ (.inr rfl)).2 q hq p hp he (by omega)
 have hpe:p.ext=cs.length:=by have:=(qN p hp).ext;omega
 have TF:p.base=0:=(qN p hp).base hk;have hmr:k.more≠.own:=by cases k<;>simp[BK.more]
 have hml:k.more=.last->k=.last:=by cases k<;>simp[BK.more]
 have pW:∀ c∈cs++new,bW c=true:=by
  intro c hc;rcases List.mem_append.1 hc with h | h
  ·exact ho c h
  ·exact hn c h
 rcases hw with⟨TG,xY,jT⟩ | ⟨TG,hold,rfl⟩
 ·-- in place
  let p':Pl:={ p with ext:=cs.length+new.length }
  let iH:List Pl:=ls.map fun q=>if q.c=p.c then p' else q
  have hqp:∀ q∈ls,q.c=p.c->q=p:=by
   intro q hq he;exact oU lH hp hq he
  have Xg:p'∈iH:=List.mem_map.2 ⟨p,hp,by simp⟩;have TI:iH.map (·.c)=ls.map (·.c):=by
   simp only[iH,List.map_map];apply List.map_congr_left;intro q hq;simp only[Function.comp];split
   ·rename_i he;exact he.symm
   ·rfl
  have Jo:xQ (.cells ls) (.cells iH):=by
   intro q hq;by_cases he:q.c=p.c
   ·have:=hqp q hq he;subst this;exact⟨p',Xg,rfl,rfl,by simp[p'];omega,rfl⟩
   ·exact⟨q,List.mem_map.2 ⟨q,hq,by simp[he]⟩,rfl,rfl,Nat.le_refl _,rfl⟩
  obtain⟨arr,ty,fz,r1,r2,r3,r4⟩:=(qN p hp).row;have:=r3 hk;subst this;have TJ:∀ v∈x.toList,v.oneCell'=true:=by
   intro v hv;obtain⟨i,hi,rfl⟩:=List.mem_iff_getElem.1 hv;have nP:i<new.length:=by simp at hi;omega
   exact pU (hx.at_ i new[i] x.toList[i] (by simp[nP]) (by simp)) (hn _ (List.getElem_mem nP))
  have kE:=run_storeCells_at (P:=P) p.c cs.length ty x.toList 0 arr w r1 (by simp;omega) TJ;simp only[Nat.add_zero,Array.length_toList] at kE;rw[kE] at jT;have a1j:=Result.ok.inj jT;obtain⟨_,rfl⟩:=a1j
  let w':World:=w.setRow p.c (arr.toList.take cs.length++x.toList++arr.toList.drop (cs.length+x.size)).toArray
  have bg:∀ c,c<w.heap.size->c∉ah (.cells iH)->w'.heap[c]? = w.heap[c]?:=fun c _ hc=>iU w p.c _ c (fun e=>hc (by rw[e];exact List.mem_map.2 ⟨p',Xg,rfl⟩));have dh:∀ c∈ah (.cells iH),(∃ l0,M (.h b)=some l0∧c∈ah l0)∨w.heap.size<=c:=fun c hc=>.inl ⟨_,hm,by simp only[ah] at hc ⊢;rwa [TI] at hc⟩;have mQ:lG M (aQ M (.h b) (.cells iH)):=iI fun l0 h0=>by rw[hm] at h0;cases h0;exact Jo
  have FY:∀ i,(arr.toList.take cs.length++x.toList++arr.toList.drop (cs.length+x.size)).toArray[i]? = if i<cs.length then arr[i]? else if i<cs.length+x.size then x[i-cs.length]? else arr[i]?:=by
   intro i;have:=Dv (arr:=arr) (off:=cs.length) (xs:=x.toList) i (by simp;omega);simpa using this
  have Ju:jF (aQ M (.h b) (.cells iH)).h w' (.cells k.more (cs++new)) (.cells iH):=by
   refine⟨pW,fun q hq=>?_,fun e=>absurd e hmr,fun _=>⟨by rw[TI];exact lH,fun q1 lS q2 FM e1 e2=>?_⟩⟩
   ·obtain⟨q0,Jm,rfl⟩:=List.mem_map.1 hq;by_cases he:q0.c=p.c
    ·simp only[he,if_true];refine⟨⟨_,ty,(0,0),wU w p.c _ arr ty (0,0) r1,by simp[p'];omega,fun _=>rfl,fun _ i c v hi a b=>?_⟩,by simp[p',TF];omega,by simp[p'],fun _=>TF⟩;simp only[p',TF,Nat.zero_add] at b hi;rw[FY i] at b;by_cases h1:i<cs.length
     ·rw[if_pos h1] at b;rw[List.getElem?_append_left h1] at a;exact (r4 (fun _=>hpe) i c v (by omega) a (by simpa[TF] using b)).mono mQ.h
     ·rw[if_neg h1,if_pos (by omega)] at b;rw[List.getElem?_append_right (by omega)] at a;exact (hx.wX a b).mono mQ.h
    ·simp only[he,if_false];have lS:=qN q0 Jm;obtain⟨jP,Sv,Xb,t1,t2,t3,t4⟩:=lS.row;refine⟨⟨jP,Sv,Xb,(iU w p.c _ q0.c he).trans t1,t2,fun _=>t3 hk,fun hz i c v hi a b=>?_⟩,lS.fit,by have:=lS.ext;simp;omega,fun _=>lS.base hk⟩;have:=lS.ext;rw[List.getElem?_append_left (by omega)] at a;exact (t4 (fun e=>by have:=hz (by rw[e];rfl);have:0<new.length:=List.length_pos_iff.2 dZ;simp at *;omega) i c v hi a b).mono mQ.h
   ·have aux:∀ q∈iH,q.ext=(cs++new).length->new≠[]->q=p':=by
     intro q hq e dZ;obtain⟨q0,Jm,rfl⟩:=List.mem_map.1 hq;by_cases he:q0.c=p.c
     ·simp[he]
     ·simp only[he,if_false] at e;have:=(qN q0 Jm).ext;have:0<new.length:=List.length_pos_iff.2 dZ;simp at e;omega
    rw[aux q1 lS e1 dZ,aux q2 FM e2 dZ]
  refine⟨aQ M (.h b) (.cells iH),p',?_,?_,?_,⟨iH,by simp[aQ],Xg⟩,Nat.le_refl _,TF,.inl ⟨TG,rfl,rfl⟩⟩
  ·rw[dU s b _ mD];exact hV.upd (.h b) _ _ (fun j hj=>.inl hj) (fun l0 h0=>by
    rw[hm] at h0;cases h0;exact⟨hd,Jo,fun b0 lQ=>by rw[hg] at lQ;cases lQ;cases k<;>simp_all [wr]⟩) bg dh (by simp) Ju
  ·rw[dU s b _ mD];exact Ext.upd (.h b) _ _ [.h b] (.inl ⟨by simp[hg],rfl,by simp[hm],fun b0 lQ=>by rw[hg] at lQ;cases lQ;cases k<;>simp_all [wr]⟩) mQ bg dh (by simp) rfl rfl rfl
  ·intro j l hj;simp[aQ,hj]
 ·-- a new row
  let p':Pl:=⟨w.heap.size,0,cs.length+new.length,(old++x++rest).size⟩
  let iH:List Pl:=p'::ls
  let w':World:=w.drew.alloc (.cells (old++x++rest) ty0)
  have hol:=hold.len;simp only[Array.length_toList] at hol;have aN:∀ q∈ls,q.c<w.heap.size:=fun q hq=>hV.inb _ _ hm q.c (List.mem_map.2 ⟨q,hq,rfl⟩);have Jo:xQ (.cells ls) (.cells iH):=fun q hq=>⟨q,List.mem_cons_of_mem _ hq,rfl,rfl,Nat.le_refl _,rfl⟩;have bg:∀ c,c<w.heap.size->c∉ah (.cells iH)->w'.heap[c]? = w.heap[c]?:=fun c hc _=>jM w.drew _ c hc;have dh:∀ c∈ah (.cells iH),(∃ l0,M (.h b)=some l0∧c∈ah l0)∨w.heap.size<=c:=by
   intro c hc;simp only[ah,iH,List.map_cons,List.mem_cons] at hc;rcases hc with rfl | hc
   ·exact .inr (Nat.le_refl _)
   ·exact .inl ⟨_,hm,hc⟩
  have mQ:lG M (aQ M (.h b) (.cells iH)):=iI fun l0 h0=>by rw[hm] at h0;cases h0;exact Jo
  have Ju:jF (aQ M (.h b) (.cells iH)).h w' (.cells k.more (cs++new)) (.cells iH):=by
   refine⟨pW,fun q hq=>?_,fun e=>absurd e hmr,fun _=>⟨?_,fun q1 lS q2 FM e1 e2=>?_⟩⟩
   ·rcases List.mem_cons.1 hq with rfl | hq
    ·refine⟨⟨_,ty0,(0,0),heap_alloc_new w.drew _,rfl,fun _=>rfl,fun _ i c v hi a b=>?_⟩,by simp[p'];omega,by simp[p'],fun _=>rfl⟩;simp only[p',Nat.zero_add] at b hi;by_cases h1:i<cs.length
     ·rw[List.getElem?_append_left h1] at a;rw[Array.append_assoc,Array.getElem?_append_left (by omega)] at b;exact (hold.wX a b).mono mQ.h
     ·rw[List.getElem?_append_right (by omega)] at a;rw[Array.append_assoc,Array.getElem?_append_right (by omega),Array.getElem?_append_left (by omega),<-hol] at b;exact (hx.wX a b).mono mQ.h
    ·have lS:=qN q hq;obtain⟨jP,Sv,Xb,t1,t2,t3,t4⟩:=lS.row;refine⟨⟨jP,Sv,Xb,(jM w.drew _ q.c (aN q hq)).trans t1,t2,fun _=>t3 hk,fun hz i c v hi a b=>?_⟩,lS.fit,by have:=lS.ext;simp;omega,fun _=>lS.base hk⟩;have:=lS.ext;rw[List.getElem?_append_left (by omega)] at a;exact (t4 (fun e=>by have:=hz (by rw[e];rfl);have:0<new.length:=List.length_pos_iff.2 dZ;simp at *;omega) i c v hi a b).mono mQ.h
   ·simp only[iH,List.map_cons,List.nodup_cons];refine⟨fun a1k=>?_,lH⟩;obtain⟨q,hq,he⟩:=List.mem_map.1 a1k;have:=aN q hq;simp only[p'] at he;omega
   ·have a4n:0<new.length:=List.length_pos_iff.2 dZ;have aux:∀ q∈iH,q.ext=(cs++new).length->q=p':=by
     intro q hq e;rcases List.mem_cons.1 hq with rfl | hq
     ·rfl
     ·have:=(qN q hq).ext;simp at e;omega
    rw[aux q1 lS e1,aux q2 FM e2]
  refine⟨aQ M (.h b) (.cells iH),p',?_,?_,?_,⟨iH,by simp[aQ],List.mem_cons_self⟩,Nat.le_refl _,rfl,.inr ⟨TG,rfl,rfl⟩⟩
  ·rw[dU s b _ mD];exact hV.upd (.h b) _ _ (fun j hj=>.inl hj) (fun l0 h0=>by
    rw[hm] at h0;cases h0;exact⟨hd,Jo,fun b0 lQ=>by rw[hg] at lQ;cases lQ;cases k<;>simp_all [wr]⟩) bg dh (by simp) Ju
  ·rw[dU s b _ mD];exact Ext.upd (.h b) _ _ [.h b] (.inl ⟨by simp[hg],rfl,by simp[hm],fun b0 lQ=>by rw[hg] at lQ;cases lQ;cases k<;>simp_all [wr]⟩) mQ bg dh (by simp) rfl rfl rfl
  ·intro j l hj;simp[aQ,hj]
theorem Gv (hV:Valid M D s.get w) {b:Nat} {k:BK} {cs new:List TV} {ls:List Pl} {p:Pl} {x:Array Value} (hm:M (.h b)=some (.cells ls)) (hd:D (.h b)) (hb:s.heap[b]? = some (.cells k cs))
  (hk:k≠.ro) (hp:p∈ls) (vT:cs.length<=p.ext) (hx:aH M.h new x.toList) (hn:∀ c∈new,bW c=true) {j:Nat} (hj:j<=cs.length) (hjn:cs.length<j+new.length) {w':World}
  (fl:Bool) (old rest:Array Value) (ty0:TypeId)
  (hw:(fl=true∧j+new.length<=p.tot∧(storeCells ⟨p.c,j,none⟩ x.toList).run P w=.ok () w') ∨
   (fl=false∧aH M.h (cs.take j) old.toList∧w'=w.drew.alloc (.cells (old++x++rest) ty0))) :
  ∃ M' q,Valid M' D (St.get { s with heap:=s.heap.set b (.cells .last (cs.take j++new)) }) w'∧Ext M s.get w M' (St.get { s with heap:=s.heap.set b (.cells .last (cs.take j++new)) }) w' [.h b] ∧
   (∀ i l,M (.l i)=some l->M' (.l i)=some l)∧(∃ iH,M' (.h b)=some (.cells iH)∧q∈iH)∧j+new.length<=q.ext∧q.base=0 ∧
   ((fl=true∧q.c=p.c∧q.tot=p.tot)∨(fl=false∧q.c=w.heap.size∧q.tot=(old++x++rest).size)):=by
 have hg:s.get (.h b)=some (.cells k cs):=by simp[St.get,hb]
 have mD:=(List.getElem?_eq_some_iff.1 hb).1;obtain⟨cO,h1,h2⟩:=hV.ok _ _ hm hd;rw[hg] at h1;cases h1;obtain⟨ho,qN,TD,xZ⟩:=h2;have hxl:=hx.len;simp only[Array.length_toList] at hxl;have lH:(ls.map (·.c)).Nodup:=by
  cases k with
  | ro=>exact absurd rfl hk
  | own=>obtain⟨q,rfl,_⟩:=TD rfl;simp
  | grow=>exact (xZ (.inl rfl)).1
  | last=>exact (xZ (.inr rfl)).1
 have a4l:∀ q∈ls,q.ext=cs.length->q=p:=by
  intro q hq he;cases k with
  | ro=>exact absurd rfl hk
  | own=>
   obtain⟨q',e',_⟩:=TD rfl;rw[e'] at hp hq;simp at hp hq;rw[hq,hp]
  | grow=>
   have:=(qN p hp).ext;exact (xZ (.inl rfl)).2 q hq p hp he (by omega)
  | last=>
   have:=(qN p hp).ext;exact (xZ (.inr rfl)).2 q hq p hp he (by omega)
 have hpe:p.ext=cs.length:=by have:=(qN p hp).ext;omega
 have TF:p.base=0:=(qN p hp).base hk;have TK:(cs.take j).length=j:=by rw[List.length_take];omega
 have hln:(cs.take j++new).length=j+new.length:=by rw[List.length_append,TK]
 have Ij:∀ {i:Nat},i<j->(cs.take j++new)[i]? = cs[i]?:=fun {i} hi=>by rw[List.getElem?_append_left (by omega),List.getElem?_take,if_pos hi]
 have pW:∀ c∈cs.take j++new,bW c=true:=by
  intro c hc;rcases List.mem_append.1 hc with h | h
  ·exact ho c (List.mem_of_mem_take h)
  ·exact hn c h
 rcases hw with⟨TG,xY,jT⟩ | ⟨TG,hold,rfl⟩
 ·-- in place
  let p':Pl:={ p with ext:=j+new.length }
  let iH:List Pl:=ls.map fun q=>if q.c=p.c then p' else q
  have hqp:∀ q∈ls,q.c=p.c->q=p:=by
   intro q hq he;exact oU lH hp hq he
  have Xg:p'∈iH:=List.mem_map.2 ⟨p,hp,by simp⟩;have TI:iH.map (·.c)=ls.map (·.c):=by
   simp only[iH,List.map_map];apply List.map_congr_left;intro q hq;simp only[Function.comp];split
   ·rename_i he;exact he.symm
   ·rfl
  have Jo:xQ (.cells ls) (.cells iH):=by
   intro q hq;by_cases he:q.c=p.c
   ·have:=hqp q hq he;subst this;exact⟨p',Xg,rfl,rfl,by simp[p'];omega,rfl⟩
   ·exact⟨q,List.mem_map.2 ⟨q,hq,by simp[he]⟩,rfl,rfl,Nat.le_refl _,rfl⟩
  obtain⟨arr,ty,fz,r1,r2,r3,r4⟩:=(qN p hp).row;have:=r3 hk;subst this;have TJ:∀ v∈x.toList,v.oneCell'=true:=by
   intro v hv;obtain⟨i,hi,rfl⟩:=List.mem_iff_getElem.1 hv;have nP:i<new.length:=by simp at hi;omega
   exact pU (hx.at_ i new[i] x.toList[i] (by simp[nP]) (by simp)) (hn _ (List.getElem_mem nP))
  have kE:=run_storeCells_at (P:=P) p.c j ty x.toList 0 arr w r1 (by simp;omega) TJ;simp only[Nat.add_zero,Array.length_toList] at kE;rw[kE] at jT;have a1j:=Result.ok.inj jT;obtain⟨_,rfl⟩:=a1j
  let w':World:=w.setRow p.c (arr.toList.take j++x.toList++arr.toList.drop (j+x.size)).toArray
  have bg:∀ c,c<w.heap.size->c∉ah (.cells iH)->w'.heap[c]? = w.heap[c]?:=fun c _ hc=>iU w p.c _ c (fun e=>hc (by rw[e];exact List.mem_map.2 ⟨p',Xg,rfl⟩));have dh:∀ c∈ah (.cells iH),(∃ l0,M (.h b)=some l0∧c∈ah l0)∨w.heap.size<=c:=fun c hc=>.inl ⟨_,hm,by simp only[ah] at hc ⊢;rwa [TI] at hc⟩;have mQ:lG M (aQ M (.h b) (.cells iH)):=iI fun l0 h0=>by rw[hm] at h0;cases h0;exact Jo
  have FY:∀ i,(arr.toList.take j++x.toList++arr.toList.drop (j+x.size)).toArray[i]? = if i<j then arr[i]? else if i<j+x.size then x[i-j]? else arr[i]?:=by
   intro i;have:=Dv (arr:=arr) (off:=j) (xs:=x.toList) i (by simp;omega);simpa using this
  have Ju:jF (aQ M (.h b) (.cells iH)).h w' (.cells .last (cs.take j++new)) (.cells iH):=by
   refine⟨pW,fun q hq=>?_,fun e=>(by cases e),fun _=>⟨by rw[TI];exact lH,fun q1 lS q2 FM e1 e2=>?_⟩⟩
   ·obtain⟨q0,Jm,rfl⟩:=List.mem_map.1 hq;by_cases he:q0.c=p.c
    ·simp only[he,if_true];refine⟨⟨_,ty,(0,0),wU w p.c _ arr ty (0,0) r1,by simp[p'];omega,fun _=>rfl,fun _ i c v hi a b=>?_⟩,by simp[p',TF];omega,by rw[hln];exact Nat.le_refl _,fun _=>TF⟩;simp only[p',TF,Nat.zero_add] at b hi;rw[FY i] at b;by_cases h1:i<j
     ·rw[if_pos h1] at b;rw[Ij h1] at a;exact (r4 (fun _=>hpe) i c v (by omega) a (by simpa[TF] using b)).mono mQ.h
     ·rw[if_neg h1,if_pos (by omega)] at b;rw[List.getElem?_append_right (by omega),TK] at a;exact (hx.wX a b).mono mQ.h
    ·simp only[he,if_false];have lS:=qN q0 Jm;obtain⟨jP,Sv,Xb,t1,t2,t3,t4⟩:=lS.row;refine⟨⟨jP,Sv,Xb,(iU w p.c _ q0.c he).trans t1,t2,fun _=>t3 hk,fun hz i c v hi a b=>?_⟩,lS.fit,by have:=lS.ext;rw[hln];omega,fun _=>lS.base hk⟩;have h1:=lS.ext;have h2:=hz rfl;rw[hln] at h2;omega
   ·have aux:∀ q∈iH,q.ext=(cs.take j++new).length->q=p':=by
     intro q hq e;rw[hln] at e;obtain⟨q0,Jm,rfl⟩:=List.mem_map.1 hq;by_cases he:q0.c=p.c
     ·simp[he]
     ·simp only[he,if_false] at e;have:=(qN q0 Jm).ext;omega
    rw[aux q1 lS e1,aux q2 FM e2]
  refine⟨aQ M (.h b) (.cells iH),p',?_,?_,?_,⟨iH,by simp[aQ],Xg⟩,Nat.le_refl _,TF,.inl ⟨TG,rfl,rfl⟩⟩
  ·rw[dU s b _ mD];exact hV.upd (.h b) _ _ (fun i hi=>.inl hi) (fun l0 h0=>by
    rw[hm] at h0;cases h0;exact⟨hd,Jo,fun b0 lQ=>by rw[hg] at lQ;cases lQ;cases k<;>simp_all [wr]⟩) bg dh (by simp) Ju
  ·rw[dU s b _ mD];exact Ext.upd (.h b) _ _ [.h b] (.inl ⟨by simp[hg],rfl,by simp[hm],fun b0 lQ=>by rw[hg] at lQ;cases lQ;cases k<;>simp_all [wr]⟩) mQ bg dh (by simp) rfl rfl rfl
  ·intro j l hj;simp[aQ,hj]
 ·-- a new row
  let p':Pl:=⟨w.heap.size,0,j+new.length,(old++x++rest).size⟩
  let iH:List Pl:=p'::ls
  let w':World:=w.drew.alloc (.cells (old++x++rest) ty0)
  have hol:=hold.len;simp only[Array.length_toList] at hol;have aN:∀ q∈ls,q.c<w.heap.size:=fun q hq=>hV.inb _ _ hm q.c (List.mem_map.2 ⟨q,hq,rfl⟩);have Jo:xQ (.cells ls) (.cells iH):=fun q hq=>⟨q,List.mem_cons_of_mem _ hq,rfl,rfl,Nat.le_refl _,rfl⟩;have bg:∀ c,c<w.heap.size->c∉ah (.cells iH)->w'.heap[c]? = w.heap[c]?:=fun c hc _=>jM w.drew _ c hc;have dh:∀ c∈ah (.cells iH),(∃ l0,M (.h b)=some l0∧c∈ah l0)∨w.heap.size<=c:=by
   intro c hc;simp only[ah,iH,List.map_cons,List.mem_cons] at hc;rcases hc with rfl | hc
   ·exact .inr (Nat.le_refl _)
   ·exact .inl ⟨_,hm,hc⟩
  have mQ:lG M (aQ M (.h b) (.cells iH)):=iI fun l0 h0=>by rw[hm] at h0;cases h0;exact Jo
  have Ju:jF (aQ M (.h b) (.cells iH)).h w' (.cells .last (cs.take j++new)) (.cells iH):=by
   refine⟨pW,fun q hq=>?_,fun e=>(by cases e),fun _=>⟨?_,fun q1 lS q2 FM e1 e2=>?_⟩⟩
   ·rcases List.mem_cons.1 hq with rfl | hq
    ·refine⟨⟨_,ty0,(0,0),heap_alloc_new w.drew _,rfl,fun _=>rfl,fun _ i c v hi a b=>?_⟩,by simp[p'];omega,by rw[hln];exact Nat.le_refl _,fun _=>rfl⟩;simp only[p',Nat.zero_add] at b hi;by_cases h1:i<j
     ·rw[List.getElem?_append_left (by omega)] at a;rw[Array.append_assoc,Array.getElem?_append_left (by omega)] at b;exact (hold.wX a b).mono mQ.h
     ·rw[List.getElem?_append_right (by omega),TK] at a;rw[Array.append_assoc,Array.getElem?_append_right (by omega),Array.getElem?_append_left (by omega),show old.size=j by omega] at b;exact (hx.wX a b).mono mQ.h
    ·have lS:=qN q hq;obtain⟨jP,Sv,Xb,t1,t2,t3,t4⟩:=lS.row;refine⟨⟨jP,Sv,Xb,(jM w.drew _ q.c (aN q hq)).trans t1,t2,fun _=>t3 hk,fun hz i c v hi a b=>?_⟩,lS.fit,by have:=lS.ext;rw[hln];omega,fun _=>lS.base hk⟩;have h1:=lS.ext;have h2:=hz rfl;rw[hln] at h2;omega
   ·simp only[iH,List.map_cons,List.nodup_cons];refine⟨fun a1k=>?_,lH⟩;obtain⟨q,hq,he⟩:=List.mem_map.1 a1k;have:=aN q hq;simp only[p'] at he;omega
   ·have aux:∀ q∈iH,q.ext=(cs.take j++new).length->q=p':=by
     intro q hq e;rcases List.mem_cons.1 hq with rfl | hq
     ·rfl
     ·have:=(qN q hq).ext;rw[hln] at e;omega
    rw[aux q1 lS e1,aux q2 FM e2]
  refine⟨aQ M (.h b) (.cells iH),p',?_,?_,?_,⟨iH,by simp[aQ],List.mem_cons_self⟩,Nat.le_refl _,rfl,.inr ⟨TG,rfl,rfl⟩⟩
  ·rw[dU s b _ mD];exact hV.upd (.h b) _ _ (fun i hi=>.inl hi) (fun l0 h0=>by
    rw[hm] at h0;cases h0;exact⟨hd,Jo,fun b0 lQ=>by rw[hg] at lQ;cases lQ;cases k<;>simp_all [wr]⟩) bg dh (by simp) Ju
  ·rw[dU s b _ mD];exact Ext.upd (.h b) _ _ [.h b] (.inl ⟨by simp[hg],rfl,by simp[hm],fun b0 lQ=>by rw[hg] at lQ;cases lQ;cases k<;>simp_all [wr]⟩) mQ bg dh (by simp) rfl rfl rfl
  ·intro j l hj;simp[aQ,hj]
end
section
variable {P:Program} {M:Mp} {D:Key->Prop} {w:World} {s:St}
theorem zU {at_:Array TypeId} {ty:TypeId} {d x r:TV} {s1:St} {i:gy} {dv xv:Value} (hV:Valid M D s.get w) (pX:M (.h s.heap.length)=none)
  (h:bQ P at_ s d x=some (r,s1,i)) (hd:VR M.h d dv) (hx:VR M.h x xv) (hD:∀ k∈i.ts,D k) :
  s1.env=s.env∧BOk P M D s.get w (Builtin.append_ at_ ty #[dv,xv]) r s1.get i.ws:=by
 unfold bQ at h;split at h
 case h_2=>simp at h
 rename_i st xt h0 h1;split at h
 ·simp at h
 rename_i hint;obtain⟨dd,sJ,Xh⟩:=Md hint;split at h
 case h_2=>simp at h
 rename_i e size lT;obtain⟨hu,hn,OC⟩:=jR lT;split at h
 case h_2=>simp at h
 rename_i n new gY;split at h
 ·-- nothing
  rename_i hz;subst hz;have key:∀ (base:Option Addr) (l c:Nat),dv=.slice base l c->l<=c->(∀ k∈aF x,D k)->(Builtin.append_ at_ ty #[dv,xv]).run P w=.ok dv w:=by
   intro base l c e Jo hDk;obtain⟨MC,Ls,arr,zG,Iq⟩:=oQ (P:=P) (fun b=>rfl) hV gY hx hDk;refine JC h0 h1 hu hn sJ Xh e MC Jo (zG w rfl) ?_;have TN:new=[]:=by
    unfold aS at gY;split at gY
    ·simp at gY;exact gY
    ·split at gY
     ·split at gY
      ·simpa using gY
      split at gY
      ·simp only[Option.map_eq_some_iff,Prod.mk.injEq] at gY;obtain⟨r',hr',e1,e2⟩:=gY;subst e2;exact List.eq_nil_of_length_eq_zero (by rw[(lq hr').2.2,e1];simp)
      ·simp at gY
     ·simp at gY
    ·split at gY
     ·simp at gY;obtain⟨e1,e2⟩:=gY;rw[<-e2];rename_i bs _;have:bs.data.toList=[]:=List.eq_nil_of_length_eq_zero (by simpa using e1);simp[this]
     ·simp at gY
    ·simp at gY
   rw[TN] at Iq;exact Iq.jr
  split at h
  ·simp at h;obtain⟨rfl,rfl,rfl⟩:=h;have MF:=hd;cases hd;exact⟨rfl,_,w,M,key none 0 0 rfl (Nat.le_refl _) hD,.same hV (.val MF)⟩
  ·split at h
   ·simp at h;obtain⟨rfl,rfl,rfl⟩:=h;have MF:=hd;cases hd with
    | slc hb hp vT hle qP hex ha hk=>
     exact⟨rfl,_,w,M,key _ _ _ rfl (by omega) hD,.same hV (.val MF)⟩
   ·simp at h
  ·simp at h
 rename_i hz;split at h
 case isFalse=>simp at h
 rename_i hlen;have a0l:new≠[]:=by
  intro e;have:0<n*size:=Nat.mul_pos (by omega) OC;rw[e] at hlen;simp only[List.length_nil] at hlen;omega
 split at h
 ·-- nil
  split at h
  case isFalse=>simp at h
  rename_i xY;simp at h;obtain⟨rfl,rfl,rfl⟩:=h;obtain⟨inf,z,hi,hiz,hzs,uU,vZ,TB,hb4⟩:=qQ xY;obtain⟨MC,Ls,arr,zG,Iq⟩:=oQ (P:=P) (fun b=>rfl) hV gY hx hD;have nR:inf.size=size:=by obtain⟨i',e1,e2⟩:=wS hn;rw[hi] at e1;cases e1;exact e2
  cases hd;obtain⟨eG,c1,c1',c2⟩:=qU (P:=P) (w:=w) (ty:=ty) (base:=none) (sLen:=0) (sCap:=0) (old:=#[]) (new:=arr) h0 h1 hu hn sJ Xh hi hiz rfl MC (by omega) (by simpa using uU) (by omega) TB
   (fun w' hw'=>by simp[Builtin.firstCells]) zG
  simp only[Nat.zero_add] at c1 c2;obtain⟨M',hp⟩:=JD (size:=size) (len:=n) (rest:=Builtin.zeroCells z.cells (eG-n)) (e:=e) (pre:=#[]++arr) hV pX (by simpa using Iq) Ls hlen c1 c1' (by rw[jS,hzs,nR]);exact⟨rfl,_,_,M',c2,hp⟩
 ·-- a slice
  rename_i b off len cap sz ex;split at h
  case isFalse=>simp at h
  rename_i a1m;subst a1m;have hd0:=hd;cases hd with
  | slc hb hp vT hle qP hex ha hk=>
  rename_i ls p a cap';split at h
  ·-- room
   rename_i a8L;simp only[Option.map_eq_some_iff,Prod.mk.injEq] at h;obtain⟨Xg,JF,rfl,rfl,rfl⟩:=h;obtain⟨kk,oN,cs,cs',Jp,qM,ho,rfl⟩:=zQ JF;have WV:∀ k∈aF x,D k:=fun k hk=>hD k (List.mem_cons_of_mem _ hk);obtain⟨MC,Ls,arr,zG,Iq⟩:=oQ (P:=P) (fun b=>rfl) hV gY hx WV;have hg:s.get (.h b)=some (.cells kk cs):=(by simp[St.get,Jp]);have mD:=(List.getElem?_eq_some_iff.1 Jp).1;rcases ha with ha | ⟨rfl,ha⟩
   ·omega
   have Lu:=hD (.h b) (by simp);have hp:=hp.resolve_left (by omega);obtain⟨w',r1,r2,r3⟩:=pV (P:=P) hV hb Lu hg hp (hV.LQ hb Lu hg hp vT qM) ho Iq Ls;obtain⟨o1,o2,o3⟩:=mJ ho;have hmul:len*sz+n*sz=(len+n)*sz:=(by rw[Nat.add_mul]);refine⟨rfl,_,w',M,zT (P:=P) (w:=w) (ty:=ty) (a:=⟨p.c,p.base+off,none⟩) h0 h1 hu hn sJ Xh rfl MC (by omega) (zG w rfl) (by rw[jO,Nat.add_assoc];exact r1),⟨?_,?_,?_,fun _ _ h=>h⟩⟩
   ·rw[dU s b _ mD];exact⟨fun k l hk hd=>r2.ok k l hk (hd.elim id fun⟨x1,x2⟩=>by
      simp only[gU] at x2;split at x2
      ·rename_i e;subst e;rw[hg] at x1;cases x1
      ·simp[x1] at x2),fun k k' l l' b' a1 a2 a3 hd=>r2.own k k' l l' b' a1 a2 a3 (hd.elim id fun⟨x1,x2⟩=>by
      simp only[gU] at x2;split at x2
      ·rename_i e;subst e;rw[hg] at x1;cases x1
      ·simp[x1] at x2),r2.inb⟩
   ·rw[dU s b _ mD];exact r3
   ·exact .val (.slc hb (.inr hp) (by omega) (by omega) qP hex (.inr ⟨rfl,ha⟩) hk)
  ·rename_i a8L;split at h
   case isFalse=>simp at h
   rename_i xY;obtain⟨inf,z,hi,hiz,hzs,uU,vZ,TB,hb4⟩:=qQ xY;have nR:inf.size=sz:=by obtain⟨i',e1,e2⟩:=wS hn;rw[hi] at e1;cases e1;exact e2
   have hmul:len*sz+n*sz=(len+n)*sz:=(by rw[Nat.add_mul]);split at h
   ·-- exact: always a new row
    rename_i a4p;have DK:=hex a4p;simp only[Option.map_eq_some_iff,Prod.mk.injEq] at h;obtain⟨⟨l0,old⟩,jf,rfl,rfl,rfl⟩:=h;obtain⟨_,kF,hold⟩:=Ip jf;rw[kF] at jf;have WV:∀ k∈aF x,D k:=fun k hk=>hD k (List.mem_cons_of_mem _ hk);obtain⟨MC,Ls,arr,zG,Iq⟩:=oQ (P:=P) (fun b=>rfl) hV gY hx WV;obtain⟨t1',t2',JG,t3',t4'⟩:=oQ (P:=P) (fun b=>rfl) hV jf hd0 (fun k hk=>hD k (by simp[aF] at hk;simp[hk,bY]));obtain⟨eG,c1,c1',c2⟩:=qU (P:=P) (w:=w) (ty:=ty) (base:=some a) (sLen:=len) (sCap:=cap') (old:=JG) (new:=arr) h0 h1 hu hn sJ Xh hi hiz rfl MC (by omega) uU vZ TB t3' zG;obtain⟨M',a4r⟩:=JD (size:=sz) (len:=len+n) (rest:=Builtin.zeroCells z.cells (eG-(len+n))) (e:=e) (pre:=JG++arr) hV pX (by simpa using t4'.append Iq) (fun c hc=>(List.mem_append.1 hc).elim (t2' c) (Ls c)) (by simp[hold,hlen,hmul]) c1 c1' (by rw[jS,hzs,nR]);exact⟨rfl,_,_,M',c2,a4r⟩
   ·-- it grows
    split at h
    case h_2=>simp at h
    rename_i a4p _ k cs Jp;split at h
    ·split at h
     ·simp at h
     rename_i xX;simp only[not_or,ne_eq,Decidable.not_not,Nat.not_le] at xX;have hkc:=hk;obtain⟨hk,rfl,Jo,pK,kF⟩:=xX;have hp:=hp.resolve_left (by omega);simp only[Option.some.injEq,Prod.mk.injEq] at h;obtain⟨rfl,rfl,rfl⟩:=h;have WV:∀ k∈aF x,D k:=fun k hk=>hD k (List.mem_cons_of_mem _ hk);have Lu:=hD (.h b) (by simp);obtain⟨MC,Ls,arr,zG,Iq⟩:=oQ (P:=P) (fun b=>rfl) hV gY hx WV;have hg:s.get (.h b)=some (.cells k cs):=(by simp[St.get,Jp]);have LC:∀ (M':Mp) (w':World),Valid M' D (St.get { s with heap:=s.heap.set b (.cells .last (cs.take (len*sz)++new)) }) w' ->
       Valid M' (fun j=>D j∨(s.get j=none∧(St.get { s with heap:=s.heap.set b (.cells .last (cs.take (len*sz)++new)) } j).isSome=true)) (St.get { s with heap:=s.heap.set b (.cells .last (cs.take (len*sz)++new)) }) w':=by
      intro M' w' hv;have aux:∀ j,(D j∨(s.get j=none∧(St.get { s with heap:=s.heap.set b (.cells .last (cs.take (len*sz)++new)) } j).isSome=true))->D j:=by
       intro j hj;rcases hj with hj | ⟨x1,x2⟩
       ·exact hj
       ·rw[dU s b _ (List.getElem?_eq_some_iff.1 Jp).1] at x2;simp only[gU] at x2;split at x2
        ·rename_i e;subst e;exact Lu
        ·simp[x1] at x2
      exact⟨fun k l hk hd=>hv.ok k l hk (aux k hd),fun k k' l l' b' a1 a2 a3 hd=>hv.own k k' l l' b' a1 a2 a3 (aux k hd),hv.inb⟩
     have a4s:arr.size=n*sz:=by have:=Iq.len;simp at this;omega
     have TP:p.base=0∧p.ext<=cs.length:=by
      obtain⟨cO,q1,q2⟩:=hV.ok _ _ hb Lu;rw[hg] at q1;cases q1;exact⟨(q2.2.1 p hp).base hk,(q2.2.1 p hp).ext⟩
     by_cases vU:len+n<=cap'
     ·-- in place
      rcases ha with ha | ⟨rfl,ha⟩
      ·omega
      have Tq:(len+n)*sz<=cap'*sz:=Nat.mul_le_mul_right sz vU;have a4g:cap*sz<=(len+n)*sz:=Nat.mul_le_mul_right sz (by omega);have a0h:len*sz<=cap*sz:=Nat.mul_le_mul_right sz (by omega);have a4t:(cap+1)*sz<=(len+n)*sz:=Nat.mul_le_mul_right sz (by omega);have a4u:(cap+1)*sz=cap*sz+sz:=Nat.succ_mul ..;have pW:∀ v∈arr.toList,v.oneCell'=true:=by
       intro v hv;obtain⟨i,hi,rfl⟩:=List.mem_iff_getElem.1 hv;have nP:i<new.length:=by simp at hi;omega
       exact pU (Iq.at_ i new[i] arr.toList[i] (by simp[nP]) (by simp)) (Ls _ (List.getElem_mem nP))
      obtain⟨cO,q1,q2⟩:=hV.ok _ _ hb Lu;rw[hg] at q1;cases q1;obtain⟨row,rty,rfz,z1,z2,z3,z4⟩:=(q2.2.1 p hp).row;have:=z3 hk;subst this;have kE:=run_storeCells_at (P:=P) p.c (len*sz) rty arr.toList 0 row w z1 (by simp;omega) pW;obtain⟨M',q,v1,v2,v3,⟨iH,v4,v5⟩,v6,v7,v8⟩:=Gv (P:=P) hV hb Lu Jp hk hp (by omega) Iq Ls (j:=len*sz) (by omega) (by omega) true #[] #[] 0 (.inl ⟨rfl,by omega,kE⟩);rcases v8 with⟨_,v9,v10⟩ | ⟨v9,_⟩
      ·refine⟨rfl,_,_,M',zT (P:=P) (w:=w) (ty:=ty) (a:=⟨p.c,p.base+0,none⟩) h0 h1 hu hn sJ Xh rfl MC vU (zG w rfl) (by rw[jO,TP.1];simp only[Nat.zero_add,Nat.add_zero];exact kE),⟨LC _ _ v1,v2,?_,v3⟩⟩;refine .val (.slc v4 (.inr v5) (by omega) (Nat.le_refl _) vU (fun h=>by simp at h) (.inr ⟨by rw[v9,v7,TP.1],by rw[v7,v10];omega⟩) hkc)
      ·cases v9
     ·-- a new row
      have a0h:len*sz<=cap*sz:=Nat.mul_le_mul_right sz (by omega);have a4t:(cap+1)*sz<=(len+n)*sz:=Nat.mul_le_mul_right sz (by omega);have a4u:(cap+1)*sz=cap*sz+sz:=Nat.succ_mul ..;have jf:aS sz s.heap (.slc b 0 len cap sz ex)=some (len,cs.take (len*sz)):=by
       have:sub cs 0 (len*sz)=some (cs.take (len*sz)):=by
        unfold sub;rw[if_pos (by omega)];simp
       simp[aS,iw,Jp,this,pK,kF]
      obtain⟨t1',t2',JG,t3',t4'⟩:=oQ (P:=P) (fun b=>rfl) hV jf hd0 (fun k hk=>by simp[aF] at hk;rw[hk];exact Lu);obtain⟨eG,c1,c1',c2⟩:=qU (P:=P) (w:=w) (ty:=ty) (base:=some a) (sLen:=len) (sCap:=cap') (old:=JG) (new:=arr) h0 h1 hu hn sJ Xh hi hiz rfl MC (by omega) uU vZ TB t3' zG;obtain⟨M',q,v1,v2,v3,⟨iH,v4,v5⟩,v6,v7,v8⟩:=Gv (P:=P) hV hb Lu Jp hk hp (by omega) Iq Ls (j:=len*sz) (by omega) (by omega) false JG (Builtin.zeroCells z.cells (eG-(len+n))) e (.inr ⟨rfl,t4',rfl⟩);rcases v8 with⟨v9,_⟩ | ⟨_,v10,v11⟩
      ·cases v9
      ·refine⟨rfl,_,_,M',c2,⟨LC _ _ v1,v2,?_,v3⟩⟩;refine .val (.slc v4 (.inr v5) (by omega) (Nat.le_refl _) c1 (fun h=>by simp at h) (.inr ⟨by rw[v10,v7],?_⟩) c1');rw[v11,v7];have TK:(cs.take (len*sz)).length=len*sz:=by rw[List.length_take];omega
       have hol:=t4'.len;simp only[Array.length_toList] at hol;have hm3:(len+n)*sz+(eG-(len+n))*sz=eG*sz:=by rw[<-Nat.add_mul];congr 1;omega
       simp only[Array.size_append,jS,hzs,nR];omega
    ·rename_i xX;simp only[not_or,ne_eq,Decidable.not_not] at xX;have hkc:=hk;obtain⟨hk,rfl,rfl,pK,kF⟩:=xX;have hp:=hp.resolve_left (by omega);simp only[Option.some.injEq,Prod.mk.injEq] at h;obtain⟨rfl,rfl,rfl⟩:=h;have WV:∀ k∈aF x,D k:=fun k hk=>hD k (List.mem_cons_of_mem _ hk);have Lu:=hD (.h b) (by simp);obtain⟨MC,Ls,arr,zG,Iq⟩:=oQ (P:=P) (fun b=>rfl) hV gY hx WV;have hg:s.get (.h b)=some (.cells k cs):=(by simp[St.get,Jp]);have LC:∀ (M':Mp) (w':World),Valid M' D (St.get { s with heap:=s.heap.set b (.cells k.more (cs++new)) }) w' ->
       Valid M' (fun j=>D j∨(s.get j=none∧(St.get { s with heap:=s.heap.set b (.cells k.more (cs++new)) } j).isSome=true)) (St.get { s with heap:=s.heap.set b (.cells k.more (cs++new)) }) w':=by
      intro M' w' hv;have aux:∀ j,(D j∨(s.get j=none∧(St.get { s with heap:=s.heap.set b (.cells k.more (cs++new)) } j).isSome=true))->D j:=by
       intro j hj;rcases hj with hj | ⟨x1,x2⟩
       ·exact hj
       ·rw[dU s b _ (List.getElem?_eq_some_iff.1 Jp).1] at x2;simp only[gU] at x2;split at x2
        ·rename_i e;subst e;exact Lu
        ·simp[x1] at x2
      exact⟨fun k l hk hd=>hv.ok k l hk (aux k hd),fun k k' l l' b' a1 a2 a3 hd=>hv.own k k' l l' b' a1 a2 a3 (aux k hd),hv.inb⟩
     have a4s:arr.size=n*sz:=by have:=Iq.len;simp at this;omega
     have TP:p.base=0∧p.ext<=cs.length:=by
      obtain⟨cO,q1,q2⟩:=hV.ok _ _ hb Lu;rw[hg] at q1;cases q1;exact⟨(q2.2.1 p hp).base hk,(q2.2.1 p hp).ext⟩
     by_cases vU:len+n<=cap'
     ·-- in place
      rcases ha with ha | ⟨rfl,ha⟩
      ·omega
      have Tq:(len+n)*sz<=cap'*sz:=Nat.mul_le_mul_right sz vU;have pW:∀ v∈arr.toList,v.oneCell'=true:=by
       intro v hv;obtain⟨i,hi,rfl⟩:=List.mem_iff_getElem.1 hv;have nP:i<new.length:=by simp at hi;omega
       exact pU (Iq.at_ i new[i] arr.toList[i] (by simp[nP]) (by simp)) (Ls _ (List.getElem_mem nP))
      obtain⟨cO,q1,q2⟩:=hV.ok _ _ hb Lu;rw[hg] at q1;cases q1;obtain⟨row,rty,rfz,z1,z2,z3,z4⟩:=(q2.2.1 p hp).row;have:=z3 hk;subst this;have kE:=run_storeCells_at (P:=P) p.c cs.length rty arr.toList 0 row w z1 (by simp;omega) pW;obtain⟨M',q,v1,v2,v3,⟨iH,v4,v5⟩,v6,v7,v8⟩:=OG (P:=P) hV hb Lu Jp hk hp (by omega) Iq Ls a0l true #[] #[] 0 (.inl ⟨rfl,by omega,kE⟩);rcases v8 with⟨_,v9,v10⟩ | ⟨v9,_⟩
      ·refine⟨rfl,_,_,M',zT (P:=P) (w:=w) (ty:=ty) (a:=⟨p.c,p.base+0,none⟩) h0 h1 hu hn sJ Xh rfl MC vU (zG w rfl) (by rw[jO,TP.1];simp only[Nat.zero_add,Nat.add_zero];rw[<-pK];exact kE),⟨LC _ _ v1,v2,?_,v3⟩⟩;refine .val (.slc v4 (.inr v5) (by omega) (Nat.le_refl _) vU (fun h=>by simp at h) (.inr ⟨by rw[v9,v7,TP.1],by rw[v7,v10];omega⟩) hkc)
      ·cases v9
     ·-- a new row
      have jf:aS sz s.heap (.slc b 0 len len sz ex)=some (len,cs):=by
       have:sub cs 0 (len*sz)=some cs:=by
        unfold sub;rw[if_pos (by omega)];simp[<-pK]
       simp[aS,iw,Jp,this,pK,kF]
      obtain⟨t1',t2',JG,t3',t4'⟩:=oQ (P:=P) (fun b=>rfl) hV jf hd0 (fun k hk=>by simp[aF] at hk;rw[hk];exact Lu);obtain⟨eG,c1,c1',c2⟩:=qU (P:=P) (w:=w) (ty:=ty) (base:=some a) (sLen:=len) (sCap:=cap') (old:=JG) (new:=arr) h0 h1 hu hn sJ Xh hi hiz rfl MC (by omega) uU vZ TB t3' zG;obtain⟨M',q,v1,v2,v3,⟨iH,v4,v5⟩,v6,v7,v8⟩:=OG (P:=P) hV hb Lu Jp hk hp (by omega) Iq Ls a0l false JG (Builtin.zeroCells z.cells (eG-(len+n))) e (.inr ⟨rfl,t4',rfl⟩);rcases v8 with⟨v9,_⟩ | ⟨_,v10,v11⟩
      ·cases v9
      ·refine⟨rfl,_,_,M',c2,⟨LC _ _ v1,v2,?_,v3⟩⟩;refine .val (.slc v4 (.inr v5) (by omega) (Nat.le_refl _) c1 (fun h=>by simp at h) (.inr ⟨by rw[v10,v7],?_⟩) c1');rw[v11,v7];have hol:=t4'.len;simp only[Array.length_toList] at hol;have hm3:(len+n)*sz+(eG-(len+n))*sz=eG*sz:=by rw[<-Nat.add_mul];congr 1;omega
       simp only[Array.size_append,jS,hzs,nR];omega
 ·simp at h
end
section
variable {P:Program} {M:Mp} {D:Key->Prop} {w:World} {s:St}
theorem TQ {cs l:List TV} {off n m:Nat} (h:sub cs off n=some l) (hm:m<=n):sub cs off m=some (l.take m):=by
 obtain⟨h1,h2,h3⟩:=lq h;unfold sub;rw[if_pos (by omega),h2,List.take_take,Nat.min_eq_left hm]
theorem Ir {at_:Array TypeId} {ty:TypeId} {d x r:TV} {s1:St} {i:gy} {dv xv:Value} (hV:Valid M D s.get w)
  (h:xO P at_ s d x=some (r,s1,i)) (hd:VR M.h d dv) (hx:VR M.h x xv) (hD:∀ k∈i.ts,D k) :
  s1.env=s.env∧BOk P M D s.get w (Builtin.copy_ at_ ty #[dv,xv]) r s1.get i.ws:=by
 unfold xO at h;split at h
 case h_2=>simp at h
 rename_i st h0;split at h
 case h_2=>simp at h
 rename_i e size lT;obtain⟨hu,hn,OC⟩:=jR lT;split at h
 case h_2=>simp at h
 rename_i n new gY;split at h
 case isFalse=>simp at h
 rename_i hlen;obtain⟨hlen,DL⟩:=hlen;have first:∀ (m:Nat),m<=n->(∀ k∈aF x,D k)->(Builtin.lenOf xv).run P w=.ok n w∧(∀ c∈new.take (m*size),bW c=true) ∧
   ∃ arr,(Builtin.firstCells size m xv).run P w=.ok arr w∧aH M.h (new.take (m*size)) arr.toList:=by
  intro m hm WV;obtain⟨MC,Ls,arr,zG,Iq⟩:=oQ (P:=P) (fun b=>rfl) hV gY hx WV;refine⟨MC,fun c hc=>Ls c (List.mem_of_mem_take hc),?_⟩;have hmul:m*size<=n*size:=Nat.mul_le_mul_right size hm;cases hx with
  | Ih=>
   unfold aS at gY;simp at gY;obtain⟨rfl,rfl⟩:=gY;exact⟨#[],by simp[Builtin.firstCells],by simpa using aH.nil⟩
  | slc hb hp vT hle qP hex ha hk=>
   rename_i b off len cap sz ex ls p a cap';unfold aS at gY;simp only at gY;split at gY
   case isFalse=>simp at gY
   rename_i nR;subst nR;split at gY
   ·rename_i hz;simp at gY;obtain⟨rfl,rfl⟩:=gY;have:m=0:=(by omega);subst this;exact⟨#[],by simp[Builtin.firstCells,loadCells,loadCellsFrom],by simpa using aH.nil⟩
   split at gY
   case h_2=>simp at gY
   rename_i cs Jp;simp only[Option.map_eq_some_iff,Prod.mk.injEq] at gY;obtain⟨r',hr,rfl,rfl⟩:=gY;obtain⟨k,hk,Jz⟩:=nX Jp;obtain⟨cO,h1,h2⟩:=hV.ok _ _ hb (WV _ (by simp[aF]));simp only[St.get,hk,Option.some.injEq] at h1;subst h1;by_cases WW:cap'=0
   ·have kF:len=0:=(by omega);subst kF;have:m=0:=(by omega);subst this;exact⟨#[],by simp[Builtin.firstCells,loadCells,loadCellsFrom],by simpa using aH.nil⟩
   ·rcases ha with ha | ⟨rfl,ha⟩
    ·exact absurd ha WW
    ·obtain⟨xs,x1,x2⟩:=oM (P:=P) (h2.2.1 p (hp.resolve_left WW)) (TQ hr hmul) (by have:=Nat.mul_le_mul_right sz hle;omega) (fun e=>by have:=Jz e;have:=(h2.2.1 p (hp.resolve_left WW)).ext;omega);exact⟨xs.toArray,by simp[Builtin.firstCells,x2 w rfl],x1⟩
  | str bs=>simp[isStr] at DL
  | _=>simp[aS] at gY
 split at h
 ·simp at h;obtain⟨rfl,rfl,rfl⟩:=h;cases hd;obtain⟨f1,f2,arr,f3,f4⟩:=first 0 (Nat.zero_le _) hD
  have f5:=f4.len;simp at f5;exact⟨rfl,.int .i64 0,w,M,by simp[Builtin.copy_,h0,run_underlying hu,f1,aJ hn,f3,goInt],.same hV (.val (.int _ _))⟩
 ·rename_i b off len cap sz ex;split at h
  case isFalse=>simp at h
  rename_i nR;subst nR;have hd0:=hd;cases hd with
  | slc hb hp vT hle qP hex ha hk=>
  rename_i ls p a cap';split at h
  ·rename_i hm;simp at h;obtain⟨rfl,rfl,rfl⟩:=h;obtain⟨f1,f2,arr,f3,f4⟩:=first 0 (Nat.zero_le _) hD
   have f5:arr.toList=[]:=by
    have:=f4.len;simp only[Nat.zero_mul,List.take_zero,List.length_nil] at this;exact List.eq_nil_of_length_eq_zero this.symm
   refine⟨rfl,.int .i64 0,w,M,?_,.same hV (.val (.int _ _))⟩;have e1:Nat.min n len=0:=hm;simp[Builtin.copy_,h0,run_underlying hu,f1,aJ hn,e1,f3,goInt,f5,storeCells]
  ·rename_i hm;simp only[Option.map_eq_some_iff,Prod.mk.injEq] at h;obtain⟨Xg,JF,rfl,rfl,rfl⟩:=h;obtain⟨kk,oN,cs,cs',Jp,qM,ho,rfl⟩:=zQ JF;obtain⟨f1,f2,arr,f3,f4⟩:=first (min n len) (Nat.min_le_left _ _) (fun k hk=>hD k (List.mem_cons_of_mem _ hk))
   have hg:s.get (.h b)=some (.cells kk cs):=(by simp[St.get,Jp]);have mD:=(List.getElem?_eq_some_iff.1 Jp).1;rcases ha with ha | ⟨rfl,ha⟩
   ·omega
   obtain⟨w',r1,r2,r3⟩:=pV (P:=P) hV hb (hD (.h b) (by simp)) hg (hp.resolve_left (by omega)) (hV.LQ hb (hD (.h b) (by simp)) hg (hp.resolve_left (by omega)) vT qM) ho f4 f2;refine⟨rfl,.int .i64 (min n len:Nat),w',M,?_,⟨?_,?_,.val (.int _ _),fun _ _ h=>h⟩⟩
   ·have e1:Nat.min n len=min n len:=rfl;simp[Builtin.copy_,h0,run_underlying hu,f1,aJ hn,e1,f3,goInt,r1]
   ·rw[dU s b _ mD];exact r2.widen (uV (by simp[hg]))
   ·rw[dU s b _ mD];exact r3
 ·simp at h
end
section
variable {P:Program} {M:Mp} {D:Key->Prop} {w:World} {s:St} {N:Np}
theorem aY {α β:Type} (x:Sem α) (f:α->Sem β):au P (x >>= f)=(au P x).bind fun a=>au P (f a):=by
 show au P (x.bind f)=_
 induction x with
 | pure a=>rfl
 | program k ih=>exact ih P
 | mark m k ih=>exact ih
 | _=>rfl
def zV (b:Nat->Bool) (L:List MapEntry) (i0:Nat):Option (Nat×Value)->Prop
 | none=>∀ i,i<L.length->b i=false
 | some (i,v)=>i0<=i∧b (i-i0)=true∧∃ x,L[i-i0]? = some x∧v=x.val
theorem zV.succ {b:Nat->Bool} {e:MapEntry} {L:List MapEntry} {i0:Nat} {r:Option (Nat×Value)} (hb:b 0=false) (h:zV (fun i=>b (i+1)) L (i0+1) r):zV b (e::L) i0 r:=by
 cases r with
 | none=>
  intro i hi;cases i with
  | zero=>exact hb
  | succ i=>exact h i (by simpa using hi)
 | some r=>
  obtain⟨h1,h2,x,h3,h4⟩:=h;have e1:r.1-i0=(r.1-(i0+1))+1:=by omega
  refine⟨by omega,by rw[e1];exact h2,x,by rw[e1];simpa using h3,h4⟩
theorem AX (kind:TypeDesc) (k:Value):∀ (L:List MapEntry) (i0:Nat) (b:Nat->Bool),(∀ i x,L[i]? = some x->Instr.sameNow kind k x.key=some (b i)) ->
  ∃ r,Instr.findNow kind k L i0=some r∧zV b L i0 r
 | [],i0,b,_=>⟨none,rfl,fun i hi=>absurd hi (by simp)⟩
 | e::L,i0,b,h=>by
  have h0:=h 0 e rfl;obtain⟨r,g1,g2⟩:=AX kind k L (i0+1) (fun i=>b (i+1)) fun i x hx=>h (i+1) x (by simpa using hx);simp only[Instr.findNow,h0];cases hb:b 0 with
  | true=>exact⟨_,rfl,Nat.le_refl _,by simpa using hb,e,by simp,rfl⟩
  | false=>exact⟨r,g1,g2.succ hb⟩
theorem sV (kt:TypeId) (k:Value):∀ (L:List MapEntry) (i0:Nat) (b:Nat->Bool),(∀ i x,L[i]? = some x->au P (Op.equal kt k x.key)=some (b i)) ->
  ∃ r,(∀ w,(Instr.findAsking kt k L i0).run P w=.ok r w)∧zV b L i0 r
 | [],i0,b,_=>⟨none,fun w=>rfl,fun i hi=>absurd hi (by simp)⟩
 | e::L,i0,b,h=>by
  have h0:=fun w=>fB (h 0 e rfl) w;obtain⟨r,g1,g2⟩:=sV kt k L (i0+1) (fun i=>b (i+1)) fun i x hx=>h (i+1) x (by simpa using hx);cases hb:b 0 with
  | true=>exact⟨some (i0,e.val),fun w=>by simp[Instr.findAsking,h0 w,hb],Nat.le_refl _,by simpa using hb,e,by simp,rfl⟩
  | false=>exact⟨r,fun w=>by simp[Instr.findAsking,h0 w,hb,g1 w],g2.succ hb⟩
theorem OH:∀ {l:List TV} {vs:List Value},rX l=some vs->∀ (i:Nat) (c:TV),l[i]? = some c->∃ v,vs[i]? = some v∧c.rW=some v
 | [],vs,h,i,c,hc=>by simp at hc
 | a::l,vs,h,i,c,hc=>by
  simp only[rX] at h;split at h
  ·rename_i v ws h1 h2;cases h;cases i with
   | zero=>simp at hc;subst hc;exact⟨v,rfl,h1⟩
   | succ i=>simpa using OH h2 i c (by simpa using hc)
  cases h
def FR (N:Np) (o:List Nat) (es:List (TV×TV)) (xs:Array MapEntry):Option Nat->Option (Nat×Value)->Prop
 | none,none=>True
 | some j,some (i,v)=>o[i]? = some j∧∃ e x,es[j]? = some e∧xs[i]? = some x∧v=x.val∧VR N e.1 x.key∧VR N e.2 x.val
 | _,_=>False
theorem Iu {o:List Nat} {kt:TypeId} {k:Value} {es:List (TV×TV)} {r:Option Nat} {xs:Array MapEntry} (h:xP P kt k es=some r) (hx:vS N o es xs) :
  (∀ w,(Instr.checkKey xs.isEmpty 10000 kt k).run P w=.ok () w)∧∃ r',(∀ w,(Instr.findKey kt k xs.toList).run P w=.ok r' w) ∧
   FR N o es xs r r':=by
 unfold xP at h;split at h
 case h_2=>simp at h
 rename_i ks DN;split at h
 case h_2=>simp at h
 rename_i r0 hr;split at h
 case isFalse=>simp at h
 rename_i Gw;cases h;generalize r0.map (·.1)=r at Gw ⊢;have hl:es.isEmpty=xs.isEmpty:=by
  rw[Bool.eq_iff_iff];simp[List.isEmpty_iff,<-List.length_eq_zero_iff,hx.len]
 have hkl:ks.length=es.length:=by
  have:∀ {l:List TV} {vs:List Value},rX l=some vs->vs.length=l.length:=by
   intro l
   induction l with
   | nil=>intro vs h;simp[rX] at h;subst h;rfl
   | cons a l ih=>
    intro vs h;simp only[rX] at h;split at h
    ·rename_i v ws h1 h2;cases h;simp[ih h2]
    ·cases h
  simpa using this DN
 rw[aY] at hr;cases hc:au P (Instr.checkKey es.isEmpty 10000 kt k) with
 | none=>simp[hc] at hr
 | some u=>
  refine⟨fun w=>by rw[<-hl];exact fB hc w,?_⟩;unfold Jt at Gw;split at Gw
  case h_2=>simp at Gw
  rename_i kind hd;have hdr:=fun w=>fB hd w;simp only[Bool.and_eq_true] at Gw;obtain⟨hj,hs⟩:=Gw;have Xi:∀ (i:Nat) (x:MapEntry),xs.toList[i]? = some x->∃ (j:Nat) (e:TV×TV),o[i]? = some j∧es[j]? = some e∧VR N e.1 x.key∧VR N e.2 x.val∧ks[j]? = some x.key:=by
   intro i x hi;obtain⟨_,j,e,h1,h2,h3,h4⟩:=hx.at_ i x (by simpa using hi);obtain⟨v,g1,g2⟩:=OH DN j e.1 (by simp[h2]);exact⟨j,e,h1,h2,h3,h4,by rw[g1,qK g2 h3]⟩
  let b:Nat->Bool:=fun i=>o[i]? == r
  have hb:∀ i j,o[i]? = some j->b i=(some j==r):=fun i j h=>by simp only[b,h]
  have fin:∀ r',zV b xs.toList 0 r'->FR N o es xs r r':=by
   intro r' hf;cases r' with
   | none=>
    cases r with
    | none=>trivial
    | some j=>
     simp only[decide_eq_true_eq] at hj;obtain⟨i,hi⟩:=List.mem_iff_getElem?.1 (hx.sur j (by omega));have h1:=hf i (by have:=(List.getElem?_eq_some_iff.1 hi).1;have:=hx.ord;simp;omega);rw[hb i j hi] at h1;simp at h1
   | some q=>
    obtain⟨i,v⟩:=q;obtain⟨_,h1,x,h2,h3⟩:=hf;simp only[Nat.sub_zero] at h1 h2;obtain⟨j,e,g1,g2,g3,g4,_⟩:=Xi i x h2;rw[hb i j g1] at h1;simp only[beq_iff_eq] at h1;subst h1;exact⟨g1,e,x,g2,by simpa using h2,h3,g3,g4⟩
  have DR:∀ {p:Value×Nat->Bool},ks.zipIdx.all p=true->∀ j x,ks[j]? = some x->p (x,j)=true:=by
   intro p hp j x hjx;exact List.all_eq_true.1 hp (x,j) (List.mem_zipIdx_iff_getElem?.2 (by simpa using hjx))
  unfold Instr.findKey;rcases Bool.or_eq_true _ _▸hs with hs | hs
  ·obtain⟨r',g1,g2⟩:=AX kind k xs.toList 0 b fun i x hi=>by
    obtain⟨j,e,h1,_,_,_,h5⟩:=Xi i x hi;have:=DR hs j _ h5;simp only[beq_iff_eq] at this;rw[this,hb i j h1]
   exact⟨r',fun w=>by simp[hdr w,g1],fin r' g2⟩
  ·by_cases h0:xs.toList=[]
   ·refine⟨none,fun w=>by simp[hdr w,h0,Instr.findNow],fin none (by rw[h0];intro i hi;simp at hi)⟩
   ·have hno:Instr.findNow kind k xs.toList 0=none:=by
     cases hL:xs.toList with
     | nil=>exact absurd hL h0
     | cons x L=>
      obtain⟨j,e,h1,_,_,_,h5⟩:=Xi 0 x (by rw[hL];rfl);have:=DR hs j _ h5;simp only[Bool.and_eq_true,beq_iff_eq] at this;simp only[Instr.findNow,this.1]
    obtain⟨r',g1,g2⟩:=sV (P:=P) kt k xs.toList 0 b fun i x hi=>by
     obtain⟨j,e,h1,_,_,_,h5⟩:=Xi i x hi;have:=DR hs j _ h5;simp only[Bool.and_eq_true,beq_iff_eq] at this;rw[this.2,hb i j h1]
    exact⟨r',fun w=>by simp[hdr w,hno,g1 w],fin r' g2⟩
theorem QB {t:TypeId} {m k r:TV} {ok:Bool} {mv kv:Value} (hV:Valid M D s.get w) (h:lY P t s.heap m k ok=some r) (hm:VR M.h m mv) (hk:VR M.h k kv)
  (hD:∀ j∈(match m with | .map r=>[Key.h r] | _=>[]),D j):∃ z,VR M.h r z∧(Instr.lookup t mv kv ok).run P w=.ok z w:=by
 unfold lY at h;split at h
 case h_2=>simp at h
 rename_i kt e kx hu hkx;have:=qK hkx hk;subst this;simp only at h;have main:∀ (o:List Nat) (es:List (TV×TV)) (xs:Array MapEntry),vS M.h o es xs->((mv=.map none∧xs=#[])∨∃ r1 ck,mv=.map (some r1)∧w.heap[r1]? = some (.map xs ck)) ->
   (match xP P kt kv es with
   | some (some i)=>match es[i]? with
    | some (_,v)=>some (if ok then .bH [v,.bool true] else v)
    | none=>none
   | some none=>match P.info? e with
    | some i=>match i.zero with
     | some z=>(TV.Jk z).map fun z=>if ok then .bH [z,.bool false] else z
     | none=>none
    | none=>none
   | none=>none)=some r->∃ z,VR M.h r z∧(Instr.lookup t mv kv ok).run P w=.ok z w:=by
  intro o es xs hx kE h;cases hf:xP P kt kv es with
  | none=>simp[hf] at h
  | some r0=>
   rw[hf] at h;obtain⟨c1,r',c2,c3⟩:=Iu hf hx;cases r0 with
   | some j=>
    cases r' with
    | none=>exact c3.elim
    | some jv=>
     obtain⟨j',v⟩:=jv;obtain⟨_,e',x',e1,e2,rfl,_,hv⟩:=c3;simp only[e1,Option.some.injEq] at h;subst h;refine⟨if ok then .tuple #[x'.val,.bool true] else x'.val,?_,?_⟩
     ·cases ok
      ·exact hv
      ·exact .FV (.cons hv (.cons (.bool true) .nil))
     ·rcases kE with⟨rfl,rfl⟩ | ⟨r1,ck,rfl,hmp⟩
      ·simp only[Instr.lookup,Sem.run_bind,run_underlying hu,Result.andThen_ok,c1 w,c2 w,Sem.run_pure]
      ·simp only[Instr.lookup,Sem.run_bind,run_underlying hu,Result.andThen_ok,getObj,Sem.run,hmp,c1 w,c2 w,Sem.run_pure]
   | none=>
    cases r' with
    | some jv=>exact c3.elim
    | none=>
     simp only at h;split at h
     case h_2=>simp at h
     rename_i inf hi;split at h
     case h_2=>simp at h
     rename_i z hz;simp only[Option.map_eq_some_iff] at h;obtain⟨zt,hzt,rfl⟩:=h;have hv:VR M.h zt z:=.sS hzt;refine⟨if ok then .tuple #[z,.bool false] else z,?_,?_⟩
     ·cases ok
      ·exact hv
      ·exact .FV (.cons hv (.cons (.bool false) .nil))
     ·have SB:(zeroValue e).run P w=.ok z w:=(by simp[zeroValue,fC hi,hz]);rcases kE with⟨rfl,rfl⟩ | ⟨r1,ck,rfl,hmp⟩
      ·simp only[Instr.lookup,Sem.run_bind,run_underlying hu,Result.andThen_ok,c1 w,c2 w,Sem.run_pure,SB]
      ·simp only[Instr.lookup,Sem.run_bind,run_underlying hu,Result.andThen_ok,getObj,Sem.run,hmp,c1 w,c2 w,Sem.run_pure,SB]
 cases hm with
 | LP=>exact main [] [] #[] ⟨rfl,rfl,.nil,by simp,by simp⟩ (.inl ⟨rfl,rfl⟩) h
 | map hmm=>
  rename_i r0 r1 o1;obtain⟨cO,b1,b2⟩:=hV.ok _ _ hmm (hD _ (by simp));simp only[St.get] at b1;simp only[b1] at h;cases cO with
  | map es=>
   obtain⟨xs,g1,g2⟩:=b2;exact main o1 es xs g2 (.inr ⟨r1,xs.size,rfl,g1⟩) h
  | cells k cs=>exact b2.elim
  | loop=>simp at h
  | mark=>simp at h
  | rV=>simp at h
  | bn=>simp at h
 | _=>simp at h
end
section
variable {P:Program} {M:Mp} {D:Key->Prop} {w:World} {s:St}
theorem Gx (hV:Valid M D s.get w) {r r1:Nat} {o o':List Nat} {es fU:List (TV×TV)} {xs xs':Array MapEntry} (hm:M (.h r)=some (.obj r1 o)) (hd:D (.h r)) (hb:s.heap[r]? = some (.map es))
  (hr:w.heap[r1]? = some (.map xs xs.size)) (ho:o <+: o') (hx:vS (aQ M (.h r) (.obj r1 o')).h o' fU xs') :
  Valid (aQ M (.h r) (.obj r1 o')) (fun j=>D j∨(s.get j=none∧(St.get { s with heap:=s.heap.set r (.map fU) } j).isSome=true)) (St.get { s with heap:=s.heap.set r (.map fU) }) { w with heap:=w.heap.setIfInBounds r1 (.map xs' xs'.size) } ∧
  Ext M s.get w (aQ M (.h r) (.obj r1 o')) (St.get { s with heap:=s.heap.set r (.map fU) }) { w with heap:=w.heap.setIfInBounds r1 (.map xs' xs'.size) } [.h r]:=by
 have hg:s.get (.h r)=some (.map es):=by simp[St.get,hb]
 have mD:=(List.getElem?_eq_some_iff.1 hb).1;have hle:lG M (aQ M (.h r) (.obj r1 o')):=iI fun l0 h0=>by rw[hm] at h0;cases h0;exact⟨rfl,ho⟩
 have aN:r1<w.heap.size:=(Array.getElem?_eq_some_iff.1 hr).1;have bg:∀ c,c<w.heap.size->c∉ah (.obj r1 o')->(w.heap.setIfInBounds r1 (Obj.map xs' xs'.size))[c]? = w.heap[c]?:=fun c _ hc=>by
  rw[Array.getElem?_setIfInBounds,if_neg (by simp[ah] at hc;omega)]
 have dh:∀ c∈ah (.obj r1 o'),(∃ l0,M (.h r)=some l0∧c∈ah l0)∨w.heap.size<=c:=fun c hc=>.inl ⟨_,hm,hc⟩;constructor
 ·rw[dU s r _ mD];refine Valid.widen ?_ (uV (by simp[hg]));exact hV.upd (D':=D) (w':={ w with heap:=w.heap.setIfInBounds r1 (.map xs' xs'.size) }) (.h r) (.map fU) (.obj r1 o') (fun j hj=>.inl hj) (fun l0 h0=>by
   rw[hm] at h0;cases h0;exact⟨hd,⟨rfl,ho⟩,fun b0 lQ=>by rw[hg] at lQ;cases lQ;rfl⟩) bg dh (by simp) ⟨xs',by simp[aN],hx⟩
 ·rw[dU s r _ mD];exact Ext.upd (M:=M) (C:=s.get) (w:=w) (w':={ w with heap:=w.heap.setIfInBounds r1 (.map xs' xs'.size) }) (.h r) (.map fU) (.obj r1 o') [.h r] (.inl ⟨by simp[hg],rfl,by simp[hm],fun b0 lQ=>by rw[hg] at lQ;cases lQ;rfl⟩) hle bg dh (by simp) rfl rfl rfl
theorem Gy {t:TypeId} {m k v:TV} {s1:St} {i:gy} {mv kv vv:Value} (hV:Valid M D s.get w) (h:jL P t s m k v=some (s1,i)) (hm:VR M.h m mv) (hk:VR M.h k kv) (hv:VR M.h v vv)
  (hD:∀ j∈i.ts,D j):s1.env=s.env∧∃ w' M',(Instr.mapUpdate t mv kv vv).run P w=.ok () w' ∧
   Valid M' (fun j=>D j∨(s.get j=none∧(s1.get j).isSome=true)) s1.get w'∧Ext M s.get w M' s1.get w' i.ws∧(∀ k l,M (.l k)=some l->M' (.l k)=some l):=by
 unfold jL at h;split at h
 case h_2=>simp at h
 rename_i kt et kx r hu hkx;have:=qK hkx hk;subst this;split at h
 case h_2=>simp at h
 rename_i es Gz hck;have c0:=fB hck w;cases hm with
 | map hmm=>
 rename_i r1 o1;have y7:∀ o',∀ k l,M (.l k)=some l->aQ M (.h r) (.obj r1 o') (.l k)=some l:=fun o' k l h=>by simp[aQ,h]
 have go:D (.h r)->∃ xs,w.heap[r1]? = some (.map xs xs.size)∧vS M.h o1 es xs:=by
  intro hd;obtain⟨cO,b1,b2⟩:=hV.ok _ _ hmm hd;simp only[St.get,Gz,Option.some.injEq] at b1;subst b1;exact b2
 split at h
 ·-- an entry that is there
  rename_i j hf;split at h
  case h_2=>simp at h
  rename_i old ov0 hj;split at h
  case h_2=>simp at h
  rename_i ov hov;split at h
  case isFalse=>simp at h
  rename_i a4y;simp only[Option.some.injEq,Prod.mk.injEq] at h;obtain⟨rfl,rfl⟩:=h;have hd:=hD (.h r) (by simp[lF]);obtain⟨xs,g1,g2⟩:=go hd;obtain⟨c1,r',c2,c3⟩:=Iu hf g2;cases r' with
  | none=>exact c3.elim
  | some jv=>
   obtain⟨i,v'⟩:=jv;obtain⟨q1,e',x',e1,e2,rfl,q2,_⟩:=c3;rw[hj] at e1;cases e1;have hold:x'.key=ov:=qK hov q2;have hle:lG M (aQ M (.h r) (.obj r1 o1)):=iI fun l0 h0=>by
    have h0':M (.h r)=some l0:=h0;have a1o:M (.h r)=some (.obj r1 o1):=hmm;rw[a1o] at h0';cases h0';exact .refl _
   have FX:vS (aQ M (.h r) (.obj r1 o1)).h o1 (es.set j (k,v)) (xs.modify i fun e=>{ e with key:=kv,val:=vv }):=by
    have g3:=g2.mono hle.h;refine⟨by simp[g2.len],by simp[g2.ord],g2.nod,fun j' BJ=>g2.sur j' (by simpa using BJ),fun a x h2=>?_⟩;rw[Array.getElem?_modify] at h2;by_cases ha:i=a
    ·subst ha;rw[if_pos rfl,e2] at h2;simp only[Option.map_some,Option.some.injEq] at h2;subst h2;exact⟨(g2.at_ i x' e2).1,j,(k,v),q1,by rw[List.getElem?_set];simp[(List.getElem?_eq_some_iff.1 hj).1],hk.mono hle.h,hv.mono hle.h⟩
    ·rw[if_neg ha] at h2;obtain⟨z1,j2,OI,z2,z3,z4,z5⟩:=g3.at_ a x h2;refine⟨z1,j2,OI,z2,?_,z4,z5⟩;have dZ:j≠j2:=fun e=>by
      subst e;have i1:=List.getElem?_eq_some_iff.1 q1;have i2:=List.getElem?_eq_some_iff.1 z2;exact ha ((List.getElem_inj g2.nod (h₀:=i1.1) (h₁:=i2.1)).1 (i1.2.trans i2.2.symm))
     rw[List.getElem?_set,if_neg dZ];exact z3
   obtain⟨v1,v2⟩:=Gx hV hmm hd Gz g1 (List.prefix_refl _) FX;refine⟨rfl,_,_,?_,v1,v2,y7 _⟩;simp only[Instr.mapUpdate,Sem.run_bind,run_underlying hu,Result.andThen_ok,getObj,Sem.run,g1];simp only[c0,c2 w,Result.andThen_ok,e2,Option.map_some,Option.getD_some,Instr.keyThatStays,hold,a4y,if_true,setObj];simp only[Sem.run_bind,Sem.run_pure,Result.andThen_ok,Sem.run,g1,Array.size_modify]
 ·-- a new entry
  rename_i hf;simp only[Option.some.injEq,Prod.mk.injEq] at h;obtain⟨rfl,rfl⟩:=h;have hd:=hD (.h r) (by simp[lF]);obtain⟨xs,g1,g2⟩:=go hd;obtain⟨c1,r',c2,c3⟩:=Iu hf g2;cases r' with
  | some jv=>exact c3.elim
  | none=>
   have a4A:o1 <+: o1++[es.length]:=⟨_,rfl⟩;have hle:lG M (aQ M (.h r) (.obj r1 (o1++[es.length]))):=iI fun l0 h0=>by
    have h0':M (.h r)=some l0:=h0;have a1o:M (.h r)=some (.obj r1 o1):=hmm;rw[a1o] at h0';cases h0';exact⟨rfl,a4A⟩
   have aN:∀ j∈o1,j<es.length:=fun j hj=>by
    obtain⟨i,hi⟩:=List.mem_iff_getElem?.1 hj;have:i<xs.size:=by rw[<-g2.ord];exact (List.getElem?_eq_some_iff.1 hi).1
    obtain⟨_,j',e,z1,z2,_⟩:=g2.at_ i _ (Array.getElem?_eq_getElem this);rw[hi] at z1;cases z1;exact (List.getElem?_eq_some_iff.1 z2).1
   have FX:vS (aQ M (.h r) (.obj r1 (o1++[es.length]))).h (o1++[es.length]) (es++[(k,v)]) (xs.push { key:=kv,val:=vv,born:=xs.size }):=by
    have g3:=g2.mono hle.h;refine⟨by simp[g2.len],by simp[g2.ord],?_,fun j hj=>?_,fun a x h2=>?_⟩
    ·rw[List.nodup_append];exact⟨g2.nod,by simp,fun x hx y hy=>by simp at hy;subst hy;have:=aN x hx;omega⟩
    ·simp only[List.length_append,List.length_cons,List.length_nil] at hj;rcases Nat.lt_or_ge j es.length with h1 | h1
     ·exact List.mem_append_left _ (g2.sur j h1)
     ·exact List.mem_append_right _ (by simp;omega)
    ·rw[Array.getElem?_push] at h2;by_cases ha:a=xs.size
     ·rw[if_pos ha] at h2;simp only[Option.some.injEq] at h2;subst h2;exact⟨ha.symm,es.length,(k,v),by rw[List.getElem?_append_right (by rw[g2.ord];omega),g2.ord,ha];simp,by simp,hk.mono hle.h,hv.mono hle.h⟩
     ·rw[if_neg ha] at h2;obtain⟨z1,j2,OI,z2,z3,z4,z5⟩:=g3.at_ a x h2;exact⟨z1,j2,OI,by rw[List.getElem?_append_left (List.getElem?_eq_some_iff.1 z2).1];exact z2,by rw[List.getElem?_append_left (List.getElem?_eq_some_iff.1 z3).1];exact z3,z4,z5⟩
   obtain⟨v1,v2⟩:=Gx hV hmm hd Gz g1 a4A FX;refine⟨rfl,_,_,?_,v1,v2,y7 _⟩;simp only[Instr.mapUpdate,Sem.run_bind,run_underlying hu,Result.andThen_ok,getObj,Sem.run,g1];simp only[c0,c2 w,Result.andThen_ok,setObj,Sem.run,g1,Array.size_push]
 ·simp at h
end
def y8 (M:Mp) (env:List (Nat×EV)) (a:Act) (X:Array Operand):Prop:=∀ x∈X,∀ e,AL env x=some e->ER M e (a.eval x)
theorem gG.on {M:Mp} {env:List (Nat×EV)} {a:Act} (hE:gG M env a.tmps) (X:Array Operand):y8 M env a X:=fun _ _ _ he=>Ti hE he
section
variable {M:Mp} {env:List (Nat×EV)} {a:Act} {X:Array Operand}
theorem jU (hE:y8 M env a X) {x:Operand} (hx:x∈X) {e:EV} (h:AL env x=some e):ER M e (a.eval x):=hE x hx e h
theorem dH (hE:y8 M env a X) {x:Operand} (hx:x∈X) {v:TV} (h:lJ env x=some v):VR M.h v (a.eval x):=by
 unfold lJ at h;split at h
 ·rename_i v' he;simp at h;subst h;exact (jU hE hx he).lZ
 simp at h
theorem y9 (hE:y8 M env a X):∀ {xs:List Operand} {vs:List TV},(∀ x∈xs,x∈X)->Dh env xs=some vs->aH M.h vs (xs.map a.eval)
 | [],vs,_,h=>by simp[Dh] at h;subst h;exact .nil
 | x::xs,vs,hx,h=>by
  simp only[Dh] at h;split at h
  ·rename_i v vs' h1 h2;simp at h;subst h;exact .cons (dH hE (hx x (by simp)) h1) (y9 hE (fun y hy=>hx y (by simp[hy])) h2)
  simp at h
theorem Iw (hE:y8 M env a X):∀ {xs:List (Nat×Operand)} {vs:List (Nat×TV)},(∀ p∈xs,p.2∈X)->FQ env xs=some vs ->
  PR M.h vs (xs.map fun (i,x)=>(i,a.eval x))
 | [],vs,_,h=>by simp[FQ] at h;subst h;exact .nil
 | (i,x)::xs,vs,hx,h=>by
  simp only[FQ] at h;split at h
  ·rename_i v vs' h1 h2;simp at h;subst h;exact .cons (dH hE (hx (i,x) (by simp)) h1) (Iw hE (fun y hy=>hx y (by simp[hy])) h2)
  ·simp at h
theorem yc (hE:y8 M env a X) {o:Option Operand} (hx:∀ x,o=some x->x∈X) {v:Option TV} (h:FT env o=some v):OR M.h v (o.map a.eval):=by
 unfold FT at h;split at h
 ·simp at h;subst h;exact .none
 rename_i x;split at h
 ·rename_i v' hv;simp at h;subst h;exact .some (dH hE (hx x rfl) hv)
 simp at h
end
section
variable {P:Program} {M:Mp} {D:Key->Prop} {w:World} {s:St}
def yg:Op->Bool
 | .call { callee:=.value _,.. }=>true
 | _=>false
theorem wV.gJ {C:Ct} {c:Sem Next} {v:TV} {S:Sem Value} (hV:Valid M D C w) (hc:c=(do pure (.value (<-S)))) (h:∃ z,VR M.h v z∧S.run P w=.ok z w):wV P M D C w c (.val v) C []:=by
 obtain⟨z,h1,h2⟩:=h;exact .same hV (by rw[hc];simp[h2]) (.val h1)
theorem wV.JH {C:Ct} {c:Sem Next} {v:EV} {S:Sem Value} (hV:Valid M D C w) (hc:c=(do pure (.value (<-S)))) (h:∃ z,ER M v z∧S.run P w=.ok z w):wV P M D C w c v C []:=by
 obtain⟨z,h1,h2⟩:=h;exact .same hV (by rw[hc];simp[h2]) h1
theorem wV.a4B {C:Ct} {c:Sem Next} {v:TV} {S:Sem Value} {C1:Ct} {ws:List Key} (hc:c=(do pure (.value (<-S)))) (h:BOk P M D C w S v C1 ws):wV P M D C w c (.val v) C1 ws:=by
 obtain⟨x,w',M',h1,h2⟩:=h;exact⟨x,w',M',.inl (by rw[hc];simp[h1]),h2⟩
theorem wV.a4C {C:Ct} {c:Sem Next} {S:Sem Unit} {C1:Ct} {ws:List Key} (hc:c=(do S;pure .skip)) (h:∃ w' M',S.run P w=.ok () w'∧Valid M' (fun j=>D j∨(C j=none∧(C1 j).isSome=true)) C1 w'∧Ext M C w M' C1 w' ws∧(∀ k l,M (.l k)=some l->M' (.l k)=some l)):wV P M D C w c .undef C1 ws:=by
 obtain⟨w',M',h1,h2,h3,h4⟩:=h;exact⟨Go.undef,w',M',.inr ⟨rfl,by rw[hc];simp[h1]⟩,⟨h2,h3,.undef,h4⟩⟩
theorem wV.a8R {C:Ct} {c:Sem Next} {S:Sem Unit} {C1:Ct} {ws:List Key} (hc:c=(do S;pure .skip)) (h:∃ w',S.run P w=.ok () w'∧Valid M (fun j=>D j∨(C j=none∧(C1 j).isSome=true)) C1 w'∧Ext M C w M C1 w' ws):wV P M D C w c .undef C1 ws:=by
 obtain⟨w',h1,h2,h3⟩:=h;exact⟨Go.undef,w',M,.inr ⟨rfl,by rw[hc];simp[h1]⟩,⟨h2,h3,.undef,fun _ _ h=>h⟩⟩
theorem MG {b:Builtin} {at_:Array TypeId} {t:TypeId} {cs:Array Bool} {az:List TV} {xs:List Value} {v:TV} {s1:St} {i:gy} (hV:Valid M D s.get w) (pX:M (.h s.heap.length)=none)
  (h:jl P b at_ t s az=some (v,s1,i)) (hx:aH M.h az xs) (hD:∀ k∈i.ts,D k):s1.env=s.env∧wV P M D s.get w (builtin b at_ t cs xs.toArray) (.val v) s1.get i.ws:=by
 unfold jl at h;split at h
 ·simp only[Option.map_eq_some_iff,Prod.mk.injEq] at h;obtain⟨⟨v',i'⟩,h1,rfl,rfl,rfl⟩:=h;obtain⟨x,xs',rfl,Xj,hx2⟩:=hx.dJ;have:=hx2.jr;subst this;obtain⟨e1,e2⟩:=LZ (t:=t) hV h1 Xj hD;refine⟨rfl,?_⟩;simp only;rw[e1];exact .gJ hV rfl e2
 ·obtain⟨x,xs',rfl,Xj,hx2⟩:=hx.dJ;obtain⟨y,ys',rfl,hy1,hy2⟩:=hx2.dJ;have:=hy2.jr;subst this;obtain⟨e1,e2⟩:=zU (ty:=t) hV pX h Xj hy1 hD;exact⟨e1,.a4B rfl e2⟩
 ·obtain⟨x,xs',rfl,Xj,hx2⟩:=hx.dJ;obtain⟨y,ys',rfl,hy1,hy2⟩:=hx2.dJ;have:=hy2.jr;subst this;obtain⟨e1,e2⟩:=Ir (ty:=t) hV h Xj hy1 hD;exact⟨e1,.a4B rfl e2⟩
 ·simp only[Option.map_eq_some_iff,Prod.mk.injEq] at h;obtain⟨v',h1,rfl,rfl,rfl⟩:=h;exact⟨rfl,.gJ hV rfl (pY h1 hx)⟩
 ·simp only[Option.map_eq_some_iff,Prod.mk.injEq] at h;obtain⟨v',h1,rfl,rfl,rfl⟩:=h;exact⟨rfl,.gJ hV rfl (pY h1 hx)⟩
 ·simp at h
theorem a4D {call:ay} {site:Nat->Bool} {o:Oper} {a:Act} {v:EV} {s1:St} {i:gy} (hV:Valid M D s.get w) (hE:y8 M s.env a o.op.operands) (pX:M (.h s.heap.length)=none) (Sz:M (.l s.loc.length)=none)
  (h:jq P call site s o=some (v,s1,i)) (hc:yg o.op=false) (hD:∀ k∈i.ts,D k):s1.env=s.env∧wV P M D s.get w (execOp a.eval o) v s1.get i.ws:=by
 unfold jq at h;unfold execOp;split at h
 ·-- move
  rename_i x ho;rw[ho];simp only[Option.map_eq_some_iff,Prod.mk.injEq] at h;obtain⟨e,he,rfl,rfl,rfl⟩:=h;exact⟨rfl,.same hV rfl (jU hE (by simp[ho,Op.operands]) he)⟩
 ·rename_i x ho;rw[ho];simp only[Option.map_eq_some_iff,Prod.mk.injEq] at h;obtain⟨e,he,rfl,rfl,rfl⟩:=h;exact⟨rfl,.same hV rfl (jU hE (by simp[ho,Op.operands]) he)⟩
 ·-- pick
  rename_i c x y ho;rw[ho];split at h
  ·rename_i t ht;simp only[Option.map_eq_some_iff,Prod.mk.injEq] at h;obtain⟨e,he,rfl,rfl,rfl⟩:=h;have hb:=dH hE (by simp[ho,Op.operands]) ht;have rO:a.eval c=.bool t:=by cases rO:a.eval c<;>rw[rO] at hb<;>cases hb;rfl
   have:=jU hE (by cases t<;>simp[ho,Op.operands]) he;refine⟨rfl,.same hV (x:=a.eval (if t then x else y)) ?_ this⟩;simp only[Sem.run_bind,rO,asBool,Sem.run_pure,Result.andThen_ok];cases t<;>rfl
  ·simp at h
 ·-- alloc
  rename_i e ho;rw[ho];simp only[Option.map_eq_some_iff] at h;obtain⟨z,hz,h⟩:=h;obtain⟨i',x,v',_,_,_,_,Xe,WT,SB⟩:=mV hz;simp only[Prod.mk.injEq] at h;obtain⟨rfl,rfl,rfl⟩:=h;obtain⟨M',hp⟩:=Tj hV pX Sz (site (o.dst.getD 0)) e (WT M.h) Xe rfl;refine⟨by unfold jh;split<;>rfl,_,_,M',.inl ?_,hp⟩;simp[Instr.alloc,SB w,newVar,newRow]
 ·-- box
  rename_i t x ho;rw[ho];split at h
  ·rename_i v0 hv0;split at h
   ·rename_i pW;simp only[Option.some.injEq,Prod.mk.injEq] at h;obtain⟨rfl,rfl,rfl⟩:=h;obtain⟨M',hp⟩:=Tj hV pX Sz (site (o.dst.getD 0)) t (dH hE (by simp[ho,Op.operands]) hv0).cells (C9 pW) rfl;refine⟨by unfold jh;split<;>rfl,_,_,M',.inl ?_,hp⟩;simp[Instr.box,newVar,newRow]
   ·simp at h
  ·simp at h
 ·-- build
  rename_i t ps ho;rw[ho];split at h
  ·rename_i qs hq;simp only[Option.map_eq_some_iff,Prod.mk.injEq] at h;obtain⟨v0,hb,rfl,rfl,rfl⟩:=h;obtain⟨x,h1,h2⟩:=Tn hb (Iw hE (fun p hp=>by simp[ho,Op.operands];exact⟨p.1,by simpa using hp⟩) hq);refine⟨rfl,.gJ hV rfl ⟨x,h1,?_⟩⟩;have:=h2 w
   rwa [show (List.map (fun x=>(x.1,a.eval x.2)) ps.toList).toArray=ps.map (fun x=>(x.1,a.eval x.2)) from by apply Array.ext';simp] at this
  ·simp at h
 ·-- buildSlice
  rename_i t len ps ho;rw[ho];split at h
  ·rename_i qs hq;simp only[Option.map_eq_some_iff,Prod.mk.injEq] at h;obtain⟨⟨v0,s0⟩,hb,rfl,rfl,rfl⟩:=h;obtain⟨e1,x,w',M',h1,h2⟩:=oP hV pX hb (Iw hE (fun p hp=>by simp[ho,Op.operands];exact⟨p.1,by simpa using hp⟩) hq);refine⟨e1,x,w',M',.inl ?_,h2⟩;rw[show (List.map (fun x=>(x.1,a.eval x.2)) ps.toList).toArray=ps.map (fun x=>(x.1,a.eval x.2)) from by apply Array.ext';simp] at h1;simp[h1]
  ·simp at h
 ·-- load
  rename_i t x ho;rw[ho];split at h
  ·rename_i e he;simp only[Option.map_eq_some_iff,Prod.mk.injEq] at h;obtain⟨⟨v0,i0⟩,hl,rfl,rfl,rfl⟩:=h;obtain⟨e1,e2⟩:=xR hV hl (jU hE (by simp[ho,Op.operands]) he) hD;refine⟨rfl,?_⟩;simp only;rw[e1];exact .gJ hV rfl e2
  ·simp at h
 ·-- store
  rename_i t x y ho;rw[ho];split at h
  ·rename_i e v0 he hv0;simp only[Option.map_eq_some_iff,Prod.mk.injEq] at h;obtain⟨⟨s0,i0⟩,hl,rfl,rfl,rfl⟩:=h;obtain⟨e1,w',e2,e3,e4,e5⟩:=LW hV hl (jU hE (by simp[ho,Op.operands]) he) (dH hE (by simp[ho,Op.operands]) hv0) hD;exact⟨e1,.a8R rfl ⟨w',e2,e3.widen e5,e4⟩⟩
  ·simp at h
 ·-- nilCheck
  rename_i x ho;rw[ho];split at h
  ·rename_i k off he;simp only[Option.some.injEq,Prod.mk.injEq] at h;obtain⟨rfl,rfl,rfl⟩:=h;have hx:=jU hE (by simp[ho,Op.operands]) he;refine⟨rfl,.same hV (x:=a.eval x) ?_ hx⟩;cases hxe:a.eval x<;>rw[hxe] at hx<;>cases hx
   simp[hxe]
  ·rename_i b off lim he;simp only[Option.some.injEq,Prod.mk.injEq] at h;obtain⟨rfl,rfl,rfl⟩:=h;have hx:=jU hE (by simp[ho,Op.operands]) he;refine⟨rfl,.same hV (x:=a.eval x) ?_ hx⟩;have FX:=hx.lZ;cases hxe:a.eval x<;>rw[hxe] at FX<;>cases FX
   simp[hxe]
  ·rename_i f b c he;simp only[Option.some.injEq,Prod.mk.injEq] at h;obtain⟨rfl,rfl,rfl⟩:=h;have hx:=jU hE (by simp[ho,Op.operands]) he;refine⟨rfl,.same hV (x:=a.eval x) ?_ hx⟩;have FX:=hx.lZ;cases hxe:a.eval x<;>rw[hxe] at FX<;>cases FX
   simp[hxe]
  ·rename_i l he;simp only[Option.some.injEq,Prod.mk.injEq] at h;obtain⟨rfl,rfl,rfl⟩:=h;have hx:=jU hE (by simp[ho,Op.operands]) he;refine⟨rfl,.same hV (x:=a.eval x) ?_ hx⟩;have FX:=hx.lZ;cases hxe:a.eval x<;>rw[hxe] at FX<;>cases FX
   simp[hxe]
  ·simp at h
 ·-- binOp
  rename_i op t x y t' ho;rw[ho];split at h
  ·rename_i u v0 hu hv;simp only[Option.map_eq_some_iff,Prod.mk.injEq] at h;obtain⟨r,hb,rfl,rfl,rfl⟩:=h;exact⟨rfl,.gJ hV rfl (LX hb (dH hE (by simp[ho,Op.operands]) hu) (dH hE (by simp[ho,Op.operands]) hv))⟩
  ·simp at h
 ·-- unOp
  rename_i op t x ho;rw[ho];split at h
  ·rename_i u hu;simp only[Option.map_eq_some_iff,Prod.mk.injEq] at h;obtain⟨r,hb,rfl,rfl,rfl⟩:=h;exact⟨rfl,.gJ hV rfl (dR hb (dH hE (by simp[ho,Op.operands]) hu))⟩
  ·simp at h
 ·-- convert
  rename_i t t' x ho;rw[ho];split at h
  ·rename_i u hu;simp only[Option.map_eq_some_iff,Prod.mk.injEq] at h;obtain⟨r,hb,rfl,rfl,rfl⟩:=h;exact⟨rfl,.gJ hV rfl (Il hb (dH hE (by simp[ho,Op.operands]) hu))⟩
  ·simp at h
 ·-- makeFunc
  rename_i f az bs ho;rw[ho];split at h
  ·rename_i us vs hu hv;simp only[Option.some.injEq,Prod.mk.injEq] at h;obtain⟨rfl,rfl,rfl⟩:=h;have h1:=y9 hE (fun x hx=>by simp[ho,Op.operands];exact .inl (by simpa using hx)) hu;have h2:=y9 hE (fun x hx=>by simp[ho,Op.operands];exact .inr (by simpa using hx)) hv;refine⟨rfl,.gJ hV rfl ⟨.func (.func f) (az.map a.eval) (bs.map a.eval),?_,rfl⟩⟩;have:=VR.fn (f:=f) h1.len h1.at_ h2.len h2.at_
   rwa [show (List.map a.eval az.toList).toArray=az.map a.eval from by apply Array.ext';simp,show (List.map a.eval bs.toList).toArray=bs.map a.eval from by apply Array.ext';simp] at this
  ·simp at h
 ·-- makeMap
  rename_i t r ho;rw[ho];have rZ:s.get (.h s.heap.length)=none:=by simp[St.get]
  have hle:lG M (aQ M (.h s.heap.length) (.obj w.heap.size [])):=iI fun l0 h0=>by rw[pX] at h0;cases h0
  have bg:∀ c,c<w.heap.size->c∉ah (.obj w.heap.size [])->(w.alloc (.map #[] 0)).heap[c]? = w.heap[c]?:=fun c hc _=>jM w _ c hc;have dh:∀ c∈ah (.obj w.heap.size []),(∃ l0,M (.h s.heap.length)=some l0∧c∈ah l0)∨w.heap.size<=c:=fun c hc=>.inr (by simp[ah] at hc;omega);have key:Dq M D s.get w (.val (.map s.heap.length)) (St.get { s with heap:=s.heap++[.map []] }) [] (.map (some w.heap.size)) (w.alloc (.map #[] 0)) (aQ M (.h s.heap.length) (.obj w.heap.size [])):=by
   refine⟨?_,?_,.val (.map (o:=[]) (by simp[Mp.h,aQ])),jQ pX⟩
   ·rw[fQ];refine hV.upd _ _ _ (fun j hj=>?_) (fun l0 h0=>by rw[pX] at h0;cases h0) bg dh (by simp) ⟨#[],heap_alloc_new w _,rfl,rfl,.nil,by simp,by simp⟩;rcases hj with hj | ⟨x1,x2⟩
    ·exact .inl hj
    ·right;unfold gU at x2;split at x2
     ·assumption
     ·simp[x1] at x2
   ·rw[fQ];exact Ext.upd _ _ _ [] (.inr ⟨rZ,pX,rfl⟩) hle bg dh (by simp) rfl rfl rfl
  split at h
  ·rename_i _ hr;simp only[Option.some.injEq,Prod.mk.injEq] at h;obtain⟨rfl,rfl,rfl⟩:=h;have:=yc hE (fun x hx=>by simp[ho,Op.operands,hx]) hr;refine⟨rfl,_,_,_,.inl ?_,key⟩;cases hrr:r.map a.eval with
   | none=>simp[hrr,Instr.makeMap]
   | some y=>rw[hrr] at this;cases this
  ·rename_i k n _ _ hr hu;simp only[Option.some.injEq,Prod.mk.injEq] at h;obtain⟨rfl,rfl,rfl⟩:=h;have:=yc hE (fun x hx=>by simp[ho,Op.operands,hx]) hr;refine⟨rfl,_,_,_,.inl ?_,key⟩;cases hrr:r.map a.eval with
   | none=>rw[hrr] at this;cases this
   | some y=>
    rw[hrr] at this;cases this with
    | some hy=>
     cases hy;simp[hrr,Instr.makeMap,run_underlying hu,asInt,asIntOf]
  ·simp at h
 ·-- makeSlice
  rename_i t l c ho;rw[ho];split at h
  ·rename_i u v0 hu hv;simp only[Option.map_eq_some_iff,Prod.mk.injEq] at h;obtain⟨⟨r,s0⟩,hb,rfl,rfl,rfl⟩:=h;obtain⟨e1,z,w',M',e2,e3⟩:=qR hV pX hb (dH hE (by simp[ho,Op.operands]) hu) (dH hE (by simp[ho,Op.operands]) hv);exact⟨e1,z,w',M',.inl (by simp[e2]),e3⟩
  ·simp at h
 ·-- slice
  rename_i t x lo hi mx ho;rw[ho];split at h
  ·rename_i e LY nP Tz he JI TR hmx;have h1:=yc hE (fun x hx=>by simp[ho,Op.operands,hx]) JI;have h2:=yc hE (fun x hx=>by simp[ho,Op.operands,hx]) TR;have h3:=yc hE (fun x hx=>by simp[ho,Op.operands,hx]) hmx;split at h
   ·simp only[Option.map_eq_some_iff,Prod.mk.injEq] at h;obtain⟨r,hb,rfl,rfl,rfl⟩:=h;exact⟨rfl,.gJ hV rfl (sU hb (jU hE (by simp[ho,Op.operands]) he) h1 h2 h3)⟩
   ·simp only[Option.map_eq_some_iff,Prod.mk.injEq] at h;obtain⟨r,hb,rfl,rfl,rfl⟩:=h;exact⟨rfl,.gJ hV rfl (DI hb (jU hE (by simp[ho,Op.operands]) he).lZ h1 h2 h3)⟩
   ·simp at h
  ·simp at h
 ·-- fieldAddr
  rename_i t x f ho;rw[ho];split at h
  ·rename_i e n he hn;simp only[Option.map_eq_some_iff,Prod.mk.injEq] at h;obtain⟨r,hb,rfl,rfl,rfl⟩:=h;exact⟨rfl,.JH hV rfl (Ik hn hb (jU hE (by simp[ho,Op.operands]) he))⟩
  ·simp at h
 ·-- field
  rename_i t x f ho;rw[ho];split at h
  ·rename_i u hu;simp only[Option.map_eq_some_iff,Prod.mk.injEq] at h;obtain⟨r,hb,rfl,rfl,rfl⟩:=h;exact⟨rfl,.gJ hV rfl (DC hb (dH hE (by simp[ho,Op.operands]) hu))⟩
  ·simp at h
 ·-- indexAddr
  rename_i t x y ho;rw[ho];split at h
  ·rename_i e u he hu;simp only[Option.map_eq_some_iff,Prod.mk.injEq] at h;obtain⟨r,hb,rfl,rfl,rfl⟩:=h;exact⟨rfl,.JH hV rfl (qO hb (jU hE (by simp[ho,Op.operands]) he) (dH hE (by simp[ho,Op.operands]) hu))⟩
  ·simp at h
 ·-- index
  rename_i t x y ho;rw[ho];split at h
  ·rename_i u v0 hu hv;simp only[Option.map_eq_some_iff,Prod.mk.injEq] at h;obtain⟨r,hb,rfl,rfl,rfl⟩:=h;exact⟨rfl,.gJ hV rfl (DF hb (dH hE (by simp[ho,Op.operands]) hu) (dH hE (by simp[ho,Op.operands]) hv))⟩
  ·simp at h
 ·-- lookup
  rename_i t m k ok ho;rw[ho];split at h
  ·rename_i u v0 hu hv;simp only[Option.map_eq_some_iff,Prod.mk.injEq] at h;obtain⟨r,hb,rfl,rfl,rfl⟩:=h;exact⟨rfl,.gJ hV rfl (QB hV hb (dH hE (by simp[ho,Op.operands]) hu) (dH hE (by simp[ho,Op.operands]) hv) hD)⟩
  ·simp at h
 ·-- mapUpdate
  rename_i t m k x ho;rw[ho];split at h
  ·rename_i u v0 y hu hv hy;simp only[Option.map_eq_some_iff,Prod.mk.injEq] at h;obtain⟨⟨s0,i0⟩,hb,rfl,rfl,rfl⟩:=h;obtain⟨e1,e2⟩:=Gy hV hb (dH hE (by simp[ho,Op.operands]) hu) (dH hE (by simp[ho,Op.operands]) hv) (dH hE (by simp[ho,Op.operands]) hy) hD;exact⟨e1,.a4C rfl e2⟩
  ·simp at h
 ·-- insert
  rename_i t m k x ho;rw[ho];split at h
  ·rename_i u v0 y hu hv hy;simp only[Option.map_eq_some_iff,Prod.mk.injEq] at h;obtain⟨⟨s0,i0⟩,hb,rfl,rfl,rfl⟩:=h;obtain⟨e1,e2⟩:=Gy hV hb (dH hE (by simp[ho,Op.operands]) hu) (dH hE (by simp[ho,Op.operands]) hv) (dH hE (by simp[ho,Op.operands]) hy) hD;exact⟨e1,.a4C rfl e2⟩
  ·simp at h
 ·-- extract
  rename_i x n ho;rw[ho];split at h
  ·rename_i vs Jl;simp only[Option.map_eq_some_iff,Prod.mk.injEq] at h;obtain⟨r,hb,rfl,rfl,rfl⟩:=h;have hx:=dH hE (by simp[ho,Op.operands]) Jl;refine⟨rfl,.gJ hV rfl ?_⟩;generalize a.eval x=xv at hx;cases hx with
   | bH g1 g2=>
    obtain⟨y,y1,y2⟩:=(aH.mk g1 g2).get hb;exact⟨y,y2,by simp[Instr.extract,y1]⟩
  ·simp at h
 ·-- call
  rename_i c ho;rw[ho] at hc ⊢;unfold AQ at h;split at h
  ·rename_i b az hb has;simp only[Option.map_eq_some_iff,Prod.mk.injEq] at h;obtain⟨⟨v0,s0,i0⟩,rO,rfl,rfl,rfl⟩:=h;obtain⟨e1,e2⟩:=MG (cs:=c.args.map fun | .const _=>true | _=>false) hV pX rO (y9 hE (fun x hx=>by simp[ho,Op.operands,Call.operands,hb];simpa using hx) has) hD;refine⟨e1,?_⟩;obtain⟨x,w',M',r1,r2⟩:=e2;refine⟨x,w',M',?_,r2⟩;rw[show (List.map a.eval c.args.toList).toArray=c.args.map a.eval from by apply Array.ext';simp] at r1;unfold a4e at r1 ⊢;simp only[resolve,hb,Sem.run_bind,Sem.run_pure,Result.andThen_ok,invoke];exact r1
  ·rename_i f az hf has;obtain⟨callee,args,ats⟩:=c;simp only at hf;subst hf;simp[yg] at hc
  ·simp at h
 ·-- range
  rename_i t x ho;rw[ho];split at h
  ·rename_i r k el hv hu;split at h
   ·rename_i es Gz;simp only[Option.some.injEq,Prod.mk.injEq] at h;obtain⟨rfl,rfl,rfl⟩:=h;have hx:=dH hE (by simp[ho,Op.operands]) hv;refine⟨rfl,?_⟩;generalize hxv:a.eval x=xv at hx;cases hx with
    | map hm=>
    rename_i r1 o1;obtain⟨cO,b1,b2⟩:=hV.ok _ _ hm (hD (.h r) (by simp[nT]));simp only[St.get,Gz,Option.some.injEq] at b1;subst b1;obtain⟨xs,g1,g2⟩:=b2;have rZ:s.get (.h s.heap.length)=none:=(by simp[St.get]);have WX:r<s.heap.length:=(List.getElem?_eq_some_iff.1 Gz).1;have hle:lG M (aQ M (.h s.heap.length) (.obj w.heap.size [])):=iI fun l0 h0=>by rw[pX] at h0;cases h0
    have bg:∀ c,c<w.heap.size->c∉ah (.obj w.heap.size [])->(w.alloc (.mapIter (some r1) xs.size #[] xs.size)).heap[c]? = w.heap[c]?:=fun c hc _=>jM w _ c hc;have dh:∀ c∈ah (.obj w.heap.size []),(∃ l0,M (.h s.heap.length)=some l0∧c∈ah l0)∨w.heap.size<=c:=fun c hc=>.inr (by simp[ah] at hc;omega);refine⟨.pointer (some ⟨w.heap.size,0,none⟩),w.alloc (.mapIter (some r1) xs.size #[] xs.size),aQ M (.h s.heap.length) (.obj w.heap.size []),.inl ?_,?_,?_,.val (.iter (o:=[]) (by simp[Mp.h,aQ])),jQ pX⟩
    ·simp[hxv,Instr.range,run_underlying hu,getObj,Sem.run,g1,newObj]
    ·rw[fQ];refine hV.upd _ _ _ (fun j hj=>?_) (fun l0 h0=>by rw[pX] at h0;cases h0) bg dh (by simp) ⟨r1,o1,#[],?_,?_,?_,rfl⟩
     ·rcases hj with hj | ⟨x1,x2⟩
      ·exact .inl hj
      ·right;unfold gU at x2;split at x2
       ·assumption
       ·simp[x1] at x2
     ·have:(Key.h r)≠.h s.heap.length:=fun e=>by cases e;omega
      simp only[Mp.h,aQ,if_neg this];exact hm
     ·rw[g2.len];exact heap_alloc_new w _
     ·rw[g2.len,g2.ord];exact Nat.le_refl _
    ·rw[fQ];exact Ext.upd _ _ _ [] (.inr ⟨rZ,pX,rfl⟩) hle bg dh (by simp) rfl rfl rfl
   ·simp at h
  ·simp at h
 ·-- entry
  rename_i x ho;rw[ho];split at h
  ·rename_i b hv;split at h
   ·rename_i r n i seen hb;split at h
    ·rename_i es Gz;split at h
     case isFalse=>simp at h
     rename_i hn;simp only[Option.map_eq_some_iff,Prod.mk.injEq] at h;obtain⟨e,he,rfl,rfl,rfl⟩:=h;have hx:=dH hE (by simp[ho,Op.operands]) hv;refine⟨rfl,.gJ hV rfl ?_⟩;generalize a.eval x=xv at hx;cases hx with
     | iter hm=>
     rename_i b1 o1;obtain⟨cO,c1,c2⟩:=hV.ok _ _ hm (hD (.h b) (by simp[bY]));simp only[St.get,hb,Option.some.injEq] at c1;subst c1;obtain⟨r1,o,sa,d1,d2,d3,d4⟩:=c2;obtain⟨cO,c1,c2⟩:=hV.ok (.h r) _ d1 (hD (.h r) (by simp[bY]));simp only[St.get,Gz,Option.some.injEq] at c1;subst c1;obtain⟨xs,g1,g2⟩:=c2;have dZ:sa.toList≠[]:=fun e=>by rw[e] at d4;simp at d4
     obtain⟨k,hk⟩:∃ k,sa.back? = some k∧o[k]? = some i:=by
      have h1:(sa.toList.map fun i=>o[i]?).getLast? = some (some i):=by rw[d4];simp
      rw[List.getLast?_map] at h1;simp only[Option.map_eq_some_iff] at h1;obtain⟨k,h2,h3⟩:=h1;exact⟨k,by rw[<-Array.getLast?_toList];exact h2,h3⟩
     have Cb:k<xs.size:=by rw[<-g2.ord];exact (List.getElem?_eq_some_iff.1 hk.2).1
     obtain⟨q1,j,e',q2,q3,q4,q5⟩:=g2.at_ k _ (Array.getElem?_eq_getElem Cb);rw[hk.2] at q2;cases q2;rw[he] at q3;cases q3;refine⟨.tuple #[xs[k].key,xs[k].val],.FV (.cons q4 (.cons q5 .nil)),?_⟩;have hf:xs.find? (·.born==k)=some xs[k]:=by
      rw[<-Array.find?_toList];have:xs[k].born==k:=(by simpa using q1);rw[List.find?_eq_some_iff_getElem];refine⟨this,k,by simpa using Cb,by simp,fun j hj=>?_⟩;have LD:j<xs.size:=(by omega);have:=(g2.at_ j _ (Array.getElem?_eq_getElem LD)).1;simp only[Array.getElem_toList];rw[this];simp;omega
     have hc:xs.size=n:=by rw[<-g2.len];exact hn
     simp only[Instr.entry,getObj,Sem.run_bind,Sem.run,d2,g1,Result.andThen_ok,hk.1,hc,bne_self_eq_false,Bool.false_eq_true,if_false,hf];rfl
    ·simp at h
   ·simp at h
  ·simp at h
 ·simp at h
end
abbrev iD (h:List HB):Ct:=St.get ⟨[],[],h,[]⟩
def Mp.only (M:Mp):Mp
 | .h b=>M (.h b)
 | .l _=>none
abbrev jD (r:Option Nat):Fence:={ Fence.wide with round:=r }
def yh (R:Value->World->Prop):Ending->World->Prop
 | .returned v,w=>R v w
 | _,_=>False
def eP (M:Mp) (h:List HB) (w:World) (v:TV) (h':List HB) (ws:List Nat) (y:Value) (w':World):Prop:=
 ∃ M',Valid M' mg (iD h') w'∧(∀ k,M' (.l k)=none)∧Ext M (iD h) w M' (iD h') w' (ws.map .h)∧VR M'.h v y
def Cc (P:Program) (d:Deferred) (w:World) (R:Value->World->Prop):Prop:=
 ∃ f az,(invoke d.target d.args).run P w=.ok (.enter f az) w∧∀ n,CallsIn Fence.wide n P f az w (yh R)
def Iy (P:Program) (d:Deferred) (w:World) (R:Value->World->Prop):Prop:=
 ∃ l f tmps mG body,(invoke d.target d.args).run P w=.ok (.round l f tmps mG body) w∧∀ n,RoundIn Fence.wide n P l f tmps mG body w (yh R)
def aj (P:Program) (call:ay):Prop:=
 ∀ fv args h v h' ws,call fv args h=some (v,h',ws)->∀ (M:Mp) (w:World) (x:Value) (xs:List Value),Valid M mg (iD h) w->(∀ k,M (.l k)=none)->VR M.h fv x->aH M.h args xs ->
  ∃ d,(∀ w,(Deferred.ofValue x xs.toArray).run P w=.ok d w)∧((Cc P d w (eP M h w v h' ws)∧∃ f a b,fv=.fn f a b)∨(Iy P d w (eP M h w v h' ws)∧∃ l,fv=.jk l))
theorem CallsIn.ex {n:Nat} {P:Program} {f:FuncId} {az:Array Value} {w:World} {R:Value->World->Prop} (h:CallsIn Fence.wide n P f az w (yh R)):∃ y w',R y w':=by
 obtain⟨e,w',fr,hR,_⟩:=h.2 [] (room_wide _);cases e with
 | returned v=>exact⟨v,w',hR⟩
 | panicked c=>exact hR.elim
 | outgrown=>exact hR.elim
theorem RoundIn.ex {n:Nat} {P:Program} {l:Nat} {f:FuncId} {tmps:Array Value} {mG body:Code} {w:World} {R:Value->World->Prop} (h:RoundIn Fence.wide n P l f tmps mG body w (yh R)):∃ y w',R y w':=by
 obtain⟨e,w',hR,_⟩:=h.2 default [] (room_wide _);cases e with
 | returned v=>exact⟨v,w',hR⟩
 | panicked c=>exact hR.elim
 | outgrown=>exact hR.elim
section
variable {P:Program} {call:ay}
theorem aj.ex (hC:aj P call) {fv:TV} {args:List TV} {h:List HB} {v:TV} {h':List HB} {ws:List Nat} (hc:call fv args h=some (v,h',ws)) {M:Mp} {w:World} {x:Value} {xs:List Value}
  (hV:Valid M mg (iD h) w) (hl:∀ k,M (.l k)=none) (hx:VR M.h fv x) (yj:aH M.h args xs):∃ y w',eP M h w v h' ws y w':=by
 obtain⟨d,_,h1 | h1⟩:=hC _ _ _ _ _ _ hc M w x xs hV hl hx yj
 ·obtain⟨⟨f,az,_,h2⟩,_⟩:=h1;exact CallsIn.ex (h2 0)
 ·obtain⟨⟨l,f,tmps,mG,body,_,h2⟩,_⟩:=h1;exact RoundIn.ex (h2 0)
def a0n (M' M:Mp):Mp
 | .h b=>M' (.h b)
 | .l j=>M (.l j)
theorem wY {M:Mp} {D:Key->Prop} {s:St} {w:World} (hV:Valid M D s.get w) (hh:∀ b l,M (.h b)=some l->D (.h b)):Valid M.only mg (iD s.heap) w:=by
 refine⟨?_,?_,?_⟩
 ·intro k l hk _;cases k with
  | l j=>cases hk
  | h b=>exact hV.ok (.h b) l hk (hh b l hk)
 ·intro k k' l l' b dZ hk jH _ hc hw;cases k with
  | l j=>cases hk
  | h b=>
   cases k' with
   | l j=>cases jH
   | h b'=>exact hV.own _ _ _ _ _ dZ hk jH (hh b l hk) hc hw
 intro k l hk;cases k with
 | l j=>cases hk
 | h b=>exact hV.inb _ _ hk
theorem GH {M:Mp} {D:Key->Prop} {s:St} {w:World} (hV:Valid M D s.get w)
  (y7:∀ j l,M (.l j)=some l->∀ k' l',Key.l j≠k'->M k'=some l'->∀ c∈ah l,c∉ah l')
  {v:TV} {h':List HB} {ws:List Nat} {y:Value} {w':World} (hr:eP M.only s.heap w v h' ws y w') :
  ∃ M',Dq M D s.get w (.val v) (St.get { s with heap:=h' }) (ws.map .h) y w' M':=by
 obtain⟨M',Me,hl',hX,hy⟩:=hr;have pK:∀ (b j:Nat) (l l':Lc),M' (.h b)=some l->M (.l j)=some l'->∀ c∈ah l,c∉ah l':=by
  intro b j l l' hb hj c hc Gi;have aN:=hV.inb _ _ hj c Gi;obtain⟨l0,h1,h2⟩:=hX.fresh _ _ hb c hc aN;exact y7 j l' hj (.h b) l0 (by simp) h1 c Gi h2
 refine⟨a0n M' M,⟨⟨?_,?_,?_⟩,?_,.val hy,fun _ _ h=>h⟩⟩
 ·intro k l hk hd;cases k with
  | h b=>exact Me.ok (.h b) l hk trivial
  | l j=>
   rcases hd with hd | ⟨h1,h2⟩
   ·obtain⟨b0,h1,h2⟩:=hV.ok (.l j) l hk hd;refine⟨b0,h1,h2.mono (N:=M.h) (N':=(a0n M' M).h) (hX.zN.h) fun c hc=>?_⟩;refine hX.frame c (hV.inb _ _ hk c hc) fun k' jH l' hl' a8U=>?_;obtain⟨b',_,rfl⟩:=List.mem_map.1 jH;exact y7 j l hk (.h b') l' (by simp) hl' c hc a8U
   ·simp only[St.get] at h1 h2;rw[h1] at h2;cases h2
 ·intro k k' l l' b0 dZ hk jH hd hc hw;cases k with
  | h b=>
   cases k' with
   | h b'=>exact Me.own (.h b) (.h b') l l' b0 dZ hk jH trivial hc hw
   | l j=>exact pK b j l l' hk jH
  | l j=>
   cases k' with
   | h b'=>exact fun c hc Gi=>pK b' j l' l jH hk c Gi hc
   | l j'=>exact y7 j l hk (.l j') l' dZ jH
 ·intro k l hk c hc;cases k with
  | h b=>exact Me.inb (.h b) l hk c hc
  | l j=>exact Nat.lt_of_lt_of_le (hV.inb (.l j) l hk c hc) hX.size
 ·exact
  {zN:=by
    intro k l hk;cases k with
    | h b=>exact hX.zN (.h b) l hk
    | l j=>exact⟨l,hk,.refl l⟩
   frame:=fun c hc hf=>hX.frame c hc fun k hk l hl=>by
    obtain⟨b',_,rfl⟩:=List.mem_map.1 hk;exact hf _ hk l hl
   iC:=fun k hk hn=>by
    cases k with
    | h b=>exact hX.iC (.h b) hk hn
    | l j=>rfl
   gZ:=fun k hk hn=>by
    cases k with
    | h b=>exact hX.gZ (.h b) hk hn
    | l j=>rfl
   fresh:=fun k l hk c hc aN=>by
    cases k with
    | h b=>exact hX.fresh (.h b) l hk c hc aN
    | l j=>exact⟨l,hk,hc⟩
   size:=hX.size
   has:=fun k hk=>by
    cases k with
    | h b=>exact hX.has (.h b) hk
    | l j=>exact hk
   wsub:=fun k hk=>by
    obtain⟨b',_,rfl⟩:=List.mem_map.1 hk;exact hX.wsub _ hk
   wrote:=fun k hk=>by
    obtain⟨b',_,rfl⟩:=List.mem_map.1 hk;exact hX.wrote _ hk
   os:=hX.os
   output:=hX.output
   tape:=hX.tape }
theorem getEnv (s:St) (env:List (Nat×EV)) (ws:List Nat):St.get { s with env:=env,ws:=ws }=s.get:=by
 funext k;cases k<;>rfl
theorem MH (s:St) (d:Option Nat) (v:EV):St.get (s.put d v)=s.get:=by
 funext k;cases d<;>cases k<;>rfl
theorem Valid.sub {M:Mp} {D D':Key->Prop} {C:Ct} {w:World} (hV:Valid M D C w) (h:∀ k,D' k->D k):Valid M D' C w:=
 ⟨fun k l hk hd=>hV.ok k l hk (h k hd),fun k k' l l' b a1 a2 a3 hd=>hV.own k k' l l' b a1 a2 a3 (h k hd),hV.inb⟩
theorem QC {site:Nat->Bool} {s:St} {o:Oper} {c:Call} (h:o.op=.defer c):jq P call site s o=none:=by
 simp[jq,h]
def lu (P:Program) (call:ay) (site:Nat->Bool) (fl nt:Nat) (ops:Array Oper) (o:Oper) (s:St) (i:gy) (s':St):Prop:=
 vX nt o=true∧((rM ops s.env o=some true∧∃ v s1,jq P call site s o=some (v,s1,i)∧s'=St.put { s1 with ws:=dn fl i.ws s.ws } o.dst v) ∨
  (rM ops s.env o=some false∧i=aA∧s'=s.put o.dst .undef))
def jw (i:gy) (k:Key):Prop:=k∈i.ts∨k∈i.ws∨(i.all=true∧k.Sj=true)
def Ce (M:Mp) (env:List (Nat×EV)) (tmps:Array Value) (ops:Array Oper) (o:Oper):Prop:=
 ∀ j want d,o.guard=some (j,want)->(ops[j]?).bind (·.dst)=some d->∀ e,aT d env=some e->ER M e (tmps.getD d Go.undef)
theorem Ci {M:Mp} {env:List (Nat×EV)} {tmps:Array Value} {ops:Array Oper} {o:Oper} {b:Bool} (hG:Ce M env tmps ops o) (h:rM ops env o=some b):Region.wanted o (yielded ops tmps)=b:=by
 unfold rM at h;unfold Region.wanted;split at h
 ·rename_i hg;rw[hg];simpa using h
 rename_i j want hg;rw[hg];simp only;split at h
 rotate_left
 ·simp at h
 rename_i d hd;split at h
 ·rename_i b0 he;have h3:=(hG j want d hg hd _ he).lZ;have hb:tmps.getD d Go.undef=.bool b0:=by
   generalize tmps.getD d Go.undef=z at h3;cases h3;rfl
  have:tmps[d]? = some (.bool b0):=by
   by_cases h1:d<tmps.size
   ·simp only[Array.getD,h1,dite_true] at hb;rw[Array.getElem?_eq_getElem h1];exact congrArg some hb
   simp[Array.getD,h1,Go.undef] at hb
  simp only[yielded,hd,Option.bind_some,this];simpa using h
 ·rename_i he;have h2:=hG j want d hg hd _ he;have hb:tmps.getD d Go.undef=Go.undef:=by
   generalize tmps.getD d Go.undef=z at h2;cases h2;rfl
  have:tmps[d]? = some Go.undef∨tmps[d]? = none:=by
   by_cases h1:d<tmps.size
   ·simp only[Array.getD,h1,dite_true] at hb;rw[Array.getElem?_eq_getElem h1];exact .inl (congrArg some hb)
   right;simpa using h1
  simp at h;subst h;rcases this with this | this<;>simp only[yielded,hd,Option.bind_some,this]<;>rfl
 simp at h
def AY (M:Mp) (D:Key->Prop) (s:St) (w:World) (o:Oper) (i:gy) (s':St) (x:Value) (w':World):Prop:=
 ∃ v M',s'=St.put { s' with env:=s.env } o.dst v∧Dq M D s.get w v s'.get i.ws x w' M'
theorem Iz (s:St) (env:List (Nat×EV)) (d:Option Nat) (v:EV) (h:s.env=env):s.put d v=St.put { s.put d v with env:=env } d v:=by
 subst h;cases d<;>rfl
theorem OJ (hC:aj P call) {site:Nat->Bool} {fl nt:Nat} {ops:Array Oper} {o:Oper} {s s':St} {i:gy} {M:Mp} {D:Key->Prop} {w:World} {a:Act}
  (hS:lu P call site fl nt ops o s i s') (hV:Valid M D s.get w) (pX:M (.h s.heap.length)=none) (Sz:M (.l s.loc.length)=none)
  (y7:∀ j l,M (.l j)=some l->∀ k' l',Key.l j≠k'->M k'=some l'->∀ c∈ah l,c∉ah l')
  (hE:y8 M s.env a o.op.operands) (hG:Ce M s.env a.tmps ops o) (hD:∀ k,jw i k->(M k).isSome=true->D k) :
  (∃ x w',AY M D s w o i s' x w') ∧
   ∀ (r:Option Nat) (n:Nat) (Q:Exit->Act->World->Prop) (idx:Nat) (K:Act->World->Prop),ops[idx]? = some o ->
    (∀ x w',AY M D s w o i s' x w'->K (a.put o.dst x) w')->wpOpIn (jD r) n P ops Q idx K a w:=by
 obtain⟨_,⟨hw,v,s1,AZ,rfl⟩ | ⟨hw,rfl,rfl⟩⟩:=hS
 ·have OL:=Ci hG hw;by_cases hc:yg o.op=true
  ·-- a call
   have:∃ f args ats,o.op=.call { callee:=.value f,args:=args,argTypes:=ats }:=by
    unfold yg at hc;split at hc
    ·rename_i f args ats ho;exact⟨_,_,_,ho⟩
    ·cases hc
   obtain⟨f,args,ats,ho⟩:=this;simp only[jq,ho,AQ] at AZ;split at AZ
   ·rename_i b az hb has;cases hb
   ·rename_i f' az hf has;injection hf with hf;subst hf;split at AZ
    ·rename_i fv hfv;split at AZ
     ·rename_i v0 h' ws nZ;simp only[Option.some.injEq,Prod.mk.injEq] at AZ;obtain⟨rfl,rfl,rfl⟩:=AZ;have hh:∀ b l,M (.h b)=some l->D (.h b):=fun b l hb=>hD _ (.inr (.inr ⟨rfl,rfl⟩)) (by simp[hb]);have hVo:=wY hV hh;have hfx:VR M.only.h fv (a.eval f):=dH hE (by simp[ho,Op.operands,Call.operands]) hfv;have hax:aH M.only.h az (args.toList.map a.eval):=y9 hE (fun x hx=>by simp[ho,Op.operands,Call.operands];exact .inr (by simpa using hx)) has;have conv:∀ y w',eP M.only s.heap w v0 h' ws y w'->AY M D s w o ⟨true,[],ws.map .h⟩ (St.put { s with heap:=h',ws:=dn fl (ws.map .h) s.ws } o.dst (.val v0)) y w':=by
       intro y w' hr;obtain⟨M',hp⟩:=GH hV y7 hr;refine⟨.val v0,M',Iz _ _ _ _ rfl,?_⟩;rw[MH];exact hp
      obtain⟨d,hd,yt⟩:=hC _ _ _ _ _ _ nZ M.only w (a.eval f) (args.toList.map a.eval) hVo (fun _=>rfl) hfx hax;refine⟨?_,?_⟩
      ·obtain⟨y,w',hr⟩:=aj.ex hC nZ hVo (fun _=>rfl) hfx hax;exact⟨y,w',conv y w' hr⟩
      ·intro r n Q idx K IB hK;unfold wpOpIn;simp only[IB,OL,if_true];refine⟨fun _ _=>trivial,?_⟩;have a4G:∀ nx,(invoke d.target d.args).run P w=.ok nx w->(o.semAt (jD r).round a.eval).run P w=.ok nx w:=by
        intro nx hnx;rw[Oper.semAt_eq _ _ _ (fun c=>by rw[ho];simp)];unfold execOp;rw[ho];have:=hd w;rw[show (List.map a.eval args.toList).toArray=args.map a.eval from by apply Array.ext';simp] at this;simp[resolve,this,hnx]
       rcases yt with⟨⟨f1,as1,hinv,pK⟩,_⟩ | ⟨⟨l1,f1,tm1,ag1,bd1,hinv,hrd⟩,_⟩
       ·rw[a4G _ hinv];refine⟨fun h=>by simp[Fence.wide] at h,CallsIn.mono (F:=jD r) (pK (n-1)) fun e w' he=>?_⟩;cases e with
        | returned y=>exact hK y w' (conv y w' he)
        | panicked c=>exact he.elim
        | outgrown=>exact he.elim
       ·rw[a4G _ hinv];refine⟨fun h=>by simp[Fence.wide] at h,RoundIn.mono (F:=jD r) (hrd (n-1)) fun e w' he=>?_⟩;cases e with
        | returned y=>exact hK y w' (conv y w' he)
        | panicked c=>exact he.elim
        | outgrown=>exact he.elim
     ·simp at AZ
    ·simp at AZ
   ·simp at AZ
  ·-- no call
   have Gi:yg o.op=false:=(by simpa using hc);have Me:Valid M (fun k=>D k∨M k=none) s.get w:=⟨fun k l hk hd=>hV.ok k l hk (hd.resolve_right (by simp[hk])),fun k k' l l' b a1 a2 a3 hd=>hV.own k k' l l' b a1 a2 a3 (hd.resolve_right (by simp[a2])),hV.inb⟩;obtain⟨he,x,w',M',hr,hp⟩:=a4D Me hE pX Sz AZ Gi (fun k hk=>by
    cases hm:M k with
    | none=>exact .inr rfl
    | some l=>exact .inl (hD k (.inl hk) (by simp[hm])))
   have jT:AY M D s w o i (St.put { s1 with ws:=dn fl i.ws s.ws } o.dst v) x w':=by
    refine⟨v,M',Iz _ _ _ _ he,?_⟩;have hg:St.get { s1 with ws:=dn fl i.ws s.ws }=s1.get:=getEnv s1 s1.env _;rw[MH,hg];exact⟨hp.val.sub fun k hk=>hk.imp .inl id,hp.ext,hp.er,hp.loc⟩
   refine⟨⟨x,w',jT⟩,fun r n Q idx K IB hK=>?_⟩;unfold wpOpIn;simp only[IB,OL,if_true];refine⟨fun _ _=>trivial,?_⟩;rw[Oper.semAt_eq _ _ _ (fun c ho=>by rw[QC ho] at AZ;cases AZ)];rcases hr with hr | ⟨rfl,hr⟩
   ·rw[hr];exact hK x w' jT
   ·rw[hr];exact hK _ w' jT
 ·have OL:=Ci hG hw;have jT:AY M D s w o aA (s.put o.dst .undef) Go.undef w:=by
   refine⟨.undef,M,Iz _ _ _ _ rfl,?_⟩;rw[MH];exact .same hV .undef
  refine⟨⟨_,_,jT⟩,fun r n Q idx K IB hK=>?_⟩;unfold wpOpIn;simp only[IB,OL,Bool.false_eq_true,if_false];exact⟨fun _ _=>trivial,hK _ _ jT⟩
end
structure lK (M0:Mp) (h0:List HB) (w0:World):Prop where
 val:Valid M0 mg (iD h0) w0
 loc:∀ k,M0 (.l k)=none
structure Rel (M0:Mp) (h0:List HB) (w0:World) (nt:Nat) (M:Mp) (s:St) (a:Act) (w:World):Prop where
 val:Valid M mg s.get w
 ext:Ext M0 (iD h0) w0 M s.get w (s.ws.map .h)
 env:gG M s.env a.tmps
 size:nt<=a.tmps.size
 marks:∀ d∈a.defers,∃ k r,d=⟨.collected r,#[]⟩∧iD h0 (.h k)=none∧(∃ o,M (.h k)=some (.obj r o))∧s.get (.h k)=some .mark∧w.heap[r]? = some (.deferred (some []))
 apart:a.defers.Pairwise (·≠·)
theorem TT {fl b c:Nat} {ws:List Nat}:c∈xM fl b ws↔c∈ws∨(c=b∧b<fl):=by
 unfold xM;split
 ·rename_i h;split
  ·rename_i hc;have hc:b∈ws:=(by simpa using hc);constructor
   ·exact .inl
   rintro (h1 | ⟨rfl,_⟩)
   ·exact h1
   exact hc
  simp only[List.mem_cons];constructor
  ·rintro (rfl | h1)
   ·exact .inr ⟨rfl,h⟩
   exact .inl h1
  rintro (h1 | ⟨rfl,_⟩)
  ·exact .inr h1
  exact .inl rfl
 rename_i h;constructor
 ·exact .inl
 rintro (h1 | ⟨_,h1⟩)
 ·exact h1
 exact absurd h1 h
theorem iW {fl c:Nat}:∀ {ks:List Key} {ws:List Nat},c∈dn fl ks ws↔c∈ws∨(Key.h c∈ks∧c<fl)
 | [],ws=>by simp[dn]
 | .h b::ks,ws=>by
  rw[dn,iW,TT];simp only[List.mem_cons,Key.h.injEq];constructor
  ·rintro ((h | ⟨rfl,h⟩) | ⟨h1,h2⟩)
   ·exact .inl h
   ·exact .inr ⟨.inl rfl,h⟩
   exact .inr ⟨.inr h1,h2⟩
  rintro (h | ⟨rfl | h1,h2⟩)
  ·exact .inl (.inl h)
  ·exact .inl (.inr ⟨rfl,h2⟩)
  exact .inr ⟨h1,h2⟩
 | .l b::ks,ws=>by
  rw[dn,iW];simp
theorem uX {t:Nat} {s:St} {d:Option Nat} {v:EV}:aT t (s.put d v).env=if d=some t then some v else aT t s.env:=by
 cases d with
 | none=>simp[St.put]
 | some d=>simp[St.put,aT]
theorem yu {a:Act} {d:Option Nat} {x:Value} {t:Nat}:(a.put d x).tmps.getD t Go.undef=if d=some t∧t<a.tmps.size then x else a.tmps.getD t Go.undef:=by
 cases d with
 | none=>simp[Act.put]
 | some d=>
  simp only[Act.put,Option.some.injEq];simp only[<-Array.getElem?_toList,Array.getD_eq_getD_getElem?,Array.getElem?_setIfInBounds];by_cases h:d=t
  ·subst h;by_cases h1:d<a.tmps.size
   ·simp[h1]
   simp[h1]
  simp[h]
theorem DT {a:Act} {d:Option Nat} {x:Value}:(a.put d x).tmps.size=a.tmps.size:=by
 cases d<;>simp[Act.put]
theorem iK {a:Act} {d:Option Nat} {x:Value}:(a.put d x).defers=a.defers:=by
 cases d<;>rfl
section
variable {P:Program} {call:ay} {site:Nat->Bool} {fl nt:Nat} {ops:Array Oper} {o:Oper} {s s':St} {i:gy}
theorem lu.OM (h:lu P call site fl nt ops o s i s'):s'.ws=dn fl i.ws s.ws:=by
 obtain⟨_,⟨_,v,s1,_,rfl⟩ | ⟨_,rfl,rfl⟩⟩:=h
 ·cases o.dst<;>rfl
 cases o.dst<;>rfl
theorem lu.dst (h:lu P call site fl nt ops o s i s') {d:Nat} (hd:o.dst=some d):d<nt:=by
 have:=h.1;simp only[vX,hd] at this;simpa using this
variable {M0:Mp} {h0:List HB} {w0:World} {M:Mp} {a:Act} {w:World}
theorem Rel.loc (hR:Rel M0 h0 w0 nt M s a w):∀ j l,M (.l j)=some l->∀ k' l',Key.l j≠k'->M k'=some l'->∀ c∈ah l,c∉ah l':=by
 intro j l hj k' l' dZ jH;obtain⟨b,h1,_⟩:=hR.val.ok _ _ hj trivial;refine hR.val.own _ _ _ _ b dZ hj jH trivial h1 ?_;simp only[St.get,Option.map_eq_some_iff] at h1;obtain⟨_,_,rfl⟩:=h1;rfl
theorem Rel.nh (hR:Rel M0 h0 w0 nt M s a w):M (.h s.heap.length)=none:=by
 cases h:M (.h s.heap.length) with
 | none=>rfl
 | some l=>have:=hR.val.has h;simp[St.get] at this
theorem Rel.nl (hR:Rel M0 h0 w0 nt M s a w):M (.l s.loc.length)=none:=by
 cases h:M (.l s.loc.length) with
 | none=>rfl
 | some l=>have:=hR.val.has h;simp[St.get] at this
theorem sW {h:List HB} {k:Key} (hk:(iD h k).isSome=true):∃ b,k=.h b∧b<h.length:=by
 cases k with
 | h b=>exact⟨b,rfl,by simpa[iD,St.get] using hk⟩
 | l j=>simp[iD,St.get] at hk
theorem MI {h:List HB} {b:Nat} (hb:b<h.length):(iD h (.h b)).isSome=true:=by simp[iD,St.get,hb]
theorem GI (hR:Rel M0 h0 w0 nt M s a w) {M':Mp} {C':Ct} {w':World} {ws:List Key} (hX:Ext M s.get w M' C' w' ws) :
  ∀ d∈a.defers,∃ k r,d=⟨.collected r,#[]⟩∧iD h0 (.h k)=none∧(∃ o,M' (.h k)=some (.obj r o))∧C' (.h k)=some .mark∧w'.heap[r]? = some (.deferred (some [])):=by
 intro d hd;obtain⟨k,r,h1,h2,⟨o,h3⟩,h4,h5⟩:=hR.marks d hd;have hn:Key.h k∉ws:=fun vU=>by
  have:=(hX.wrote _ vU).2 _ h4;cases this
 obtain⟨l',g1,g2⟩:=hX.zN _ _ h3;obtain⟨o',hl⟩:∃ o',l'=.obj r o':=by
  cases l' with
  | cells ls=>exact g2.elim
  | obj r' o'=>cases g2.1;exact⟨o',rfl⟩
 refine⟨k,r,h1,h2,⟨o',by rw[g1,hl]⟩,by rw[hX.iC _ (by simp[h4]) hn,h4],?_⟩;rw[hX.frame r (Array.getElem?_eq_some_iff.1 h5).1 fun k' jH l0 kF hc=>?_,h5];obtain⟨b,hb,_⟩:=hR.val.ok _ _ kF trivial;exact hR.val.own k' (.h k) l0 (.obj r o) b (fun e=>hn (e▸jH)) kF h3 trivial hb ((hX.wrote _ jH).2 b hb) r hc (by simp[ah])
theorem DU (hB:lK M0 h0 w0) (hR:Rel M0 h0 w0 nt M s a w) (hS:lu P call site h0.length nt ops o s i s') {x:Value} {w':World} (jT:AY M mg s w o i s' x w') :
  ∃ M',Rel M0 h0 w0 nt M' s' (a.put o.dst x) w':=by
 obtain⟨v,M',he,hp⟩:=jT;refine⟨M',hp.val.sub fun k _=>.inl trivial,?_,?_,by rw[DT];exact hR.size,by rw[iK];exact GI hR hp.ext,by rw[iK];exact hR.apart⟩
 ·refine hR.ext.trans hp.ext (fun k l hk=>hB.val.has hk) (fun k hk vU=>?_) (fun k hk=>?_)
  ·obtain⟨b,rfl,hb⟩:=sW hk;rw[hS.OM];refine List.mem_map.2 ⟨b,iW.2 ?_,rfl⟩;rcases vU with h1 | h1
   ·obtain⟨b',h2,h3⟩:=List.mem_map.1 h1;cases h3;exact .inl h2
   ·exact .inr ⟨h1,hb⟩
  ·rw[hS.OM] at hk;obtain⟨b,hb,rfl⟩:=List.mem_map.1 hk;rcases iW.1 hb with h1 | ⟨h1,h2⟩
   ·have:Key.h b∈s.ws.map .h:=List.mem_map.2 ⟨b,h1,rfl⟩;exact⟨hR.ext.wsub _ this,.inl this⟩
   ·exact⟨MI h2,.inr h1⟩
 ·intro t e hl;rw[he,uX] at hl;rw[yu];by_cases hd:o.dst=some t
  ·rw[if_pos hd] at hl;have:=hS.dst hd;have:=hR.size;rw[if_pos ⟨hd,by omega⟩];cases hl;exact hp.er
  ·rw[if_neg hd] at hl;rw[if_neg (fun h=>hd h.1)];exact (hR.env t e hl).mono hp.ext.zN hp.loc
theorem Rel.guard (hR:Rel M0 h0 w0 nt M s a w):Ce M s.env a.tmps ops o:=fun _ _ d _ _ e he=>hR.env d e he
theorem yw (hC:aj P call) (hR:Rel M0 h0 w0 nt M s a w) (hS:lu P call site h0.length nt ops o s i s') :
  (∃ x w',AY M mg s w o i s' x w') ∧
   ∀ (r:Option Nat) (n:Nat) (Q:Exit->Act->World->Prop) (idx:Nat) (K:Act->World->Prop),ops[idx]? = some o ->
    (∀ x w',AY M mg s w o i s' x w'->K (a.put o.dst x) w')->wpOpIn (jD r) n P ops Q idx K a w:=
 OJ hC hS hR.val hR.nh hR.nl hR.loc (hR.env.on _) hR.guard fun _ _ _=>trivial
theorem sZ {o:Oper} {os:List Oper} {s s':St} {is:List gy} (h:dN P call site fl nt ops (o::os) s=some (s',is)) :
  ∃ i s1 is',lu P call site fl nt ops o s i s1∧dN P call site fl nt ops os s1=some (s',is')∧is=i::is':=by
 simp only[dN] at h;split at h
 ·simp at h
 ·rename_i hd;have hd:vX nt o=true:=by simpa using hd
  split at h
  ·rename_i hw;split at h
   ·rename_i v s1 i AZ;split at h
    ·rename_i s2 is2 hr;simp only[Option.some.injEq,Prod.mk.injEq] at h;obtain⟨rfl,rfl⟩:=h;exact⟨i,_,_,⟨hd,.inl ⟨hw,v,s1,AZ,rfl⟩⟩,hr,rfl⟩
    ·simp at h
   ·simp at h
  ·rename_i hw;split at h
   ·rename_i s2 is2 hr;simp only[Option.some.injEq,Prod.mk.injEq] at h;obtain⟨rfl,rfl⟩:=h;exact⟨_,_,_,⟨hd,.inr ⟨hw,rfl,rfl⟩⟩,hr,rfl⟩
   ·simp at h
  ·simp at h
theorem TU (hC:aj P call) (hB:lK M0 h0 w0) {r:Option Nat} {n:Nat} {Q:Exit->Act->World->Prop}:∀ (os:List Oper) (k:Nat) (s s':St) (is:List gy) (M:Mp) (a:Act) (w:World),ops.toList.drop k=os ->
  dN P call site h0.length nt ops os s=some (s',is)->Rel M0 h0 w0 nt M s a w ->
  (∀ M' a' w',Rel M0 h0 w0 nt M' s' a' w'->a'.defers=a.defers->Q .normal a' w')->wpOpsIn (jD r) n P ops Q (List.range' k os.length) a w
 | [],k,s,s',is,M,a,w,_,h,hR,hQ=>by
  simp only[dN,Option.some.injEq,Prod.mk.injEq] at h;obtain⟨rfl,rfl⟩:=h;exact hQ M a w hR rfl
 | o::os,k,s,s',is,M,a,w,hd,h,hR,hQ=>by
  obtain⟨i,s1,is',hS,hr,rfl⟩:=sZ h;have ho:ops[k]? = some o:=by
   have:=congrArg (fun l=>l[0]?) hd;simpa using this
  have MF:ops.toList.drop (k+1)=os:=by
   rw[<-List.drop_drop,hd];rfl
  simp only[List.length_cons,List.range'_succ];rw[wpOpsIn_cons];refine (yw hC hR hS).2 r n Q k _ ho fun x w' jT=>?_;obtain⟨M',sD⟩:=DU hB hR hS jT;exact TU hC hB os (k+1) s1 s' is' M' _ w' MF hr sD fun M2 a2 w2 h2 hdf=>hQ M2 a2 w2 h2 (hdf.trans iK)
theorem QD (hC:aj P call) (hB:lK M0 h0 w0) {r:Option Nat} {n:Nat} {Q:Exit->Act->World->Prop} {id:Nat} {s s':St} {is:List gy} {M:Mp} {a:Act} {w:World}
  (h:dN P call site h0.length nt ops ops.toList s=some (s',is)) (hR:Rel M0 h0 w0 nt M s a w)
  (hQ:∀ M' a' w',Rel M0 h0 w0 nt M' s' a' w'->a'.defers=a.defers->Q .normal a' w'):(Code.region id ops false).wpIn (jD r) n P Q a w:=by
 refine wpIn_region ?_;have:=TU (r:=r) (n:=n) (Q:=Q) hC hB ops.toList 0 s s' is M a w rfl h hR hQ;simpa[List.range_eq_range'] using this
end
theorem DV {i:Nat}:∀ {xs l:List Nat},i∈qI xs l->i∈xs∨i∈l
 | [],l,h=>.inr h
 | x::xs,l,h=>by
  simp only[qI] at h;rcases DV h with h1 | h1
  ·exact .inl (List.mem_cons_of_mem _ h1)
  split at h1
  ·exact .inr h1
  rcases List.mem_cons.1 h1 with rfl | h2
  ·exact .inl List.mem_cons_self
  exact .inr h2
theorem yx {acc:List (List Nat)} {i:Nat}:∀ {es:List Edge} {l:List Nat},
  i∈es.foldl (fun l e=>if Region.binds .any e then qI (e.on::acc.getD e.on []) l else l) l->i∈l∨∃ e∈es,Region.binds .any e=true∧(i=e.on∨i∈acc.getD e.on [])
 | [],l,h=>.inl h
 | e::es,l,h=>by
  simp only[List.foldl_cons] at h;rcases yx h with h1 | ⟨e',h2,h3⟩
  ·split at h1
   ·rename_i hb;rcases DV h1 with h2 | h2
    ·refine .inr ⟨e,List.mem_cons_self,hb,?_⟩;exact List.mem_cons.1 h2
    ·exact .inl h2
   ·exact .inl h1
  ·exact .inr ⟨e',List.mem_cons_of_mem _ h2,h3⟩
theorem MJ {acc:List (List Nat)} {o:Oper} {i:Nat} (h:i∈mO acc o):∃ e∈o.after,Region.binds .any e=true∧(i=e.on∨i∈acc.getD e.on []):=by
 rcases yx h with h1 | ⟨e,h2,h3⟩
 ·cases h1
 exact⟨e,by simpa using h2,h3⟩
theorem yA:∀ (os:List Oper) (acc:List (List Nat)),∃ t,pR os acc=acc++t
 | [],acc=>⟨[],by simp[pR]⟩
 | o::os,acc=>by
  obtain⟨t,ht⟩:=yA os (acc++[mO acc o]);exact⟨mO acc o::t,by simp[pR,ht]⟩
theorem GK:∀ (os:List Oper) (acc:List (List Nat)) (k:Nat) (o:Oper),os[k]? = some o ->
  (pR os acc)[acc.length+k]? = some (mO ((pR os acc).take (acc.length+k)) o)
 | [],acc,k,o,h=>by simp at h
 | o'::os,acc,0,o,h=>by
  simp at h;subst h;obtain⟨t,ht⟩:=yA os (acc++[mO acc o']);simp[pR,ht]
 | o'::os,acc,k+1,o,h=>by
  have:=GK os (acc++[mO acc o']) k o (by simpa using h);simp only[pR];simp only[List.length_append,List.length_cons,List.length_nil] at this
  rwa [show acc.length+(0+1)+k=acc.length+(k+1) by omega] at this
def MO (ops:List Oper) (j:Nat):List Nat:=(pR ops []).getD j []
theorem TW {ops:List Oper} {j i:Nat} {o:Oper} (hj:ops[j]? = some o) (h:i∈MO ops j):∃ e∈o.after,Region.binds .any e=true∧(i=e.on∨(e.on<j∧i∈MO ops e.on)):=by
 have:=GK ops [] j o hj;simp only[List.length_nil,Nat.zero_add] at this;unfold MO at h;rw[List.getD_eq_getElem?_getD,this] at h;simp only[Option.getD_some] at h;obtain⟨e,h1,h2,h3⟩:=MJ h;refine⟨e,h1,h2,h3.imp id fun h4=>?_⟩;rw[List.getD_eq_getElem?_getD,List.getElem?_take] at h4;split at h4
 ·rename_i aN;exact⟨aN,by unfold MO;rw[List.getD_eq_getElem?_getD];exact h4⟩
 simp at h4
def rP (D:Nat->Prop) (o:Oper):Prop:=∀ e∈o.after,Region.binds .any e=true->D e.on
theorem OO {ops:List Oper} {D:Nat->Prop} (hc:∀ j o,ops[j]? = some o->D j->rP D o):∀ (j:Nat) (o:Oper),ops[j]? = some o->rP D o->∀ i∈MO ops j,D i:=by
 intro j
 induction j using Nat.strongRecOn with
 | _ j ih=>
  intro o ho hw i hi;obtain⟨e,h1,h2,h3⟩:=TW ho hi;rcases h3 with rfl | ⟨aN,h4⟩
  ·exact hw e h1 h2
  have hd:=hw e h1 h2;have hl:j<ops.length:=(List.getElem?_eq_some_iff.1 ho).1;have hoe:ops[e.on]? = some ops[e.on]:=List.getElem?_eq_getElem (by omega);exact ih e.on aN _ hoe (hc _ _ hoe hd) i h4
theorem wo {ops:List Oper} {i j:Nat} (BN:i<j) (hj:j<ops.length) (hn:i∉MO ops j):(i,j)∈gQ ops:=by
 simp only[gQ,List.mem_flatMap,List.mem_range,List.mem_map,List.mem_filter];exact⟨j,hj,i,⟨BN,by simpa[MO] using hn⟩,rfl⟩
theorem JJ {ops:List Oper} (h:fF ops=true) {i:Nat} {o:Oper} (ho:ops[i]? = some o) {e:Edge} (he:e∈o.after) (hb:Region.binds .any e=true):e.on<i:=by
 simp only[fF,Bool.and_eq_true,List.all_eq_true] at h;have:=h.1 (o,i) (by
  rw[List.mem_zipIdx_iff_getElem?];simpa using ho)
 simp only[Array.all_eq_true_iff_forall_mem] at this;have:=this e he;simpa[hb] using this
theorem yB {ops:List Oper} (h:fF ops=true) {i j:Nat} {a b:Oper} (hp:(i,j)∈gQ ops) (ha:ops[i]? = some a) (hb:ops[j]? = some b):a.apart ops.toArray b=true∧b.apart ops.toArray a=true:=by
 simp only[fF,Bool.and_eq_true,List.all_eq_true] at h;have:=h.2 (i,j) hp;simpa[ha,hb] using this
theorem GL {nU:List gy}:∀ {ps:List (Nat×Nat)},lN nU ps=true->∀ {i j:Nat} {a b:gy},(i,j)∈ps->nU[i]? = some a->nU[j]? = some b->calm a b=true
 | [],_,i,j,a,b,h,_,_=>by cases h
 | (x,y)::r,hd,i,j,a,b,h,ha,hb=>by
  simp only[lN,Bool.and_eq_true] at hd;rcases List.mem_cons.1 h with h1 | h1
  ·cases h1;simpa[ha,hb] using hd.1
  exact GL hd.2 h1 ha hb
section
variable {P:Program} {call:ay} {site:Nat->Bool} {s s1:St} {o:Oper} {v:EV} {i:gy}
theorem TY {t:TypeId} {a:EV} {r:TV×gy} (h:loadT P t s a=some r):r.2.ws=[]:=by
 unfold loadT at h;split at h
 ·split at h
  ·simp only[Option.map_eq_some_iff] at h;obtain⟨_,_,rfl⟩:=h;rfl
  simp at h
 ·split at h
  ·split at h
   ·simp only[Option.map_eq_some_iff] at h;obtain⟨_,_,rfl⟩:=h;rfl
   simp at h
  simp at h
 simp at h
theorem Xk {at_:Array TypeId} {h0:List HB} {x:TV} {r:TV×gy} (h:LK P at_ h0 x=some r):r.2.ws=[]:=by
 unfold LK at h
 repeat' (split at h)
 all_goals first
  | (simp at h;done)
  | (simp only[Option.some.injEq] at h;subst h;rfl)
theorem a4H (h:jq P call site s o=some (v,s1,i)) (hm:wR o.op=false):i.ws=[]:=by
 unfold jq at h;split at h
 all_goals first
  | (simp at h;done)
  | (rename_i ho;rw[ho] at hm;simp[wR] at hm;done)
  | (simp only[Option.map_eq_some_iff,Prod.mk.injEq] at h;obtain⟨_,_,_,_,rfl⟩:=h;rfl)
  | (split at h<;>first | (simp at h;done) | (simp only[Option.map_eq_some_iff,Prod.mk.injEq,Option.some.injEq] at h;first | (obtain⟨_,_,_,_,rfl⟩:=h;rfl) | (obtain⟨_,_,rfl⟩:=h;rfl)))
  | skip
 ·split at h
  ·split at h
   ·simp only[Option.some.injEq,Prod.mk.injEq] at h;obtain⟨_,_,rfl⟩:=h;rfl
   simp at h
  simp at h
 ·split at h
  ·simp only[Option.map_eq_some_iff,Prod.mk.injEq] at h;obtain⟨r,hr,_,_,rfl⟩:=h;exact TY hr
  simp at h
 ·split at h
  ·split at h
   ·simp only[Option.map_eq_some_iff,Prod.mk.injEq] at h;obtain⟨_,_,_,_,rfl⟩:=h;rfl
   ·simp only[Option.map_eq_some_iff,Prod.mk.injEq] at h;obtain⟨_,_,_,_,rfl⟩:=h;rfl
   simp at h
  simp at h
 ·rename_i c ho;rw[ho] at hm;obtain⟨callee,args,ats⟩:=c;unfold AQ at h;simp only at h;split at h
  ·rename_i b az;simp only[Option.map_eq_some_iff,Prod.mk.injEq] at h;obtain⟨⟨v0,s0,i0⟩,hb,_,_,rfl⟩:=h;simp only[wR] at hm;unfold jl at hb;split at hb
   ·simp only[Option.map_eq_some_iff,Prod.mk.injEq] at hb;obtain⟨r,hr,_,_,rfl⟩:=hb;exact Xk hr
   ·simp at hm
   ·simp at hm
   ·simp only[Option.map_eq_some_iff,Prod.mk.injEq] at hb;obtain⟨r,hr,_,_,rfl⟩:=hb;rfl
   ·simp only[Option.map_eq_some_iff,Prod.mk.injEq] at hb;obtain⟨r,hr,_,_,rfl⟩:=hb;rfl
   simp at hb
  ·simp[wR] at hm
  simp at h
 ·split at h
  ·split at h
   ·simp only[Option.some.injEq,Prod.mk.injEq] at h;obtain⟨_,_,rfl⟩:=h;rfl
   simp at h
  simp at h
 split at h
 ·split at h
  ·split at h
   ·split at h
    ·simp only[Option.map_eq_some_iff,Prod.mk.injEq] at h;obtain⟨_,_,_,_,rfl⟩:=h;rfl
    simp at h
   simp at h
  simp at h
 simp at h
theorem a4I (h:jq P call site s o=some (v,s1,i)) (hm:zK o.op=false):i.ts=[]∧i.ws=[]∧i.all=false:=by
 unfold jq at h;split at h
 all_goals first
  | (simp at h;done)
  | (rename_i ho;rw[ho] at hm;simp[zK] at hm;done)
  | (simp only[Option.map_eq_some_iff,Prod.mk.injEq] at h;obtain⟨_,_,_,_,rfl⟩:=h;exact⟨rfl,rfl,rfl⟩)
  | (split at h<;>first | (simp at h;done) | (simp only[Option.map_eq_some_iff,Prod.mk.injEq,Option.some.injEq] at h;first | (obtain⟨_,_,_,_,rfl⟩:=h;exact⟨rfl,rfl,rfl⟩) | (obtain⟨_,_,rfl⟩:=h;exact⟨rfl,rfl,rfl⟩)))
  | skip
 ·split at h
  ·split at h
   ·simp only[Option.some.injEq,Prod.mk.injEq] at h;obtain⟨_,_,rfl⟩:=h;exact⟨rfl,rfl,rfl⟩
   simp at h
  simp at h
 ·split at h
  ·split at h
   ·simp only[Option.map_eq_some_iff,Prod.mk.injEq] at h;obtain⟨_,_,_,_,rfl⟩:=h;exact⟨rfl,rfl,rfl⟩
   ·simp only[Option.map_eq_some_iff,Prod.mk.injEq] at h;obtain⟨_,_,_,_,rfl⟩:=h;exact⟨rfl,rfl,rfl⟩
   simp at h
  simp at h
 rename_i c ho;rw[ho] at hm;obtain⟨callee,args,ats⟩:=c;unfold AQ at h;simp only at h;split at h
 ·rename_i b az;simp only[Option.map_eq_some_iff,Prod.mk.injEq] at h;obtain⟨⟨v0,s0,i0⟩,hb,_,_,rfl⟩:=h;simp only[zK] at hm;unfold jl at hb;split at hb
  ·simp at hm
  ·simp at hm
  ·simp at hm
  ·simp only[Option.map_eq_some_iff,Prod.mk.injEq] at hb;obtain⟨r,hr,_,_,rfl⟩:=hb;exact⟨rfl,rfl,rfl⟩
  ·simp only[Option.map_eq_some_iff,Prod.mk.injEq] at hb;obtain⟨r,hr,_,_,rfl⟩:=hb;exact⟨rfl,rfl,rfl⟩
  simp at hb
 ·simp[zK] at hm
 simp at h
variable {fl nt:Nat} {ops:Array Oper} {s':St}
theorem lu.w (h:lu P call site fl nt ops o s i s') (hm:wR o.op=false):i.ws=[]:=by
 obtain⟨_,⟨_,v,s1,h1,_⟩ | ⟨_,rfl,_⟩⟩:=h
 ·exact a4H h1 hm
 rfl
theorem lu.t (h:lu P call site fl nt ops o s i s') (hm:zK o.op=false):i.ts=[]∧i.ws=[]∧i.all=false:=by
 obtain⟨_,⟨_,v,s1,h1,_⟩ | ⟨_,rfl,_⟩⟩:=h
 ·exact a4I h1 hm
 exact⟨rfl,rfl,rfl⟩
theorem DW {ws:List Key} {b:gy} (h:Dk ws b=true) {k:Key} (hk:k∈ws):¬jw b k:=by
 simp only[Dk,List.all_eq_true] at h;have:=h k hk;simp only[Bool.and_eq_true,Bool.not_eq_true',Bool.and_eq_false_iff] at this;obtain⟨⟨h1,h2⟩,h3⟩:=this;rintro (h4 | h4 | ⟨h4,h5⟩)
 ·simp[h4] at h2
 ·simp[h4] at h3
 simp[h4,h5] at h1
theorem QE {nU:List gy} {ol:List Oper} (hd:lN nU (eH ol)=true) {x y:Nat} {a b:Oper} {ia ib:gy} {sa sa' sb sb':St} (hp:(x,y)∈gQ ol) (ha:ol[x]? = some a) (hb:ol[y]? = some b)
  (hia:nU[x]? = some ia) (hib:nU[y]? = some ib) (sta:lu P call site fl nt ops a sa ia sa') (stb:lu P call site fl nt ops b sb ib sb') :
  (∀ k∈ia.ws,¬jw ib k)∧(∀ k∈ib.ws,¬jw ia k):=by
 by_cases hh:((wR a.op&&zK b.op)||(zK a.op&&wR b.op))=true
 ·have hm:(x,y)∈eH ol:=by
   simp only[eH,List.mem_filter];refine⟨hp,?_⟩;simpa[ha,hb] using hh
  have:=GL hd hm hia hib;simp only[calm,Bool.and_eq_true] at this;exact⟨fun k hk=>DW this.1 hk,fun k hk=>DW this.2 hk⟩
 ·simp only[Bool.or_eq_true,Bool.and_eq_true,not_or,not_and,Bool.not_eq_true] at hh;constructor
  ·intro k hk ht;have h1:wR a.op=true:=by
    cases h2:wR a.op with
    | true=>rfl
    | false=>rw[sta.w h2] at hk;cases hk
   obtain⟨t1,t2,t3⟩:=stb.t (hh.1 h1);rcases ht with h | h | ⟨h,_⟩
   ·rw[t1] at h;cases h
   ·rw[t2] at h;cases h
   ·rw[t3] at h;cases h
  ·intro k hk ht;have h1:wR b.op=true:=by
    cases h2:wR b.op with
    | true=>rfl
    | false=>rw[stb.w h2] at hk;cases hk
   have h2:zK a.op=false:=by
    cases h3:zK a.op with
    | false=>rfl
    | true=>have:=hh.2 h3;rw[h1] at this;cases this
   obtain⟨t1,t2,t3⟩:=sta.t h2;rcases ht with h | h | ⟨h,_⟩
   ·rw[t1] at h;cases h
   ·rw[t2] at h;cases h
   ·rw[t3] at h;cases h
end
end Tw
