/- Part 1 of a proof: The answer to any query about any diagram, where any condition is met, is the document's, or the error is; for all queries and diagrams. -/
import Derived.RangeFuncLeaves
import Derived.OrdersIn
import Derived.Laws.CopyRow
import Derived.Laws.Rows
import Derived.Laws.Entries
set_option linter.unusedVariables false
set_option linter.unusedSimpArgs false
set_option linter.unusedSectionVars false
open Go.IntKind (i64)
noncomputable section
abbrev a00:=@Option.some.injEq
abbrev a04:=@List.getElem?_eq_some_iff
abbrev a09:=@Option.map_eq_some_iff
abbrev a0a:=@List.getElem?_eq_getElem
abbrev a0e:=@List.getElem?_append_left
abbrev a0g:=@if_neg
abbrev a0h:=@if_pos
abbrev a0S:=@Prod.mk.injEq
abbrev a0T:=@Option.map_some
abbrev a15:=@Nat.le_refl
abbrev a1c:=@List.getElem?_append_right
abbrev a1f:=@List.mem_map
abbrev a1D:=@List.getElem?_set_ne
abbrev a1X:=@decide_eq_true_eq
abbrev a1Y:=@List.mem_cons
abbrev a2a:=@List.length_append
abbrev a2c:=@Bool.false_eq_true
abbrev a2d:=@if_true
abbrev a2k:=@List.getElem?_set_self
abbrev a2m:=@Bool.and_eq_true
abbrev a2D:=@Array.getElem?_eq_some_iff
abbrev a2I:=@List.mem_singleton
abbrev a2J:=@List.getElem?_cons_zero
abbrev a2W:=@decide_eq_false_iff_not
abbrev a2X:=@List.getD_eq_getElem?_getD
abbrev a2Y:=@if_false
abbrev a3s:=@List.length_singleton
abbrev a3K:=@List.mem_append
abbrev a3N:=@List.mem_cons_self
abbrev a3O:=@List.mem_cons_of_mem
abbrev a3P:=@Nat.mul_le_mul_right
abbrev a3Q:=@Nat.add_mul
abbrev a3R:=@List.length_take
abbrev a3S:=@List.length_drop
abbrev a3T:=@Array.getElem?_eq_getElem
abbrev a3U:=@Nat.zero_add
abbrev a3V:=@List.length_cons
abbrev a3W:=@List.eq_nil_of_length_eq_zero
abbrev a3X:=@List.getElem?_eq_none
abbrev a3Y:=@List.map_append
abbrev a3Z:=@List.map_cons
abbrev a4a:=@Nat.lt_or_ge
abbrev a4b:=@List.getElem?_drop
abbrev a4c:=@List.getElem?_set_self'
abbrev a4d:=@List.getElem?_take
abbrev a4e:=@List.length_map
abbrev a4f:=@List.mem_range
abbrev a4g:=@List.nodup_cons
abbrev a4h:=@List.getElem?_map
abbrev a4k:=@Option.bind_some
abbrev a4l:=@List.mem_of_getElem?
abbrev a4q:=@List.length_set
abbrev a4s:=@List.all_eq_true
abbrev a4u:=@Bool.eq_iff_iff
abbrev a4v:=@Nat.zero_le
abbrev a4w:=@List.getElem_mem
abbrev a4A:=@Nat.le_trans
abbrev a4E:=@List.mem_iff_getElem
abbrev a4F:=@List.idxOf_lt_length_iff
abbrev a4H:=@Option.getD_some
abbrev a4P:=@List.drop_eq_getElem_cons
abbrev a5d:=@List.mem_append_left
abbrev a5j:=@Option.isSome_iff_exists
abbrev a5B:=@List.contains_eq_mem
abbrev a5F:=@List.append_assoc
abbrev a5H:=@not_false_eq_true
abbrev a5J:=@List.length_nil
abbrev a6m:=@List.map_congr_left
abbrev a6r:=@List.mem_of_mem_drop
abbrev a6t:=@List.mem_filter
abbrev a6S:=@List.append_nil
abbrev a6Y:=@List.length_eq_zero_iff
abbrev a7f:=@List.nodup_nil
abbrev a7l:=@List.prefix_rfl
abbrev a7m:=@Int.toNat_natCast
abbrev a7x:=@List.mem_filterMap
abbrev a7I:=@List.take_succ_eq_append_getElem
abbrev a7U:=@List.map_map
abbrev a88:=@beq_iff_eq
abbrev a8a:=@List.eq_nil_iff_forall_not_mem
abbrev a8c:=@List.perm_ext_iff_of_nodup
abbrev a8d:=@of_decide_eq_true
abbrev a8s:=@Nat.min_eq_left
abbrev a8t:=@not_true
abbrev a8u:=@Array.getD_eq_getD_getElem?
abbrev a8v:=@List.length_replicate
abbrev a8w:=@Int.emod_eq_of_lt
abbrev a8x:=@Bool.not_eq_true'
abbrev a8y:=@List.getElem?_of_mem
abbrev a8z:=@List.getElem_idxOf
abbrev a8A:=@Int.mul_le_mul_of_nonneg_left
abbrev a8B:=@List.nodup_append
abbrev a8C:=@List.length_range
abbrev a8D:=@Bool.not_true
abbrev a8E:=@List.mem_iff_getElem?
abbrev a8F:=@Array.getElem?_setIfInBounds
abbrev a8G:=@Nat.eq_of_beq_eq_true
abbrev a8H:=@List.length_filter_le
abbrev a8L:=@List.filterMap_cons
abbrev a8O:=@Bool.or_eq_true
abbrev a8Q:=@Option.some.inj
abbrev a8R:=@Classical.choose_spec
abbrev a8S:=@Nat.lt_of_lt_of_le
abbrev a8Y:=@List.getElem_map
abbrev a96:=@List.prefix_append
abbrev a9e:=@Int.le_refl
abbrev a9f:=@List.mem_of_mem_take
abbrev a9g:=@List.mem_zipIdx_iff_getElem?
abbrev a9j:=@Bool.or_eq_false_iff
abbrev a9m:=@List.idxOf_eq_length
abbrev a9o:=@List.getElem?_cons_succ
abbrev a9p:=@List.getElem?_set
abbrev a9q:=@List.ext_getElem?
abbrev a9u:=@List.idxOf_append
abbrev a9w:=@Array.length_toList
abbrev a9D:=@List.length_pos_iff
abbrev a9F:=@List.getElem_of_mem
abbrev a9H:=@List.take_of_length_le
abbrev a9Z:=@List.findIdx?_eq_some_iff_getElem
abbrev aa0:=@Nat.add_assoc
abbrev aa1:=@Array.getElem?_append_left
abbrev aao:=@List.getElem_inj
abbrev aat:=@List.ext_getElem
abbrev aaB:=@Bool.not_false
abbrev abg:=@List.mem_append_right
abbrev abh:=@List.pairwise_cons
abbrev abj:=@List.length_mergeSort
abbrev abm:=@Nat.le_of_lt
abbrev abn:=@List.nil_append
abbrev abo:=@Int.mul_le_mul_of_nonneg_right
abbrev abq:=@Bool.true_and
abbrev abt:=@List.drop_zero
abbrev abu:=@List.take_length
abbrev abA:=@Nat.eq_zero_or_pos
abbrev abB:=@Bool.not_eq_false'
abbrev abE:=@List.map_nil
abbrev abH:=@Array.getElem?_modify
abbrev abI:=@List.range_succ
abbrev abJ:=@List.all_cons
abbrev acf:=@Int.add_mul_emod_self_left
abbrev acv:=@forall_congr'
abbrev acE:=@List.nodup_iff_pairwise_ne
abbrev acK:=@List.pairwise_map
abbrev acQ:=@Classical.byContradiction
abbrev acV:=@List.pairwise_iff_getElem
abbrev acX:=@Int.mul_one
abbrev ad3:=@Nat.zero_mul
abbrev ad4:=@Array.all_eq_true_iff_forall_mem
abbrev ad7:=@Nat.le_of_not_lt
abbrev ad8:=@List.any_eq_true
abbrev adf:=@and_self
abbrev adg:=@Prod.ext
abbrev adh:=@List.mergeSort_perm
abbrev adk:=@List.filter_cons_of_neg
abbrev adn:=@List.filter_cons_of_pos
abbrev ado:=@List.any_cons
abbrev adp:=@List.foldl_cons
abbrev adq:=@not_or
abbrev adr:=@List.Nodup.length_le_of_subset
abbrev ads:=@List.find?_eq_none
abbrev adu:=@List.idxOf_cons
abbrev adv:=@Nat.one_mul
abbrev adx:=@Nat.le_mul_of_pos_left
abbrev adz:=@Nat.add_zero
abbrev adF:=@List.getElem?_toArray
abbrev adI:=@Array.getElem?_toList
abbrev adK:=@Array.ext'
abbrev adY:=@Bool.not_eq_true
abbrev adZ:=@List.mem_flatMap
abbrev aej:=@List.getElem?_modify
abbrev aeP:=@List.nodup_range
abbrev aeQ:=@Bool.false_or
abbrev afa:=@List.cons.inj
abbrev afl:=@List.replicate_succ
abbrev afw:=@List.getElem?_range
abbrev afC:=@Int.natCast_mul
abbrev afN:=@List.cons.injEq
abbrev afZ:=@decide_eq_false
abbrev ag3:=@List.mem_of_find?_eq_some
abbrev agp:=@Bool.true_eq_false
abbrev agq:=@Int.le_of_lt
abbrev agr:=@List.take_take
abbrev ags:=@List.drop_drop
abbrev agt:=@Bool.false_and
abbrev agu:=@Option.map_map
abbrev agv:=@Int.mul_nonneg
abbrev agw:=@List.pairwise_mergeSort
abbrev agx:=@List.getElem?_replicate
abbrev agy:=@List.drop_of_length_le
abbrev agz:=@List.prefix_refl
abbrev agA:=@Bool.and_eq_false_iff
abbrev agB:=@Nat.le_of_ble_eq_true
abbrev agC:=@Nat.le_of_eq
abbrev agD:=@Nat.sub_self
abbrev agE:=@List.find?_cons
abbrev agF:=@Int.emod_nonneg
abbrev agG:=@Int.ediv_nonneg
abbrev agH:=@Int.add_comm
abbrev agI:=@List.getElem?_mapIdx
abbrev agJ:=@Int.toNat_of_nonneg
abbrev agK:=@Nat.succ_eq_add_one
abbrev agL:=@beq_eq_false_iff_ne
abbrev agM:=@List.length_zipWith
abbrev agN:=@List.filter_eq_self
abbrev agO:=@List.drop_take
abbrev agP:=@Nat.mul_le_mul
abbrev agQ:=@Int.add_mul
abbrev agR:=@Nat.mul_one
abbrev agS:=@List.contains_cons
abbrev agT:=@Bool.and_true
namespace Tw
open Go
inductive NK where
 |ptr|slc|map|fn|ifc
 deriving DecidableEq
inductive TV where
 |bool (b:Bool)
 |int (k:IntKind) (n:Int)
 |str (s:ByteArray)
 |nil (k:NK)
 |ptr (b off lim:Nat)
 |slc (b off len cap sz:Nat) (ex:Bool)
 |map (r:Nat)
 |fn (f:FuncId) (first cap:List TV)
 |kC (l:Nat)
 |agg (cs:List TV)
 |dG (cs:List TV)
 |iter (b:Nat)
inductive EV where
 |val (v:TV)
 |loc (k off:Nat)
 |undef
 |ent (r j:Nat) (v:TV)
 |Eh (r j:Nat)
inductive BK where
 |ro|own|grow|last
 deriving DecidableEq
inductive HB where
 |cells (k:BK) (cs:List TV)
 |map (es:List (TV×TV))
 |lZ (cs:List TV)
 |mark
 |cZ (r n:Nat) (seen:List Nat)
 |loop (ready:Bool) (f:FuncId) (nt:Nat) (env:List (Nat×EV)) (ps:List Nat) (assign body:Code) (jC:Option Code)
structure St where
 env:List (Nat×EV)
 loc:List (List TV)
 heap:List HB
 ws:List Nat
inductive Key where
 |h (b:Nat)
 |l (k:Nat)
 deriving DecidableEq
def St.get(s:St):Key->Option HB
 |.h b=>s.heap[b]?
 |.l k=>(s.loc[k]?).map (.cells .own)
def TV.toC:TV->Option Value
 |.bool b=>some (.bool b)
 |.int k n=>some (.int k n)
 |.str s=>some (.string s)
 |.nil .ptr=>some (.pointer none)
 |.nil .slc=>some (.slice none 0 0)
 |.nil .map=>some (.map none)
 |.nil .fn=>some .nilFunc
 |.nil .ifc=>some .nilIface
 |_=>none
def TV.Tz:List TV->Option (List Value)
 | []=>some []
 |c::cs=>match c.toC,TV.Tz cs with
  |some v,some vs=>some (v::vs)
  |_,_=>none
def TV.yg:TV->Option Value
 |.agg cs=>(TV.Tz cs).map fun vs=>.agg vs.toArray
 |v=>v.toC
def TV.ZW:Value->Option TV
 |.bool b=>some (.bool b)
 |.int k n=>some (.int k n)
 |.string s=>some (.str s)
 |.pointer none=>some (.nil .ptr)
 |.slice none 0 0=>some (.nil .slc)
 |.map none=>some (.nil .map)
 |.nilFunc=>some (.nil .fn)
 |.nilIface=>some (.nil .ifc)
 |_=>none
def TV.BJ:List Value->Option (List TV)
 | []=>some []
 |c::cs=>match TV.ZW c,TV.BJ cs with
  |some v,some vs=>some (v::vs)
  |_,_=>none
def TV.Vr:Value->Option TV
 |.agg cs=>(TV.BJ cs.toList).map .agg
 |v=>TV.ZW v
def TV.abe:TV->Bool
 |.bool _|.int _ _|.str _|.nil _=>true
 |_=>false
def TV.abf:TV->Bool
 |.agg cs=>cs.all TV.abe
 |v=>v.abe
def TV.flat:TV->Bool
 |.dG vs=>vs.all TV.abf
 |v=>v.abf
def TV.cells:TV->List TV
 |.agg cs=>cs
 |v=>[v]
def iQ:TV->Bool
 |.agg _|.dG _=>false
 |_=>true
def aB{α:Type}(P:Program):Sem α->Option α
 |.pure a=>some a
 |.program k=>aB P (k P)
 |.mark _ k=>aB P k
 |_=>none
def dK(t:Nat):List (Nat×EV)->Option EV
 | []=>none
 |(k,v)::r=>if k=t then some v else dK t r
def St.put(s:St)(dst:Option Nat)(v:EV):St:=
 match dst with
 |some d=>{ s with env:=(d,v)::s.env }
 |none=>s
def pick(live:List Nat)(env:List (Nat×EV)):List (Nat×EV):=
 match live with
 | []=>[]
 |t::r=>match dK t env with
  |some v=>(t,v)::pick r env
  |none=>pick r env
def Ib(env:List (Nat×EV)):Operand->Option EV
 |.tmp t=>dK t env
 |.const v=>(TV.Vr v).map .val
 |.func f=>some (.val (.fn f [] []))
 |.global _=>none
def qA(env:List (Nat×EV))(x:Operand):Option TV:=
 match Ib env x with
 |some (.val v)=>some v
 |_=>none
def TA(env:List (Nat×EV)):List Operand->Option (List TV)
 | []=>some []
 |x::xs=>match qA env x,TA env xs with
  |some v,some vs=>some (v::vs)
  |_,_=>none
def Vx(env:List (Nat×EV)):List (Nat×Operand)->Option (List (Nat×TV))
 | []=>some []
 |(i,x)::xs=>match qA env x,Vx env xs with
  |some v,some vs=>some ((i,v)::vs)
  |_,_=>none
structure lD where
 all:Bool
 ts:List Key
 ws:List Key
def cu:lD:=⟨false,[],[]⟩
def wS(k:Key):lD:=⟨false,[k],[]⟩
def gX(k:List Key):lD:=⟨false,k,[]⟩
def oJ(k:Key):lD:=⟨false,[k],[k]⟩
def sub(cs:List TV)(off n:Nat):Option (List TV):=
 if off+n<=cs.length then some ((cs.drop off).take n)else none
def vM(cs:List TV)(off:Nat)(new:List TV):Option (List TV):=
 if off+new.length<=cs.length then some (cs.take off++new++cs.drop (off+new.length))else none
def uF(P:Program)(t:TypeId):Option Bool:=
 match P.underlying t with
 |some (.struct _)|some (.array _ _)=>some true
 |some _=>some false
 |none=>none
def dB(P:Program)(t:TypeId):Option Nat:=(P.info? t).map (·.size)
def tX(P:Program)(t:TypeId)(cs:List TV)(off:Nat):Option TV:=
 match uF P t,dB P t with
 |some true,some n=>(sub cs off n).map .agg
 |some false,some n=>if n=1 then cs[off]? else none
 |_,_=>none
def Jy(P:Program)(t:TypeId):Option (List TV):=
 match P.info? t with
 |some i=>match i.zero with
  |some z=>(TV.Vr z).map TV.cells
  |none=>none
 |none=>none
def aV(h:List HB)(b:Nat):Option (List TV):=
 match h[b]? with
 |some (.cells _ cs)=>some cs
 |_=>none
def lF(h:List HB)(b lim:Nat):Option (List TV):=
 match h[b]? with
 |some (.cells k cs)=>if k=.last∧lim≠cs.length then none else some cs
 |_=>none
def Ei(floor:Nat)(b:Nat)(ws:List Nat):List Nat:=
 if b<floor then(if ws.contains b then ws else b::ws)else ws
def jL(floor:Nat):List Key->List Nat->List Nat
 | [],ws=>ws
 |.h b::r,ws=>jL floor r (Ei floor b ws)
 |.l _::r,ws=>jL floor r ws
def zN(k:BK)(whole:Bool):Option BK:=
 match k,whole with
 |.own,_=>some .own
 |.grow,true=>some .last
 |.last,true=>some .last
 |_,_=>none
def TB(h:List HB)(b off lim:Nat)(new:List TV):Option (List HB):=
 match h[b]? with
 |some (.cells k cs)=>match zN k (lim==cs.length)with
  |some k'=>(vM cs off new).map fun cs'=>h.set b (.cells k' cs')
  |none=>none
 |_=>none
def BK.more:BK->BK
 |.last=>.last
 |_=>.grow
def rU(place:Nat->Option (Nat×Nat)):List TV->List (Nat×TV)->Option (List TV)
 |cs,[]=>some cs
 |cs,(i,v)::r=>match place i with
  |some (off,size)=>if v.cells.length=size then(match vM cs off v.cells with|some cs'=>rU place cs' r|none=>none)else none
  |none=>none
def TD(P:Program)(fs:Array Field)(i:Nat):Option (Nat×Nat):=
 match fs[i]? with
 |some f=>(dB P f.type).map fun n=>(f.offset,n)
 |none=>none
def BL(P:Program)(fs:List Field):Bool:=fs.all fun f=>(dB P f.type).isSome
def MH(P:Program)(t:TypeId)(parts:List (Nat×TV)):Option TV:=
 match Jy P t,P.underlying t with
 |some z,some (.struct fs)=>if BL P fs.toList then(rU (TD P fs) z parts).map .agg else none
 |some z,some (.array _ e)=>match dB P e with
  |some n=>(rU (fun i=>some (i*n,n)) z parts).map .agg
  |none=>none
 |_,_=>none
def times(z:List TV):Nat->List TV
 | 0=>[]
 |n+1=>z++times z n
def jw(P:Program)(t:TypeId):Option (TypeId×Nat):=
 match P.underlying t with
 |some (.slice e)=>match dB P e with
  |some n=>if n=0 then none else some (e,n)
  |none=>none
 |_=>none
def qB(site:Bool)(s:St)(cs:List TV):EV×St:=
 if site then(.val (.ptr s.heap.length 0 cs.length),{ s with heap:=s.heap++[.cells .own cs] })
 else(.loc s.loc.length 0,{ s with loc:=s.loc++[cs] })
def loadT(P:Program)(t:TypeId)(s:St):EV->Option (TV×lD)
 |.loc k off=>match s.loc[k]? with
  |some cs=>(tX P t cs off).map fun v=>(v,wS (.l k))
  |none=>none
 |.val (.ptr b off lim)=>match lF s.heap b lim,dB P t with
  |some cs,some n=>if off+n<=lim then(tX P t cs off).map fun v=>(v,wS (.h b))else none
  |_,_=>none
 |_=>none
def storeT(P:Program)(t:TypeId)(s:St)(a:EV)(v:TV):Option (St×lD):=
 match dB P t with
 |some n=>
  if v.cells.length=n∧v.cells.all iQ=true then
   match a with
   |.loc k off=>match s.loc[k]? with
    |some cs=>(vM cs off v.cells).map fun cs'=>({ s with loc:=s.loc.set k cs' },oJ (.l k))
    |none=>none
   |.val (.ptr b off lim)=>if off+n<=lim then(TB s.heap b off lim v.cells).map fun h=>({ s with heap:=h },oJ (.h b))else none
   |_=>none
  else none
 |none=>none
def Q7(o:Nat):EV->Option EV
 |.loc k off=>some (.loc k (off+o))
 |.val (.ptr b off lim)=>if off+o<=lim then some (.val (.ptr b (off+o) lim))else none
 |_=>none
def FW(P:Program)(t:TypeId)(i:Nat):Option Nat:=
 match P.underlying t with
 |some (.struct fs)=>match fs[i]? with
  |some f=>match dB P f.type with
   |some n=>if n=0 then none else some f.offset
   |none=>none
  |none=>none
 |_=>none
def idx(n:Nat):TV->Option Nat
 |.int _ i=>if 0<=i∧i<n then some i.toNat else none
 |_=>none
def lG(P:Program)(t:TypeId)(x:EV)(i:TV):Option EV:=
 match P.underlying t with
 |some (.slice e)=>match dB P e,x with
  |some n,.val (.slc b off len cap sz _)=>if n=sz then(idx len i).map fun j=>.val (.ptr b (off+j*n) (off+cap*n))else none
  |_,_=>none
 |some (.array len e)=>match dB P e with
  |some n=>match idx len i with
   |some j=>Q7 (j*n) x
   |none=>none
  |none=>none
 |_=>none
def Ii(P:Program)(t:TypeId)(x i:TV):Option TV:=
 match P.underlying t,x with
 |some (.array len e),.agg cs=>match dB P e,idx len i with
  |some n,some j=>tX P e cs (j*n)
  |_,_=>none
 |some .string,.str s=>match idx s.size i with
  |some j=>(s[j]?).map fun b=>.int .u8 b.toNat
  |none=>none
 |_,_=>none
def qC(n:Nat):TV->Option Nat
 |.int _ i=>if 0<=i∧i<=n then some i.toNat else none
 |_=>none
def jl(n d:Nat):Option TV->Option Nat
 |none=>some d
 |some v=>qC n v
def qE(P:Program)(t:TypeId)(x:TV)(lo hi mx:Option TV):Option TV:=
 match P.underlying t,x with
 |some .string,.str s=>match mx with
  |some _=>none
  |none=>match jl s.size s.size hi with
   |some h=>match jl h 0 lo with
    |some l=>some (.str (s.extract l h))
    |none=>none
   |none=>none
 |some (.slice e),.slc b off len cap sz ex=>match dB P e with
  |some n=>
   if n=sz then
    match mx with
    |some m=>match qC cap m,hi with
     |some m,some h=>match qC (min m len) h with
      |some h=>match jl h 0 lo with
       |some l=>some (.slc b (off+l*n) (h-l) (m-l) sz true)
       |none=>none
      |none=>none
     |_,_=>none
    |none=>match jl len len hi with
     |some h=>match jl h 0 lo with
      |some l=>some (.slc b (off+l*n) (h-l) (cap-l) sz ex)
      |none=>none
     |none=>none
   else none
  |none=>none
 |some (.slice e),.nil .slc=>match dB P e,jl 0 0 mx,jl 0 0 hi,jl 0 0 lo with
  |some _,some _,some _,some _=>if mx.isSome&&hi.isNone then none else some (.nil .slc)
  |_,_,_,_=>none
 |_,_=>none
def qc(P:Program)(t:TypeId)(x:EV)(lo hi mx:Option TV):Option TV:=
 match P.underlying t,x with
 |some (.array n e),.val (.ptr b off lim)=>match dB P e with
  |some size=>
   if size=0∨lim<off+n*size∨2^24<n then none else
   match jl n n mx with
   |some m=>match jl m n hi with
    |some h=>match jl h 0 lo with
     |some l=>if mx.isSome&&hi.isNone then none else some (.slc b (off+l*size) (h-l) (m-l) size true)
     |none=>none
    |none=>none
   |none=>none
  |none=>none
 |_,_=>none
def fE(size:Nat)(h:List HB):TV->Option (Nat×List TV)
 |.nil .slc=>some (0,[])
 |.slc b off len cap sz _=>if sz=size then(if len=0 then some (0,[])else match lF h b (off+cap*sz)with|some cs=>(sub cs off (len*size)).map fun l=>(len,l)|none=>none)else none
 |.str s=>if size=1 then some (s.size,s.data.toList.map fun b=>.int .u8 b.toNat)else none
 |_=>none
def dF:TV->List Key
 |.slc b _ _ _ _ _=>[.h b]
 |_=>[]
def TF(P:Program)(t:TypeId):Bool:=
 match P.underlying t with
 |some (.int _)=>true
 |_=>false
def a4i(i:TypeInfo):Bool:=
 match i.zero with
 |some z=>z.cells.size==i.size
 |none=>false
def tH(P:Program)(e:TypeId)(n:Nat):Bool:=
 match P.info? e with
 |some i=>decide (n*i.bytes<=2^40)&&decide (n<=2^40)&&decide (i.bytes<=2^20)&&decide (0<i.bytes)&&a4i i
 |none=>false
def jQ(P:Program)(at_:Array TypeId)(s:St)(d x:TV):Option (TV×St×lD):=
 match at_[0]?,at_[1]? with
 |some st,some xt=>
  if TF P xt||(P.underlying xt).isNone then none else
  match jw P st with
  |some (e,size)=>match fE size s.heap x with
   |some (n,new)=>
    if n=0 then(match d with
     |.nil .slc=>some (d,s,gX (dF x))
     |.slc _ _ _ _ sz _=>if sz=size then some (d,s,gX (dF x))else none
     |_=>none)
    else if new.length=n*size then
     match d with
     |.nil .slc=>if tH P e n then some (.slc s.heap.length 0 n n size false,{ s with heap:=s.heap++[.cells .own new] },gX (dF x))else none
     |.slc b off len cap sz ex=>
      if sz=size then
       if len+n<=cap then
        (TB s.heap b (off+len*size) (off+cap*size) new).map fun h=>(.slc b off (len+n) cap sz ex,{ s with heap:=h },⟨false,.h b::dF x,[.h b]⟩)
       else if tH P e (len+n)then
        if ex then
         (fE size s.heap (.slc b off len cap sz ex)).map fun r=>(.slc s.heap.length 0 (len+n) (len+n) size false,{ s with heap:=s.heap++[.cells .own (r.2++new)] },gX (.h b::dF x))
        else match s.heap[b]? with
         |some (.cells k cs)=>
          if k=.ro∨off≠0∨len≠cap∨cs.length≠len*size∨len=0 then none
          else some (.slc b 0 (len+n) (len+n) size false,{ s with heap:=s.heap.set b (.cells k.more (cs++new))},⟨false,.h b::dF x,[.h b]⟩)
         |_=>none
       else none
      else none
     |_=>none
    else none
   |none=>none
  |none=>none
 |_,_=>none
def isStr:TV->Bool
 |.str _=>true
 |_=>false
def FX(P:Program)(at_:Array TypeId)(s:St)(d x:TV):Option (TV×St×lD):=
 match at_[0]? with
 |some st=>match jw P st with
  |some (_,size)=>match fE size s.heap x with
   |some (n,new)=>
    if new.length=n*size∧isStr x=false then
     match d with
     |.nil .slc=>some (.int .i64 0,s,gX (dF x))
     |.slc b off len cap sz _=>
      if sz=size then
       if min n len=0 then some (.int .i64 0,s,gX (dF x))
       else(TB s.heap b off (off+cap*size) (new.take (min n len*size))).map fun h=>(.int .i64 (min n len:Nat),{ s with heap:=h },⟨false,.h b::dF x,[.h b]⟩)
      else none
     |_=>none
    else none
   |none=>none
  |none=>none
 |none=>none
def Yl(P:Program)(at_:Array TypeId)(h:List HB)(x:TV):Option (TV×lD):=
 match at_[0]? with
 |some t=>match P.underlying t,x with
  |some .string,.str s=>some (.int .i64 s.size,cu)
  |some (.array n _),_=>some (.int .i64 n,cu)
  |some (.slice _),.slc _ _ len _ _ _=>some (.int .i64 len,cu)
  |some (.slice _),.nil .slc=>some (.int .i64 0,cu)
  |some (.map _ _),.nil .map=>some (.int .i64 0,cu)
  |some (.map _ _),.map r=>match h[r]? with
   |some (.map es)=>some (.int .i64 es.length,wS (.h r))
   |_=>none
  |_,_=>none
 |none=>none
def Bq:List TV->Option (List Value)
 | []=>some []
 |c::cs=>match c.yg,Bq cs with
  |some v,some vs=>some (v::vs)
  |_,_=>none
def Vy(P:Program)(kt:TypeId)(k:Value)(ks:List Value)(r:Option Nat):Bool:=
 match aB P (underlying kt)with
 |some kind=>(match r with|some j=>decide (j<ks.length)|none=>true)&&((ks.zipIdx.all fun(x,i)=>Instr.sameNow kind k x==some (some i==r)) ||
   (ks.zipIdx.all fun(x,i)=>Instr.sameNow kind k x==none&&aB P (Op.equal kt k x)==some (some i==r)))
 |none=>false
def Ep(P:Program)(kt:TypeId)(k:Value)(es:List (TV×TV)):Option (Option Nat):=
 match Bq (es.map (·.1))with
 |some ks=>match aB P (do Instr.checkKey es.isEmpty 10000 kt k;Instr.findKey kt k (ks.map fun x=>⟨x,.bool false,0⟩))with
  |some r=>if Vy P kt k ks (r.map (·.1))then some (r.map (·.1))else none
  |none=>none
 |none=>none
def Jz:TV->Option NK
 |.ptr _ _ _=>some .ptr
 |.slc _ _ _ _ _ _=>some .slc
 |.map _=>some .map
 |.fn _ _ _|.kC _=>some .fn
 |_=>none
def Ym:TV->Option NK
 |.nil k=>some k
 |_=>none
def JA(P:Program)(t:TypeId):Option NK:=
 match P.underlying t with
 |some (.pointer _)=>some .ptr
 |some (.slice _)=>some .slc
 |some (.map _ _)=>some .map
 |some (.func _ _ _)=>some .fn
 |_=>none
def BM(P:Program)(t:TypeId)(x y:TV):Bool:=
 match JA P t with
 |some k=>(Ym x==some k&&Jz y==some k)||(Jz x==some k&&Ym y==some k)
 |none=>false
def rY(P:Program)(op:BinOp)(t:TypeId)(x y:Operand)(a b:TV):Option TV:=
 match a.yg,b.yg with
 |some u,some v=>match aB P (do eqGuard op t x y u v;binOp op t u v)with
  |some r=>TV.Vr r
  |none=>none
 |_,_=>if BM P t a b then(match op with
  |.eql=>some (.bool false)
  |.neq=>some (.bool true)
  |_=>none)else none
def unT(P:Program)(op:UnOp)(a:TV):Option TV:=
 match a.yg with
 |some u=>match aB P (Op.unary op u)with
  |some r=>TV.Vr r
  |none=>none
 |none=>none
def Qy(P:Program)(src dst:TypeId)(a:TV):Option TV:=
 match a.yg with
 |some u=>match aB P (convert src dst u)with
  |some r=>TV.Vr r
  |none=>none
 |none=>none
def Dz(P:Program)(mx:Bool)(at_:Array TypeId)(t:TypeId)(az:List TV):Option TV:=
 match Bq az with
 |some vs=>match aB P (if mx then Builtin.max_ at_ t vs.toArray else Builtin.min_ at_ t vs.toArray)with
  |some r=>TV.Vr r
  |none=>none
 |none=>none
def MI(P:Program)(t:TypeId)(x:TV)(i:Nat):Option TV:=
 match P.underlying t,x with
 |some (.struct fs),.agg cs=>match fs[i]? with
  |some f=>tX P f.type cs f.offset
  |none=>none
 |_,_=>none
def qg(P:Program)(t:TypeId)(len:Nat)(s:St)(ps:List (Nat×TV)):Option (TV×St):=
 match jw P t with
 |some (e,n)=>if len*n<=2^24∧ps.all (fun p=>p.2.cells.all iQ)=true then
   match Jy P e with
   |some z=>if z.length=n then
     match rU (fun i=>some (i*n,n)) (times z len) ps with
     |some cs=>some (.slc s.heap.length 0 len len n true,{ s with heap:=s.heap++[.cells .own cs] })
     |none=>none
    else none
   |none=>none
  else none
 |none=>none
def a1T:TV->Option Nat
 |.int _ i=>if 0<=i∧i<=2^40 then some i.toNat else none
 |_=>none
def rZ(P:Program)(t:TypeId)(s:St)(l c:TV):Option (TV×St):=
 match jw P t,a1T l,a1T c with
 |some (e,n),some l,some c=>
  if l<=c∧tH P e c then
   match Jy P e with
   |some z=>if z.length=n then some (.slc s.heap.length 0 l c n true,{ s with heap:=s.heap++[.cells .own (times z c)] })else none
   |none=>none
  else none
 |_,_,_=>none
def gV(P:Program)(t:TypeId)(h:List HB)(m k:TV)(ok:Bool):Option TV:=
 match P.underlying t,k.yg with
 |some (.map kt e),some kv=>
  let es:=match m with
   |.nil .map=>some []
   |.map r=>match h[r]? with
    |some (.map es)=>some es
    |_=>none
   |_=>none
  match es with
  |some es=>match Ep P kt kv es with
   |some (some i)=>match es[i]? with
    |some (_,v)=>some (if ok then .dG [v,.bool true]else v)
    |none=>none
   |some none=>match P.info? e with
    |some i=>match i.zero with
     |some z=>(TV.Vr z).map fun z=>if ok then .dG [z,.bool false]else z
     |none=>none
    |none=>none
   |none=>none
  |none=>none
 |_,_=>none
def xq(P:Program)(t:TypeId)(s:St)(m k v:TV):Option (St×lD):=
 match P.underlying t,k.yg,m with
 |some (.map kt _),some kv,.map r=>match s.heap[r]?,aB P (Instr.checkKey false 10000 kt kv)with
  |some (.map es),some ()=>match Ep P kt kv es with
   |some (some i)=>match es[i]? with
    |some (old,_)=>match old.yg with
     |some ov=>if Instr.sameBits 10000 ov kv then some ({ s with heap:=s.heap.set r (.map (es.set i (k,v))) },oJ (.h r))else none
     |none=>none
    |none=>none
   |some none=>some ({ s with heap:=s.heap.set r (.map (es++[(k,v)])) },oJ (.h r))
   |none=>none
  |_,_=>none
 |_,_,_=>none
def zO(P:Program)(t:TypeId)(s:St)(m k:TV):Option (EV×St×lD):=
 match P.underlying t,k.yg,m with
 |some (.map kt e),some kv,.map r=>match s.heap[r]?,aB P (Instr.checkKey false 10000 kt kv)with
  |some (.map es),some ()=>match Ep P kt kv es with
   |some (some i)=>match es[i]? with
    |some (old,v)=>match old.yg with
     |some ov=>if Instr.sameBits 10000 ov kv then some (.ent r i v,{ s with heap:=s.heap.set r (.map (es.set i (k,v))) },oJ (.h r))else none
     |none=>none
    |none=>none
   |some none=>match P.info? e with
    |some i=>match i.zero with
     |some z=>match TV.Vr z with
      |some z=>some (.ent r es.length z,{ s with heap:=s.heap.set r (.map (es++[(k,z)])) },oJ (.h r))
      |none=>none
     |none=>none
    |none=>none
   |none=>none
  |_,_=>none
 |_,_,_=>none
def ZX(P:Program)(t:TypeId)(h h':List HB)(m k:TV):Bool:=
 match gV P t h m k false,gV P t h' m k false with
 |some (.int a x),some (.int b y)=>decide (a=b)&&x==y
 |_,_=>false
def BN(P:Program)(t:TypeId)(s:St)(m k:TV):Option (EV×St×lD):=
 match zO P t s m k with
 |some (e,s1,i)=>if ZX P t s.heap s1.heap m k then some (e,s1,i)else none
 |none=>none
def FY(s:St)(m:TV)(e:EV)(v:TV):Option (St×lD):=
 match m,e with
 |.map r,.Eh r' j=>if r=r' then match s.heap[r]? with
  |some (.map es)=>match es[j]? with
   |some (k,_)=>some ({ s with heap:=s.heap.set r (.map (es.set j (k,v))) },oJ (.h r))
   |none=>none
  |_=>none
  else none
 |_,_=>none
def yH(e:EV)(i:Nat):Option EV:=
 match e with
 |.val (.dG vs)=>(vs[i]?).map .val
 |.ent r j v=>match i with
  | 0=>some (.val v)
  | 1=>some (.Eh r j)
  |_=>none
 |_=>none
abbrev aZ:=TV->List TV->List HB->Option (TV×List HB×List Nat)
def qF(P:Program)(b:Builtin)(at_:Array TypeId)(t:TypeId)(s:St)(az:List TV):Option (TV×St×lD):=
 match b,az with
 |.len,[x]=>(Yl P at_ s.heap x).map fun(v,i)=>(v,s,i)
 |.append,[d,x]=>jQ P at_ s d x
 |.copy,[d,x]=>FX P at_ s d x
 |.min,az=>(Dz P false at_ t az).map fun v=>(v,s,cu)
 |.max,az=>(Dz P true at_ t az).map fun v=>(v,s,cu)
 |_,_=>none
def Vz(env:List (Nat×EV)):Option Operand->Option (Option TV)
 |none=>some none
 |some x=>match qA env x with
  |some v=>some (some v)
  |none=>none
def MJ(P:Program)(call:aZ)(s:St)(c:Call)(t:TypeId):Option (EV×St×lD):=
 match c.callee,TA s.env c.args.toList with
 |.builtin b,some az=>(qF P b c.argTypes t s az).map fun(v,s,i)=>(.val v,s,i)
 |.value f,some az=>match qA s.env f with
  |some fv=>match call fv az s.heap with
   |some (v,h,ws)=>some (.val v,{ s with heap:=h },⟨true,[],ws.map .h⟩)
   |none=>none
  |none=>none
 |_,_=>none
def oK(P:Program)(call:aZ)(site:Nat->Bool)(s:St)(o:Oper):Option (EV×St×lD):=
 match o.op with
 |.move x|.assign x=>(Ib s.env x).map fun v=>(v,s,cu)
 |.pick c a b=>match qA s.env c with
  |some (.bool t)=>(Ib s.env (if t then a else b)).map fun v=>(v,s,cu)
  |_=>none
 |.alloc e=>(Jy P e).map fun z=>let (v,s):=qB (site (o.dst.getD 0)) s z;(v,s,cu)
 |.box _ x=>match qA s.env x with
  |some v=>if v.cells.all iQ then let (v,s):=qB (site (o.dst.getD 0)) s v.cells;some (v,s,cu)else none
  |none=>none
 |.build t ps=>match Vx s.env ps.toList with
  |some ps=>(MH P t ps).map fun v=>(.val v,s,cu)
  |none=>none
 |.buildSlice t len ps=>match Vx s.env ps.toList with
  |some ps=>(qg P t len s ps).map fun(v,s)=>(.val v,s,cu)
  |none=>none
 |.load t a=>match Ib s.env a with
  |some a=>(loadT P t s a).map fun(v,i)=>(.val v,s,i)
  |none=>none
 |.store t a x=>match Ib s.env a,qA s.env x with
  |some a,some v=>(storeT P t s a v).map fun(s,i)=>(.undef,s,i)
  |_,_=>none
 |.nilCheck x=>match Ib s.env x with
  |some (.loc k o)=>some (.loc k o,s,cu)
  |some (.val (.ptr b o lim))=>some (.val (.ptr b o lim),s,cu)
  |some (.val (.fn f a b))=>some (.val (.fn f a b),s,cu)
  |some (.val (.kC l))=>some (.val (.kC l),s,cu)
  |_=>none
 |.binOp op t x y _=>match qA s.env x,qA s.env y with
  |some a,some b=>(rY P op t x y a b).map fun v=>(.val v,s,cu)
  |_,_=>none
 |.unOp op _ x=>match qA s.env x with
  |some a=>(unT P op a).map fun v=>(.val v,s,cu)
  |none=>none
 |.convert src dst x=>match qA s.env x with
  |some a=>(Qy P src dst a).map fun v=>(.val v,s,cu)
  |none=>none
 |.makeFunc (.func f) first cap=>match TA s.env first.toList,TA s.env cap.toList with
  |some a,some b=>some (.val (.fn f a b),s,cu)
  |_,_=>none
 |.makeMap t r=>match Vz s.env r,P.underlying t with
  |some none,_=>some (.val (.map s.heap.length),{ s with heap:=s.heap++[.map []] },cu)
  |some (some (.int _ _)),some (.map _ _)=>some (.val (.map s.heap.length),{ s with heap:=s.heap++[.map []] },cu)
  |_,_=>none
 |.makeSlice t l c=>match qA s.env l,qA s.env c with
  |some l,some c=>(rZ P t s l c).map fun(v,s)=>(.val v,s,cu)
  |_,_=>none
 |.slice t x lo hi mx=>match Ib s.env x,Vz s.env lo,Vz s.env hi,Vz s.env mx with
  |some x,some lo,some hi,some mx=>match P.underlying t,x with
   |some (.array _ _),x=>(qc P t x lo hi mx).map fun v=>(.val v,s,cu)
   |_,.val x=>(qE P t x lo hi mx).map fun v=>(.val v,s,cu)
   |_,_=>none
  |_,_,_,_=>none
 |.fieldAddr t x f=>match Ib s.env x,FW P t f with
  |some a,some n=>(Q7 n a).map fun v=>(v,s,cu)
  |_,_=>none
 |.field t x f=>match qA s.env x with
  |some a=>(MI P t a f).map fun v=>(.val v,s,cu)
  |none=>none
 |.indexAddr t x i=>match Ib s.env x,qA s.env i with
  |some a,some i=>(lG P t a i).map fun v=>(v,s,cu)
  |_,_=>none
 |.index t x i=>match qA s.env x,qA s.env i with
  |some a,some i=>(Ii P t a i).map fun v=>(.val v,s,cu)
  |_,_=>none
 |.lookup t m k ok=>match qA s.env m,qA s.env k with
  |some m,some k=>(gV P t s.heap m k ok).map fun v=>(.val v,s,gX (match m with|.map r=>[.h r] |_=>[]))
  |_,_=>none
 |.mapUpdate t m k x|.insert t m k x=>match qA s.env m,qA s.env k,qA s.env x with
  |some m,some k,some v=>(xq P t s m k v).map fun(s,i)=>(.undef,s,i)
  |_,_,_=>none
 |.mapEntry t m k=>match qA s.env m,qA s.env k with
  |some m,some k=>BN P t s m k
  |_,_=>none
 |.entryStore _ m e x=>match qA s.env m,Ib s.env e,qA s.env x with
  |some m,some e,some v=>(FY s m e v).map fun(s,i)=>(.undef,s,i)
  |_,_,_=>none
 |.extract t i=>match Ib s.env t with
  |some e=>(yH e i).map fun v=>(v,s,cu)
  |none=>none
 |.call c=>MJ P call s c o.type
 |.range t x=>match qA s.env x,P.underlying t with
  |some (.map r),some (.map _ _)=>match s.heap[r]? with
   |some (.map es)=>some (.val (.iter s.heap.length),{ s with heap:=s.heap++[.cZ r es.length []] },wS (.h r))
   |_=>none
  |_,_=>none
 |.entry x=>match qA s.env x with
  |some (.iter b)=>match s.heap[b]? with
   |some (.cZ r n (i::_))=>match s.heap[r]? with
    |some (.map es)=>if es.length=n then(es[i]?).map fun e=>(.val (.dG [e.1,e.2]),s,gX [.h b,.h r])else none
    |_=>none
   |_=>none
  |_=>none
 |_=>none
def BO(ops:Array Oper)(env:List (Nat×EV))(o:Oper):Option Bool:=
 match o.guard with
 |none=>some true
 |some (j,want)=>match(ops[j]?).bind (·.dst)with
  |some d=>match dK d env with
   |some (.val (.bool b))=>some (b==want)
   |some .undef=>some false
   |_=>none
  |none=>none
def ML(nt:Nat)(o:Oper):Bool:=
 match o.dst with
 |some d=>decide (d<nt)
 |none=>true
def kQ(P:Program)(call:aZ)(site:Nat->Bool)(fl nt:Nat)(ops:Array Oper):List Oper->St->Option (St×List lD)
 | [],s=>some (s,[])
 |o::os,s=>if !ML nt o then none else match BO ops s.env o with
  |some true=>match oK P call site s o with
   |some (v,s1,i)=>match kQ P call site fl nt ops os ({ s1 with ws:=jL fl i.ws s.ws }.put o.dst v)with
    |some (s,is)=>some (s,i::is)
    |none=>none
   |none=>none
  |some false=>match kQ P call site fl nt ops os (s.put o.dst .undef)with
   |some (s,is)=>some (s,cu::is)
   |none=>none
  |none=>none
def MO:List Nat->List Nat->List Nat
 | [],l=>l
 |x::xs,l=>MO xs (if l.contains x then l else x::l)
def ES(acc:List (List Nat))(o:Oper):List Nat:=
 o.after.toList.foldl (fun l e=>if Region.binds .any e then MO (e.on::acc.getD e.on []) l else l) []
def Es:List Oper->List (List Nat)->List (List Nat)
 | [],acc=>acc
 |o::os,acc=>Es os (acc++[ES acc o])
def Ij:Op->Bool
 |.store .. |.mapUpdate .. |.insert .. |.mapEntry .. |.entryStore ..=>true
 |.call { callee:=.builtin b,.. }=>match b with
  |.len|.min|.max=>false
  |_=>true
 |.call _=>true
 |_=>false
def MP:Op->Bool
 |.store .. |.mapUpdate .. |.insert .. |.mapEntry .. |.entryStore .. |.load .. |.lookup .. |.range .. |.entry ..=>true
 |.call { callee:=.builtin b,.. }=>match b with
  |.min|.max=>false
  |_=>true
 |.call _=>true
 |_=>false
def nR(ops:List Oper):List (Nat×Nat):=
 let pr:=Es ops []
 (List.range ops.length).flatMap fun j=>((List.range j).filter fun i=>!(pr.getD j []).contains i).map fun i=>(i,j)
def mZ(ops:List Oper):Bool:=
 (ops.zipIdx.all fun(o,i)=>o.after.all fun e=>!Region.binds .any e||decide (e.on<i)) &&
 (nR ops).all fun(i,j)=>match ops[i]?,ops[j]? with
  |some a,some b=>a.apart ops.toArray b&&b.apart ops.toArray a
  |_,_=>false
def AY(a b:Oper):Bool:=match a.op,b.op,a.guard,b.guard with
 |.lookup t (.tmp m) (.tmp k) false,.mapEntry t' (.tmp m') (.tmp k'),none,none=>t==t'&&m==m'&&k==k'
 |_,_,_,_=>false
def lU(ops:List Oper):List (Nat×Nat):=
 (nR ops).filter fun(i,j)=>match ops[i]?,ops[j]? with
  |some a,some b=>((Ij a.op&&MP b.op)||(MP a.op&&Ij b.op))&&!AY a b
  |_,_=>false
def Key.isH:Key->Bool
 |.h _=>true
 |.l _=>false
def MQ(ws:List Key)(b:lD):Bool:=
 ws.all fun k=>!(b.all&&k.isH)&&!b.ts.contains k&&!b.ws.contains k
def calm(a b:lD):Bool:=MQ a.ws b&&MQ b.ws a
def AZ(wU:List lD):List (Nat×Nat)->Bool
 | []=>true
 |(i,j)::r=>(match wU[i]?,wU[j]? with
  |some a,some b=>calm a b
  |_,_=>false)&&AZ wU r
inductive Ex where
 |norm|exit (id:Nat)|ret
structure FnT where
 nt:Nat
 body:Code
 results:List ResultVar
def TG(P:Program)(f:Nat):Option FnT:=
 match P.funcs[f]? with
 | some fn => if fn.name == "runtime.NumGoroutine" then none else match fn.body with
  |some b=>some ⟨fn.ntmps,b,fn.results.toList⟩
  |none=>none
 |none=>none
structure qp where
 live:List (Nat×List (Nat×List Nat))
 head:List (Nat×List (Nat×List Nat))
 site:List (Nat×List Nat)
 exts:List Nat:=[]
 ext:TV->List TV->List HB->Option (TV×List HB×List Nat):=fun _ _ _=>none
 ZY:List Nat:=[]
 din:List Nat:=[]
 a8I:List Nat:=[]
def Qz{α:Type}(k:Nat):List (Nat×List α)->List α
 | []=>[]
 |(j,l)::r=>if j=k then l else Qz k r
def qp.iw(T:qp)(f id:Nat):List Nat:=Qz id (Qz f T.live)
def qp.eP(T:qp)(f id:Nat):List Nat:=Qz id (Qz f T.head)
def qp.TI(T:qp)(f d:Nat):Bool:=(Qz f T.site).contains d
def BP:List (Nat×EV)->Nat
 | []=>0
 |(_,.loc k _)::r=>max (k+1) (BP r)
 |_::r=>BP r
def jM(live:List Nat)(s:St):St:=
 let env:=pick live s.env
 { s with env:=env,loc:=s.loc.take (BP env) }
def dR:Code->Nat
 |.region id _ _=>id
 |.seq a _=>dR a
 |.block _ b=>dR b
 |.loop b=>dR b
 |.scope b=>dR b
 |_=>0
def iter(g:St->Option (Ex×St)):Nat->St->Option (Ex×St)
 | 0,_=>none
 |n+1,s=>match g s with
  |some (.norm,s)=>iter g n s
  |r=>r
def isVal:Nat×EV->Bool
 |(_,.loc _ _)|(_,.ent _ _ _)|(_,.Eh _ _)=>false
 |_=>true
def QA:Bool->Option Code->Option Ex
 |true,none=>some .norm
 |false,some .ret=>some .ret
 |false,some (.exit id)=>some (.exit id)
 |_,_=>none
def exec(P:Program)(T:qp)(call:aZ)(L:Nat)(f:Nat)(gU:Bool)(fl nt:Nat):Code->St->Option (Ex×St)
 |.skip,s=>some (.norm,s)
 |.label _,s=>some (.norm,s)
 |.region id ops draw,s=>match kQ P call (fun d=>gU||T.TI f d) fl nt ops ops.toList s with
  |some (s,wU)=>if !draw||(mZ ops.toList&&AZ wU (lU ops.toList))then some (.norm,{ s with env:=pick (T.iw f id) s.env })else none
  |none=>none
 |.seq a b,s=>match exec P T call L f gU fl nt a s with
  |some (.norm,s)=>exec P T call L f gU fl nt b s
  |r=>r
 |.cond c a b,s=>match qA s.env c with
  |some (.bool true)=>exec P T call L f gU fl nt a s
  |some (.bool false)=>exec P T call L f gU fl nt b s
  |_=>none
 |.block id b,s=>match exec P T call L f gU fl nt b s with
  |some (.exit i,s)=>some (if i=id then .norm else .exit i,s)
  |r=>r
 |.scope b,s=>exec P T call L f gU fl nt b s
 |.loop b,s=>iter (fun s=>exec P T call L f gU fl nt b (jM (T.eP f (dR b)) s)) L s
 |.exit id,s=>some (.exit id,s)
 |.ret,s=>some (.ret,s)
 |.rangeFunc g ps assign body,s=>match qA s.env g with
  |some (.fn f1 a1 b1)=>
   if s.env.all isVal&&!gU then
    match call (.fn f1 a1 b1) [.kC (s.heap.length+1)] (s.heap++[.mark,.loop true f nt s.env ps.toList assign body none])with
    |some (_,h,ws)=>match h[s.heap.length+1]? with
     |some (.loop rd f2 Q8 e2 BQ a2 b2 jC)=>match QA rd jC with
      |some e=>some (e,{ s with heap:=h.set (s.heap.length+1) (.loop false f2 Q8 e2 BQ a2 b2 (some .skip)),ws:=jL fl (ws.map .h) s.ws })
      |none=>none
     |_=>none
    |none=>none
   else none
  |_=>none
 |_,_=>none
def a4j(P:Program)(s:St):ResultVar->Option TV
 |.tmp t=>match dK t s.env with
  |some (.val v)=>some v
  |_=>none
 |.cell a t=>match dK a s.env with
  |some a=>(loadT P t s a).map (·.1)
  |none=>none
def xC(P:Program)(s:St):List ResultVar->Option (List TV)
 | []=>some []
 |r::rs=>match a4j P s r,xC P s rs with
  |some v,some vs=>some (v::vs)
  |_,_=>none
def one:List TV->TV
 | [v]=>v
 |vs=>.dG vs
def ng:Nat->List TV->List (Nat×EV)
 |_,[]=>[]
 |k,v::vs=>(k,.val v)::ng (k+1) vs
def su(env:List (Nat×EV)):List Nat->List TV->List (Nat×EV)
 |p::ps,v::vs=>su ((p,.val v)::env) ps vs
 |_,_=>env
def amC(P:Program)(T:qp)(call:aZ)(L:Nat)(f:Nat)(args:List TV)(h:List HB):Option (TV×List HB×List Nat):=
 match TG P f with
 |some t=>match exec P T call L f false h.length t.nt t.body ⟨ng 0 args,[],h,[]⟩with
  |some (.norm,s)|some (.ret,s)=>match xC P s t.results with
   |some vs=>if s.ws.isEmpty&&(one vs).flat then some (one vs,h,[])else some (one vs,s.heap,s.ws)
   |none=>none
  |_=>none
 |none=>none
def sD:Ex->Option Code
 |.norm=>none
 |.ret=>some .ret
 |.exit id=>some (.exit id)
def oL:Ex->Bool
 |.norm=>true
 |_=>false
def MR(P:Program)(T:qp)(call:aZ)(L:Nat)(l:Nat)(args:List TV)(h:List HB):Option (TV×List HB×List Nat):=
 match h[l]? with
 |some (.loop true f nt env ps assign body _)=>
  if args.length=ps.length∧ps.all (fun p=>decide (p<nt))then
   match exec P T call L f true h.length nt assign ⟨su env ps args,[],h,[]⟩with
   |some (.norm,s)=>match s.heap[l]? with
    |some (.loop true f' nt' env' ps' a' b' _)=>
     match exec P T call L f true h.length nt body { s with heap:=s.heap.set l (.loop false f' nt' env' ps' a' b' none),ws:=Ei h.length l s.ws }with
     |some (e,s)=>match s.heap[l]? with
      |some (.loop false f' nt' env' ps' a' b' none)=>some (.bool (oL e),s.heap.set l (.loop (oL e) f' nt' env' ps' a' b' (sD e)),Ei h.length l s.ws)
      |_=>none
     |none=>none
    |_=>none
   |_=>none
  else none
 |_=>none
def ap(P:Program)(T:qp)(L:Nat):Nat->aZ
 | 0,_,_,_=>none
 |n+1,.fn f first cap,args,h=>amC P T (ap P T L n) L f (first++args++cap) h
 |n+1,.kC l,args,h=>MR P T (ap P T L n) L l args h
 |_,_,_,_=>none
def run(P:Program)(T:qp)(L n f:Nat)(args:List TV)(h:List HB):Option (TV×List HB×List Nat):=ap P T L n (.fn f [] []) args h
structure Pl where
 c:Nat
 base:Nat
 ext:Nat
 tot:Nat
inductive Lc where
 |cells (ls:List Pl)
 |obj (r:Nat) (o:List Nat)
abbrev Mp:=Key->Option Lc
abbrev Np:=Nat->Option Lc
def Mp.h(M:Mp):Np:=fun b=>M (.h b)
inductive VR(M:Np):TV->Value->Prop
 |bool (b:Bool):VR M (.bool b) (.bool b)
 |int (k:IntKind) (n:Int):VR M (.int k n) (.int k n)
 |str (s:ByteArray):VR M (.str s) (.string s)
 |a1U:VR M (.nil .ptr) (.pointer none)
 |TJ:VR M (.nil .slc) (.slice none 0 0)
 |Yn:VR M (.nil .map) (.map none)
 |nfn:VR M (.nil .fn) .nilFunc
 |a1V:VR M (.nil .ifc) .nilIface
 |ptr {b off lim:Nat} {ls:List Pl} {p:Pl} (hb:M b=some (.cells ls)) (hp:p∈ls) (h:lim<=p.ext) (ht:p.base+lim<=p.tot) :
   VR M (.ptr b off lim) (.pointer (some ⟨p.c,p.base+off,none⟩))
 |slc {b off len cap sz:Nat} {ex:Bool} {ls:List Pl} {p:Pl} {a:Addr} {cap':Nat} (hb:M b=some (.cells ls)) (hp:cap'=0∨p∈ls)
   (h:off+cap*sz<=p.ext) (hl:len<=cap) (hc:cap<=cap') (hx:ex=true->cap'=cap)
   (ha:cap'=0∨(a=⟨p.c,p.base+off,none⟩∧p.base+off+cap'*sz<=p.tot)) (hk:cap'<2^63) :
   VR M (.slc b off len cap sz ex) (.slice (some a) len cap')
 |map {r r':Nat} {o:List Nat} (h:M r=some (.obj r' o)):VR M (.map r) (.map (some r'))
 |kC {l l':Nat} {o:List Nat} (h:M l=some (.obj l' o)):VR M (.kC l) (.func (.yield l') #[] #[])
 |iter {l l':Nat} {o:List Nat} (h:M l=some (.obj l' o)):VR M (.iter l) (.pointer (some ⟨l',0,none⟩))
 |fn {f:FuncId} {az bs:List TV} {xs ys:List Value} (h1:az.length=xs.length) (h2:∀(i:Nat) (c:TV) (v:Value),az[i]? = some c->xs[i]? = some v->VR M c v)
   (h3:bs.length=ys.length) (h4:∀(i:Nat) (c:TV) (v:Value),bs[i]? = some c->ys[i]? = some v->VR M c v):VR M (.fn f az bs) (.func (.func f) xs.toArray ys.toArray)
 |agg {az:List TV} {xs:List Value} (h1:az.length=xs.length) (h2:∀(i:Nat) (c:TV) (v:Value),az[i]? = some c->xs[i]? = some v->VR M c v):VR M (.agg az) (.agg xs.toArray)
 |dG {az:List TV} {xs:List Value} (h1:az.length=xs.length) (h2:∀(i:Nat) (c:TV) (v:Value),az[i]? = some c->xs[i]? = some v->VR M c v):VR M (.dG az) (.tuple xs.toArray)
structure bV(M:Np)(az:List TV)(xs:List Value):Prop where
 len:az.length=xs.length
 at_:∀(i:Nat) (c:TV) (v:Value),az[i]? = some c->xs[i]? = some v->VR M c v
theorem VR.agg'{M:Np}{az:List TV}{xs:List Value}(h:bV M az xs):VR M (.agg az) (.agg xs.toArray):=.agg h.len h.at_
theorem VR.Q9{M:Np}{az:List TV}{xs:List Value}(h:bV M az xs):VR M (.dG az) (.tuple xs.toArray):=.dG h.len h.at_
theorem bV.nil{M:Np}:bV M [] []:=⟨rfl,fun i c v h=>by simp at h⟩
theorem bV.cons{M:Np}{c:TV}{v:Value}{az:List TV}{xs:List Value}(h:VR M c v)(hs:bV M az xs):bV M (c::az) (v::xs):=
 ⟨by simp[hs.len],fun i c' v' h1 h2=>by
  cases i with
  |zero=>simp at h1 h2;subst h1;subst h2;exact h
  |succ i=>simp at h1 h2;exact hs.at_ i _ _ h1 h2⟩
theorem bV.pq{M:Np}{xs:List Value}(h:bV M [] xs):xs=[]:=by
 have:=h.len;simp at this;exact a3W this.symm
theorem bV.iK{M:Np}{c:TV}{az:List TV}{xs:List Value}(h:bV M (c::az) xs):∃v vs,xs=v::vs∧VR M c v∧bV M az vs:=by
 cases xs with
 |nil=>have:=h.len;simp at this
 |cons v vs=>exact⟨v,vs,rfl,h.at_ 0 c v rfl rfl,⟨by have:=h.len;simpa using this,fun i c' v' h1 h2=>h.at_ (i+1) c' v' (by simpa using h1) (by simpa using h2)⟩⟩
theorem bV.append{M:Np}{az bs:List TV}{xs ys:List Value}(h:bV M az xs)(h':bV M bs ys):bV M (az++bs) (xs++ys):=by
 induction az generalizing xs with
 |nil=>have:=h.pq;subst this;simpa using h'
 |cons c az ih=>
  obtain⟨v,vs,rfl,hv,hvs⟩:=h.iK;exact .cons hv (ih hvs)
theorem bV.take{M:Np}{az:List TV}{xs:List Value}(h:bV M az xs)(n:Nat):bV M (az.take n) (xs.take n):=
 ⟨by simp[h.len],fun i c v h1 h2=>by
  rw[a4d]at h1 h2;split at h1
  .rename_i hi;rw[a0h hi]at h2;exact h.at_ i c v h1 h2
  .simp at h1⟩
theorem bV.drop{M:Np}{az:List TV}{xs:List Value}(h:bV M az xs)(n:Nat):bV M (az.drop n) (xs.drop n):=
 ⟨by simp[h.len],fun i c v h1 h2=>by
  rw[a4b]at h1 h2;exact h.at_ _ c v h1 h2⟩
theorem bV.get{M:Np}{az:List TV}{xs:List Value}(h:bV M az xs){i:Nat}{c:TV}(hc:az[i]? = some c):∃v,xs[i]? = some v∧VR M c v:=by
 have hi:i<az.length:=(a04.1 hc).1;have wV:i<xs.length:=by rw[<-h.len];exact hi
 exact⟨xs[i],by simp[wV],h.at_ i c _ hc (by simp[wV])⟩
def KA:Lc->Lc->Prop
 |.cells ls,.cells xE=>∀p∈ls,∃q∈xE,q.c=p.c∧q.base=p.base∧p.ext<=q.ext∧q.tot=p.tot
 |.obj r o,.obj r' o'=>r=r'∧o <+: o'
 |_,_=>False
def rV{α:Type}(M M':α->Option Lc):Prop:=∀k l,M k=some l->∃l',M' k=some l'∧KA l l'
theorem KA.refl(l:Lc):KA l l:=by
 cases l with
 |cells ls=>exact fun p hp=>⟨p,hp,rfl,rfl,a15 _,rfl⟩
 |obj r o=>exact⟨rfl,agz o⟩
theorem KA.trans{a b c:Lc}(h:KA a b)(h':KA b c):KA a c:=by
 cases a<;>cases b<;>cases c<;>simp only[KA]at *
 .intro p hp;obtain⟨q,hq,h1,h2,h3,h4⟩:=h p hp;obtain⟨r,hr,g1,g2,g3,g4⟩:=h' q hq;exact⟨r,hr,g1.trans h1,g2.trans h2,a4A h3 g3,g4.trans h4⟩
 exact⟨h.1.trans h'.1,h.2.trans h'.2⟩
theorem rV.refl{α:Type}(M:α->Option Lc):rV M M:=fun _ l h=>⟨l,h,.refl l⟩
theorem rV.trans{α:Type}{a b c:α->Option Lc}(h:rV a b)(h':rV b c):rV a c:=fun k l hl=>
 let ⟨l',h1,h2⟩:=h k l hl
 let ⟨l'',g1,g2⟩:=h' k l' h1
 ⟨l'',g1,h2.trans g2⟩
theorem rV.h{M M':Mp}(hm:rV M M'):rV M.h M'.h:=fun b l hl=>hm (.h b) l hl
theorem VR.mono{M M':Np}(hm:rV M M'){v:TV}{x:Value}(h:VR M v x):VR M' v x:=by
 induction h with
 |bool b=>exact .bool b
 |int k n=>exact .int k n
 |str s=>exact .str s
 |a1U=>exact .a1U
 |TJ=>exact .TJ
 |Yn=>exact .Yn
 |nfn=>exact .nfn
 |a1V=>exact .a1V
 |ptr hb hp h ht=>
  obtain⟨l',h1,h2⟩:=hm _ _ hb;cases l' with
  |obj r _=>exact h2.elim
  |cells xE=>
   obtain⟨q,hq,e1,e2,e3,e4⟩:=h2 _ hp;rw[<-e1,<-e2];exact .ptr h1 hq (a4A h e3) (by rw[e2,e4];exact ht)
 |slc hb hp h hl hc hx ha hk=>
  obtain⟨l',h1,h2⟩:=hm _ _ hb;cases l' with
  |obj r _=>exact h2.elim
  |cells xE=>
   rcases hp with hp|hp
   .exact .slc h1 (.inl hp) h hl hc hx (.inl hp) hk
   obtain⟨q,hq,e1,e2,e3,e4⟩:=h2 _ hp;exact .slc h1 (.inr hq) (a4A h e3) hl hc hx (by rw[e1,e2,e4];exact ha) hk
 |map h=>
  obtain⟨l',h1,h2⟩:=hm _ _ h;cases l' with
  |obj r _=>cases h2.1;exact .map h1
  |cells xE=>exact h2.elim
 |kC h=>
  obtain⟨l',h1,h2⟩:=hm _ _ h;cases l' with
  |obj r _=>cases h2.1;exact .kC h1
  |cells xE=>exact h2.elim
 |iter h=>
  obtain⟨l',h1,h2⟩:=hm _ _ h;cases l' with
  |obj r _=>cases h2.1;exact .iter h1
  |cells xE=>exact h2.elim
 |fn h1 _ h3 _ ih2 ih4=>exact .fn h1 ih2 h3 ih4
 |agg h1 _ ih=>exact .agg h1 ih
 |dG h1 _ ih=>exact .dG h1 ih
theorem bV.mono{M M':Np}(hm:rV M M'){az:List TV}{xs:List Value}(h:bV M az xs):bV M' az xs:=
 ⟨h.len,fun i c v h1 h2=>(h.at_ i c v h1 h2).mono hm⟩
theorem a4m{M:Np}{v:TV}{x y:Value}(h:v.toC=some x)(hy:VR M v y):y=x:=by
 cases hy<;>simp[TV.toC]at h<;>first|exact h|exact h.symm|skip
theorem a01{M:Np}:∀{az:List TV} {xs ys:List Value},TV.Tz az=some xs->bV M az ys->ys=xs
 | [],xs,ys,h,hy=>by simp[TV.Tz]at h;subst h;exact hy.pq
 |c::az,xs,ys,h,hy=>by
  simp only[TV.Tz]at h;split at h
  .rename_i v vs h1 h2;simp at h;subst h;obtain⟨w,ws,rfl,hw,Yo⟩:=hy.iK;rw[a4m h1 hw,a01 h2 Yo]
  simp at h
theorem vN{M:Np}{v:TV}{x y:Value}(h:v.yg=some x)(hy:VR M v y):y=x:=by
 unfold TV.yg at h;split at h
 .simp only[a09]at h;obtain⟨vs,h1,rfl⟩:=h;cases hy with
  |agg g1 g2=>rw[a01 h1 ⟨g1,g2⟩]
 exact a4m h hy
theorem VR.a4n{M:Np}{v:TV}{x:Value}(h:TV.ZW x=some v):VR M v x:=by
 unfold TV.ZW at h;split at h<;>simp at h<;>subst h<;>constructor
theorem bV.a02{M:Np}:∀{xs:List Value} {az:List TV},TV.BJ xs=some az->bV M az xs
 | [],az,h=>by simp[TV.BJ]at h;subst h;exact .nil
 |x::xs,az,h=>by
  simp only[TV.BJ]at h;split at h
  .rename_i v vs h1 h2;simp at h;subst h;exact .cons (.a4n h1) (bV.a02 h2)
  simp at h
theorem VR.yh{M:Np}{v:TV}{x:Value}(h:TV.Vr x=some v):VR M v x:=by
 unfold TV.Vr at h;split at h
 .rename_i cs;simp only[a09]at h;obtain⟨vs,h1,rfl⟩:=h;have:=VR.agg' (bV.a02 (M:=M) h1);simpa using this
 exact .a4n h
theorem VR.cells{M:Np}{v:TV}{x:Value}(h:VR M v x):bV M v.cells x.cells.toList:=by
 cases h with
 |agg h1 h2=>exact⟨by simpa[TV.cells,Value.cells]using h1,by simpa[TV.cells,Value.cells]using h2⟩
 |_=>exact .cons (by first|assumption|constructor<;>assumption) .nil
theorem iV{α:Type}{P:Program}:∀{s:Sem α} {a:α},aB P s=some a->∀w,s.run P w=.ok a w
 |.pure b,a,h,w=>by simp[aB]at h;simp[Sem.run,h]
 |.program k,a,h,w=>by simp only[aB]at h;simp only[Sem.run];exact iV h w
 |.mark _ k,a,h,w=>by simp only[aB]at h;simp only[Sem.run];exact iV h w
 |.load ..,a,h,w=>by simp[aB]at h
 |.store ..,a,h,w=>by simp[aB]at h
 |.new ..,a,h,w=>by simp[aB]at h
 |.shape ..,a,h,w=>by simp[aB]at h
 |.freeze ..,a,h,w=>by simp[aB]at h
 |.frozen ..,a,h,w=>by simp[aB]at h
 |.getObj ..,a,h,w=>by simp[aB]at h
 |.setObj ..,a,h,w=>by simp[aB]at h
 |.choose ..,a,h,w=>by simp[aB]at h
 |.sys ..,a,h,w=>by simp[aB]at h
 |.halt ..,a,h,w=>by simp[aB]at h
def wr:HB->Bool
 |.cells .ro _=>false
 |.mark=>false
 |_=>true
def aI:Lc->List Nat
 |.cells ls=>ls.map (·.c)
 |.obj r _=>[r]
structure MS(N:Np)(w:World)(k:BK)(cs:List TV)(p:Pl):Prop where
 row:∃(arr:Array Value) (ty:TypeId) (fz:Nat×Nat),w.heap[p.c]? = some (.cells arr ty fz)∧arr.size=p.tot∧(k≠.ro->fz=(0,0)) ∧
  ((k=.last->p.ext=cs.length)->∀(i:Nat) (c:TV) (v:Value),i<p.ext->cs[i]? = some c->arr[p.base+i]? = some v->VR N c v)
 fit:p.base+p.ext<=p.tot
 ext:p.ext<=cs.length
 base:k≠.ro->p.base=0
inductive ER(M:Mp):EV->Value->Prop
 |val {v:TV} {x:Value} (h:VR M.h v x):ER M (.val v) x
 |loc {k off:Nat} {p:Pl} (h:M (.l k)=some (.cells [p])) (hb:p.base=0):ER M (.loc k off) (.pointer (some ⟨p.c,off,none⟩))
 |undef:ER M .undef Go.undef
 |ent {r j:Nat} {v:TV} {r1 i:Nat} {o:List Nat} {x:Value} (h:M (.h r)=some (.obj r1 o)) (hi:o[i]? = some j) (hv:VR M.h v x):ER M (.ent r j v) (.tuple #[x,Go.goInt i])
 |Eh {r j r1 i:Nat} {o:List Nat} (h:M (.h r)=some (.obj r1 o)) (hi:o[i]? = some j):ER M (.Eh r j) (Go.goInt i)
theorem ER.uV{M:Mp}{v:TV}{x:Value}(h:ER M (.val v) x):VR M.h v x:=by cases h;assumption
def jJ(M:Mp)(env:List (Nat×EV))(tmps:Array Value):Prop:=∀t e,dK t env=some e->ER M e (tmps.getD t Go.undef)
structure a8J(N:Np)(rd:Bool)(f nt:Nat)(env:List (Nat×EV))(ps:List Nat)(a b:Code)(jC:Option Code)(lp:Loop):Prop where
 ps:lp.params.toList=ps
 uD:lp.assign=a
 body:lp.body=b
 size:nt<=lp.tmps.size
 KC:∀t v,dK t env=some (.val v)->VR N v (lp.tmps.getD t Go.undef)
 TK:∀t,dK t env=some .undef->lp.tmps.getD t Go.undef=Go.undef
 nol:∀t e,dK t env=some e->isVal (t,e)=true
 ready:rd=true->lp.state=.ready∧lp.pending=none
 busy:rd=false->jC=none->lp.state=.busy
 done:rd=false->∀j,jC=some j->j≠.skip->lp.state=.done∧lp.pending=some j
structure vO(N:Np)(o:List Nat)(es:List (TV×TV))(xs:Array MapEntry):Prop where
 len:es.length=xs.size
 ord:o.length=xs.size
 nod:o.Nodup
 sur:∀j,j<es.length->j∈o
 at_:∀(i:Nat) (x:MapEntry),xs[i]? = some x->x.born=i∧∃j e,o[i]? = some j∧es[j]? = some e∧VR N e.1 x.key∧VR N e.2 x.val
def ah0(N:Np)(w:World)(es:List (TV×TV))(r:Nat)(o:List Nat):Prop:=
 ∃xs:Array MapEntry,w.heap[r]? = some (.map xs xs.size)∧vO N o es xs
theorem vO.mono{N N':Np}{o:List Nat}{es:List (TV×TV)}{xs:Array MapEntry}(hm:rV N N')(h:vO N o es xs):vO N' o es xs:=
 ⟨h.len,h.ord,h.nod,h.sur,fun i x hx=>let ⟨b,j,e,h1,h2,h3,h4⟩:=h.at_ i x hx;⟨b,j,e,h1,h2,h3.mono hm,h4.mono hm⟩⟩
def lH(N:Np)(w:World)(k:BK)(cs:List TV)(ls:List Pl):Prop:=
 (∀c∈cs,iQ c=true)∧(∀p∈ls,MS N w k cs p)∧(k=.own->∃p,ls=[p]∧p.ext=cs.length) ∧
   ((k=.grow∨k=.last)->(ls.map (·.c)).Nodup∧∀p∈ls,∀q∈ls,p.ext=cs.length->q.ext=cs.length->p=q)
def oP(N:Np)(w:World):HB->Lc->Prop
 |.cells k cs,.cells ls=>lH N w k cs ls
 |.lZ cs,.cells ls=>∃cs',cs'.Perm cs∧lH N w .last cs' ls
 |.map es,.obj r o=>ah0 N w es r o
 |.mark,.obj r _=>r<w.heap.size
 |.cZ m n seen,.obj r _=>∃(b:Nat) (o:List Nat) (sa:Array Nat),N m=some (.obj b o)∧w.heap[r]? = some (.mapIter (some b) n sa n)∧n<=o.length∧sa.toList.map (fun i=>o[i]?)=seen.reverse.map some
 |.loop rd f nt env ps a b jC,.obj r _=>∃lp,w.heap[r]? = some (.loop lp)∧a8J N rd f nt env ps a b jC lp
 |_,_=>False
theorem MS.mono{N N':Np}{w w':World}{k:BK}{cs:List TV}{p:Pl}(hm:rV N N')(hw:w'.heap[p.c]? = w.heap[p.c]?)(h:MS N w k cs p):MS N' w' k cs p:=
 ⟨let ⟨arr,ty,fz,h1,h2,h3,h4⟩:=h.row;⟨arr,ty,fz,hw.trans h1,h2,h3,fun z i c v a b d=>(h4 z i c v a b d).mono hm⟩,h.fit,h.ext,h.base⟩
theorem a8J.mono{N N':Np}{rd:Bool}{f nt:Nat}{env:List (Nat×EV)}{ps:List Nat}{a b:Code}{jC:Option Code}{lp:Loop}(hm:rV N N')(h:a8J N rd f nt env ps a b jC lp):a8J N' rd f nt env ps a b jC lp:=
 { h with KC:=fun t v e=>(h.KC t v e).mono hm }
theorem lH.mono{N N':Np}{w w':World}{k:BK}{cs:List TV}{ls:List Pl}(hm:rV N N')(hw:∀p∈ls,w'.heap[p.c]? = w.heap[p.c]?)(h:lH N w k cs ls):lH N' w' k cs ls:=
 ⟨h.1,fun p hp=>(h.2.1 p hp).mono hm (hw p hp),h.2.2⟩
theorem oP.mono{N N':Np}{w w':World}{b:HB}{l:Lc}(hm:rV N N')(hw:∀c∈aI l,w'.heap[c]? = w.heap[c]?)(h:oP N w b l):oP N' w' b l:=by
 cases b with
 |cells k cs=>
  cases l with
  |obj r _=>exact h.elim
  |cells ls=>exact lH.mono hm (fun p hp=>hw p.c (a1f.2 ⟨p,hp,rfl⟩)) h
 |lZ cs=>
  cases l with
  |obj r _=>exact h.elim
  |cells ls=>
   obtain⟨cs',h1,h2⟩:=h;exact⟨cs',h1,h2.mono hm fun p hp=>hw p.c (a1f.2 ⟨p,hp,rfl⟩)⟩
 |map es=>
  cases l with
  |cells ls=>exact h.elim
  |obj r _=>
   obtain⟨xs,h1,h2⟩:=h;exact⟨xs,(hw r (by simp[aI])).trans h1,h2.mono hm⟩
 |mark=>
  cases l with
  |cells ls=>exact h.elim
  |obj r _=>
   have h':r<w.heap.size:=h;have:=hw r (by simp[aI]);rw[a3T h']at this;exact(a2D.1 this).1
 |cZ m n seen=>
  cases l with
  |cells ls=>exact h.elim
  |obj r _=>
   obtain⟨b,o,sa,h1,h2,h3,h4⟩:=h;obtain⟨l',g1,g2⟩:=hm _ _ h1;cases l' with
   |cells xE=>exact g2.elim
   |obj b' o'=>
    obtain⟨rfl,g3⟩:=g2;refine⟨b,o',sa,g1,(hw r (by simp[aI])).trans h2,a4A h3 g3.length_le,?_⟩;rw[<-h4];refine a6m fun i hi=>?_;have:o[i]?∈sa.toList.map (fun i=>o[i]?):=a1f.2 ⟨i,hi,rfl⟩;rw[h4]at this;obtain⟨j,_,hj⟩:=a1f.1 this;have aS:=(a04.1 hj.symm).1;obtain⟨t,rfl⟩:=g3;rw[a0e aS]
 |loop rd f nt env ps a b jC=>
  cases l with
  |cells ls=>exact h.elim
  |obj r _=>
   obtain⟨lp,h1,h2⟩:=h;exact⟨lp,(hw r (by simp[aI])).trans h1,h2.mono hm⟩
theorem oP.inb{N:Np}{w:World}{b:HB}{l:Lc}(h:oP N w b l):∀c∈aI l,c<w.heap.size:=by
 intro c hc;cases b with
 |cells k cs=>
  cases l with
  |obj r _=>exact h.elim
  |cells ls=>
   obtain⟨p,hp,rfl⟩:=a1f.1 hc;obtain⟨arr,ty,fz,h1,_⟩:=(h.2.1 p hp).row;exact(a2D.1 h1).1
 |lZ cs=>
  cases l with
  |obj r _=>exact h.elim
  |cells ls=>
   obtain⟨p,hp,rfl⟩:=a1f.1 hc;obtain⟨cs',_,h⟩:=h;obtain⟨arr,ty,fz,h1,_⟩:=(h.2.1 p hp).row;exact(a2D.1 h1).1
 |map es=>
  cases l with
  |cells ls=>exact h.elim
  |obj r _=>
   obtain⟨xs,h1,_⟩:=h;simp[aI]at hc;subst hc;exact(a2D.1 h1).1
 |mark=>
  cases l with
  |cells ls=>exact h.elim
  |obj r _=>
   simp[aI]at hc;subst hc;exact h
 |cZ m n seen=>
  cases l with
  |cells ls=>exact h.elim
  |obj r _=>
   obtain⟨b,o,sa,_,h1,_⟩:=h;simp[aI]at hc;subst hc;exact(a2D.1 h1).1
 |loop rd f nt env ps a b jC=>
  cases l with
  |cells ls=>exact h.elim
  |obj r _=>
   obtain⟨lp,h1,_⟩:=h;simp[aI]at hc;subst hc;exact(a2D.1 h1).1
abbrev Ct:=Key->Option HB
structure Valid(M:Mp)(D:Key->Prop)(C:Ct)(w:World):Prop where
 ok:∀k l,M k=some l->D k->∃b,C k=some b∧oP M.h w b l
 own:∀k k' l l' b,k≠k'->M k=some l->M k'=some l'->D k->C k=some b->wr b=true->∀c∈aI l,c∉aI l'
 inb:∀k l,M k=some l->∀c∈aI l,c<w.heap.size
def uG:Key->Prop:=fun _=>True
theorem Valid.has{M:Mp}{C:Ct}{w:World}(h:Valid M uG C w){k:Key}{l:Lc}(hk:M k=some l):(C k).isSome=true:=
 let ⟨_,h1,_⟩:=h.ok k l hk trivial;by simp[h1]
theorem Valid.of_heap{M:Mp}{D:Key->Prop}{C:Ct}{w w':World}(h:Valid M D C w)(hw:w'.heap=w.heap):Valid M D C w':=
 ⟨fun k l hk hd=>let ⟨b,h1,h2⟩:=h.ok k l hk hd;⟨b,h1,h2.mono (.refl _) (fun c _=>by rw[hw])⟩,h.own,by rw[hw];exact h.inb⟩
def dJ(M:Mp)(k:Key)(l:Lc):Mp:=fun j=>if j=k then some l else M j
def lu(C:Ct)(k:Key)(b:HB):Ct:=fun j=>if j=k then some b else C j
theorem lJ{M:Mp}{k:Key}{l:Lc}(h:∀l0,M k=some l0->KA l0 l):rV M (dJ M k l):=by
 intro j l0 hj;by_cases hjk:j=k
 .subst hjk;exact⟨l,by simp[dJ],h l0 hj⟩
 exact⟨l0,by simp[dJ,hjk,hj],.refl _⟩
theorem Valid.upd{M:Mp}{D D':Key->Prop}{C:Ct}{w w':World}(h:Valid M D C w)(k:Key)(b:HB)(l:Lc)
  (hD:∀j,D' j->D j∨j=k)
  (hold:∀l0,M k=some l0->D k∧KA l0 l∧∀b0,C k=some b0->wr b0=true)
  (gq:∀c,c<w.heap.size->c∉aI l->w'.heap[c]? = w.heap[c]?)
  (gW:∀c∈aI l,(∃l0,M k=some l0∧c∈aI l0)∨w.heap.size<=c)
  (Et:w.heap.size<=w'.heap.size)
  (QB:oP (dJ M k l).h w' b l):Valid (dJ M k l) D' (lu C k b) w':=by
 have hle:rV M (dJ M k l):=lJ fun l0 h0=>(hold l0 h0).2.1;refine⟨?_,?_,?_⟩
 .intro j l0 hj hd;by_cases hjk:j=k
  .subst hjk;simp only[dJ,a2d,a00]at hj;subst hj;exact⟨b,by simp[lu],QB⟩
  .simp only[dJ,hjk,a2Y]at hj;obtain⟨b0,h1,h2⟩:=h.ok j l0 hj ((hD j hd).resolve_right hjk);refine⟨b0,by simp[lu,hjk,h1],h2.mono hle.h fun c hc=>?_⟩;have aS:=h.inb j l0 hj c hc;refine gq c aS fun pJ=>?_;rcases gW c pJ with⟨l1,VA,hc1⟩|Eu
   .obtain⟨hDk,_,hw⟩:=hold l1 VA;obtain⟨b1,BU,_⟩:=h.ok k l1 VA hDk;exact h.own k j l1 l0 b1 (fun e=>hjk e.symm) VA hj hDk BU (hw b1 BU) c hc1 hc
   .omega
 .intro j j' l0 l0' b0 iy hj Ew hd hb hw c hc Vt;by_cases hjk:j=k
  .subst hjk;have a8K:j'≠j:=fun e=>iy e.symm;simp only[dJ,a2d,a00]at hj;subst hj;simp only[dJ,a8K,a2Y]at Ew;have aS:=h.inb j' l0' Ew c Vt;rcases gW c hc with⟨l1,VA,hc1⟩|Eu
   .obtain⟨hDk,_,hw⟩:=hold l1 VA;obtain⟨b1,BU,_⟩:=h.ok j l1 VA hDk;exact h.own j j' l1 l0' b1 iy VA Ew hDk BU (hw b1 BU) c hc1 Vt
   .omega
  .simp only[dJ,hjk,a2Y]at hj;simp only[lu,hjk,a2Y]at hb;have hdj:=(hD j hd).resolve_right hjk;have aS:=h.inb j l0 hj c hc;by_cases a8K:j'=k
   .subst a8K;simp only[dJ,a2d,a00]at Ew;subst Ew;rcases gW c Vt with⟨l1,VA,hc1⟩|Eu
    .exact h.own j j' l0 l1 b0 iy hj VA hdj hb hw c hc hc1
    .omega
   .simp only[dJ,a8K,a2Y]at Ew;exact h.own j j' l0 l0' b0 iy hj Ew hdj hb hw c hc Vt
 .intro j l0 hj c hc;by_cases hjk:j=k
  .subst hjk;simp only[dJ,a2d,a00]at hj;subst hj;exact QB.inb c hc
  .simp only[dJ,hjk,a2Y]at hj;exact a8S (h.inb j l0 hj c hc) Et
structure Ext(M0:Mp)(C0:Ct)(w0:World)(M:Mp)(C:Ct)(w:World)(ws:List Key):Prop where
 Ic:rV M0 M
 frame:∀c,c<w0.heap.size->(∀k∈ws,∀l,M0 k=some l->c∉aI l)->w.heap[c]? = w0.heap[c]?
 mW:∀k,(C0 k).isSome=true->k∉ws->C k=C0 k
 kR:∀k,((C0 k).isSome=true∨C k=none)->k∉ws->M k=M0 k
 fresh:∀k l,M k=some l->∀c∈aI l,c<w0.heap.size->∃l0,M0 k=some l0∧c∈aI l0
 size:w0.heap.size<=w.heap.size
 has:∀k,(C0 k).isSome=true->(C k).isSome=true
 wsub:∀k∈ws,(C0 k).isSome=true
 wrote:∀k∈ws,(M0 k).isSome=true∧∀b,C0 k=some b->wr b=true
 os:w.os=w0.os
 output:w.output=w0.output
 tape:w.tape=w0.tape
theorem Ext.refl(M:Mp)(C:Ct)(w:World):Ext M C w M C w []:=
 ⟨.refl _,fun _ _ _=>rfl,fun _ _ _=>rfl,fun _ _ _=>rfl,fun _ l h c hc _=>⟨l,h,hc⟩,a15 _,fun _ h=>h,(by simp),(by simp),rfl,rfl,rfl⟩
theorem Ext.drew{M0:Mp}{C0:Ct}{w0:World}{M:Mp}{C:Ct}{w w':World}{ws:List Key}(h:Ext M0 C0 w0 M C w ws)
  (hh:w'.heap=w.heap) (ho:w'.os=w.os) (hu:w'.output=w.output) (ht:w'.tape=w.tape):Ext M0 C0 w0 M C w' ws:=
 { h with frame:=(by rw[hh];exact h.frame),size:=(by rw[hh];exact h.size),os:=ho.trans h.os,output:=hu.trans h.output,tape:=ht.trans h.tape }
theorem Ext.trans{M0 M M':Mp}{C0 C C':Ct}{w0 w w':World}{ws TL adt:List Key}(h:Ext M0 C0 w0 M C w ws)(h':Ext M C w M' C' w' TL)
  (hd:∀k l,M0 k=some l->(C0 k).isSome=true) (hs:∀k,(C0 k).isSome=true->(k∈ws∨k∈TL)->k∈adt) (hb:∀k∈adt,(C0 k).isSome=true∧(k∈ws∨k∈TL)) :
  Ext M0 C0 w0 M' C' w' adt where
 Ic:=h.Ic.trans h'.Ic
 frame:=by
  intro c hc hf;have h1:w.heap[c]? = w0.heap[c]?:=h.frame c hc fun k hk l hl=>hf k (hs k (h.wsub k hk) (.inl hk)) l hl;rw[<-h1];refine h'.frame c (a8S hc h.size) fun k hk l hl pJ=>?_;obtain⟨l0,h2,h3⟩:=h.fresh k l hl c pJ hc;exact hf k (hs k (hd k l0 h2) (.inr hk)) l0 h2 h3
 mW:=fun k hk hn=>by
  have hn1:k∉ws:=fun e=>hn (hs k hk (.inl e));have DC:k∉TL:=fun e=>hn (hs k hk (.inr e));rw[h'.mW k (h.has k hk) DC,h.mW k hk hn1]
 kR:=fun k hk hn=>by
  rcases hk with hk|hk
  .have hn1:k∉ws:=fun e=>hn (hs k hk (.inl e));have DC:k∉TL:=fun e=>hn (hs k hk (.inr e));rw[h'.kR k (.inl (h.has k hk)) DC,h.kR k (.inl hk) hn1]
  .have hC:C k=none:=by
    cases hc:C k with
    |none=>rfl
    |some b=>have:=h'.has k (by simp[hc]);simp[hk]at this
   have DC:k∉TL:=fun e=>by have:=h'.wsub k e;simp[hC]at this
   have hn1:k∉ws:=fun e=>by have:=h.has k (h.wsub k e);simp[hC]at this
   rw[h'.kR k (.inr hk) DC,h.kR k (.inr hC) hn1]
 fresh:=fun k l hl c hc aS=>by
  obtain⟨l1,h1,h2⟩:=h'.fresh k l hl c hc (a8S aS h.size);exact h.fresh k l1 h1 c h2 aS
 size:=a4A h.size h'.size
 has:=fun k hk=>h'.has k (h.has k hk)
 wsub:=fun k hk=>(hb k hk).1
 wrote:=fun k hk=>by
  by_cases h1:k∈ws
  .exact h.wrote k h1
  .have h2:=h'.wrote k ((hb k hk).2.resolve_left h1);rw[h.kR k (.inl (hb k hk).1) h1,h.mW k (hb k hk).1 h1]at h2;exact h2
 os:=h'.os.trans h.os
 output:=h'.output.trans h.output
 tape:=h'.tape.trans h.tape
theorem Ext.upd{M:Mp}{C:Ct}{w w':World}(k:Key)(b:HB)(l:Lc)(ws:List Key)
  (Yo:((C k).isSome=true∧ws=[k]∧(M k).isSome=true∧∀b,C k=some b->wr b=true)∨(C k=none∧M k=none∧ws=[]))
  (hle:rV M (dJ M k l))
  (gq:∀c,c<w.heap.size->c∉aI l->w'.heap[c]? = w.heap[c]?)
  (gW:∀c∈aI l,(∃l0,M k=some l0∧c∈aI l0)∨w.heap.size<=c)
  (Et:w.heap.size<=w'.heap.size) (ho:w'.os=w.os) (hou:w'.output=w.output) (ht:w'.tape=w.tape) :
  Ext M C w (dJ M k l) (lu C k b) w' ws where
 Ic:=hle
 frame:=by
  intro c hc hf;refine gq c hc fun pJ=>?_;rcases gW c pJ with⟨l0,h1,h2⟩|Eu
  .rcases Yo with⟨_,rfl,_⟩|⟨_,hn,_⟩
   .exact hf k (by simp) l0 h1 h2
   .rw[hn]at h1;cases h1
  .omega
 mW:=fun j hj hn=>by
  have:j≠k:=by
   rintro rfl;rcases Yo with⟨_,rfl,_⟩|⟨h1,_⟩
   .simp at hn
   .simp[h1]at hj
  simp[lu,this]
 kR:=fun j hj hn=>by
  have:j≠k:=by
   rintro rfl;rcases Yo with⟨_,rfl,_⟩|⟨h1,_⟩
   .simp at hn
   .rcases hj with hj|hj
    .simp[h1]at hj
    .simp[lu]at hj
  simp[dJ,this]
 fresh:=fun j l0 hj c hc aS=>by
  by_cases hjk:j=k
  .subst hjk;simp only[dJ,a2d,a00]at hj;subst hj;rcases gW c hc with h1|Eu
   .exact h1
   .omega
  .simp only[dJ,hjk,a2Y]at hj;exact⟨l0,hj,hc⟩
 size:=Et
 has:=fun j hj=>by
  by_cases hjk:j=k
  .simp[lu,hjk]
  .simpa[lu,hjk]using hj
 wsub:=by
  rcases Yo with⟨h1,rfl,_⟩|⟨_,_,rfl⟩
  .intro j hj;simp at hj;subst hj;exact h1
  .simp
 wrote:=by
  rcases Yo with⟨_,rfl,h1⟩|⟨_,_,rfl⟩
  .intro j hj;simp at hj;subst hj;exact h1
  .simp
 os:=ho
 output:=hou
 tape:=ht
theorem ER.mono{M M':Mp}(hm:rV M M')(hl:∀k l,M (.l k)=some l->M' (.l k)=some l){e:EV}{x:Value}(h:ER M e x):ER M' e x:=by
 cases h with
 |val h=>exact .val (h.mono hm.h)
 |loc h hb=>exact .loc (hl _ _ h) hb
 |undef=>exact .undef
 |ent h hi hv=>
  obtain⟨l',h1,h2⟩:=hm _ _ h;cases l' with
  |cells _=>exact h2.elim
  |obj r1 o'=>
   obtain⟨rfl,t,rfl⟩:=h2;exact .ent h1 (by rw[a0e (a04.1 hi).1];exact hi) (hv.mono hm.h)
 |Eh h hi=>
  obtain⟨l',h1,h2⟩:=hm _ _ h;cases l' with
  |cells _=>exact h2.elim
  |obj r1 o'=>
   obtain⟨rfl,t,rfl⟩:=h2;exact .Eh h1 (by rw[a0e (a04.1 hi).1];exact hi)
structure MV(M:Mp)(D:Key->Prop)(C:Ct)(w:World)(v:EV)(C1:Ct)(ws:List Key)(x:Value)(w':World)(M':Mp):Prop where
 val:Valid M' (fun k=>D k∨(C k=none∧(C1 k).isSome=true)) C1 w'
 ext:Ext M C w M' C1 w' ws
 er:ER M' v x
 loc:∀k l,M (.l k)=some l->M' (.l k)=some l
theorem MV.same{M:Mp}{D:Key->Prop}{C:Ct}{w:World}{v:EV}{x:Value}(h:Valid M D C w)(he:ER M v x):MV M D C w v C [] x w M:=
 ⟨⟨fun k l hk hd=>h.ok k l hk (hd.elim id fun⟨a,b⟩=>by simp[a]at b),fun k k' l l' b a1 a2 a3 hd=>h.own k k' l l' b a1 a2 a3 (hd.elim id fun⟨a,b⟩=>by simp[a]at b),h.inb⟩,.refl M C w,he,fun _ _ h=>h⟩
theorem vP(w:World)(o:Obj)(i:Nat)(h:i<w.heap.size):(w.alloc o).heap[i]? = w.heap[i]?:=by
 show(w.heap.push o)[i]? = w.heap[i]?;rw[Array.getElem?_push,a0g (Nat.ne_of_lt h)]
section
variable {P:Program} {w:World}
theorem iR{t:TypeId}{i:TypeInfo}(h:P.info? t=some i):(typeInfo t).run P w=.ok i w:=by simp[typeInfo,h]
theorem ET{t:TypeId}{n:Nat}(h:dB P t=some n):∃i,P.info? t=some i∧i.size=n:=by
 simpa[dB]using h
theorem cO{t:TypeId}{n:Nat}(h:dB P t=some n):(Go.sizeOf t).run P w=.ok n w:=by
 obtain⟨i,h1,h2⟩:=ET h;simp[Go.sizeOf,iR h1,h2]
theorem zQ{t:TypeId}{b:Bool}(h:uF P t=some b):(isAgg t).run P w=.ok b w:=by
 unfold uF at h;split at h<;>simp at h<;>subst h
 .simp[isAgg,run_underlying ‹_›]
 .simp[isAgg,run_underlying ‹_›]
 rename_i d _ _ hu;simp only[isAgg,Sem.run_bind,run_underlying hu,Result.andThen_ok];cases d<;>simp_all
theorem tY(c o n:Nat):(⟨c,o,none⟩:Addr).add n=⟨c,o+n,none⟩:=by
 unfold Addr.add;split<;>simp_all
theorem Ik{N:Np}{c:TV}{v:Value}(h:VR N c v)(ho:iQ c=true):v.oneCell'=true:=by
 cases h<;>first|rfl|simp[iQ]at ho
theorem tZ{cs:List TV}{off n:Nat}{r:List TV}(h:sub cs off n=some r):off+n<=cs.length∧r=(cs.drop off).take n∧r.length=n:=by
 unfold sub at h;split at h
 .rename_i hl;simp at h;subst h;exact⟨hl,rfl,by simp;omega⟩
 simp at h
theorem vG{cs:List TV}{off:Nat}{new r:List TV}(h:vM cs off new=some r) :
  off+new.length<=cs.length∧r=cs.take off++new++cs.drop (off+new.length)∧r.length=cs.length:=by
 unfold vM at h;split at h
 .rename_i hl;simp at h;subst h;exact⟨hl,by simp,by simp;omega⟩
 .simp at h
theorem MS.slice{N:Np}{k:BK}{cs:List TV}{p:Pl}(h:MS N w k cs p){off n:Nat}{r:List TV}(hr:sub cs off n=some r)(he:off+n<=p.ext)(hz:k=.last->p.ext=cs.length) :
  ∃xs:List Value,bV N r xs∧∀(j:Nat) (v:Value),xs[j]? = some v->w.cell? ⟨p.c,p.base+off+j,none⟩=some v:=by
 obtain⟨arr,ty,fz,h1,h2,_,h4⟩:=h.row;obtain⟨s1,s2,s3⟩:=tZ hr;have hf:=h.fit;refine⟨(arr.toList.drop (p.base+off)).take n,⟨by rw[s3];simp;omega,fun i c v a b=>?_⟩,fun j v hj=>?_⟩
 .rw[s2,a4d]at a;rw[a4d]at b;split at a
  .rename_i hi;rw[a0h hi,a4b]at b;rw[a4b]at a;exact h4 hz (off+i) c v (by omega) a (by simpa[aa0]using b)
  .simp at a
 .rw[a4d]at hj;split at hj
  .rw[a4b]at hj;simp only[World.cell?,h1];simpa using hj
  .simp at hj
theorem yj{N:Np}{k:BK}{cs:List TV}{p:Pl}(h:MS N w k cs p){off n:Nat}{r:List TV}(hr:sub cs off n=some r)(he:off+n<=p.ext)(hz:k=.last->p.ext=cs.length) :
  ∃xs:List Value,bV N r xs∧∀w':World,w'.heap=w.heap->(loadCells ⟨p.c,p.base+off,none⟩ n).run P w'=.ok xs.toArray w':=by
 obtain⟨xs,h1,h2⟩:=h.slice hr he hz;refine⟨xs,h1,fun w' hw'=>?_⟩;have hl:xs.length=n:=by rw[<-h1.len];exact(tZ hr).2.2
 have:=run_loadCells_list (P:=P) w' ⟨p.c,p.base+off,none⟩ xs (fun j v hj=>by
  rw[tY];have e:=h2 j v hj;simp only[World.cell?,hw']at e ⊢;exact e)
 rwa [hl]at this
theorem JB{N:Np}{k:BK}{cs:List TV}{p:Pl}(h:MS N w k cs p){t:TypeId}{off n:Nat}{v:TV}(hs:dB P t=some n)
  (hv:tX P t cs off=some v) (he:off+n<=p.ext) (hz:k=.last->p.ext=cs.length) :
  ∃x,VR N v x∧(loadVar t ⟨p.c,p.base+off,none⟩).run P w=.ok x w:=by
 unfold tX at hv;rw[hs]at hv;cases ha:uF P t with
 |none=>simp[ha]at hv
 |some b=>
  cases b with
  |true=>
   simp only[ha,a09]at hv;obtain⟨r,hr,rfl⟩:=hv;obtain⟨xs,g1,g2⟩:=yj (P:=P) h hr he hz;exact⟨_,.agg' g1,by simp[loadVar,zQ ha,cO hs,g2 w rfl]⟩
  |false=>
   simp only[ha]at hv;split at hv
   case isFalse=>simp at hv
   rename_i hn1;have he1:off+1<=p.ext:=(by omega);have aS:=(a04.1 hv).1;have hr:sub cs off 1=some [v]:=by
    unfold sub;rw[a0h (by omega)];congr 1;rw[a4P aS];have:=(a04.1 hv).2;simp[this]
   obtain⟨xs,g1,g2⟩:=h.slice hr he1 hz;obtain⟨x,xs',rfl,gx,_⟩:=g1.iK;have:=g2 0 x rfl;simp only[adz]at this;exact⟨x,gx,by simp[loadVar,zQ ha,this]⟩
end
theorem Il{M:Mp}{k:Key}{l:Lc}(h:M k=some l):dJ M k l=M:=by
 funext j;unfold dJ;split
 .rename_i e;rw[e,h]
 rfl
theorem jR(s:St)(b:HB)(e:List (Nat×EV))(ws:List Nat):St.get { s with heap:=s.heap++[b],env:=e,ws:=ws }=lu s.get (.h s.heap.length) b:=by
 funext k
 cases k with
 |h j=>
  simp only[St.get,lu,Key.h.injEq];split
  .rename_i e;subst e;simp
  rename_i e;by_cases hj:j<s.heap.length
  .rw[a0e hj]
  rw[a3X (by simp;omega),a3X (by omega)]
 |l j=>simp[St.get,lu]
theorem jm(s:St)(i:Nat)(b:HB)(h:i<s.heap.length)(e:List (Nat×EV))(ws:List Nat):St.get { s with heap:=s.heap.set i b,env:=e,ws:=ws }=lu s.get (.h i) b:=by
 funext k
 cases k with
 |h j=>
  simp only[St.get,lu,Key.h.injEq];rw[a9p];by_cases hj:i=j
  .subst hj;simp[h]
  rw[a0g hj,a0g (fun e=>hj e.symm)]
 |l j=>simp[St.get,lu]
theorem QC(s:St)(cs:List TV)(e:List (Nat×EV))(ws:List Nat):St.get { s with loc:=s.loc++[cs],env:=e,ws:=ws }=lu s.get (.l s.loc.length) (.cells .own cs):=by
 funext k
 cases k with
 |l j=>
  simp only[St.get,lu,Key.l.injEq];split
  .rename_i e;subst e;simp
  rename_i e;by_cases hj:j<s.loc.length
  .rw[a0e hj]
  rw[a3X (by simp;omega),a3X (by omega)]
 |h j=>simp[St.get,lu]
theorem MW(s:St)(i:Nat)(cs:List TV)(h:i<s.loc.length)(e:List (Nat×EV))(ws:List Nat):St.get { s with loc:=s.loc.set i cs,env:=e,ws:=ws }=lu s.get (.l i) (.cells .own cs):=by
 funext k
 cases k with
 |l j=>
  simp only[St.get,lu,Key.l.injEq];rw[a9p];by_cases hj:i=j
  .subst hj;simp[h]
  rw[a0g hj,a0g (fun e=>hj e.symm)]
 |h j=>simp[St.get,lu]
theorem xG{h:List HB}{b lim:Nat}{cs:List TV}(e:lF h b lim=some cs):∃k,h[b]? = some (.cells k cs)∧(k=.last->lim=cs.length):=by
 unfold lF at e;split at e
 .rename_i k cs' hb;split at e
  .cases e
  rename_i hn;simp at e;subst e;exact⟨k,hb,fun hk=>Decidable.not_not.1 fun hl=>hn ⟨hk,hl⟩⟩
 simp at e
theorem JC{k k':BK}{b:Bool}(e:zN k b=some k'):(k=.own∧k'=.own)∨((k=.grow∨k=.last)∧k'=.last∧b=true):=by
 unfold zN at e;split at e<;>simp_all
theorem Io{h h':List HB}{b off lim:Nat}{new:List TV}(e:TB h b off lim new=some h') :
  ∃k k' cs cs',h[b]? = some (.cells k cs)∧((k=.own∧k'=.own)∨((k=.grow∨k=.last)∧k'=.last∧lim=cs.length))∧vM cs off new=some cs'∧h'=h.set b (.cells k' cs'):=by
 unfold TB at e;split at e
 .rename_i k cs hb;split at e
  .rename_i k' hk;simp only[a09]at e;obtain⟨cs',h1,h2⟩:=e;refine⟨k,k',cs,cs',hb,?_,h1,h2.symm⟩;rcases JC hk with h|⟨a,b,c⟩
   .exact .inl h
   .exact .inr ⟨a,b,by simpa using c⟩
  .cases e
 .simp at e
theorem VB{arr:Array Value}{off:Nat}{xs:List Value}(i:Nat)(h:off+xs.length<=arr.size) :
  (arr.toList.take off++xs++arr.toList.drop (off+xs.length)).toArray[i]? = if i<off then arr[i]? else if i<off+xs.length then xs[i-off]? else arr[i]?:=by
 have hl:(arr.toList.take off).length=off:=by simp;omega
 simp only[adF];by_cases h1:i<off
 .rw[a0h h1,a5F,a0e (by omega),a4d,a0h h1];simp
 .rw[a0g h1];by_cases h2:i<off+xs.length
  .rw[a0h h2,a5F,a1c (by omega),hl,a0e (by omega)]
  .rw[a0g h2,a1c (by simp;omega),a4b];have:off+xs.length+(i-(List.take off arr.toList++xs).length)=i:=by simp;omega
   rw[this];simp
theorem a1W{cs new r:List TV}{off:Nat}(h:vM cs off new=some r)(i:Nat) :
  r[i]? = if i<off then cs[i]? else if i<off+new.length then new[i-off]? else cs[i]?:=by
 obtain⟨h1,h2,_⟩:=vG h;have hl:(cs.take off).length=off:=by simp;omega
 rw[h2];by_cases h1:i<off
 .rw[a0h h1,a5F,a0e (by omega),a4d,a0h h1]
 .rw[a0g h1];by_cases h2:i<off+new.length
  .rw[a0h h2,a5F,a1c (by omega),hl,a0e (by omega)]
  .rw[a0g h2,a1c (by simp;omega),a4b];congr 1;simp;omega
theorem VD{cs new r:List TV}{off:Nat}(h:vM cs off new=some r)(hc:∀c∈cs,iQ c=true)(hn:∀c∈new,iQ c=true):∀c∈r,iQ c=true:=by
 obtain⟨_,h2,_⟩:=vG h;intro c hcr;rw[h2]at hcr;simp only[a3K]at hcr;rcases hcr with(h|h)|h
 .exact hc c (a9f h)
 .exact hn c h
 exact hc c (a6r h)
theorem uX(w:World)(g:Nat)(arr:Array Value)(c:Nat)(h:c≠g):(w.setRow g arr).heap[c]? = w.heap[c]?:=by
 simp only[World.setRow,abH];rw[a0g (fun e=>h e.symm)]
theorem MX(w:World)(g:Nat)(arr cur:Array Value)(ty:TypeId)(fz:Nat×Nat)(h:w.heap[g]? = some (.cells cur ty fz)):(w.setRow g arr).heap[g]? = some (.cells arr ty fz):=by
 simp[World.setRow,abH,h]
theorem Valid.widen{M:Mp}{D:Key->Prop}{C C1:Ct}{w':World}(h:Valid M D C1 w')(hn:∀k,C k=none->C1 k=none):Valid M (fun j=>D j∨(C j=none∧(C1 j).isSome=true)) C1 w':=
 have aux:∀j,(D j∨(C j=none∧(C1 j).isSome=true))->D j:=fun j hj=>hj.elim id fun⟨a,b⟩=>by rw[hn j a]at b;cases b
 ⟨fun k l hk hd=>h.ok k l hk (aux k hd),fun k k' l l' b a1 a2 a3 hd=>h.own k k' l l' b a1 a2 a3 (aux k hd),h.inb⟩
theorem DF{C:Ct}{k:Key}{b:HB}(hk:(C k).isSome=true):∀j,C j=none->lu C k b j=none:=by
 intro j hj;unfold lu;split
 .rename_i e;subst e;rw[hj]at hk;cases hk
 exact hj
theorem Valid.wrB{M:Mp}{D:Key->Prop}{C:Ct}{w:World}(h:Valid M D C w){k:Key}{ls:List Pl}{p:Pl}{cs:List TV}{kk Ba:BK}(hk:M k=some (.cells ls))(hd:D k)
  (hc:C k=some (.cells kk cs)) (hp:p∈ls) (xH:(kk=.own∧Ba=.own)∨((kk=.grow∨kk=.last)∧Ba=.last∧p.ext=cs.length)) :
  p.base=0∧p.ext=cs.length∧(∀c∈cs,iQ c=true)∧(∀q∈ls,MS M.h w kk cs q)∧(ls.map (·.c)).Nodup∧(∀q∈ls,q.ext=cs.length->q=p) ∧
  ∃(arr:Array Value) (ty:TypeId),w.heap[p.c]? = some (.cells arr ty (0,0))∧arr.size=p.tot∧cs.length<=p.tot ∧
   ∀(i:Nat) (c:TV) (v:Value),cs[i]? = some c->arr[i]? = some v->VR M.h c v:=by
 obtain⟨b,h1,h2⟩:=h.ok k _ hk hd;rw[hc]at h1;cases h1;obtain⟨g1,g2,g3,g4⟩:=h2;have iy:kk≠.ro:=by rcases xH with⟨e,_⟩|⟨e|e,_⟩<;>rw[e]<;>simp
 have FT:=g2 p hp;have hb:=FT.base iy;have hx:p.ext=cs.length∧(ls.map (·.c)).Nodup∧∀q∈ls,q.ext=cs.length->q=p:=by
  rcases xH with⟨e,_⟩|⟨e,_,he⟩
  .obtain⟨q,rfl,hq⟩:=g3 e;simp at hp;subst hp;exact⟨hq,by simp,fun q' hq' _=>by simpa using hq'⟩
  .obtain⟨n1,n2⟩:=g4 e;exact⟨he,n1,fun q hq hqe=>n2 q hq p hp hqe he⟩
 obtain⟨arr,ty,fz,r1,r2,r3,r4⟩:=FT.row;have:=r3 iy;subst this;have hf:=FT.fit;refine⟨hb,hx.1,g1,g2,hx.2.1,hx.2.2,arr,ty,r1,r2,by omega,fun i c v a b=>?_⟩;have hi:=(a04.1 a).1;exact r4 (fun _=>hx.1) i c v (by omega) a (by simpa[hb]using b)
theorem Valid.Yp{M:Mp}{D:Key->Prop}{C:Ct}{w:World}(h:Valid M D C w){k:Key}{ls:List Pl}{p:Pl}{cs:List TV}{kk Ba:BK}{lim:Nat}(hk:M k=some (.cells ls))(hd:D k)
  (hc:C k=some (.cells kk cs)) (hp:p∈ls) (hl:lim<=p.ext) (xH:(kk=.own∧Ba=.own)∨((kk=.grow∨kk=.last)∧Ba=.last∧lim=cs.length)) :
  (kk=.own∧Ba=.own)∨((kk=.grow∨kk=.last)∧Ba=.last∧p.ext=cs.length):=by
 rcases xH with e|⟨e1,e2,e3⟩
 .exact .inl e
 .obtain⟨b,h1,h2⟩:=h.ok k _ hk hd;rw[hc]at h1;cases h1;have:=(h2.2.1 p hp).ext;exact .inr ⟨e1,e2,by omega⟩
theorem MZ:∀{ls:List Pl},(ls.map (·.c)).Nodup->∀{p q:Pl},p∈ls->q∈ls->q.c=p.c->q=p
 | [],_,p,q,hp,_,_=>by simp at hp
 |a::ls,h,p,q,hp,hq,e=>by
  simp only[a3Z,a4g]at h;rcases a1Y.1 hp with h1|h1<;>rcases a1Y.1 hq with h2|h2
  .rw[h1,h2]
  .exact(h.1 (a1f.2 ⟨q,h2,by rw[e,h1]⟩)).elim
  .exact(h.1 (a1f.2 ⟨p,h1,by rw[<-e,h2]⟩)).elim
  exact MZ h.2 h1 h2 e
theorem yI{P:Program}{M:Mp}{D:Key->Prop}{C:Ct}{w:World}(h:Valid M D C w){k:Key}{ls:List Pl}{p:Pl}{cs cs' new:List TV}{off:Nat}{xs:List Value}{kk Ba:BK}
  (hk:M k=some (.cells ls)) (hd:D k) (hc:C k=some (.cells kk cs)) (hp:p∈ls) (xH:(kk=.own∧Ba=.own)∨((kk=.grow∨kk=.last)∧Ba=.last∧p.ext=cs.length))
  (ho:vM cs off new=some cs') (hx:bV M.h new xs) (hn:∀c∈new,iQ c=true) :
  ∃w',(storeCells ⟨p.c,p.base+off,none⟩ xs).run P w=.ok () w'∧Valid M D (lu C k (.cells Ba cs')) w'∧Ext M C w M (lu C k (.cells Ba cs')) w' [k]:=by
 obtain⟨hb,he,h1,FT,je,huq,arr,ty,hr,hs,hle,hv⟩:=h.wrB hk hd hc hp xH;obtain⟨o1,o2,o3⟩:=vG ho;have hlen:=hx.len;have iy:kk≠.ro:=by rcases xH with⟨e,_⟩|⟨e|e,_⟩<;>rw[e]<;>simp
 have ah2:Ba≠.ro:=by rcases xH with⟨_,e⟩|⟨_,e,_⟩<;>rw[e]<;>simp
 have Yf:∀b0,C k=some b0->wr b0=true:=fun b0 zJ=>by rw[hc]at zJ;cases zJ;cases kk<;>simp_all [wr]
 have EU:∀v∈xs,v.oneCell'=true:=by
  intro v hv;obtain⟨i,hi,rfl⟩:=a4E.1 hv;have wV:i<new.length:=by omega
  exact Ik (hx.at_ i new[i] xs[i] (by simp[wV]) (by simp[hi])) (hn _ (a4w wV))
 have uY:=run_storeCells_at (P:=P) p.c (p.base+off) ty xs 0 arr w hr (by omega) EU;simp only[adz,hb,a3U]at uY
 let w':World:=w.setRow p.c (arr.toList.take off++xs++arr.toList.drop (off+xs.length)).toArray
 have qh:dJ M k (.cells ls)=M:=Il hk;have gq:∀c,c<w.heap.size->c∉aI (.cells ls)->w'.heap[c]? = w.heap[c]?:=fun c _ hc=>uX w p.c _ c (fun e=>hc (by rw[e];exact a1f.2 ⟨p,hp,rfl⟩));have gW:∀c∈aI (.cells ls),(∃l0,M k=some l0∧c∈aI l0)∨w.heap.size<=c:=fun c hc=>.inl ⟨_,hk,hc⟩;have uN:w.heap.size<=w'.heap.size:=by simp[w']
 have Ip:rV M (dJ M k (.cells ls)):=by rw[qh];exact .refl _
 refine⟨w',by rw[hb,a3U];exact uY,?_,?_⟩
 .have:=h.upd (D':=D) (w':=w') k (.cells Ba cs') (.cells ls) (fun j hj=>.inl hj) (fun l0 h0=>by
   rw[hk]at h0;cases h0;exact⟨hd,.refl _,Yf⟩) gq gW uN (by
   rw[qh];refine⟨VD ho h1 hn,fun q hq=>?_,fun e=>?_,fun e=>⟨je,fun q1 JD q2 FZ e1 e2=>by rw[huq q1 JD (by omega),huq q2 FZ (by omega)]⟩⟩
   .have hq0:=FT q hq;by_cases Yq:q.c=p.c
    .have:=MZ je hp hq Yq;subst this;refine⟨⟨_,ty,(0,0),MX w q.c _ arr ty (0,0) hr,by simp;omega,fun _=>rfl,fun _ i c v hi a b=>?_⟩,by omega,by omega,fun _=>hb⟩;rw[hb,a3U,VB i (by omega)]at b;rw[a1W ho i,hlen]at a;split at a
     .rename_i hi1;rw[a0h hi1]at b;exact hv i c v a b
     .rename_i hi1;rw[a0g hi1]at b;split at a
      .rename_i JE;rw[a0h JE]at b;exact hx.at_ _ c v a b
      .rename_i JE;rw[a0g JE]at b;exact hv i c v a b
    .obtain⟨uH,ty',fz',t1,t2,t3,t4⟩:=hq0.row;refine⟨⟨uH,ty',fz',(uX w p.c _ q.c Yq).trans t1,t2,fun _=>t3 iy,fun hz i c v hi a b=>?_⟩,hq0.fit,by have:=hq0.ext;omega,fun _=>hq0.base iy⟩;exfalso;apply Yq;rcases xH with⟨e,_⟩|⟨_,e,_⟩
     .obtain⟨b',g1,g2⟩:=h.ok k _ hk hd;rw[hc]at g1;cases g1;obtain⟨q',g3,_⟩:=g2.2.2.1 e;rw[g3]at hq hp;simp at hq hp;rw[hq,hp]
     .rw[huq q hq (by rw[hz e];omega)]
   .rcases xH with⟨e0,_⟩|⟨_,e1,_⟩
    .obtain⟨b',g1,g2⟩:=h.ok k _ hk hd;rw[hc]at g1;cases g1;obtain⟨q',g3,g4⟩:=g2.2.2.1 e0;exact⟨q',g3,by omega⟩
    .rw[e1]at e;cases e)
  rwa [qh]at this
 .have:=Ext.upd (M:=M) (C:=C) (w:=w) (w':=w') k (.cells Ba cs') (.cells ls) [k] (.inl ⟨by simp[hc],rfl,by simp[hk],Yf⟩) Ip gq gW uN rfl rfl rfl
  rwa [qh]at this
theorem N7{M:Mp}{D:Key->Prop}{C:Ct}{w:World}(h:Valid M D C w){k:Key}{cs:List TV}{arr:Array Value}(ty:TypeId)
  (hk:M k=none) (hc:C k=none) (hl:cs.length<=arr.size) (hx:∀(i:Nat) (c:TV) (v:Value),cs[i]? = some c->arr[i]? = some v->VR M.h c v) (hn:∀c∈cs,iQ c=true) :
  Valid (dJ M k (.cells [⟨w.heap.size,0,cs.length,arr.size⟩])) (fun j=>D j∨(C j=none∧(lu C k (.cells .own cs) j).isSome=true)) (lu C k (.cells .own cs)) (w.alloc (.cells arr ty)) ∧
  Ext M C w (dJ M k (.cells [⟨w.heap.size,0,cs.length,arr.size⟩])) (lu C k (.cells .own cs)) (w.alloc (.cells arr ty)) []:=by
 have hle:rV M (dJ M k (.cells [⟨w.heap.size,0,cs.length,arr.size⟩])):=lJ fun l0 h0=>by rw[hk]at h0;cases h0
 have gq:∀c,c<w.heap.size->c∉aI (.cells [⟨w.heap.size,0,cs.length,arr.size⟩])->(w.alloc (.cells arr ty)).heap[c]? = w.heap[c]?:=fun c hc _=>vP w _ c hc;have gW:∀c∈aI (.cells [⟨w.heap.size,0,cs.length,arr.size⟩]),(∃l0,M k=some l0∧c∈aI l0)∨w.heap.size<=c:=fun c hc=>.inr (by simp[aI]at hc;omega);refine⟨h.upd k _ _ (fun j hj=>?_) (fun l0 h0=>by rw[hk]at h0;cases h0) gq gW (by simp) ?_,Ext.upd k _ _ [] (.inr ⟨hc,hk,rfl⟩) hle gq gW (by simp) rfl rfl rfl⟩
 .rcases hj with hj|⟨a,b⟩
  .exact .inl hj
  .right;unfold lu at b;split at b
   .assumption
   .simp[a]at b
 .refine⟨hn,fun q hq=>?_,fun _=>⟨_,rfl,rfl⟩,by simp⟩;simp at hq;subst hq;exact⟨⟨arr,ty,(0,0),heap_alloc_new w _,rfl,fun _=>rfl,fun _ i c v _ a b=>(hx i c v a (by simpa using b)).mono hle.h⟩,by simpa using hl,a15 _,fun _=>rfl⟩
theorem a4o{M:Mp}{env:List (Nat×EV)}{a:Act}(hE:jJ M env a.tmps){x:Operand}{e:EV}(h:Ib env x=some e):ER M e (a.eval x):=by
 cases x with
 |tmp t=>exact hE t e h
 |const v=>
  simp only[Ib,a09]at h;obtain⟨t,h1,rfl⟩:=h;exact .val (.yh h1)
 |func f=>
  simp only[Ib,a00]at h;subst h;exact .val (VR.fn (xs:=[]) (ys:=[]) rfl (by simp) rfl (by simp))
 |global g=>simp[Ib]at h
theorem Yr{M:Mp}{env:List (Nat×EV)}{a:Act}(hE:jJ M env a.tmps){x:Operand}{v:TV}(h:qA env x=some v):VR M.h v (a.eval x):=by
 unfold qA at h;split at h
 .rename_i v' he;simp at h;subst h;exact(a4o hE he).uV
 simp at h
structure PR(N:Np)(ps:List (Nat×TV))(qs:List (Nat×Value)):Prop where
 len:ps.length=qs.length
 at_:∀(i:Nat) (p:Nat×TV) (q:Nat×Value),ps[i]? = some p->qs[i]? = some q->p.1=q.1∧VR N p.2 q.2
theorem PR.nil{N:Np}:PR N [] []:=⟨rfl,by simp⟩
theorem PR.cons{N:Np}{i:Nat}{v:TV}{x:Value}{ps:List (Nat×TV)}{qs:List (Nat×Value)}(h:VR N v x)(hs:PR N ps qs):PR N ((i,v)::ps) ((i,x)::qs):=
 ⟨by simp[hs.len],fun j p q a b=>by
  cases j with
  |zero=>simp at a b;subst a;subst b;exact⟨rfl,h⟩
  |succ j=>simp at a b;exact hs.at_ j p q a b⟩
theorem PR.iK{N:Np}{i:Nat}{v:TV}{ps:List (Nat×TV)}{qs:List (Nat×Value)}(h:PR N ((i,v)::ps) qs):∃x qs',qs=(i,x)::qs'∧VR N v x∧PR N ps qs':=by
 cases qs with
 |nil=>have:=h.len;simp at this
 |cons q qs'=>
  have h0:=h.at_ 0 (i,v) q rfl rfl;obtain⟨j,x⟩:=q;obtain⟨h1,h2⟩:=h0;simp only at h1;subst h1;exact⟨x,qs',rfl,h2,⟨by have:=h.len;simpa using this,fun j p q a b=>h.at_ (j+1) p q (by simpa using a) (by simpa using b)⟩⟩
theorem PR.pq{N:Np}{qs:List (Nat×Value)}(h:PR N [] qs):qs=[]:=by
 have:=h.len;simp at this;exact a3W this.symm
def ah5(P:Program)(c:Sem Next)(w:World)(x:Value)(w':World):Prop:=
 c.run P w=.ok (.value x) w'∨(x=Go.undef∧c.run P w=.ok .skip w')
def G5(P:Program)(M:Mp)(D:Key->Prop)(C:Ct)(w:World)(c:Sem Next)(v:EV)(C1:Ct)(ws:List Key):Prop:=
 ∃x w' M',ah5 P c w x w'∧MV M D C w v C1 ws x w' M'
section
variable {P:Program} {M:Mp} {D:Key->Prop} {w:World} {s:St}
theorem G5.same{C:Ct}{c:Sem Next}{v:EV}{x:Value}(hV:Valid M D C w)(hr:c.run P w=.ok (.value x) w)(he:ER M v x):G5 P M D C w c v C []:=
 ⟨x,w,M,.inl hr,.same hV he⟩
theorem qG{k:Key}{l:Lc}(hk:M k=none):∀j l',M (.l j)=some l'->dJ M k l (.l j)=some l':=by
 intro j l' h;unfold dJ;rw[a0g (fun e=>by rw[<-e,h]at hk;cases hk)];exact h
theorem a4p(hV:Valid M D s.get w)(yJ:M (.h s.heap.length)=none)(hnl:M (.l s.loc.length)=none)(site:Bool){cs:List TV}{xs:Array Value}(ty:TypeId)
  (hx:bV M.h cs xs.toList) (hn:∀c∈cs,iQ c=true) {v:EV} {s1:St} (h:qB site s cs=(v,s1)) :
  ∃M',MV M D s.get w v s1.get [] (.pointer (some ⟨w.heap.size,0,none⟩)) (w.alloc (.cells xs ty)) M':=by
 have hlen:cs.length<=xs.size:=by have:=hx.len;simpa using agC this
 have JF:∀(i:Nat) (c:TV) (v:Value),cs[i]? = some c->xs[i]? = some v->VR M.h c v:=fun i c v a b=>hx.at_ i c v a (by simpa using b);unfold qB at h;cases site with
 |true=>
  simp only[a2d,a0S]at h;obtain⟨rfl,rfl⟩:=h;have hc:s.get (.h s.heap.length)=none:=by simp[St.get]
  have:=N7 hV ty yJ hc hlen JF hn;refine⟨dJ M (.h s.heap.length) (.cells [⟨w.heap.size,0,cs.length,xs.size⟩]),⟨?_,?_,?_,qG yJ⟩⟩
  .rw[jR];exact this.1
  .rw[jR];exact this.2
  .exact .val (VR.ptr (p:=⟨w.heap.size,0,cs.length,xs.size⟩) (ls:=[⟨w.heap.size,0,cs.length,xs.size⟩]) (by simp[Mp.h,dJ]) (by simp) (a15 _) (by simpa using hlen))
 |false=>
  simp only[a2c,a2Y,a0S]at h;obtain⟨rfl,rfl⟩:=h;have hc:s.get (.l s.loc.length)=none:=by simp[St.get]
  have:=N7 hV ty hnl hc hlen JF hn;refine⟨dJ M (.l s.loc.length) (.cells [⟨w.heap.size,0,cs.length,xs.size⟩]),⟨?_,?_,?_,qG hnl⟩⟩
  .rw[QC];exact this.1
  .rw[QC];exact this.2
  .exact ER.loc (p:=⟨w.heap.size,0,cs.length,xs.size⟩) (by simp[dJ]) rfl
theorem a03{x:Value}{c:TV}(h:TV.ZW x=some c):iQ c=true:=by
 unfold TV.ZW at h;split at h<;>simp at h<;>subst h<;>rfl
theorem VE:∀{xs:List Value} {cs:List TV},TV.BJ xs=some cs->∀c∈cs,iQ c=true
 | [],cs,h=>by simp[TV.BJ]at h;subst h;simp
 |x::xs,cs,h=>by
  simp only[TV.BJ]at h;split at h
  .rename_i v vs h1 h2;simp at h;subst h;intro c hc;rcases a1Y.1 hc with rfl|hc
   .exact a03 h1
   exact VE h2 c hc
  simp at h
theorem a1Z{x:Value}{v:TV}(h:TV.Vr x=some v):∀c∈v.cells,iQ c=true:=by
 unfold TV.Vr at h;split at h
 .simp only[a09]at h;obtain⟨vs,h1,rfl⟩:=h;exact VE h1
 have h1:=a03 h;cases v<;>simp[iQ]at h1<;>simp[TV.cells,iQ]
theorem vS{t:TypeId}{z:List TV}(h:Jy P t=some z):∃i x v,P.info? t=some i∧i.zero=some x∧TV.Vr x=some v∧z=v.cells∧(∀c∈z,iQ c=true) ∧
  (∀N:Np,bV N z x.cells.toList)∧∀w,(zeroValue t).run P w=.ok x w:=by
 unfold Jy at h;split at h
 .rename_i i hi;split at h
  .rename_i x hx;simp only[a09]at h;obtain⟨v,h1,rfl⟩:=h;exact⟨i,x,v,hi,hx,h1,rfl,a1Z h1,fun N=>(VR.yh h1).cells,fun w=>by simp[zeroValue,iR hi,hx]⟩
  .simp at h
 .simp at h
theorem Yt(vs:List Value):∀(k off:Nat) (arr:Array Value),off+k+vs.length<=arr.size ->
  ((vs.zipIdx k).foldl (fun(cs:Array Value) (c:Value×Nat)=>cs.setIfInBounds (off+c.2) c.1) arr).toList=arr.toList.take (off+k)++vs++arr.toList.drop (off+k+vs.length):=by
 induction vs with
 |nil=>intro k off arr h;simp
 |cons v vs ih=>
  intro k off arr h;simp only[a3V]at h;simp only[List.zipIdx_cons,adp];rw[ih (k+1) off _ (by simp;omega)];have e:=list_seg_step arr.toList (off+k) v vs (by simp;omega);simpa[Array.toList_setIfInBounds,aa0]using e
theorem KX{N:Np}{place place':Nat->Option (Nat×Nat)}(hp:∀i x,place i=some x->place' i=some x):∀{ps:List (Nat×TV)} {qs:List (Nat×Value)} {cs r:List TV} {arr:Array Value},rU place cs ps=some r->PR N ps qs ->
  bV N cs arr.toList->∃uH,Instr.fill place' arr qs=some uH∧bV N r uH.toList
 | [],qs,cs,r,arr,h,hq,hc=>by
  have:=hq.pq;subst this;simp[rU]at h;subst h;exact⟨arr,rfl,hc⟩
 |(i,v)::ps,qs,cs,r,arr,h,hq,hc=>by
  obtain⟨x,qs',rfl,hx,hq'⟩:=hq.iK;simp only[rU]at h;split at h
  .rename_i off size FT;split at h
   .rename_i uN;split at h
    .rename_i cs' ho;obtain⟨o1,o2,o3⟩:=vG ho;have hxc:=hx.cells;have hl1:=hxc.len;have TM:=hc.len;simp only[a9w]at hl1 TM;have e:(x.cells.zipIdx.foldl (fun(cs:Array Value) (c:Value×Nat)=>cs.setIfInBounds (off+c.2) c.1) arr).toList=arr.toList.take off++x.cells.toList++arr.toList.drop (off+x.cells.toList.length):=by
      rw[<-Array.foldl_toList,Array.toList_zipIdx];have:=Yt x.cells.toList 0 off arr (by simp;omega);simpa using this
     have Vt:bV N cs' (x.cells.zipIdx.foldl (fun(cs:Array Value) (c:Value×Nat)=>cs.setIfInBounds (off+c.2) c.1) arr).toList:=by
      have hlx:x.cells.toList.length=v.cells.length:=(by simp[hl1]);rw[e,o2,hlx];exact((hc.take off).append hxc).append (hc.drop _)
     obtain⟨uH,g1,g2⟩:=KX hp h hq' Vt;refine⟨uH,?_,g2⟩;simp only[Instr.fill,hp i _ FT];rw[a0g (by simp;omega)];exact g1
    .simp at h
   .simp at h
  .simp at h
theorem N8{w:World}:∀(fs:List Field),BL P fs=true->(fs.mapM (fun f=>Functor.map (Prod.mk f.offset) (Go.sizeOf f.type):Field->Sem (Nat×Nat))).run P w=.ok (fs.map fun f=>(f.offset,(dB P f.type).getD 0)) w
 | [],_=>by simp
 |f::fs,h=>by
  simp only[BL,abJ,a2m]at h;obtain⟨n,hn⟩:=a5j.1 h.1;have ih:=N8 (w:=w) fs (by simpa[BL]using h.2);simp only[List.mapM_cons,Sem.run_bind,Sem.run_map,cO hn,Result.andThen_ok,Sem.run_pure,ih,a3Z,hn,a4H]
theorem a4r{N:Np}{t:TypeId}{ps:List (Nat×TV)}{qs:List (Nat×Value)}{v:TV}(h:MH P t ps=some v)(hq:PR N ps qs) :
  ∃x,VR N v x∧∀w,(Instr.build t qs.toArray).run P w=.ok x w:=by
 unfold MH at h;split at h
 .rename_i z fs hz hu;split at h
  .rename_i ha;simp only[a09]at h;obtain⟨r,hr,rfl⟩:=h;obtain⟨i,x,v,_,_,_,_,_,hvr,hzr⟩:=vS hz;obtain⟨uH,g1,g2⟩:=KX (place':=fun i=>(fs.map fun f=>(f.offset,(dB P f.type).getD 0))[i]?) (fun i x hx=>by
    unfold TD at hx;split at hx
    .rename_i f hf;simp only[a09]at hx;obtain⟨n,hn,rfl⟩:=hx;simp[hf,hn]
    .simp at hx) hr hq (hvr N)
   refine⟨_,.agg' g2,fun w=>?_⟩;have hm:(fs.mapM (fun f=>Functor.map (Prod.mk f.offset) (Go.sizeOf f.type):Field->Sem (Nat×Nat))).run P w=.ok (fs.map fun f=>(f.offset,(dB P f.type).getD 0)) w:=by
    rw[Array.mapM_eq_mapM_toList,Sem.run_map,N8 fs.toList ha];simp only[Result.andThen_ok];congr 1;apply adK;simp
   simp only[Array.getElem?_map]at g1;simp[Instr.build,hzr w,run_underlying hu,hm,g1]
  .simp at h
 .rename_i z n e hz hu;split at h
  .rename_i n hn;simp only[a09]at h;obtain⟨r,hr,rfl⟩:=h;obtain⟨i,x,v,_,_,_,_,_,hvr,hzr⟩:=vS hz;obtain⟨uH,g1,g2⟩:=KX (place':=fun i=>some (i*n,n)) (fun i x hx=>hx) hr hq (hvr N);exact⟨_,.agg' g2,fun w=>by simp[Instr.build,hzr w,run_underlying hu,cO hn,g1]⟩
  .simp at h
 .simp at h
end
section
variable {P:Program} {M:Mp} {D:Key->Prop} {w:World} {s:St}
theorem VF{t:TypeId}{cs:List TV}{off:Nat}{v:TV}(h:tX P t cs off=some v):∃n,dB P t=some n∧off+n<=cs.length:=by
 unfold tX at h;split at h
 .rename_i n _ hn;simp only[a09]at h;obtain⟨r,hr,_⟩:=h;exact⟨n,hn,(tZ hr).1⟩
 .rename_i n _ hn;split at h
  .rename_i h1;subst h1;exact⟨1,hn,(a04.1 h).1⟩
  simp at h
 simp at h
theorem a05{N:Np}{t:TypeId}{cs:List TV}{off:Nat}{v:TV}{xs:List Value}(h:tX P t cs off=some v)(hx:bV N cs xs) :
  ∃x,VR N v x∧(Go.part t xs.toArray off).run P w=.ok x w:=by
 unfold tX at h;split at h
 .rename_i n ha hn;simp only[a09]at h;obtain⟨r,hr,rfl⟩:=h;obtain⟨s1,s2,s3⟩:=tZ hr;have hl:=hx.len;refine⟨.agg ((xs.drop off).take n).toArray,.agg' (by rw[s2];exact(hx.drop off).take n),?_⟩;simp[Go.part,zQ ha,cO hn]
 .rename_i n ha hn;split at h
  .obtain⟨x,h1,h2⟩:=hx.get h;exact⟨x,h2,by simp[Go.part,zQ ha,h1]⟩
  .simp at h
 .simp at h
theorem G6{t:TypeId}{e:EV}{v:TV}{i:lD}{x:Value}(hV:Valid M D s.get w)(h:loadT P t s e=some (v,i))(hx:ER M e x)(hD:∀k∈i.ts,D k) :
  i.ws=[]∧∃y,VR M.h v y∧(Instr.loadAt t x).run P w=.ok y w:=by
 unfold loadT at h;split at h
 .rename_i k off;split at h
  .rename_i cs hk;simp only[a09,a0S]at h;obtain⟨v',hv,rfl,rfl⟩:=h;cases hx with
   |loc hm hb=>
    rename_i p;have hg:s.get (.l k)=some (.cells .own cs):=(by simp[St.get,hk]);have hd:=hD (.l k) (by simp[wS]);obtain⟨b,h1,h2⟩:=hV.ok _ _ hm hd;rw[hg]at h1;cases h1;obtain⟨_,h3,h4,_⟩:=h2;obtain⟨q,hq,he⟩:=h4 rfl;simp at hq;subst hq;obtain⟨n,hn,hle⟩:=VF hv;obtain⟨y,g1,g2⟩:=JB (P:=P) (h3 p (by simp)) hn hv (by omega) (fun e=>by cases e);rw[hb,a3U]at g2;exact⟨rfl,y,g1,by simp[Instr.loadAt,Instr.sureAddr,g2]⟩
  .simp at h
 .rename_i b off lim;split at h
  .rename_i cs n hb hn;split at h
   .rename_i KD;simp only[a09,a0S]at h;obtain⟨v',hv,rfl,rfl⟩:=h;cases hx with
    |val hx=>
     cases hx with
     |ptr hm hp hl ht=>
      rename_i ls p;obtain⟨k,hk,VG⟩:=xG hb;have hd:=hD (.h b) (by simp[wS]);obtain⟨fV,h1,h2⟩:=hV.ok _ _ hm hd;simp only[St.get,hk,a00]at h1;subst h1;obtain⟨_,h3,_⟩:=h2;obtain⟨y,g1,g2⟩:=JB (P:=P) (h3 p hp) hn hv (by omega) (fun e=>by have:=VG e;have:=(h3 p hp).ext;omega);exact⟨rfl,y,g1,by simp[Instr.loadAt,Instr.sureAddr,g2]⟩
   .simp at h
  .simp at h
 .simp at h
theorem KY{l:List TV}(h:l.all iQ=true):∀c∈l,iQ c=true:=by simpa using h
theorem Yu{t:TypeId}{e:EV}{v:TV}{i:lD}{x y:Value}{s1:St}(hV:Valid M D s.get w)(h:storeT P t s e v=some (s1,i))(hx:ER M e x)(hy:VR M.h v y)(hD:∀k∈i.ts,D k) :
  s1.env=s.env∧∃w',(Instr.storeAt t x y).run P w=.ok () w'∧Valid M D s1.get w'∧Ext M s.get w M s1.get w' i.ws∧∀k,s.get k=none->s1.get k=none:=by
 unfold storeT at h;split at h
 case h_2=>simp at h
 rename_i n hn;split at h
 case isFalse=>simp at h
 rename_i hc;obtain⟨hlen,EU⟩:=hc;have hyc:=hy.cells;have hyl:y.cells.size=n:=by have:=hyc.len;simp at this;omega
 split at h
 .rename_i k off;split at h
  .rename_i cs hk;simp only[a09,a0S]at h;obtain⟨cs',ho,rfl,rfl⟩:=h;cases hx with
   |loc hm hb=>
    rename_i p;have hg:s.get (.l k)=some (.cells .own cs):=(by simp[St.get,hk]);obtain⟨w',r1,r2,r3⟩:=yI (P:=P) hV hm (hD _ (by simp[oJ])) hg (a2I.2 rfl) (.inl ⟨rfl,rfl⟩) ho hyc (KY EU);have JG:=(a04.1 hk).1;refine⟨rfl,w',?_,?_,?_,?_⟩
    .rw[hb,a3U]at r1;simp[Instr.storeAt,Instr.sureAddr,storeVar,cO hn,hyl,r1]
    .rw[MW s k cs' JG];exact r2
    .rw[MW s k cs' JG];exact r3
    .rw[MW s k cs' JG];exact DF (by simp[hg])
  .simp at h
 .rename_i b off lim;split at h
  .rename_i KD;simp only[a09,a0S]at h;obtain⟨h',hs,rfl,rfl⟩:=h;cases hx with
   |val hx=>
    cases hx with
    |ptr hm hp hl ht=>
     rename_i ls p;obtain⟨kk,Ba,cs,cs',hb,xH,ho,rfl⟩:=Io hs;have hg:s.get (.h b)=some (.cells kk cs):=(by simp[St.get,hb]);obtain⟨w',r1,r2,r3⟩:=yI (P:=P) hV hm (hD _ (by simp[oJ])) hg hp (hV.Yp hm (hD _ (by simp[oJ])) hg hp hl xH) ho hyc (KY EU);have JG:=(a04.1 hb).1;refine⟨rfl,w',?_,?_,?_,?_⟩
     .simp[Instr.storeAt,Instr.sureAddr,storeVar,cO hn,hyl,r1]
     .rw[jm s b _ JG];exact r2
     .rw[jm s b _ JG];exact r3
     .rw[jm s b _ JG];exact DF (by simp[hg])
  .simp at h
 .simp at h
theorem G7{n:Nat}{v:TV}{j:Nat}{N:Np}{x:Value}(h:idx n v=some j)(hx:VR N v x):∃k i,x=.int k i∧0<=i∧i<n∧j=i.toNat∧j<n:=by
 unfold idx at h;split at h
 .rename_i k i;split at h
  .rename_i hc;simp at h;subst h;cases hx;exact⟨k,i,rfl,hc.1,hc.2,rfl,by omega⟩
  simp at h
 simp at h
theorem N9{o:Nat}{e e':EV}{x:Value}(h:Q7 o e=some e')(hx:ER M e x):∃a,x=.pointer (some a)∧ER M e' (.pointer (some (a.add o))):=by
 unfold Q7 at h;split at h
 .simp at h;subst h;cases hx with
  |loc hm hb=>exact⟨_,rfl,by rw[tY];exact .loc hm hb⟩
 .rename_i b off lim;split at h
  .rename_i hl;simp at h;subst h;cases hx with
   |val hx=>
    cases hx with
    |ptr hm hp hl ht=>exact⟨_,rfl,by rw[tY,aa0];exact .val (.ptr hm hp hl ht)⟩
  simp at h
 simp at h
theorem TN{t:TypeId}{f n:Nat}{e e':EV}{x:Value}(h1:FW P t f=some n)(h:Q7 n e=some e')(hx:ER M e x) :
  ∃y,ER M e' y∧(Instr.fieldAt t x f).run P w=.ok y w:=by
 obtain⟨a,rfl,he⟩:=N9 h hx;unfold FW at h1;split at h1
 .rename_i fs hu;split at h1
  .rename_i fd hf;split at h1
   .rename_i m hm;split at h1
    .simp at h1
    .rename_i hz;simp at h1;subst h1;refine⟨_,he,?_⟩;simp[Instr.fieldAt,run_underlying hu,hf,Instr.sureAddr,fieldPlace,cO hm,hz]
   .simp at h1
  .simp at h1
 .simp at h1
theorem Na{N:Np}{t:TypeId}{f:Nat}{v v':TV}{x:Value}(h:MI P t v f=some v')(hx:VR N v x) :
  ∃y,VR N v' y∧(Instr.field t x f).run P w=.ok y w:=by
 unfold MI at h;split at h
 .rename_i fs cs hu;split at h
  .rename_i fd hf;cases hx with
   |agg g1 g2=>
    obtain⟨y,r1,r2⟩:=a05 (P:=P) (w:=w) h ⟨g1,g2⟩;exact⟨y,r1,by simp[Instr.field,run_underlying hu,hf,asAgg,r2]⟩
  .simp at h
 .simp at h
theorem zS{t:TypeId}{e e':EV}{v:TV}{x y:Value}(h:lG P t e v=some e')(hx:ER M e x)(hy:VR M.h v y) :
  ∃z,ER M e' z∧(Instr.indexAt t x y).run P w=.ok z w:=by
 unfold lG at h;split at h
 .rename_i el hu;split at h
  .rename_i n b off len cap sz ex hn;split at h
   .rename_i uN;simp only[a09]at h;obtain⟨j,hj,rfl⟩:=h;subst uN;obtain⟨k,i,rfl,h0,h1,rfl,h2⟩:=G7 hj hy;cases hx with
    |val hx=>
     cases hx with
     |slc hb hp hl hle hc hex ha hk=>
      rename_i ls p a cap';rcases ha with ha|⟨rfl,ha⟩
      .omega
      .have hmul:i.toNat*n+n<=len*n:=by
        have:=a3P n (show i.toNat+1<=len by omega)
        rwa [a3Q,adv]at this
       have abk:cap*n<=cap'*n:=a3P n (by omega);have hp:=hp.resolve_left (by omega);refine⟨_,.val (.ptr hb hp (lim:=off+cap*n) (off:=off+i.toNat*n) (by omega) (by omega)),?_⟩;simp[Instr.indexAt,asIntOf,run_underlying hu,h0,h1,cO hn,tY,aa0]
   .simp at h
  .simp at h
 .rename_i len el hu;split at h
  .rename_i n hn;split at h
   .rename_i j hj;obtain⟨k,i,rfl,h0,h1,rfl,h2⟩:=G7 hj hy;obtain⟨a,rfl,he⟩:=N9 h hx;refine⟨_,he,?_⟩;simp[Instr.indexAt,asIntOf,run_underlying hu,Instr.sureAddr,h0,h1,cO hn]
   .simp at h
  .simp at h
 .simp at h
theorem Nb{N:Np}{t:TypeId}{v u r:TV}{x y:Value}(h:Ii P t v u=some r)(hx:VR N v x)(hy:VR N u y) :
  ∃z,VR N r z∧(Instr.index t x y).run P w=.ok z w:=by
 unfold Ii at h;split at h
 .rename_i len el cs hu;split at h
  .rename_i n j hn hj;obtain⟨k,i,rfl,h0,h1,rfl,h2⟩:=G7 hj hy;cases hx with
   |agg g1 g2=>
    obtain⟨z,r1,r2⟩:=a05 (P:=P) (w:=w) h ⟨g1,g2⟩;exact⟨z,r1,by simp[Instr.index,asIntOf,run_underlying hu,h0,h1,cO hn,r2]⟩
  .simp at h
 .rename_i bs hu;split at h
  .rename_i j hj;obtain⟨k,i,rfl,h0,h1,rfl,h2⟩:=G7 hj hy;simp only[a09]at h;obtain⟨b,hb,rfl⟩:=h;cases hx;exact⟨_,.int _ _,by simp[Instr.index,asIntOf,run_underlying hu,h0,hb]⟩
  .simp at h
 .simp at h
end
section
variable {P:Program} {M:Mp} {D:Key->Prop} {w:World} {s:St}
theorem a06{N:Np}:∀{az:List TV} {xs ys:List Value},Bq az=some xs->bV N az ys->ys=xs
 | [],xs,ys,h,hy=>by simp[Bq]at h;subst h;exact hy.pq
 |c::az,xs,ys,h,hy=>by
  simp only[Bq]at h;split at h
  .rename_i v vs h1 h2;simp at h;subst h;obtain⟨u,us,rfl,hu,hus⟩:=hy.iK;rw[vN h1 hu,a06 h2 hus]
  simp at h
def G8:NK->Value->Prop
 |.ptr,x=>x=.pointer none
 |.slc,x=>x=.slice none 0 0
 |.map,x=>x=.map none
 |.fn,x=>x=.nilFunc
 |.ifc,x=>x=.nilIface
def yt:NK->Value->Prop
 |.ptr,x=>∃a,x=.pointer (some a)
 |.slc,x=>∃a l c,x=.slice (some a) l c
 |.map,x=>∃r,x=.map (some r)
 |.fn,x=>∃f a c,x=.func f a c
 |.ifc,_=>False
theorem a07{N:Np}{v:TV}{k:NK}{x:Value}(h:Ym v=some k)(hx:VR N v x):G8 k x:=by
 cases hx<;>simp[Ym]at h<;>subst h<;>rfl
theorem VH{N:Np}{v:TV}{k:NK}{x:Value}(h:Jz v=some k)(hx:VR N v x):yt k x:=by
 cases hx<;>simp[Jz]at h<;>subst h<;>simp[yt]
theorem a4t{t:TypeId}{k:NK}(h:JA P t=some k):match k with
  |.ptr=>∃e,P.underlying t=some (.pointer e)
  |.slc=>∃e,P.underlying t=some (.slice e)
  |.map=>∃e f,P.underlying t=some (.map e f)
  |.fn=>∃e f g,P.underlying t=some (.func e f g)
  |.ifc=>False:=by
 unfold JA at h;split at h<;>simp at h<;>subst h<;>simp_all
theorem a2b{t:TypeId}{k:NK}{x y:Value}(h:JA P t=some k)(hxy:(G8 k x∧yt k y)∨(yt k x∧G8 k y))(d:Nat) :
  (Op.equalIn (d+1) t x y).run P w=.ok false w:=by
 have hk:=a4t h;cases k with
 |ptr=>
  obtain⟨e,hu⟩:=hk;rcases hxy with⟨hx,a,rfl⟩|⟨⟨a,rfl⟩,hy⟩
  .cases hx;simp[Op.equalIn,run_underlying hu]
  .cases hy;simp[Op.equalIn,run_underlying hu]
 |slc=>
  obtain⟨e,hu⟩:=hk;rcases hxy with⟨hx,a,l,c,rfl⟩|⟨⟨a,l,c,rfl⟩,hy⟩
  .cases hx;simp[Op.equalIn,run_underlying hu]
  .cases hy;simp[Op.equalIn,run_underlying hu]
 |map=>
  obtain⟨e,f,hu⟩:=hk;rcases hxy with⟨hx,a,rfl⟩|⟨⟨a,rfl⟩,hy⟩
  .cases hx;simp[Op.equalIn,run_underlying hu]
  .cases hy;simp[Op.equalIn,run_underlying hu]
 |fn=>
  obtain⟨e,f,g,hu⟩:=hk;rcases hxy with⟨hx,a,b,c,rfl⟩|⟨⟨a,b,c,rfl⟩,hy⟩
  .cases hx;simp[Op.equalIn,run_underlying hu]
  .cases hy;simp[Op.equalIn,run_underlying hu]
 |ifc=>exact hk.elim
theorem a08{t:TypeId}{k:NK}{ox oy:Operand}{x y:Value}(h:JA P t=some k)(hxy:(G8 k x∧yt k y)∨(yt k x∧G8 k y))(b:Bool)(op:BinOp)(hb:(op=.eql∧b=false)∨(op=.neq∧b=true)) :
  (do eqGuard op t ox oy x y;binOp op t x y:Sem Value).run P w=.ok (.bool b) w:=by
 have he:(Op.equal t x y).run P w=.ok false w:=a2b h hxy 9999;have hg:(eqGuard op t ox oy x y).run P w=.ok () w:=by
  cases k<;>rcases hxy with⟨hx,hy⟩|⟨hx,hy⟩<;>simp only[G8,yt]at hx hy <;>
   (first|(exact hy.elim)|(exact hx.elim)|skip)<;>(try obtain⟨_,rfl⟩:=hx)<;>(try obtain⟨_,rfl⟩:=hy)<;>(try obtain⟨_,_,rfl⟩:=hx)<;>(try obtain⟨_,_,rfl⟩:=hy)<;>(try subst hx)<;>(try subst hy) <;>
   (try obtain⟨_,_,_,rfl⟩:=hx)<;>(try obtain⟨_,_,_,rfl⟩:=hy)<;>rcases hb with⟨rfl,rfl⟩|⟨rfl,rfl⟩<;>simp[eqGuard]
 have Qa:(binOp op t x y).run P w=.ok (.bool b) w:=by
  cases k<;>rcases hxy with⟨hx,hy⟩|⟨hx,hy⟩<;>simp only[G8,yt]at hx hy <;>
   (first|(exact hy.elim)|(exact hx.elim)|skip)<;>(try obtain⟨_,rfl⟩:=hx)<;>(try obtain⟨_,rfl⟩:=hy)<;>(try obtain⟨_,_,rfl⟩:=hx)<;>(try obtain⟨_,_,rfl⟩:=hy)<;>(try subst hx)<;>(try subst hy) <;>
   (try obtain⟨_,_,_,rfl⟩:=hx)<;>(try obtain⟨_,_,_,rfl⟩:=hy)<;>rcases hb with⟨rfl,rfl⟩|⟨rfl,rfl⟩<;>simp only[binOp,Sem.run_bind,he,Result.andThen_ok,Sem.run_pure,aaB]
 simp only[Sem.run_bind,hg,Result.andThen_ok,Qa]
theorem Yv{N:Np}{op:BinOp}{t:TypeId}{ox oy:Operand}{a b r:TV}{x y:Value}(h:rY P op t ox oy a b=some r)(hx:VR N a x)(hy:VR N b y) :
  ∃z,VR N r z∧(do eqGuard op t ox oy x y;binOp op t x y:Sem Value).run P w=.ok z w:=by
 unfold rY at h;split at h
 .rename_i u v hu hv;split at h
  .rename_i z hz;have e1:=vN hu hx;have e2:=vN hv hy;subst e1;subst e2;exact⟨z,.yh h,iV hz w⟩
  .simp at h
 .split at h
  .rename_i hn;unfold BM at hn;split at hn
   case h_2=>simp at hn
   rename_i k hk;have hxy:(G8 k x∧yt k y)∨(yt k x∧G8 k y):=by
    simp only[a8O,a2m,a88]at hn;rcases hn with⟨h1,h2⟩|⟨h1,h2⟩
    .exact .inl ⟨a07 h1 hx,VH h2 hy⟩
    .exact .inr ⟨VH h1 hx,a07 h2 hy⟩
   split at h
   .simp at h;subst h;exact⟨_,.bool false,a08 hk hxy false _ (.inl ⟨rfl,rfl⟩)⟩
   .simp at h;subst h;exact⟨_,.bool true,a08 hk hxy true _ (.inr ⟨rfl,rfl⟩)⟩
   .simp at h
  .simp at h
theorem iP{N:Np}{op:UnOp}{a r:TV}{x:Value}(h:unT P op a=some r)(hx:VR N a x):∃z,VR N r z∧(Op.unary op x).run P w=.ok z w:=by
 unfold unT at h;split at h
 .rename_i u hu;split at h
  .rename_i z hz;have e1:=vN hu hx;subst e1;exact⟨z,.yh h,iV hz w⟩
  simp at h
 simp at h
theorem TP{N:Np}{t u:TypeId}{a r:TV}{x:Value}(h:Qy P t u a=some r)(hx:VR N a x):∃z,VR N r z∧(convert t u x).run P w=.ok z w:=by
 unfold Qy at h;split at h
 .rename_i u hu;split at h
  .rename_i z hz;have e1:=vN hu hx;subst e1;exact⟨z,.yh h,iV hz w⟩
  simp at h
 simp at h
theorem yK{N:Np}{mx:Bool}{at_:Array TypeId}{t:TypeId}{az:List TV}{r:TV}{xs:List Value}(h:Dz P mx at_ t az=some r)(hx:bV N az xs) :
  ∃z,VR N r z∧(if mx then Builtin.max_ at_ t xs.toArray else Builtin.min_ at_ t xs.toArray).run P w=.ok z w:=by
 unfold Dz at h;split at h
 .rename_i us hu;split at h
  .rename_i z hz;have e1:=a06 hu hx;subst e1;exact⟨z,.yh h,iV hz w⟩
  .simp at h
 .simp at h
theorem kT{n j:Nat}{v:TV}(h:qC n v=some j):j<=n:=by
 unfold qC at h;split at h
 .split at h
  .simp at h;omega
  simp at h
 simp at h
theorem sF{N:Np}{n j m:Nat}{v:TV}{x:Value}{code:BoundsCode}(h:qC n v=some j)(hx:VR N v x)(hm:j<=m) :
  (Instr.sliceBound x m code).run P w=.ok j w:=by
 unfold qC at h;split at h
 .rename_i k i;split at h
  .rename_i hc;simp at h;subst h;cases hx;have:i<=(m:Int):=(by omega);simp[Instr.sliceBound,asIntOf,hc.1,this]
  .simp at h
 .simp at h
inductive OR(N:Np):Option TV->Option Value->Prop
 |none:OR N none none
 |some {v:TV} {x:Value} (h:VR N v x):OR N (some v) (some x)
theorem xI{N:Np}{is:Bool}{len cap' n l0 hg:Nat}{lo hi:Option TV}{Yw wV:Option Value}(hl:OR N lo Yw)(hh:OR N hi wV)
  (h1:jl n len hi=some hg) (h2:jl hg 0 lo=some l0) (h3:hg<=cap'):(Instr.sliceBounds is len cap' Yw wV none).run P w=.ok (l0,hg,cap') w:=by
 cases hh with
 |none=>
  simp only[jl,a00]at h1;subst h1;cases hl with
  |none=>simp only[jl,a00]at h2;subst h2;simp[Instr.sliceBounds]
  |some hv=>simp only[jl]at h2;simp[Instr.sliceBounds,sF (P:=P) (w:=w) h2 hv (kT h2)]
 |some hv'=>
  simp only[jl]at h1;cases hl with
  |none=>simp only[jl,a00]at h2;subst h2;simp[Instr.sliceBounds,sF (P:=P) (w:=w) h1 hv' h3]
  |some hv=>simp only[jl]at h2;simp[Instr.sliceBounds,sF (P:=P) (w:=w) h1 hv' h3,sF (P:=P) (w:=w) h2 hv (kT h2)]
theorem EW{N:Np}{is:Bool}{len cap' n k l0 hg m:Nat}{lo:Option TV}{hi mx:TV}{Yw:Option Value}{wV mx':Value}(hl:OR N lo Yw)(hh:VR N hi wV)(hm:VR N mx mx')
  (h0:qC k mx=some m) (h1:qC n hi=some hg) (h2:jl hg 0 lo=some l0) (h3:hg<=m) (h4:m<=cap'):(Instr.sliceBounds is len cap' Yw (some wV) (some mx')).run P w=.ok (l0,hg,m) w:=by
 have r1:=fun code=>sF (P:=P) (w:=w) (code:=code) h0 hm h4;have r2:=fun code=>sF (P:=P) (w:=w) (code:=code) h1 hh h3;cases hl with
 |none=>simp only[jl,a00]at h2;subst h2;simp[Instr.sliceBounds,r1,r2]
 |some hv=>simp only[jl]at h2;simp[Instr.sliceBounds,r1,r2,sF (P:=P) (w:=w) h2 hv (kT h2)]
theorem Nc{N:Np}{t:TypeId}{v r:TV}{lo hi mx:Option TV}{x:Value}{Yw wV mx':Option Value}(h:qE P t v lo hi mx=some r)(hx:VR N v x)
  (hl:OR N lo Yw) (hh:OR N hi wV) (hm:OR N mx mx'):∃z,VR N r z∧(Instr.sliceAt t x Yw wV mx').run P w=.ok z w:=by
 unfold qE at h;split at h
 .-- strings
  rename_i bs hu;split at h
  .simp at h
  .cases hm;split at h
   .rename_i h0 QD;split at h
    .rename_i l0 qy;simp at h;subst h;cases hx;refine⟨_,.str _,?_⟩;have hle:h0<=bs.size:=by
      cases hi with
      |none=>simp only[jl,a00]at QD;omega
      |some v=>simp only[jl]at QD;exact kT QD
     have e1:=xI (P:=P) (w:=w) (is:=false) (cap':=bs.size) hl hh QD qy hle;simp[Instr.sliceAt,Instr.slice,run_underlying hu,e1]
    .simp at h
   .simp at h
 .-- slices
  rename_i e b off len cap sz ex hu;split at h
  .rename_i n hn;split at h
   case isFalse=>simp at h
   rename_i uN;subst uN;cases hx with
   |slc hb hp EX hle vT hex ha hk=>
    rename_i ls p a cap';have fin:∀(l hgh m:Nat) (ex':Bool),l<=hgh->hgh<=len->hgh<=m->m<=cap'->(m':Nat)->m'<=m->m'<=cap->hgh<=m'->(ex'=true->m=m') ->
      VR N (.slc b (off+l*n) (hgh-l) (m'-l) n ex') (.slice (if m=l then some a else(some a).map (·.add (l*n))) (hgh-l) (m-l)):=by
     intro l hgh m ex' h1 h2 h3 h4 m' h5 h5' h6 h7;have hmul:l*n+(hgh-l)*n=hgh*n:=by rw[<-a3Q];congr 1;omega
     have abk:m'*n<=cap*n:=a3P n h5';have aqM:l*n+(m'-l)*n=m'*n:=by rw[<-a3Q];congr 1;omega
     have Bc:(if m=l then some a else(some a).map (·.add (l*n)))=some (if m=l then a else a.add (l*n)):=by split<;>rfl
     rw[Bc];refine .slc hb (hp.imp (fun e=>by omega) id) (by omega) (by omega) (by omega) (fun e=>by have:=h7 e;omega) ?_ (by omega);by_cases hml:m=l
     .left;omega
     .right;rcases ha with ha|⟨rfl,ha⟩
      .omega
      .rw[a0g hml,tY];have aqN:l*n+(m-l)*n=m*n:=by rw[<-a3Q];congr 1;omega
       have aqO:m*n<=cap'*n:=a3P n h4;exact⟨by rw[aa0],by omega⟩
    split at h
    .rename_i m0;cases hm with
     |some Qb=>
      split at h
      .rename_i m h0 hm1;split at h
       .rename_i hg hh1;split at h
        .rename_i l0 qy;simp at h;subst h;cases hh with
         |some hhv=>
          have b1:=kT hm1;have b2:=kT hh1;have b3:l0<=hg:=by
           cases lo with
           |none=>simp only[jl,a00]at qy;omega
           |some v=>simp only[jl]at qy;exact kT qy
          have e1:=EW (P:=P) (w:=w) (is:=true) (len:=len) (cap':=cap') hl hhv Qb hm1 hh1 qy (by omega) (by omega);exact⟨_,fin l0 hg m true b3 (by omega) (by omega) (by omega) m (by omega) (by omega) (by omega) (fun _=>rfl),by simp[Instr.sliceAt,Instr.slice,run_underlying hu,e1,cO hn]⟩
        .simp at h
       .simp at h
      .simp at h
    .cases hm;split at h
     .rename_i hg QD;split at h
      .rename_i l0 qy;simp at h;subst h;have hgl:hg<=len:=by
        cases hi with
        |none=>simp only[jl,a00]at QD;omega
        |some v=>simp only[jl]at QD;exact kT QD
       have hlg:l0<=hg:=by
        cases lo with
        |none=>simp only[jl,a00]at qy;omega
        |some v=>simp only[jl]at qy;exact kT qy
       refine⟨_,fin l0 hg cap' ex hlg hgl (by omega) (by omega) cap vT (by omega) (by omega) hex,?_⟩;have e1:=xI (P:=P) (w:=w) (is:=true) (cap':=cap') hl hh QD qy (by omega);simp[Instr.sliceAt,Instr.slice,run_underlying hu,e1,cO hn]
      .simp at h
     .simp at h
  .simp at h
 .-- nil
  rename_i e hu;split at h
  .rename_i x0 x1 x2 x3 hn QE QD qy;split at h
   .simp at h
   .rename_i hg;simp at h;subst h;cases hx;refine⟨_,.TJ,?_⟩;have z1:∀{o:Option TV} {k:Nat},jl 0 0 o=some k->k=0:=fun{o k} e=>by
     cases o with
     |none=>simp only[jl,a00]at e;omega
     |some v=>simp only[jl]at e;have:=kT e;omega
    have e2:=z1 QD;subst e2;have e3:=z1 qy;subst e3;have e1:(Instr.sliceBounds true 0 0 Yw wV mx').run P w=.ok (0,0,0) w:=by
     cases hm with
     |none=>exact xI hl hh QD qy (by omega)
     |some Qb=>
      have e4:=z1 QE;subst e4;cases hh with
      |none=>simp at hg
      |some hhv=>exact EW hl hhv Qb QE QD qy (by omega) (by omega)
    simp[Instr.sliceAt,Instr.slice,run_underlying hu,e1,cO hn]
  .simp at h
 .simp at h
theorem BX{t:TypeId}{e:EV}{r:TV}{lo hi mx:Option TV}{x:Value}{Yw wV mx':Option Value}(h:qc P t e lo hi mx=some r)(hx:ER M e x)
  (hl:OR M.h lo Yw) (hh:OR M.h hi wV) (hm:OR M.h mx mx'):∃z,VR M.h r z∧(Instr.sliceAt t x Yw wV mx').run P w=.ok z w:=by
 unfold qc at h;split at h
 .rename_i n el b off lim hu;split at h
  .rename_i size hn;split at h
   .simp at h
   .rename_i hc;cases hx with
    |val hx=>
    cases hx with
    |ptr hb hp EX amH=>
    rename_i ls p;split at h
    .rename_i m QE;split at h
     .rename_i hg QD;split at h
      .rename_i l0 qy;split at h
       .simp at h
       .rename_i hs;simp at h;subst h;have hmn:m<=n:=by
         cases mx with
         |none=>simp only[jl,a00]at QE;omega
         |some v=>simp only[jl]at QE;exact kT QE
        have hgm:hg<=m:=by
         cases hi with
         |none=>
          cases mx with
          |some v=>simp at hs
          |none=>simp only[jl,a00]at QD QE;omega
         |some v=>simp only[jl]at QD;exact kT QD
        have hlg:l0<=hg:=by
         cases lo with
         |none=>simp only[jl,a00]at qy;omega
         |some v=>simp only[jl]at qy;exact kT qy
        have e1:(Instr.sliceBounds false n n Yw wV mx').run P w=.ok (l0,hg,m) w:=by
         cases hm with
         |none=>
          simp only[jl,a00]at QE;subst QE;exact xI hl hh QD qy (by omega)
         |some Qb=>
          cases hh with
          |none=>simp at hs
          |some hhv=>
           simp only[jl]at QE QD;exact EW hl hhv Qb QE QD qy (by omega) hmn
        have m1:l0*size+(hg-l0)*size=hg*size:=by rw[<-a3Q];congr 1;omega
        have m2:l0*size+(m-l0)*size=m*size:=by rw[<-a3Q];congr 1;omega
        have m3:hg*size<=n*size:=a3P size (by omega);have m4:m*size<=n*size:=a3P size (by omega);refine⟨.slice (some (if m=l0 then(⟨p.c,p.base+off,none⟩:Addr)else(⟨p.c,p.base+off,none⟩:Addr).add (l0*size))) (hg-l0) (m-l0),?_,?_⟩
        .refine .slc hb (.inr hp) (by omega) (by omega) (by omega) (fun _=>rfl) ?_ (by omega);by_cases hml:m=l0
         .left;omega
         .right;rw[a0g hml,tY];exact⟨by rw[aa0],by omega⟩
        .simp[Instr.sliceAt,run_underlying hu,Instr.sureAddr,e1,cO hn]
      .simp at h
     .simp at h
    .simp at h
  .simp at h
 .simp at h
theorem nS(z:List TV):∀n,(times z n).length=n*z.length
 | 0=>by simp[times]
 |n+1=>by simp[times,nS z n,a3Q,Nat.add_comm]
theorem QF(z:List TV)(hz:0<z.length):∀(n i:Nat),i<n*z.length->(times z n)[i]? = z[i%z.length]?
 | 0,i,h=>by simp at h
 |n+1,i,h=>by
  simp only[times];by_cases hi:i<z.length
  .rw[a0e hi,Nat.mod_eq_of_lt hi]
  rw[a1c (by omega),QF z hz n (i-z.length) (by rw[a3Q]at h;omega)];congr 1;rw[Nat.mod_eq_sub_mod (a:=i) (by omega)]
theorem Iq{z:List TV}(h:∀c∈z,iQ c=true):∀n,∀c∈times z n,iQ c=true
 | 0=>by simp[times]
 |n+1=>by
  intro c hc;simp only[times,a3K]at hc;rcases hc with hc|hc
  .exact h c hc
  exact Iq h n c hc
theorem VI{N:Np}{z:List TV}{x:Array Value}(h:bV N z x.toList)(n m:Nat)(hm:m=n*z.length) :
  bV N (times z n) ((Array.range m).map (x[·%x.size]!)).toList:=by
 have hl:=h.len;simp only[a9w]at hl;refine⟨by simp[nS,hm],fun i c v a b=>?_⟩;have hi:i<n*z.length:=by have:=(a04.1 a).1;rwa [nS]at this
 have hz:0<z.length:=by
  rcases abA z.length with e|e
  .rw[e]at hi;simp at hi
  .exact e
 rw[QF z hz n i hi]at a;have ah8:i%x.size<x.size:=Nat.mod_lt _ (by omega);have hb:v=x[i%x.size]:=by
  rw[adI,Array.getElem?_map]at b;simp only[Array.getElem?_range]at b;rw[a0h (by omega)]at b;simp only[a0T,a00]at b;rw[<-b,getElem!_pos x _ ah8]
 rw[hl]at a;exact h.at_ (i%x.size) c v a (by simp[hb,ah8])
theorem qH{t e:TypeId}{n:Nat}(h:jw P t=some (e,n)):P.underlying t=some (.slice e)∧dB P e=some n∧0<n:=by
 unfold jw at h;split at h
 .rename_i e' hu;split at h
  .rename_i n' hn;split at h
   .simp at h
   simp at h;obtain⟨rfl,rfl⟩:=h;exact⟨hu,hn,by omega⟩
  simp at h
 simp at h
theorem QG{place:Nat->Option (Nat×Nat)}:∀{ps:List (Nat×TV)} {cs r:List TV},rU place cs ps=some r->r.length=cs.length
 | [],cs,r,h=>by simp[rU]at h;rw[h]
 |(i,v)::ps,cs,r,h=>by
  simp only[rU]at h;split at h
  .split at h
   .split at h
    .rename_i cs' ho;rw[QG h,(vG ho).2.2]
    simp at h
   simp at h
  simp at h
theorem QH{place:Nat->Option (Nat×Nat)}:∀{ps:List (Nat×TV)} {cs r:List TV},rU place cs ps=some r->(∀c∈cs,iQ c=true) ->
  (∀p∈ps,∀c∈p.2.cells,iQ c=true)->∀c∈r,iQ c=true
 | [],cs,r,h,h1,_=>by simp[rU]at h;subst h;exact h1
 |(i,v)::ps,cs,r,h,h1,h2=>by
  simp only[rU]at h;split at h
  .split at h
   .split at h
    .rename_i cs' ho;exact QH h (VD ho h1 (h2 (i,v) (by simp))) (fun p hp=>h2 p (by simp[hp]))
    .simp at h
   .simp at h
  .simp at h
theorem tJ{t:TypeId}{len:Nat}{ps:List (Nat×TV)}{qs:List (Nat×Value)}{r:TV}{s1:St}(hV:Valid M D s.get w)(yJ:M (.h s.heap.length)=none)
  (h:qg P t len s ps=some (r,s1)) (hq:PR M.h ps qs) :
  s1.env=s.env∧∃x w' M',(Instr.buildSlice t len qs.toArray).run P w=.ok x w'∧MV M D s.get w (.val r) s1.get [] x w' M':=by
 unfold qg at h;split at h
 case h_2=>simp at h
 rename_i e n zK;obtain⟨hu,hn,hn0⟩:=qH zK;split at h
 case isFalse=>simp at h
 rename_i hc;obtain⟨hc1,JH⟩:=hc;split at h
 case h_2=>simp at h
 rename_i z hz;split at h
 case isFalse=>simp at h
 rename_i Yg;split at h
 case h_2=>simp at h
 rename_i cs hf;simp at h;obtain⟨rfl,rfl⟩:=h;obtain⟨i,x,v,_,_,_,_,hz1,hvr,hzr⟩:=vS hz;have hx0:=(hvr M.h).len;simp only[a9w]at hx0;have ht:=VI (hvr M.h) len (len*n) (by rw[Yg]);obtain⟨uH,g1,g2⟩:=KX (place':=fun i=>some (i*n,n)) (fun i x hx=>hx) hf hq ht;have EU:∀c∈cs,iQ c=true:=QH hf (Iq hz1 len) (fun p hp=>by
  have:=a4s.1 JH p hp;exact KY this)
 have hlen:cs.length=uH.size:=by have:=g2.len;simpa using this
 have pJ:cs.length=len*n:=by rw[QG hf,nS,Yg]
 have yu:s.get (.h s.heap.length)=none:=by simp[St.get]
 have JF:∀(i:Nat) (c:TV) (v:Value),cs[i]? = some c->uH[i]? = some v->VR M.h c v:=fun i c v a b=>g2.at_ i c v a (by simpa using b);have gW:=N7 hV e yJ yu (agC hlen) JF EU;refine⟨rfl,.slice (some ⟨w.heap.size,0,none⟩) len len,w.alloc (.cells uH e),dJ M (.h s.heap.length) (.cells [⟨w.heap.size,0,cs.length,uH.size⟩]),?_,⟨?_,?_,?_,qG yJ⟩⟩
 .have hle:¬(len*n>2^24):=by omega
  by_cases h0:len*n=0
  .have amJ:cs=[]:=a3W (by omega);have g1':Instr.fill (fun i=>some (i*n,n)) ((Array.range (len*n)).map ((#[]:Array Value)[·%(#[]:Array Value).size]!)) qs=some uH:=by
    rw[h0]at g1 ⊢;have e0:Array.range 0=#[]:=rfl;rw[e0]at g1 ⊢;simpa using g1
   simp only[Instr.buildSlice,Sem.run_bind,run_underlying hu,Result.andThen_ok,cO hn];rw[a0g hle,a0h h0];simp only[Sem.run_pure,Sem.run_bind,Result.andThen_ok,g1',newRow,run_newObj,World.alloc]
  .simp only[Instr.buildSlice,Sem.run_bind,run_underlying hu,Result.andThen_ok,cO hn];rw[a0g hle,a0g h0];simp only[Sem.run_pure,Sem.run_bind,Result.andThen_ok,hzr w,g1,newRow,run_newObj,World.alloc]
 .rw[jR];exact gW.1
 .rw[jR];exact gW.2
 .have hlb:len<2^63:=by
   have:=Nat.le_mul_of_pos_right len (show 0<n by omega);omega
  refine .val (.slc (ls:=[⟨w.heap.size,0,cs.length,uH.size⟩]) (p:=⟨w.heap.size,0,cs.length,uH.size⟩) (by simp[Mp.h,dJ]) (by simp) (by simp[pJ]) (a15 _) (a15 _) (fun _=>rfl) (.inr ⟨by simp,by simp;omega⟩) hlb)
end
section
variable {P:Program} {M:Mp} {D:Key->Prop} {w:World} {s:St}
theorem a0b{i:Int}(h0:0<=i)(h1:i<=2^40):i64.wrap i=i:=by
 have h2:i%(2^64:Int)=i:=a8w h0 (by omega);simp only[IntKind.wrap,IntKind.bits,IntKind.signed,h2];rw[a0g];simp only[abq,a1X,ge_iff_le];omega
theorem QI{N:Np}{v:TV}{n:Nat}{x:Value}(h:a1T v=some n)(hx:VR N v x):∃k i,x=.int k i∧0<=i∧i<=2^40∧n=i.toNat:=by
 unfold a1T at h;split at h
 .split at h
  .rename_i k i hc;simp at h;subst h;cases hx;exact⟨k,i,rfl,hc.1,hc.2,rfl⟩
  simp at h
 simp at h
theorem zT{e:TypeId}{n:Nat}(h:tH P e n=true):∃i x,P.info? e=some i∧i.zero=some x∧x.cells.size=i.size∧n*i.bytes<=2^40∧n<=2^40∧i.bytes<=2^20∧0<i.bytes:=by
 unfold tH at h;split at h
 .rename_i i hi;simp only[a2m,a1X]at h;obtain⟨⟨⟨⟨h1,h2⟩,h3⟩,h4⟩,h5⟩:=h;unfold a4i at h5;split at h5
  .rename_i x hx;exact⟨i,x,hi,hx,by simpa using h5,h1,h2,h3,h4⟩
  simp at h5
 simp at h
theorem zU{t:TypeId}{a b r:TV}{x y:Value}{s1:St}(hV:Valid M D s.get w)(yJ:M (.h s.heap.length)=none)
  (h:rZ P t s a b=some (r,s1)) (hx:VR M.h a x) (hy:VR M.h b y) :
  s1.env=s.env∧∃z w' M',(Instr.makeSlice t x y).run P w=.ok z w'∧MV M D s.get w (.val r) s1.get [] z w' M':=by
 unfold rZ at h;split at h
 case h_2=>simp at h
 rename_i e n l c zK hl hc;obtain⟨hu,hn,hn0⟩:=qH zK;obtain⟨_,li,rfl,l0,l1,rfl⟩:=QI hl hx;obtain⟨_,ci,rfl,c0,c1,rfl⟩:=QI hc hy;split at h
 case isFalse=>simp at h
 rename_i QJ;obtain⟨hlc,JI⟩:=QJ;obtain⟨i,zx,hi,hzx,hzs,BU,xJ,hb3,hb4⟩:=zT JI;split at h
 case h_2=>simp at h
 rename_i z hz;split at h
 case isFalse=>simp at h
 rename_i Yg;simp at h;obtain⟨rfl,rfl⟩:=h;obtain⟨i',x,v,wV,EY,_,_,hz1,hvr,hzr⟩:=vS hz;rw[hi]at wV;cases wV;have ht:=VI (hvr M.h) ci.toNat (ci.toNat*n) (by rw[Yg])
 let arr:Array Value:=(Array.range (ci.toNat*n)).map (x.cells[·%x.cells.size]!)
 have hlen:(times z ci.toNat).length=arr.size:=by have:=ht.len;simpa[arr]using this
 have pJ:(times z ci.toNat).length=ci.toNat*n:=by rw[nS,Yg]
 have yu:s.get (.h s.heap.length)=none:=by simp[St.get]
 have JF:∀(i:Nat) (c:TV) (v:Value),(times z ci.toNat)[i]? = some c->arr[i]? = some v->VR M.h c v:=fun i c v a b=>ht.at_ i c v a (by rw[adI];exact b);have gW:=N7 hV e yJ yu (agC hlen) JF (Iq hz1 _);have hmul:(li.toNat)*n<=ci.toNat*n:=a3P n hlc;refine⟨rfl,.slice (some ⟨w.heap.size,0,none⟩) li.toNat ci.toNat,w.alloc (.cells arr e),dJ M (.h s.heap.length) (.cells [⟨w.heap.size,0,(times z ci.toNat).length,arr.size⟩]),?_,⟨?_,?_,?_,qG yJ⟩⟩
 .have hwl:=a0b l0 l1;have hwc:=a0b c0 c1;have KE:¬((i.bytes:Int)*ci>2^48):=by
   have e1:(ci.toNat*i.bytes:Nat)<=2^40:=BU;have e2:((i.bytes:Int)*ci)=((ci.toNat*i.bytes:Nat):Int):=by
    rw[Nat.mul_comm,afC,agJ c0]
   omega
  simp only[Instr.makeSlice,Sem.run_bind,run_underlying hu,Result.andThen_ok,asInt,asIntOf,Sem.run_pure,iR hi,hwl,hwc];rw[a0g (by simp;exact⟨⟨⟨c0,by omega⟩,l0⟩,by omega⟩)];simp only[Sem.run_bind,run_askRoom,Result.andThen_ok,cO hn];by_cases h0:ci.toNat*n=0
  .rw[a0h h0];have e0:arr=#[]:=Array.eq_empty_of_size_eq_zero (by omega);have e1:(Array.range (ci.toNat*n)).map ((#[]:Array Value)[·%(#[]:Array Value).size]!)=#[]:=by
    rw[h0];have e0:Array.range 0=#[]:=rfl;rw[e0];simp
   simp only[Sem.run_pure,Result.andThen_ok,e1,newRow,Sem.run_bind,run_newObj,World.alloc,e0]
  .rw[a0g h0];simp only[Sem.run_bind,hzr w,Sem.run_pure,Result.andThen_ok,newRow,run_newObj,World.alloc,arr]
 .rw[jR];exact gW.1
 .rw[jR];exact gW.2
 .refine .val (.slc (ls:=[⟨w.heap.size,0,(times z ci.toNat).length,arr.size⟩]) (p:=⟨w.heap.size,0,(times z ci.toNat).length,arr.size⟩) (by simp[Mp.h,dJ]) (by simp) (by simp[pJ]) hlc (a15 _) (fun _=>rfl) (.inr ⟨by simp,by simp;omega⟩) (by omega))
theorem Yx{at_:Array TypeId}{t:TypeId}{v r:TV}{i:lD}{x:Value}(hV:Valid M D s.get w)(h:Yl P at_ s.heap v=some (r,i))(hx:VR M.h v x)(hD:∀k∈i.ts,D k) :
  i.ws=[]∧∃z,VR M.h r z∧(Builtin.len_ at_ t #[x]).run P w=.ok z w:=by
 unfold Yl at h;split at h
 case h_2=>simp at h
 rename_i t0 ht0;split at h
 .rename_i b hu;simp at h;obtain⟨rfl,rfl⟩:=h;cases hx;exact⟨rfl,_,.int _ _,by simp[Builtin.len_,ht0,run_underlying hu,goInt]⟩
 .rename_i n el _ hu;simp at h;obtain⟨rfl,rfl⟩:=h;exact⟨rfl,_,.int _ _,by simp[Builtin.len_,ht0,run_underlying hu,goInt]⟩
 .rename_i el b off len cap sz ex hu;simp at h;obtain⟨rfl,rfl⟩:=h;cases hx;exact⟨rfl,_,.int _ _,by simp[Builtin.len_,ht0,run_underlying hu,goInt]⟩
 .rename_i el hu;simp at h;obtain⟨rfl,rfl⟩:=h;cases hx;exact⟨rfl,_,.int _ _,by simp[Builtin.len_,ht0,run_underlying hu,goInt]⟩
 .rename_i k el hu;simp at h;obtain⟨rfl,rfl⟩:=h;cases hx;exact⟨rfl,_,.int _ _,by simp[Builtin.len_,ht0,run_underlying hu,goInt]⟩
 .rename_i k el r0 hu;split at h
  .rename_i es he;simp at h;obtain⟨rfl,rfl⟩:=h;cases hx with
   |map hm=>
    obtain⟨fV,h1,h2⟩:=hV.ok _ _ hm (hD _ (by simp[wS]));simp only[St.get,he,a00]at h1;subst h1;obtain⟨xs,g1,g2⟩:=h2;have g2:=g2.len;refine⟨rfl,_,.int _ _,?_⟩;simp[Builtin.len_,ht0,run_underlying hu,goInt,getObj,Sem.run,g1,g2]
  .simp at h
 .simp at h
end
section
variable {P:Program} {M:Mp} {D:Key->Prop} {w:World} {s:St}
theorem BZ{C:Ct}{size n:Nat}{v:TV}{l:List TV}{x:Value}{h:List HB}(hh:∀b,C (.h b)=h[b]?)(hV:Valid M D C w)(hs:fE size h v=some (n,l))(hx:VR M.h v x)(hD:∀k∈dF v,D k) :
  (Builtin.lenOf x).run P w=.ok n w∧(∀c∈l,iQ c=true)∧∃arr,(∀w':World,w'.heap=w.heap->(Builtin.firstCells size n x).run P w'=.ok arr w')∧bV M.h l arr.toList:=by
 unfold fE at hs;split at hs
 .simp at hs;obtain⟨rfl,rfl⟩:=hs;cases hx;exact⟨by simp[Builtin.lenOf],by simp,#[],fun w' _=>by simp[Builtin.firstCells],.nil⟩
 .rename_i b off len cap sz ex;split at hs
  .rename_i uN;subst uN;split at hs
   .rename_i hz;subst hz;simp at hs;obtain⟨rfl,rfl⟩:=hs;cases hx with
    |slc hm hp EX hle vT hex ha hk=>
     exact⟨by simp[Builtin.lenOf],by simp,#[],fun w' _=>by simp[Builtin.firstCells,loadCells,loadCellsFrom],.nil⟩
   split at hs
   .rename_i cs hb;simp only[a09,a0S]at hs;obtain⟨r,hr,rfl,rfl⟩:=hs;cases hx with
    |slc hm hp EX hle vT hex ha hk=>
     rename_i ls p a cap';obtain⟨k,hk,VG⟩:=xG hb;obtain⟨fV,h1,h2⟩:=hV.ok _ _ hm (hD _ (by simp[dF]));rw[hh,hk]at h1;cases h1;obtain⟨g1,g2,_⟩:=h2;obtain⟨s1,s2,s3⟩:=tZ hr;refine⟨by simp[Builtin.lenOf],fun c hc=>g1 c (by rw[s2]at hc;exact a6r (a9f hc)),?_⟩;by_cases h0:cap'=0
     .have qy:len=0:=(by omega);subst qy;have:r=[]:=a3W (by rw[s3];simp);subst this;exact⟨#[],fun w' _=>by simp[Builtin.firstCells,loadCells,loadCellsFrom],.nil⟩
     .rcases ha with ha|⟨rfl,ha⟩
      .exact absurd ha h0
      .obtain⟨xs,x1,x2⟩:=yj (P:=P) (g2 p (hp.resolve_left h0)) hr (by have:=a3P sz hle;omega) (fun e=>by have:=VG e;have:=(g2 p (hp.resolve_left h0)).ext;omega);exact⟨xs.toArray,fun w' hw'=>by simp[Builtin.firstCells,x2 w' hw'],x1⟩
   .simp at hs
  .simp at hs
 .rename_i bs;split at hs
  .rename_i uN;simp at hs;obtain⟨rfl,rfl⟩:=hs;cases hx;refine⟨by simp[Builtin.lenOf],by simp[iQ],(bs.extract 0 bs.size).data.map fun b=>.int .u8 b.toNat,fun w' _=>rfl,?_⟩;refine⟨by simp,fun i c v a b=>?_⟩;simp only[a4h,a09]at a;obtain⟨y,hy,rfl⟩:=a;rw[show bs.extract 0 bs.size=bs from by simp]at b;simp only[Array.toList_map,a4h,hy,a0T,a00]at b;rw[<-b];exact .int _ _
  .simp at hs
 .simp at hs
theorem TQ{size n b off len cap sz:Nat}{ex:Bool}{l:List TV}{h:List HB}(hs:fE size h (.slc b off len cap sz ex)=some (n,l)):sz=size∧n=len∧l.length=len*size:=by
 simp only[fE]at hs;split at hs
 .rename_i hz;split at hs
  .rename_i h0;cases hs;exact⟨hz,h0.symm,by simp[h0]⟩
  split at hs
  .simp only[a09,a0S]at hs;obtain⟨r,hr,rfl,rfl⟩:=hs;exact⟨hz,rfl,(tZ hr).2.2⟩
  cases hs
 cases hs
theorem QK(N:Nat):∀(r c:Nat),c<=2*N+192->Builtin.growBy N r c<=2*N+192
 | 0,c,h=>by simpa[Builtin.growBy]using h
 |r+1,c,h=>by
  simp only[Builtin.growBy];split
  .exact h
  exact QK N r _ (by omega)
theorem Yy{KF c:Nat}(h:c<KF):Builtin.nextslicecap KF c<=2*KF+192:=by
 unfold Builtin.nextslicecap;split
 .omega
 split
 .omega
 exact QK KF 4 c (by omega)
theorem a8M{KF c b:Nat}(h:c<KF)(h1:KF*b<=2^40)(h2:b<=2^20):¬(Builtin.nextslicecap KF c*b>2^48):=by
 have e1:=Yy h;have e2:Builtin.nextslicecap KF c*b<=(2*KF+192)*b:=a3P b e1;have e3:(2*KF+192)*b=2*(KF*b)+192*b:=by rw[a3Q,Nat.mul_assoc]
 omega
theorem vU(z:Array Value)(n:Nat):(Builtin.zeroCells z n).size=n*z.size:=by simp[Builtin.zeroCells]
def vV:TypeDesc->Bool
 |.int _=>true
 |_=>false
theorem Yz{t:TypeId}(h:¬(TF P t||(P.underlying t).isNone)=true):∃d,P.underlying t=some d∧vV d=false:=by
 simp only[a8O,adq,adY]at h;obtain⟨h1,h2⟩:=h;cases hu:P.underlying t with
 |none=>simp[hu]at h2
 |some d=>
  refine⟨d,rfl,?_⟩;unfold TF at h1;rw[hu]at h1;cases d<;>simp_all [vV]
theorem EZ{at_:Array TypeId}{st xt e:TypeId}{size n sLen sCap:Nat}{i:TypeInfo}{z sv xv:Value}{base:Option Addr}{d:TypeDesc}{old new:Array Value}{ty:TypeId}
  (h0:at_[0]? = some st) (h1:at_[1]? = some xt) (hu:P.underlying st=some (.slice e)) (hn:dB P e=some size) (JJ:P.underlying xt=some d) (hd:vV d=false)
  (hi:P.info? e=some i) (hz:i.zero=some z) (hsv:sv=.slice base sLen sCap)
  (hl:(Builtin.lenOf xv).run P w=.ok n w) (vT:sCap<sLen+n) (BU:(sLen+n)*i.bytes<=2^40) (xJ:sLen+n<=2^40) (hb3:i.bytes<=2^20)
  (hold:∀w':World,w'.heap=w.heap->(Builtin.firstCells size sLen sv).run P w'=.ok old w') (gW:∀w':World,w'.heap=w.heap->(Builtin.firstCells size n xv).run P w'=.ok new w') :
  ∃ku,sLen+n<=ku∧ku<2^63∧(Builtin.append_ at_ ty #[sv,xv]).run P w=.ok (.slice (some ⟨w.heap.size,0,none⟩) (sLen+n) ku) (w.drew.alloc (.cells (old++new++Builtin.zeroCells z.cells (ku-(sLen+n))) e)):=by
 subst hsv;refine⟨(Question.appendCap (sLen+n) sCap e).cut (w.tape w.drawn (.appendCap (sLen+n) sCap e)),by simp[Question.cut],?_,?_⟩
 .have:=Nat.mod_lt (w.tape w.drawn (.appendCap (sLen+n) sCap e)) (show 0<2^63-(sLen+n) by omega);simp only[Question.cut];omega
 have hz':∀w,(zeroValue e).run P w=.ok z w:=fun w=>by simp[zeroValue,iR hi,hz]
 have hq:(Question.appendCap (sLen+n) sCap e).forced=false:=rfl;have hle:¬(sLen+n<=sCap):=by omega
 have KE:¬(((sLen+n:Nat):Int)>i64.max):=by
  have:i64.max=2^63-1:=rfl;rw[this];omega
 have JI:=a8M vT BU hb3;have e1:=hold w.drew rfl;have e2:=gW w.drew rfl;unfold Builtin.append_;simp only[adF,a2J,a9o,h0,h1];simp only[Sem.run_bind,run_underlying hu,Result.andThen_ok,cO hn,run_underlying JJ,Sem.run_pure];rw[a0g (by cases d<;>simp_all [vV])];simp only[Sem.run_bind,hl,Result.andThen_ok];rw[a0g hle];simp only[Sem.run_bind,iR hi,Result.andThen_ok];rw[a0g (fun h=>KE h.1)];simp only[Sem.run_bind,iR hi,Result.andThen_ok];rw[a0g JI];simp only[Sem.run_bind,Sem.run_pure,run_choose,hq,a2c,a2Y,Result.andThen_ok,iR hi,run_askRoom,World.drew_eq,e1];rw[a0h (by cases d<;>simp_all [vV])];simp only[Sem.run_bind,Sem.run_pure,Result.andThen_ok,e2,hz',newRow,run_newObj,World.size_drew,World.alloc_eq]
theorem QL{at_:Array TypeId}{st xt e:TypeId}{size n sLen sCap:Nat}{a:Addr}{sv xv:Value}{d:TypeDesc}{new:Array Value}{ty:TypeId}{w':World}
  (h0:at_[0]? = some st) (h1:at_[1]? = some xt) (hu:P.underlying st=some (.slice e)) (hn:dB P e=some size) (JJ:P.underlying xt=some d) (hd:vV d=false)
  (hsv:sv=.slice (some a) sLen sCap) (hl:(Builtin.lenOf xv).run P w=.ok n w) (vT:sLen+n<=sCap)
  (gW:(Builtin.firstCells size n xv).run P w=.ok new w) (vH:(storeCells (a.add (sLen*size)) new.toList).run P w=.ok () w') :
  (Builtin.append_ at_ ty #[sv,xv]).run P w=.ok (.slice (some a) (sLen+n) sCap) w':=by
 subst hsv;unfold Builtin.append_;simp only[adF,a2J,a9o,h0,h1];simp only[Sem.run_bind,run_underlying hu,Result.andThen_ok,cO hn,run_underlying JJ,Sem.run_pure];rw[a0g (by cases d<;>simp_all [vV])];simp only[Sem.run_bind,hl,Result.andThen_ok];rw[a0h vT];rw[a0h (by cases d<;>simp_all [vV])];simp only[Sem.run_bind,gW,Result.andThen_ok,vH,Sem.run_pure]
theorem VJ{at_:Array TypeId}{st xt e:TypeId}{size sLen sCap:Nat}{base:Option Addr}{sv xv:Value}{d:TypeDesc}{new:Array Value}{ty:TypeId}
  (h0:at_[0]? = some st) (h1:at_[1]? = some xt) (hu:P.underlying st=some (.slice e)) (hn:dB P e=some size) (JJ:P.underlying xt=some d) (hd:vV d=false)
  (hsv:sv=.slice base sLen sCap) (hl:(Builtin.lenOf xv).run P w=.ok 0 w) (vT:sLen<=sCap)
  (gW:(Builtin.firstCells size 0 xv).run P w=.ok new w) (iy:new.toList=[]) :
  (Builtin.append_ at_ ty #[sv,xv]).run P w=.ok sv w:=by
 subst hsv;unfold Builtin.append_;simp only[adF,a2J,a9o,h0,h1];simp only[Sem.run_bind,run_underlying hu,Result.andThen_ok,cO hn,run_underlying JJ,Sem.run_pure];rw[a0g (by cases d<;>simp_all [vV])];simp only[Sem.run_bind,hl,Result.andThen_ok];rw[a0h (by omega)];rw[a0h (by cases d<;>simp_all [vV])];simp only[Sem.run_bind,gW,Result.andThen_ok];cases base<;>simp[iy,storeCells]
end
section
variable {P:Program} {M:Mp} {D:Key->Prop} {w:World} {s:St}
def BOk(P:Program)(M:Mp)(D:Key->Prop)(C:Ct)(w:World)(c:Sem Value)(v:TV)(C1:Ct)(ws:List Key):Prop:=
 ∃x w' M',c.run P w=.ok x w'∧MV M D C w (.val v) C1 ws x w' M'
theorem Ext.drew'{M0:Mp}{C0:Ct}{w0:World}{M:Mp}{C:Ct}{w:World}{ws:List Key}(h:Ext M0 C0 w0.drew M C w ws):Ext M0 C0 w0 M C w ws:=
 ⟨h.Ic,h.frame,h.mW,h.kR,h.fresh,h.size,h.has,h.wsub,h.wrote,h.os,h.output,h.tape⟩
theorem bV.TR{N:Np}{l:List TV}{arr:Array Value}(h:bV N l arr.toList){i:Nat}{c:TV}{v:Value}(a:l[i]? = some c)(b:arr[i]? = some v):VR N c v:=
 h.at_ i c v a (by rw[adI];exact b)
theorem VK(hV:Valid M D s.get w)(yJ:M (.h s.heap.length)=none){cs:List TV}{pre rest:Array Value}{e:TypeId}(hx:bV M.h cs pre.toList)(hn:∀c∈cs,iQ c=true)
  {len ku size:Nat} (QM:cs.length=len*size) (hle:len<=ku) (hk:ku<2^63) (Nh:rest.size=(ku-len)*size) :
  ∃M',MV M D s.get w (.val (.slc s.heap.length 0 len len size false)) (St.get { s with heap:=s.heap++[.cells .own cs] }) [] (.slice (some ⟨w.heap.size,0,none⟩) len ku) (w.drew.alloc (.cells (pre++rest) e)) M':=by
 have yu:s.get (.h s.heap.length)=none:=by simp[St.get]
 have FT:pre.size=cs.length:=by have:=hx.len;simp at this;omega
 have amH:(pre++rest).size=ku*size:=by
  have:len*size+(ku-len)*size=ku*size:=by rw[<-a3Q];congr 1;omega
  simp;omega
 have hmul:len*size<=ku*size:=a3P size hle;have YA:Valid M D s.get w.drew:=hV.of_heap rfl;have gW:=N7 YA (cs:=cs) (arr:=pre++rest) e yJ yu (by omega) (fun i c v a b=>by
  have hi:=(a04.1 a).1;rw[aa1 (by omega)]at b;exact hx.TR a b) hn
 refine⟨dJ M (.h s.heap.length) (.cells [⟨w.heap.size,0,cs.length,(pre++rest).size⟩]),⟨?_,?_,?_,qG yJ⟩⟩
 .rw[jR];exact gW.1
 .rw[jR];exact gW.2.drew'
 .exact .val (.slc (ls:=[⟨w.heap.size,0,cs.length,(pre++rest).size⟩]) (p:=⟨w.heap.size,0,cs.length,(pre++rest).size⟩) (by simp[Mp.h,dJ]) (by simp) (by simp[QM]) (a15 _) hle (fun h=>by simp at h) (.inr ⟨by simp,by simp only[a3U];omega⟩) hk)
theorem Ey:∀{ls:List Pl},(ls.map (·.c)).Nodup->∀{p q:Pl},p∈ls->q∈ls->q.c=p.c->q=p
 | [],_,p,q,hp,_,_=>by simp at hp
 |a::ls,h,p,q,hp,hq,e=>by
  simp only[a3Z,a4g]at h;rcases a1Y.1 hp with h1|h1<;>rcases a1Y.1 hq with h2|h2
  .rw[h1,h2]
  .exact(h.1 (a1f.2 ⟨q,h2,by rw[e,h1]⟩)).elim
  .exact(h.1 (a1f.2 ⟨p,h1,by rw[<-e,h2]⟩)).elim
  exact Ey h.2 h1 h2 e
theorem a0c(hV:Valid M D s.get w){b:Nat}{k:BK}{cs new:List TV}{ls:List Pl}{p:Pl}{x:Array Value}(hm:M (.h b)=some (.cells ls))(hd:D (.h b))(hb:s.heap[b]? = some (.cells k cs))
  (hk:k≠.ro) (hp:p∈ls) (EX:cs.length<=p.ext) (hx:bV M.h new x.toList) (hn:∀c∈new,iQ c=true) (iy:new≠[]) {w':World}
  (fl:Bool) (old rest:Array Value) (ty0:TypeId)
  (hw:(fl=true∧cs.length+new.length<=p.tot∧(storeCells ⟨p.c,cs.length,none⟩ x.toList).run P w=.ok () w') ∨
   (fl=false∧bV M.h cs old.toList∧w'=w.drew.alloc (.cells (old++x++rest) ty0))) :
  ∃M' q,Valid M' D (St.get { s with heap:=s.heap.set b (.cells k.more (cs++new)) }) w'∧Ext M s.get w M' (St.get { s with heap:=s.heap.set b (.cells k.more (cs++new)) }) w' [.h b] ∧
   (∀j l,M (.l j)=some l->M' (.l j)=some l)∧(∃xE,M' (.h b)=some (.cells xE)∧q∈xE)∧cs.length+new.length<=q.ext∧q.base=0 ∧
   ((fl=true∧q.c=p.c∧q.tot=p.tot)∨(fl=false∧q.c=w.heap.size∧q.tot=(old++x++rest).size)):=by
 have hg:s.get (.h b)=some (.cells k cs):=by simp[St.get,hb]
 have yL:=(a04.1 hb).1;obtain⟨fV,h1,h2⟩:=hV.ok _ _ hm hd;rw[hg]at h1;cases h1;obtain⟨ho,FT,aha,a0d⟩:=h2;have hxl:=hx.len;simp only[a9w]at hxl;have je:(ls.map (·.c)).Nodup:=by
  cases k with
  |ro=>exact absurd rfl hk
  |own=>obtain⟨q,rfl,_⟩:=aha rfl;simp
  |grow=>exact(a0d (.inl rfl)).1
  |last=>exact(a0d (.inr rfl)).1
 have aqS:∀q∈ls,q.ext=cs.length->q=p:=by
  intro q hq he;cases k with
  |ro=>exact absurd rfl hk
  |own=>
   obtain⟨q',e',_⟩:=aha rfl;rw[e']at hp hq;simp at hp hq;rw[hq,hp]
  |grow=>
   have:=(FT p hp).ext;exact(a0d (.inl rfl)).2 q hq p hp he (by omega)
  |last=>
   have:=(FT p hp).ext;exact(a0d (.inr rfl)).2 q hq p hp he (by omega)
 have hpe:p.ext=cs.length:=by have:=(FT p hp).ext;omega
 have hpb:p.base=0:=(FT p hp).base hk;have hmr:k.more≠.own:=by cases k<;>simp[BK.more]
 have hml:k.more=.last->k=.last:=by cases k<;>simp[BK.more]
 have EU:∀c∈cs++new,iQ c=true:=by
  intro c hc;rcases a3K.1 hc with h|h
  .exact ho c h
  .exact hn c h
 rcases hw with⟨hfl,JI,vH⟩|⟨hfl,hold,rfl⟩
 .-- in place
  let p':Pl:={ p with ext:=cs.length+new.length }
  let xE:List Pl:=ls.map fun q=>if q.c=p.c then p' else q
  have hqp:∀q∈ls,q.c=p.c->q=p:=by
   intro q hq he;exact Ey je hp hq he
  have hp':p'∈xE:=a1f.2 ⟨p,hp,by simp⟩;have a4x:xE.map (·.c)=ls.map (·.c):=by
   simp only[xE,a7U];apply a6m;intro q hq;simp only[Function.comp];split
   .rename_i he;exact he.symm
   .rfl
  have hlc:KA (.cells ls) (.cells xE):=by
   intro q hq;by_cases he:q.c=p.c
   .have:=hqp q hq he;subst this;exact⟨p',hp',rfl,rfl,by simp[p'];omega,rfl⟩
   .exact⟨q,a1f.2 ⟨q,hq,by simp[he]⟩,rfl,rfl,a15 _,rfl⟩
  obtain⟨arr,ty,fz,r1,r2,r3,r4⟩:=(FT p hp).row;have:=r3 hk;subst this;have ahd:∀v∈x.toList,v.oneCell'=true:=by
   intro v hv;obtain⟨i,hi,rfl⟩:=a4E.1 hv;have wV:i<new.length:=by simp at hi;omega
   exact Ik (hx.at_ i new[i] x.toList[i] (by simp[wV]) (by simp)) (hn _ (a4w wV))
  have uY:=run_storeCells_at (P:=P) p.c cs.length ty x.toList 0 arr w r1 (by simp;omega) ahd;simp only[adz,a9w]at uY;rw[uY]at vH;have amO:=Result.ok.inj vH;obtain⟨_,rfl⟩:=amO
  let w':World:=w.setRow p.c (arr.toList.take cs.length++x.toList++arr.toList.drop (cs.length+x.size)).toArray
  have gq:∀c,c<w.heap.size->c∉aI (.cells xE)->w'.heap[c]? = w.heap[c]?:=fun c _ hc=>uX w p.c _ c (fun e=>hc (by rw[e];exact a1f.2 ⟨p',hp',rfl⟩));have gW:∀c∈aI (.cells xE),(∃l0,M (.h b)=some l0∧c∈aI l0)∨w.heap.size<=c:=fun c hc=>.inl ⟨_,hm,by simp only[aI]at hc ⊢;rwa [a4x]at hc⟩;have Ip:rV M (dJ M (.h b) (.cells xE)):=lJ fun l0 h0=>by rw[hm]at h0;cases h0;exact hlc
  have VL:∀i,(arr.toList.take cs.length++x.toList++arr.toList.drop (cs.length+x.size)).toArray[i]? = if i<cs.length then arr[i]? else if i<cs.length+x.size then x[i-cs.length]? else arr[i]?:=by
   intro i;have:=VB (arr:=arr) (off:=cs.length) (xs:=x.toList) i (by simp;omega);simpa using this
  have QB:oP (dJ M (.h b) (.cells xE)).h w' (.cells k.more (cs++new)) (.cells xE):=by
   refine⟨EU,fun q hq=>?_,fun e=>absurd e hmr,fun _=>⟨by rw[a4x];exact je,fun q1 JD q2 FZ e1 e2=>?_⟩⟩
   .obtain⟨q0,hq0,rfl⟩:=a1f.1 hq;by_cases he:q0.c=p.c
    .simp only[he,a2d];refine⟨⟨_,ty,(0,0),MX w p.c _ arr ty (0,0) r1,by simp[p'];omega,fun _=>rfl,fun _ i c v hi a b=>?_⟩,by simp[p',hpb];omega,by simp[p'],fun _=>hpb⟩;simp only[p',hpb,a3U]at b hi;rw[VL i]at b;by_cases h1:i<cs.length
     .rw[a0h h1]at b;rw[a0e h1]at a;exact(r4 (fun _=>hpe) i c v (by omega) a (by simpa[hpb]using b)).mono Ip.h
     .rw[a0g h1,a0h (by omega)]at b;rw[a1c (by omega)]at a;exact(hx.TR a b).mono Ip.h
    .simp only[he,a2Y];have JD:=FT q0 hq0;obtain⟨uH,ty',fz',t1,t2,t3,t4⟩:=JD.row;refine⟨⟨uH,ty',fz',(uX w p.c _ q0.c he).trans t1,t2,fun _=>t3 hk,fun hz i c v hi a b=>?_⟩,JD.fit,by have:=JD.ext;simp;omega,fun _=>JD.base hk⟩;have:=JD.ext;rw[a0e (by omega)]at a;exact(t4 (fun e=>by have:=hz (by rw[e];rfl);have:0<new.length:=a9D.2 iy;simp at *;omega) i c v hi a b).mono Ip.h
   .have aux:∀q∈xE,q.ext=(cs++new).length->new≠[]->q=p':=by
     intro q hq e iy;obtain⟨q0,hq0,rfl⟩:=a1f.1 hq;by_cases he:q0.c=p.c
     .simp[he]
     .simp only[he,a2Y]at e;have:=(FT q0 hq0).ext;have:0<new.length:=a9D.2 iy;simp at e;omega
    rw[aux q1 JD e1 iy,aux q2 FZ e2 iy]
  refine⟨dJ M (.h b) (.cells xE),p',?_,?_,?_,⟨xE,by simp[dJ],hp'⟩,a15 _,hpb,.inl ⟨hfl,rfl,rfl⟩⟩
  .rw[jm s b _ yL];exact hV.upd (.h b) _ _ (fun j hj=>.inl hj) (fun l0 h0=>by
    rw[hm]at h0;cases h0;exact⟨hd,hlc,fun b0 zJ=>by rw[hg]at zJ;cases zJ;cases k<;>simp_all [wr]⟩) gq gW (by simp) QB
  .rw[jm s b _ yL];exact Ext.upd (.h b) _ _ [.h b] (.inl ⟨by simp[hg],rfl,by simp[hm],fun b0 zJ=>by rw[hg]at zJ;cases zJ;cases k<;>simp_all [wr]⟩) Ip gq gW (by simp) rfl rfl rfl
  .intro j l hj;simp[dJ,hj]
 .-- a new row
  let p':Pl:=⟨w.heap.size,0,cs.length+new.length,(old++x++rest).size⟩
  let xE:List Pl:=p'::ls
  let w':World:=w.drew.alloc (.cells (old++x++rest) ty0)
  have QN:=hold.len;simp only[a9w]at QN;have aS:∀q∈ls,q.c<w.heap.size:=fun q hq=>hV.inb _ _ hm q.c (a1f.2 ⟨q,hq,rfl⟩);have hlc:KA (.cells ls) (.cells xE):=fun q hq=>⟨q,a3O _ hq,rfl,rfl,a15 _,rfl⟩;have gq:∀c,c<w.heap.size->c∉aI (.cells xE)->w'.heap[c]? = w.heap[c]?:=fun c hc _=>vP w.drew _ c hc;have gW:∀c∈aI (.cells xE),(∃l0,M (.h b)=some l0∧c∈aI l0)∨w.heap.size<=c:=by
   intro c hc;simp only[aI,xE,a3Z,a1Y]at hc;rcases hc with rfl|hc
   .exact .inr (a15 _)
   .exact .inl ⟨_,hm,hc⟩
  have Ip:rV M (dJ M (.h b) (.cells xE)):=lJ fun l0 h0=>by rw[hm]at h0;cases h0;exact hlc
  have QB:oP (dJ M (.h b) (.cells xE)).h w' (.cells k.more (cs++new)) (.cells xE):=by
   refine⟨EU,fun q hq=>?_,fun e=>absurd e hmr,fun _=>⟨?_,fun q1 JD q2 FZ e1 e2=>?_⟩⟩
   .rcases a1Y.1 hq with rfl|hq
    .refine⟨⟨_,ty0,(0,0),heap_alloc_new w.drew _,rfl,fun _=>rfl,fun _ i c v hi a b=>?_⟩,by simp[p'];omega,by simp[p'],fun _=>rfl⟩;simp only[p',a3U]at b hi;by_cases h1:i<cs.length
     .rw[a0e h1]at a;rw[Array.append_assoc,aa1 (by omega)]at b;exact(hold.TR a b).mono Ip.h
     .rw[a1c (by omega)]at a;rw[Array.append_assoc,Array.getElem?_append_right (by omega),aa1 (by omega),<-QN]at b;exact(hx.TR a b).mono Ip.h
    .have JD:=FT q hq;obtain⟨uH,ty',fz',t1,t2,t3,t4⟩:=JD.row;refine⟨⟨uH,ty',fz',(vP w.drew _ q.c (aS q hq)).trans t1,t2,fun _=>t3 hk,fun hz i c v hi a b=>?_⟩,JD.fit,by have:=JD.ext;simp;omega,fun _=>JD.base hk⟩;have:=JD.ext;rw[a0e (by omega)]at a;exact(t4 (fun e=>by have:=hz (by rw[e];rfl);have:0<new.length:=a9D.2 iy;simp at *;omega) i c v hi a b).mono Ip.h
   .simp only[xE,a3Z,a4g];refine⟨fun a8N=>?_,je⟩;obtain⟨q,hq,he⟩:=a1f.1 a8N;have:=aS q hq;simp only[p']at he;omega
   .have ahe:0<new.length:=a9D.2 iy;have aux:∀q∈xE,q.ext=(cs++new).length->q=p':=by
     intro q hq e;rcases a1Y.1 hq with rfl|hq
     .rfl
     .have:=(FT q hq).ext;simp at e;omega
    rw[aux q1 JD e1,aux q2 FZ e2]
  refine⟨dJ M (.h b) (.cells xE),p',?_,?_,?_,⟨xE,by simp[dJ],a3N⟩,a15 _,rfl,.inr ⟨hfl,rfl,rfl⟩⟩
  .rw[jm s b _ yL];exact hV.upd (.h b) _ _ (fun j hj=>.inl hj) (fun l0 h0=>by
    rw[hm]at h0;cases h0;exact⟨hd,hlc,fun b0 zJ=>by rw[hg]at zJ;cases zJ;cases k<;>simp_all [wr]⟩) gq gW (by simp) QB
  .rw[jm s b _ yL];exact Ext.upd (.h b) _ _ [.h b] (.inl ⟨by simp[hg],rfl,by simp[hm],fun b0 zJ=>by rw[hg]at zJ;cases zJ;cases k<;>simp_all [wr]⟩) Ip gq gW (by simp) rfl rfl rfl
  .intro j l hj;simp[dJ,hj]
end
section
variable {P:Program} {M:Mp} {D:Key->Prop} {w:World} {s:St}
theorem Ir{at_:Array TypeId}{ty:TypeId}{d x r:TV}{s1:St}{i:lD}{dv xv:Value}(hV:Valid M D s.get w)(yJ:M (.h s.heap.length)=none)
  (h:jQ P at_ s d x=some (r,s1,i)) (hd:VR M.h d dv) (hx:VR M.h x xv) (hD:∀k∈i.ts,D k) :
  s1.env=s.env∧BOk P M D s.get w (Builtin.append_ at_ ty #[dv,xv]) r s1.get i.ws:=by
 unfold jQ at h;split at h
 case h_2=>simp at h
 rename_i st xt h0 h1;split at h
 .simp at h
 rename_i hint;obtain⟨dd,JJ,hdd⟩:=Yz hint;split at h
 case h_2=>simp at h
 rename_i e size zK;obtain⟨hu,hn,hn0⟩:=qH zK;split at h
 case h_2=>simp at h
 rename_i n new lK;split at h
 .-- nothing
  rename_i hz;subst hz;have key:∀(base:Option Addr) (l c:Nat),dv=.slice base l c->l<=c->(∀k∈dF x,D k)->(Builtin.append_ at_ ty #[dv,xv]).run P w=.ok dv w:=by
   intro base l c e hlc hDk;obtain⟨s1',s2',arr,TT,s4'⟩:=BZ (P:=P) (fun b=>rfl) hV lK hx hDk;refine VJ h0 h1 hu hn JJ hdd e s1' hlc (TT w rfl) ?_;have a4y:new=[]:=by
    unfold fE at lK;split at lK
    .simp at lK;exact lK
    .split at lK
     .split at lK
      .simpa using lK
      split at lK
      .simp only[a09,a0S]at lK;obtain⟨r',hr',e1,e2⟩:=lK;subst e2;exact a3W (by rw[(tZ hr').2.2,e1];simp)
      .simp at lK
     .simp at lK
    .split at lK
     .simp at lK;obtain⟨e1,e2⟩:=lK;rw[<-e2];rename_i bs _;have:bs.data.toList=[]:=a3W (by simpa using e1);simp[this]
     .simp at lK
    .simp at lK
   rw[a4y]at s4';exact s4'.pq
  split at h
  .simp at h;obtain⟨rfl,rfl,rfl⟩:=h;have YB:=hd;cases hd;exact⟨rfl,_,w,M,key none 0 0 rfl (a15 _) hD,.same hV (.val YB)⟩
  .split at h
   .simp at h;obtain⟨rfl,rfl,rfl⟩:=h;have YB:=hd;cases hd with
    |slc hb hp EX hle vT hex ha hk=>
     exact⟨rfl,_,w,M,key _ _ _ rfl (by omega) hD,.same hV (.val YB)⟩
   .simp at h
  .simp at h
 rename_i hz;split at h
 case isFalse=>simp at h
 rename_i hlen;have abl:new≠[]:=by
  intro e;have:0<n*size:=Nat.mul_pos (by omega) hn0;rw[e]at hlen;simp only[a5J]at hlen;omega
 split at h
 .-- nil
  split at h
  case isFalse=>simp at h
  rename_i JI;simp at h;obtain⟨rfl,rfl,rfl⟩:=h;obtain⟨inf,z,hi,hiz,hzs,BU,xJ,hb3,hb4⟩:=zT JI;obtain⟨s1',s2',arr,TT,s4'⟩:=BZ (P:=P) (fun b=>rfl) hV lK hx hD;have uN:inf.size=size:=by obtain⟨i',e1,e2⟩:=ET hn;rw[hi]at e1;cases e1;exact e2
  cases hd;obtain⟨ku,c1,c1',c2⟩:=EZ (P:=P) (w:=w) (ty:=ty) (base:=none) (sLen:=0) (sCap:=0) (old:=#[]) (new:=arr) h0 h1 hu hn JJ hdd hi hiz rfl s1' (by omega) (by simpa using BU) (by omega) hb3
   (fun w' hw'=>by simp[Builtin.firstCells]) TT
  simp only[a3U]at c1 c2;obtain⟨M',hp⟩:=VK (size:=size) (len:=n) (rest:=Builtin.zeroCells z.cells (ku-n)) (e:=e) (pre:=#[]++arr) hV yJ (by simpa using s4') s2' hlen c1 c1' (by rw[vU,hzs,uN]);exact⟨rfl,_,_,M',c2,hp⟩
 .-- a slice
  rename_i b off len cap sz ex;split at h
  case isFalse=>simp at h
  rename_i adw;subst adw;have hd0:=hd;cases hd with
  |slc hb hp EX hle vT hex ha hk=>
  rename_i ls p a cap';split at h
  .-- room
   rename_i amR;simp only[a09,a0S]at h;obtain⟨hp',F8,rfl,rfl,rfl⟩:=h;obtain⟨kk,Ba,cs,cs',hbc,xH,ho,rfl⟩:=Io F8;have hDs:∀k∈dF x,D k:=fun k hk=>hD k (a3O _ hk);obtain⟨s1',s2',arr,TT,s4'⟩:=BZ (P:=P) (fun b=>rfl) hV lK hx hDs;have hg:s.get (.h b)=some (.cells kk cs):=(by simp[St.get,hbc]);have yL:=(a04.1 hbc).1;rcases ha with ha|⟨rfl,ha⟩
   .omega
   have hDb:=hD (.h b) (by simp);have hp:=hp.resolve_left (by omega);obtain⟨w',r1,r2,r3⟩:=yI (P:=P) hV hb hDb hg hp (hV.Yp hb hDb hg hp EX xH) ho s4' s2';obtain⟨o1,o2,o3⟩:=vG ho;have hmul:len*sz+n*sz=(len+n)*sz:=(by rw[a3Q]);refine⟨rfl,_,w',M,QL (P:=P) (w:=w) (ty:=ty) (a:=⟨p.c,p.base+off,none⟩) h0 h1 hu hn JJ hdd rfl s1' (by omega) (TT w rfl) (by rw[tY,aa0];exact r1),⟨?_,?_,?_,fun _ _ h=>h⟩⟩
   .rw[jm s b _ yL];exact⟨fun k l hk hd=>r2.ok k l hk (hd.elim id fun⟨x1,x2⟩=>by
      simp only[lu]at x2;split at x2
      .rename_i e;subst e;rw[hg]at x1;cases x1
      .simp[x1]at x2),fun k k' l l' b' a1 a2 a3 hd=>r2.own k k' l l' b' a1 a2 a3 (hd.elim id fun⟨x1,x2⟩=>by
      simp only[lu]at x2;split at x2
      .rename_i e;subst e;rw[hg]at x1;cases x1
      .simp[x1]at x2),r2.inb⟩
   .rw[jm s b _ yL];exact r3
   .exact .val (.slc hb (.inr hp) (by omega) (by omega) vT hex (.inr ⟨rfl,ha⟩) hk)
  .rename_i amR;split at h
   case isFalse=>simp at h
   rename_i JI;obtain⟨inf,z,hi,hiz,hzs,BU,xJ,hb3,hb4⟩:=zT JI;have uN:inf.size=sz:=by obtain⟨i',e1,e2⟩:=ET hn;rw[hi]at e1;cases e1;exact e2
   have hmul:len*sz+n*sz=(len+n)*sz:=(by rw[a3Q]);split at h
   .-- exact: always a new row
    rename_i ahg;have Nj:=hex ahg;simp only[a09,a0S]at h;obtain⟨⟨l0,old⟩,qh,rfl,rfl,rfl⟩:=h;obtain⟨_,qy,hold⟩:=TQ qh;rw[qy]at qh;have hDs:∀k∈dF x,D k:=fun k hk=>hD k (a3O _ hk);obtain⟨s1',s2',arr,TT,s4'⟩:=BZ (P:=P) (fun b=>rfl) hV lK hx hDs;obtain⟨t1',t2',a4z,t3',t4'⟩:=BZ (P:=P) (fun b=>rfl) hV qh hd0 (fun k hk=>hD k (by simp[dF]at hk;simp[hk,gX]));obtain⟨ku,c1,c1',c2⟩:=EZ (P:=P) (w:=w) (ty:=ty) (base:=some a) (sLen:=len) (sCap:=cap') (old:=a4z) (new:=arr) h0 h1 hu hn JJ hdd hi hiz rfl s1' (by omega) BU xJ hb3 t3' TT;obtain⟨M',ahh⟩:=VK (size:=sz) (len:=len+n) (rest:=Builtin.zeroCells z.cells (ku-(len+n))) (e:=e) (pre:=a4z++arr) hV yJ (by simpa using t4'.append s4') (fun c hc=>(a3K.1 hc).elim (t2' c) (s2' c)) (by simp[hold,hlen,hmul]) c1 c1' (by rw[vU,hzs,uN]);exact⟨rfl,_,_,M',c2,ahh⟩
   .-- it grows
    split at h
    case h_2=>simp at h
    rename_i ahg _ k cs hbc;split at h
    .simp at h
    .rename_i QJ;simp only[adq,ne_eq,Decidable.not_not]at QJ;have hkc:=hk;obtain⟨hk,rfl,rfl,pJ,qy⟩:=QJ;have hp:=hp.resolve_left (by omega);simp only[a00,a0S]at h;obtain⟨rfl,rfl,rfl⟩:=h;have hDs:∀k∈dF x,D k:=fun k hk=>hD k (a3O _ hk);have hDb:=hD (.h b) (by simp);obtain⟨s1',s2',arr,TT,s4'⟩:=BZ (P:=P) (fun b=>rfl) hV lK hx hDs;have hg:s.get (.h b)=some (.cells k cs):=(by simp[St.get,hbc]);have hnb:∀(M':Mp) (w':World),Valid M' D (St.get { s with heap:=s.heap.set b (.cells k.more (cs++new)) }) w' ->
       Valid M' (fun j=>D j∨(s.get j=none∧(St.get { s with heap:=s.heap.set b (.cells k.more (cs++new)) } j).isSome=true)) (St.get { s with heap:=s.heap.set b (.cells k.more (cs++new)) }) w':=by
      intro M' w' hv;have aux:∀j,(D j∨(s.get j=none∧(St.get { s with heap:=s.heap.set b (.cells k.more (cs++new)) } j).isSome=true))->D j:=by
       intro j hj;rcases hj with hj|⟨x1,x2⟩
       .exact hj
       .rw[jm s b _ (a04.1 hbc).1]at x2;simp only[lu]at x2;split at x2
        .rename_i e;subst e;exact hDb
        .simp[x1]at x2
      exact⟨fun k l hk hd=>hv.ok k l hk (aux k hd),fun k k' l l' b' a1 a2 a3 hd=>hv.own k k' l l' b' a1 a2 a3 (aux k hd),hv.inb⟩
     have aqV:arr.size=n*sz:=by have:=s4'.len;simp at this;omega
     have ahi:p.base=0∧p.ext<=cs.length:=by
      obtain⟨fV,q1,q2⟩:=hV.ok _ _ hb hDb;rw[hg]at q1;cases q1;exact⟨(q2.2.1 p hp).base hk,(q2.2.1 p hp).ext⟩
     by_cases Ez:len+n<=cap'
     .-- in place
      rcases ha with ha|⟨rfl,ha⟩
      .omega
      have abk:(len+n)*sz<=cap'*sz:=a3P sz Ez;have EU:∀v∈arr.toList,v.oneCell'=true:=by
       intro v hv;obtain⟨i,hi,rfl⟩:=a4E.1 hv;have wV:i<new.length:=by simp at hi;omega
       exact Ik (s4'.at_ i new[i] arr.toList[i] (by simp[wV]) (by simp)) (s2' _ (a4w wV))
      obtain⟨fV,q1,q2⟩:=hV.ok _ _ hb hDb;rw[hg]at q1;cases q1;obtain⟨row,rty,rfz,z1,z2,z3,z4⟩:=(q2.2.1 p hp).row;have:=z3 hk;subst this;have uY:=run_storeCells_at (P:=P) p.c cs.length rty arr.toList 0 row w z1 (by simp;omega) EU;obtain⟨M',q,v1,v2,v3,⟨xE,v4,v5⟩,v6,v7,v8⟩:=a0c (P:=P) hV hb hDb hbc hk hp (by omega) s4' s2' abl true #[] #[] 0 (.inl ⟨rfl,by omega,uY⟩);rcases v8 with⟨_,v9,v10⟩|⟨v9,_⟩
      .refine⟨rfl,_,_,M',QL (P:=P) (w:=w) (ty:=ty) (a:=⟨p.c,p.base+0,none⟩) h0 h1 hu hn JJ hdd rfl s1' Ez (TT w rfl) (by rw[tY,ahi.1];simp only[a3U,adz];rw[<-pJ];exact uY),⟨hnb _ _ v1,v2,?_,v3⟩⟩;refine .val (.slc v4 (.inr v5) (by omega) (a15 _) Ez (fun h=>by simp at h) (.inr ⟨by rw[v9,v7,ahi.1],by rw[v7,v10];omega⟩) hkc)
      .cases v9
     .-- a new row
      have qh:fE sz s.heap (.slc b 0 len len sz ex)=some (len,cs):=by
       have:sub cs 0 (len*sz)=some cs:=by
        unfold sub;rw[a0h (by omega)];simp[<-pJ]
       simp[fE,lF,hbc,this,pJ,qy]
      obtain⟨t1',t2',a4z,t3',t4'⟩:=BZ (P:=P) (fun b=>rfl) hV qh hd0 (fun k hk=>by simp[dF]at hk;rw[hk];exact hDb);obtain⟨ku,c1,c1',c2⟩:=EZ (P:=P) (w:=w) (ty:=ty) (base:=some a) (sLen:=len) (sCap:=cap') (old:=a4z) (new:=arr) h0 h1 hu hn JJ hdd hi hiz rfl s1' (by omega) BU xJ hb3 t3' TT;obtain⟨M',q,v1,v2,v3,⟨xE,v4,v5⟩,v6,v7,v8⟩:=a0c (P:=P) hV hb hDb hbc hk hp (by omega) s4' s2' abl false a4z (Builtin.zeroCells z.cells (ku-(len+n))) e (.inr ⟨rfl,t4',rfl⟩);rcases v8 with⟨v9,_⟩|⟨_,v10,v11⟩
      .cases v9
      .refine⟨rfl,_,_,M',c2,⟨hnb _ _ v1,v2,?_,v3⟩⟩;refine .val (.slc v4 (.inr v5) (by omega) (a15 _) c1 (fun h=>by simp at h) (.inr ⟨by rw[v10,v7],?_⟩) c1');rw[v11,v7];have QN:=t4'.len;simp only[a9w]at QN;have hm3:(len+n)*sz+(ku-(len+n))*sz=ku*sz:=by rw[<-a3Q];congr 1;omega
       simp only[Array.size_append,vU,hzs,uN];omega
 .simp at h
end
section
variable {P:Program} {M:Mp} {D:Key->Prop} {w:World} {s:St}
theorem a4B{cs l:List TV}{off n m:Nat}(h:sub cs off n=some l)(hm:m<=n):sub cs off m=some (l.take m):=by
 obtain⟨h1,h2,h3⟩:=tZ h;unfold sub;rw[a0h (by omega),h2,agr,a8s hm]
theorem TU{at_:Array TypeId}{ty:TypeId}{d x r:TV}{s1:St}{i:lD}{dv xv:Value}(hV:Valid M D s.get w)
  (h:FX P at_ s d x=some (r,s1,i)) (hd:VR M.h d dv) (hx:VR M.h x xv) (hD:∀k∈i.ts,D k) :
  s1.env=s.env∧BOk P M D s.get w (Builtin.copy_ at_ ty #[dv,xv]) r s1.get i.ws:=by
 unfold FX at h;split at h
 case h_2=>simp at h
 rename_i st h0;split at h
 case h_2=>simp at h
 rename_i e size zK;obtain⟨hu,hn,hn0⟩:=qH zK;split at h
 case h_2=>simp at h
 rename_i n new lK;split at h
 case isFalse=>simp at h
 rename_i hlen;obtain⟨hlen,Nk⟩:=hlen;have first:∀(m:Nat),m<=n->(∀k∈dF x,D k)->(Builtin.lenOf xv).run P w=.ok n w∧(∀c∈new.take (m*size),iQ c=true) ∧
   ∃arr,(Builtin.firstCells size m xv).run P w=.ok arr w∧bV M.h (new.take (m*size)) arr.toList:=by
  intro m hm hDs;obtain⟨s1',s2',arr,TT,s4'⟩:=BZ (P:=P) (fun b=>rfl) hV lK hx hDs;refine⟨s1',fun c hc=>s2' c (a9f hc),?_⟩;have hmul:m*size<=n*size:=a3P size hm;cases hx with
  |TJ=>
   unfold fE at lK;simp at lK;obtain⟨rfl,rfl⟩:=lK;exact⟨#[],by simp[Builtin.firstCells],by simpa using bV.nil⟩
  |slc hb hp EX hle vT hex ha hk=>
   rename_i b off len cap sz ex ls p a cap';unfold fE at lK;simp only at lK;split at lK
   case isFalse=>simp at lK
   rename_i uN;subst uN;split at lK
   .rename_i hz;simp at lK;obtain⟨rfl,rfl⟩:=lK;have:m=0:=(by omega);subst this;exact⟨#[],by simp[Builtin.firstCells,loadCells,loadCellsFrom],by simpa using bV.nil⟩
   split at lK
   case h_2=>simp at lK
   rename_i cs hbc;simp only[a09,a0S]at lK;obtain⟨r',hr,rfl,rfl⟩:=lK;obtain⟨k,hk,VG⟩:=xG hbc;obtain⟨fV,h1,h2⟩:=hV.ok _ _ hb (hDs _ (by simp[dF]));simp only[St.get,hk,a00]at h1;subst h1;by_cases h00:cap'=0
   .have qy:len=0:=(by omega);subst qy;have:m=0:=(by omega);subst this;exact⟨#[],by simp[Builtin.firstCells,loadCells,loadCellsFrom],by simpa using bV.nil⟩
   .rcases ha with ha|⟨rfl,ha⟩
    .exact absurd ha h00
    .obtain⟨xs,x1,x2⟩:=yj (P:=P) (h2.2.1 p (hp.resolve_left h00)) (a4B hr hmul) (by have:=a3P sz hle;omega) (fun e=>by have:=VG e;have:=(h2.2.1 p (hp.resolve_left h00)).ext;omega);exact⟨xs.toArray,by simp[Builtin.firstCells,x2 w rfl],x1⟩
  |str bs=>simp[isStr]at Nk
  |_=>simp[fE]at lK
 split at h
 .simp at h;obtain⟨rfl,rfl,rfl⟩:=h;cases hd;obtain⟨f1,f2,arr,f3,f4⟩:=first 0 (a4v _) hD
  have f5:=f4.len;simp at f5;exact⟨rfl,.int .i64 0,w,M,by simp[Builtin.copy_,h0,run_underlying hu,f1,cO hn,f3,goInt],.same hV (.val (.int _ _))⟩
 .rename_i b off len cap sz ex;split at h
  case isFalse=>simp at h
  rename_i uN;subst uN;have hd0:=hd;cases hd with
  |slc hb hp EX hle vT hex ha hk=>
  rename_i ls p a cap';split at h
  .rename_i hm;simp at h;obtain⟨rfl,rfl,rfl⟩:=h;obtain⟨f1,f2,arr,f3,f4⟩:=first 0 (a4v _) hD
   have f5:arr.toList=[]:=by
    have:=f4.len;simp only[ad3,List.take_zero,a5J]at this;exact a3W this.symm
   refine⟨rfl,.int .i64 0,w,M,?_,.same hV (.val (.int _ _))⟩;have e1:Nat.min n len=0:=hm;simp[Builtin.copy_,h0,run_underlying hu,f1,cO hn,e1,f3,goInt,f5,storeCells]
  .rename_i hm;simp only[a09,a0S]at h;obtain⟨hp',F8,rfl,rfl,rfl⟩:=h;obtain⟨kk,Ba,cs,cs',hbc,xH,ho,rfl⟩:=Io F8;obtain⟨f1,f2,arr,f3,f4⟩:=first (min n len) (Nat.min_le_left _ _) (fun k hk=>hD k (a3O _ hk))
   have hg:s.get (.h b)=some (.cells kk cs):=(by simp[St.get,hbc]);have yL:=(a04.1 hbc).1;rcases ha with ha|⟨rfl,ha⟩
   .omega
   obtain⟨w',r1,r2,r3⟩:=yI (P:=P) hV hb (hD (.h b) (by simp)) hg (hp.resolve_left (by omega)) (hV.Yp hb (hD (.h b) (by simp)) hg (hp.resolve_left (by omega)) EX xH) ho f4 f2;refine⟨rfl,.int .i64 (min n len:Nat),w',M,?_,⟨?_,?_,.val (.int _ _),fun _ _ h=>h⟩⟩
   .have e1:Nat.min n len=min n len:=rfl;simp[Builtin.copy_,h0,run_underlying hu,f1,cO hn,e1,f3,goInt,r1]
   .rw[jm s b _ yL];exact r2.widen (DF (by simp[hg]))
   .rw[jm s b _ yL];exact r3
 .simp at h
end
section
variable {P:Program} {M:Mp} {D:Key->Prop} {w:World} {s:St} {N:Np}
theorem bI{α β:Type}(x:Sem α)(f:α->Sem β):aB P (x >>= f)=(aB P x).bind fun a=>aB P (f a):=by
 show aB P (x.bind f)=_
 induction x with
 |pure a=>rfl
 |program k ih=>exact ih P
 |mark m k ih=>exact ih
 |_=>rfl
def Iu(b:Nat->Bool)(L:List MapEntry)(i0:Nat):Option (Nat×Value)->Prop
 |none=>∀i,i<L.length->b i=false
 |some (i,v)=>i0<=i∧b (i-i0)=true∧∃x,L[i-i0]? = some x∧v=x.val
theorem Iu.succ{b:Nat->Bool}{e:MapEntry}{L:List MapEntry}{i0:Nat}{r:Option (Nat×Value)}(hb:b 0=false)(h:Iu (fun i=>b (i+1)) L (i0+1) r):Iu b (e::L) i0 r:=by
 cases r with
 |none=>
  intro i hi;cases i with
  |zero=>exact hb
  |succ i=>exact h i (by simpa using hi)
 |some r=>
  obtain⟨h1,h2,x,h3,h4⟩:=h;have e1:r.1-i0=(r.1-(i0+1))+1:=by omega
  refine⟨by omega,by rw[e1];exact h2,x,by rw[e1];simpa using h3,h4⟩
theorem JK(kind:TypeDesc)(k:Value):∀(L:List MapEntry) (i0:Nat) (b:Nat->Bool),(∀i x,L[i]? = some x->Instr.sameNow kind k x.key=some (b i)) ->
  ∃r,Instr.findNow kind k L i0=some r∧Iu b L i0 r
 | [],i0,b,_=>⟨none,rfl,fun i hi=>absurd hi (by simp)⟩
 |e::L,i0,b,h=>by
  have h0:=h 0 e rfl;obtain⟨r,g1,g2⟩:=JK kind k L (i0+1) (fun i=>b (i+1)) fun i x hx=>h (i+1) x (by simpa using hx);simp only[Instr.findNow,h0];cases hb:b 0 with
  |true=>exact⟨_,rfl,a15 _,by simpa using hb,e,by simp,rfl⟩
  |false=>exact⟨r,g1,g2.succ hb⟩
theorem C9(kt:TypeId)(k:Value):∀(L:List MapEntry) (i0:Nat) (b:Nat->Bool),(∀i x,L[i]? = some x->aB P (Op.equal kt k x.key)=some (b i)) ->
  ∃r,(∀w,(Instr.findAsking kt k L i0).run P w=.ok r w)∧Iu b L i0 r
 | [],i0,b,_=>⟨none,fun w=>rfl,fun i hi=>absurd hi (by simp)⟩
 |e::L,i0,b,h=>by
  have h0:=fun w=>iV (h 0 e rfl) w;obtain⟨r,g1,g2⟩:=C9 kt k L (i0+1) (fun i=>b (i+1)) fun i x hx=>h (i+1) x (by simpa using hx);cases hb:b 0 with
  |true=>exact⟨some (i0,e.val),fun w=>by simp[Instr.findAsking,h0 w,hb],a15 _,by simpa using hb,e,by simp,rfl⟩
  |false=>exact⟨r,fun w=>by simp[Instr.findAsking,h0 w,hb,g1 w],g2.succ hb⟩
theorem a0f:∀{l:List TV} {vs:List Value},Bq l=some vs->∀(i:Nat) (c:TV),l[i]? = some c->∃v,vs[i]? = some v∧c.yg=some v
 | [],vs,h,i,c,hc=>by simp at hc
 |a::l,vs,h,i,c,hc=>by
  simp only[Bq]at h;split at h
  .rename_i v ws h1 h2;cases h;cases i with
   |zero=>simp at hc;subst hc;exact⟨v,rfl,h1⟩
   |succ i=>simpa using a0f h2 i c (by simpa using hc)
  cases h
def FR(N:Np)(o:List Nat)(es:List (TV×TV))(xs:Array MapEntry):Option Nat->Option (Nat×Value)->Prop
 |none,none=>True
 |some j,some (i,v)=>o[i]? = some j∧∃e x,es[j]? = some e∧xs[i]? = some x∧v=x.val∧VR N e.1 x.key∧VR N e.2 x.val
 |_,_=>False
theorem G9{o:List Nat}{kt:TypeId}{k:Value}{es:List (TV×TV)}{r:Option Nat}{xs:Array MapEntry}(h:Ep P kt k es=some r)(hx:vO N o es xs) :
  (∀w,(Instr.checkKey xs.isEmpty 10000 kt k).run P w=.ok () w)∧∃r',(∀w,(Instr.findKey kt k xs.toList).run P w=.ok r' w) ∧
   FR N o es xs r r':=by
 unfold Ep at h;split at h
 case h_2=>simp at h
 rename_i ks EC;split at h
 case h_2=>simp at h
 rename_i r0 hr;split at h
 case isFalse=>simp at h
 rename_i QO;cases h;generalize r0.map (·.1)=r at QO ⊢;have hl:es.isEmpty=xs.isEmpty:=by
  rw[a4u];simp[List.isEmpty_iff,<-a6Y,hx.len]
 have JG:ks.length=es.length:=by
  have:∀{l:List TV} {vs:List Value},Bq l=some vs->vs.length=l.length:=by
   intro l
   induction l with
   |nil=>intro vs h;simp[Bq]at h;subst h;rfl
   |cons a l ih=>
    intro vs h;simp only[Bq]at h;split at h
    .rename_i v ws h1 h2;cases h;simp[ih h2]
    .cases h
  simpa using this EC
 rw[bI]at hr;cases hc:aB P (Instr.checkKey es.isEmpty 10000 kt k)with
 |none=>simp[hc]at hr
 |some u=>
  refine⟨fun w=>by rw[<-hl];exact iV hc w,?_⟩;unfold Vy at QO;split at QO
  case h_2=>simp at QO
  rename_i kind hd;have hdr:=fun w=>iV hd w;simp only[a2m]at QO;obtain⟨hj,hs⟩:=QO;have a8P:∀(i:Nat) (x:MapEntry),xs.toList[i]? = some x->∃(j:Nat) (e:TV×TV),o[i]? = some j∧es[j]? = some e∧VR N e.1 x.key∧VR N e.2 x.val∧ks[j]? = some x.key:=by
   intro i x hi;obtain⟨_,j,e,h1,h2,h3,h4⟩:=hx.at_ i x (by simpa using hi);obtain⟨v,g1,g2⟩:=a0f EC j e.1 (by simp[h2]);exact⟨j,e,h1,h2,h3,h4,by rw[g1,vN g2 h3]⟩
  let b:Nat->Bool:=fun i=>o[i]? == r
  have hb:∀i j,o[i]? = some j->b i=(some j==r):=fun i j h=>by simp only[b,h]
  have fin:∀r',Iu b xs.toList 0 r'->FR N o es xs r r':=by
   intro r' hf;cases r' with
   |none=>
    cases r with
    |none=>trivial
    |some j=>
     simp only[a1X]at hj;obtain⟨i,hi⟩:=a8E.1 (hx.sur j (by omega));have h1:=hf i (by have:=(a04.1 hi).1;have:=hx.ord;simp;omega);rw[hb i j hi]at h1;simp at h1
   |some q=>
    obtain⟨i,v⟩:=q;obtain⟨_,h1,x,h2,h3⟩:=hf;simp only[Nat.sub_zero]at h1 h2;obtain⟨j,e,g1,g2,g3,g4,_⟩:=a8P i x h2;rw[hb i j g1]at h1;simp only[a88]at h1;subst h1;exact⟨g1,e,x,g2,by simpa using h2,h3,g3,g4⟩
  have F9:∀{p:Value×Nat->Bool},ks.zipIdx.all p=true->∀j x,ks[j]? = some x->p (x,j)=true:=by
   intro p hp j x hjx;exact a4s.1 hp (x,j) (a9g.2 (by simpa using hjx))
  unfold Instr.findKey;rcases a8O _ _▸hs with hs|hs
  .obtain⟨r',g1,g2⟩:=JK kind k xs.toList 0 b fun i x hi=>by
    obtain⟨j,e,h1,_,_,_,h5⟩:=a8P i x hi;have:=F9 hs j _ h5;simp only[a88]at this;rw[this,hb i j h1]
   exact⟨r',fun w=>by simp[hdr w,g1],fin r' g2⟩
  .by_cases h0:xs.toList=[]
   .refine⟨none,fun w=>by simp[hdr w,h0,Instr.findNow],fin none (by rw[h0];intro i hi;simp at hi)⟩
   .have hno:Instr.findNow kind k xs.toList 0=none:=by
     cases hL:xs.toList with
     |nil=>exact absurd hL h0
     |cons x L=>
      obtain⟨j,e,h1,_,_,_,h5⟩:=a8P 0 x (by rw[hL];rfl);have:=F9 hs j _ h5;simp only[a2m,a88]at this;simp only[Instr.findNow,this.1]
    obtain⟨r',g1,g2⟩:=C9 (P:=P) kt k xs.toList 0 b fun i x hi=>by
     obtain⟨j,e,h1,_,_,_,h5⟩:=a8P i x hi;have:=F9 hs j _ h5;simp only[a2m,a88]at this;rw[this.2,hb i j h1]
    exact⟨r',fun w=>by simp[hdr w,hno,g1 w],fin r' g2⟩
theorem DI{t:TypeId}{m k r:TV}{ok:Bool}{mv kv:Value}(hV:Valid M D s.get w)(h:gV P t s.heap m k ok=some r)(hm:VR M.h m mv)(hk:VR M.h k kv)
  (hD:∀j∈(match m with|.map r=>[Key.h r] |_=>[]),D j):∃z,VR M.h r z∧(Instr.lookup t mv kv ok).run P w=.ok z w:=by
 unfold gV at h;split at h
 case h_2=>simp at h
 rename_i kt e kx hu hkx;have:=vN hkx hk;subst this;simp only at h;have main:∀(o:List Nat) (es:List (TV×TV)) (xs:Array MapEntry),vO M.h o es xs->((mv=.map none∧xs=#[])∨∃r1 ck,mv=.map (some r1)∧w.heap[r1]? = some (.map xs ck)) ->
   (match Ep P kt kv es with
   |some (some i)=>match es[i]? with
    |some (_,v)=>some (if ok then .dG [v,.bool true]else v)
    |none=>none
   |some none=>match P.info? e with
    |some i=>match i.zero with
     |some z=>(TV.Vr z).map fun z=>if ok then .dG [z,.bool false]else z
     |none=>none
    |none=>none
   |none=>none)=some r->∃z,VR M.h r z∧(Instr.lookup t mv kv ok).run P w=.ok z w:=by
  intro o es xs hx uY h;cases hf:Ep P kt kv es with
  |none=>simp[hf]at h
  |some r0=>
   rw[hf]at h;obtain⟨c1,r',c2,c3⟩:=G9 hf hx;cases r0 with
   |some j=>
    cases r' with
    |none=>exact c3.elim
    |some jv=>
     obtain⟨j',v⟩:=jv;obtain⟨_,e',x',e1,e2,rfl,_,hv⟩:=c3;simp only[e1,a00]at h;subst h;refine⟨if ok then .tuple #[x'.val,.bool true]else x'.val,?_,?_⟩
     .cases ok
      .exact hv
      .exact .Q9 (.cons hv (.cons (.bool true) .nil))
     .rcases uY with⟨rfl,rfl⟩|⟨r1,ck,rfl,hmp⟩
      .simp only[Instr.lookup,Sem.run_bind,run_underlying hu,Result.andThen_ok,c1 w,c2 w,Sem.run_pure]
      .simp only[Instr.lookup,Sem.run_bind,run_underlying hu,Result.andThen_ok,getObj,Sem.run,hmp,c1 w,c2 w,Sem.run_pure]
   |none=>
    cases r' with
    |some jv=>exact c3.elim
    |none=>
     simp only at h;split at h
     case h_2=>simp at h
     rename_i inf hi;split at h
     case h_2=>simp at h
     rename_i z hz;simp only[a09]at h;obtain⟨zt,hzt,rfl⟩:=h;have hv:VR M.h zt z:=.yh hzt;refine⟨if ok then .tuple #[z,.bool false]else z,?_,?_⟩
     .cases ok
      .exact hv
      .exact .Q9 (.cons hv (.cons (.bool false) .nil))
     .have hzr:(zeroValue e).run P w=.ok z w:=(by simp[zeroValue,iR hi,hz]);rcases uY with⟨rfl,rfl⟩|⟨r1,ck,rfl,hmp⟩
      .simp only[Instr.lookup,Sem.run_bind,run_underlying hu,Result.andThen_ok,c1 w,c2 w,Sem.run_pure,hzr]
      .simp only[Instr.lookup,Sem.run_bind,run_underlying hu,Result.andThen_ok,getObj,Sem.run,hmp,c1 w,c2 w,Sem.run_pure,hzr]
 cases hm with
 |Yn=>exact main [] [] #[] ⟨rfl,rfl,.nil,by simp,by simp⟩ (.inl ⟨rfl,rfl⟩) h
 |map hmm=>
  rename_i r0 r1 o1;obtain⟨fV,b1,b2⟩:=hV.ok _ _ hmm (hD _ (by simp));simp only[St.get]at b1;simp only[b1]at h;cases fV with
  |map es=>
   obtain⟨xs,g1,g2⟩:=b2;exact main o1 es xs g2 (.inr ⟨r1,xs.size,rfl,g1⟩) h
  |cells k cs=>exact b2.elim
  |loop=>simp at h
  |mark=>simp at h
  |lZ=>simp at h
  |cZ=>simp at h
 |_=>simp at h
end
section
variable {P:Program} {M:Mp} {D:Key->Prop} {w:World} {s:St}
theorem yM(hV:Valid M D s.get w){r r1:Nat}{o o':List Nat}{es fQ:List (TV×TV)}{xs xs':Array MapEntry}(hm:M (.h r)=some (.obj r1 o))(hd:D (.h r))(hb:s.heap[r]? = some (.map es))
  (hr:w.heap[r1]? = some (.map xs xs.size)) (ho:o <+: o') (hx:vO (dJ M (.h r) (.obj r1 o')).h o' fQ xs') :
  Valid (dJ M (.h r) (.obj r1 o')) (fun j=>D j∨(s.get j=none∧(St.get { s with heap:=s.heap.set r (.map fQ) } j).isSome=true)) (St.get { s with heap:=s.heap.set r (.map fQ) }) { w with heap:=w.heap.setIfInBounds r1 (.map xs' xs'.size) } ∧
  Ext M s.get w (dJ M (.h r) (.obj r1 o')) (St.get { s with heap:=s.heap.set r (.map fQ) }) { w with heap:=w.heap.setIfInBounds r1 (.map xs' xs'.size) } [.h r]:=by
 have hg:s.get (.h r)=some (.map es):=by simp[St.get,hb]
 have yL:=(a04.1 hb).1;have hle:rV M (dJ M (.h r) (.obj r1 o')):=lJ fun l0 h0=>by rw[hm]at h0;cases h0;exact⟨rfl,ho⟩
 have aS:r1<w.heap.size:=(a2D.1 hr).1;have gq:∀c,c<w.heap.size->c∉aI (.obj r1 o')->(w.heap.setIfInBounds r1 (Obj.map xs' xs'.size))[c]? = w.heap[c]?:=fun c _ hc=>by
  rw[a8F,a0g (by simp[aI]at hc;omega)]
 have gW:∀c∈aI (.obj r1 o'),(∃l0,M (.h r)=some l0∧c∈aI l0)∨w.heap.size<=c:=fun c hc=>.inl ⟨_,hm,hc⟩;constructor
 .rw[jm s r _ yL];refine Valid.widen ?_ (DF (by simp[hg]));exact hV.upd (D':=D) (w':={ w with heap:=w.heap.setIfInBounds r1 (.map xs' xs'.size) }) (.h r) (.map fQ) (.obj r1 o') (fun j hj=>.inl hj) (fun l0 h0=>by
   rw[hm]at h0;cases h0;exact⟨hd,⟨rfl,ho⟩,fun b0 zJ=>by rw[hg]at zJ;cases zJ;rfl⟩) gq gW (by simp) ⟨xs',by simp[aS],hx⟩
 .rw[jm s r _ yL];exact Ext.upd (M:=M) (C:=s.get) (w:=w) (w':={ w with heap:=w.heap.setIfInBounds r1 (.map xs' xs'.size) }) (.h r) (.map fQ) (.obj r1 o') [.h r] (.inl ⟨by simp[hg],rfl,by simp[hm],fun b0 zJ=>by rw[hg]at zJ;cases zJ;rfl⟩) hle gq gW (by simp) rfl rfl rfl
theorem vO.lt{N:Np}{o:List Nat}{es:List (TV×TV)}{xs:Array MapEntry}(g2:vO N o es xs):∀j∈o,j<es.length:=fun j hj=>by
 obtain⟨i,hi⟩:=a8E.1 hj;have:i<xs.size:=by rw[<-g2.ord];exact(a04.1 hi).1
 obtain⟨_,j',e,z1,z2,_⟩:=g2.at_ i _ (a3T this);rw[hi]at z1;cases z1;exact(a04.1 z2).1
theorem vO.upd{N N':Np}{o:List Nat}{es:List (TV×TV)}{xs:Array MapEntry}(g2:vO N o es xs)(hle:rV N N'){i j:Nat}{x':MapEntry}{f:MapEntry->MapEntry}{k v:TV}
  (q1:o[i]? = some j) (e2:xs[i]? = some x') (hb:(f x').born=x'.born) (hk:VR N' k (f x').key) (hv:VR N' v (f x').val):vO N' o (es.set j (k,v)) (xs.modify i f):=by
 have g3:=g2.mono hle;refine⟨by simp[g2.len],by simp[g2.ord],g2.nod,fun j' Ew=>g2.sur j' (by simpa using Ew),fun a x h2=>?_⟩;rw[abH]at h2;by_cases ha:i=a
 .subst ha;rw[a0h rfl,e2]at h2;simp only[a0T,a00]at h2;subst h2;obtain⟨z1,j2,e2',z2,z3,_⟩:=g2.at_ i x' e2;rw[q1]at z2;cases z2;exact⟨hb.trans z1,j,(k,v),q1,by rw[a9p];simp[(a04.1 z3).1],hk,hv⟩
 .rw[a0g ha]at h2;obtain⟨z1,j2,e2',z2,z3,z4,z5⟩:=g3.at_ a x h2;refine⟨z1,j2,e2',z2,?_,z4,z5⟩;have iy:j≠j2:=fun e=>by
   subst e;have i1:=a04.1 q1;have i2:=a04.1 z2;exact ha ((aao g2.nod (h₀:=i1.1) (h₁:=i2.1)).1 (i1.2.trans i2.2.symm))
  rw[a9p,a0g iy];exact z3
theorem vO.push{N N':Np}{o:List Nat}{es:List (TV×TV)}{xs:Array MapEntry}(g2:vO N o es xs)(hle:rV N N'){k v:TV}{kv vv:Value}
  (hk:VR N' k kv) (hv:VR N' v vv):vO N' (o++[es.length]) (es++[(k,v)]) (xs.push { key:=kv,val:=vv,born:=xs.size }):=by
 have aS:=g2.lt;have g3:=g2.mono hle;refine⟨by simp[g2.len],by simp[g2.ord],?_,fun j hj=>?_,fun a x h2=>?_⟩
 .rw[a8B];exact⟨g2.nod,by simp,fun x hx y hy=>by simp at hy;subst hy;have:=aS x hx;omega⟩
 .simp only[a2a,a3V,a5J]at hj;rcases a4a j es.length with h1|h1
  .exact a5d _ (g2.sur j h1)
  .exact abg _ (by simp;omega)
 .rw[Array.getElem?_push]at h2;by_cases ha:a=xs.size
  .rw[a0h ha]at h2;simp only[a00]at h2;subst h2;exact⟨ha.symm,es.length,(k,v),by rw[a1c (by rw[g2.ord];omega),g2.ord,ha];simp,by simp,hk,hv⟩
  .rw[a0g ha]at h2;obtain⟨z1,j2,e2',z2,z3,z4,z5⟩:=g3.at_ a x h2;exact⟨z1,j2,e2',by rw[a0e (a04.1 z2).1];exact z2,by rw[a0e (a04.1 z3).1];exact z3,z4,z5⟩
theorem QS{t:TypeId}{m k v:TV}{s1:St}{i:lD}{mv kv vv:Value}(hV:Valid M D s.get w)(h:xq P t s m k v=some (s1,i))(hm:VR M.h m mv)(hk:VR M.h k kv)(hv:VR M.h v vv)
  (hD:∀j∈i.ts,D j):s1.env=s.env∧∃w' M',(Instr.mapUpdate t mv kv vv).run P w=.ok () w' ∧
   Valid M' (fun j=>D j∨(s.get j=none∧(s1.get j).isSome=true)) s1.get w'∧Ext M s.get w M' s1.get w' i.ws∧(∀k l,M (.l k)=some l->M' (.l k)=some l):=by
 unfold xq at h;split at h
 case h_2=>simp at h
 rename_i kt et kx r hu hkx;have:=vN hkx hk;subst this;split at h
 case h_2=>simp at h
 rename_i es KZ hck;have c0:=iV hck w;cases hm with
 |map hmm=>
 rename_i r1 o1;have yN:∀o',∀k l,M (.l k)=some l->dJ M (.h r) (.obj r1 o') (.l k)=some l:=fun o' k l h=>by simp[dJ,h]
 have go:D (.h r)->∃xs,w.heap[r1]? = some (.map xs xs.size)∧vO M.h o1 es xs:=by
  intro hd;obtain⟨fV,b1,b2⟩:=hV.ok _ _ hmm hd;simp only[St.get,KZ,a00]at b1;subst b1;exact b2
 split at h
 .-- an entry that is there
  rename_i j hf;split at h
  case h_2=>simp at h
  rename_i old ov0 hj;split at h
  case h_2=>simp at h
  rename_i ov hov;split at h
  case isFalse=>simp at h
  rename_i VN;simp only[a00,a0S]at h;obtain⟨rfl,rfl⟩:=h;have hd:=hD (.h r) (by simp[oJ]);obtain⟨xs,g1,g2⟩:=go hd;obtain⟨c1,r',c2,c3⟩:=G9 hf g2;cases r' with
  |none=>exact c3.elim
  |some jv=>
   obtain⟨i,v'⟩:=jv;obtain⟨q1,e',x',e1,e2,rfl,q2,_⟩:=c3;rw[hj]at e1;cases e1;have hold:x'.key=ov:=vN hov q2;have hle:rV M (dJ M (.h r) (.obj r1 o1)):=lJ fun l0 h0=>by
    have h0':M (.h r)=some l0:=h0;have Qc:M (.h r)=some (.obj r1 o1):=hmm;rw[Qc]at h0';cases h0';exact .refl _
   have EY:=g2.upd (f:=fun e=>{ e with key:=kv,val:=vv }) hle.h q1 e2 rfl (hk.mono hle.h) (hv.mono hle.h);obtain⟨v1,v2⟩:=yM hV hmm hd KZ g1 (agz _) EY;refine⟨rfl,_,_,?_,v1,v2,yN _⟩;simp only[Instr.mapUpdate,Sem.run_bind,run_underlying hu,Result.andThen_ok,getObj,Sem.run,g1];simp only[c0,c2 w,Result.andThen_ok,e2,a0T,a4H,Instr.keyThatStays,hold,VN,a2d,setObj];simp only[Sem.run_bind,Sem.run_pure,Result.andThen_ok,Sem.run,g1,Array.size_modify]
 .-- a new entry
  rename_i hf;simp only[a00,a0S]at h;obtain⟨rfl,rfl⟩:=h;have hd:=hD (.h r) (by simp[oJ]);obtain⟨xs,g1,g2⟩:=go hd;obtain⟨c1,r',c2,c3⟩:=G9 hf g2;cases r' with
  |some jv=>exact c3.elim
  |none=>
   have a4C:o1 <+: o1++[es.length]:=⟨_,rfl⟩;have hle:rV M (dJ M (.h r) (.obj r1 (o1++[es.length]))):=lJ fun l0 h0=>by
    have h0':M (.h r)=some l0:=h0;have Qc:M (.h r)=some (.obj r1 o1):=hmm;rw[Qc]at h0';cases h0';exact⟨rfl,a4C⟩
   have EY:=g2.push hle.h (hk.mono hle.h) (hv.mono hle.h);obtain⟨v1,v2⟩:=yM hV hmm hd KZ g1 a4C EY;refine⟨rfl,_,_,?_,v1,v2,yN _⟩;simp only[Instr.mapUpdate,Sem.run_bind,run_underlying hu,Result.andThen_ok,getObj,Sem.run,g1];simp only[c0,c2 w,Result.andThen_ok,setObj,Sem.run,g1,Array.size_push]
 .simp at h
theorem a2e{t:TypeId}{m k:TV}{e:EV}{s1:St}{i:lD}{mv kv:Value}(hV:Valid M D s.get w)(h:zO P t s m k=some (e,s1,i))(hm:VR M.h m mv)(hk:VR M.h k kv)
  (hD:∀j∈i.ts,D j):s1.env=s.env∧∃x w' M',(Instr.mapEntry t mv kv).run P w=.ok x w'∧ER M' e x ∧
   Valid M' (fun j=>D j∨(s.get j=none∧(s1.get j).isSome=true)) s1.get w'∧Ext M s.get w M' s1.get w' i.ws∧(∀k l,M (.l k)=some l->M' (.l k)=some l):=by
 unfold zO at h;split at h
 case h_2=>simp at h
 rename_i kt et kx r hu hkx;have:=vN hkx hk;subst this;split at h
 case h_2=>simp at h
 rename_i es KZ hck;have c0:=iV hck w;cases hm with
 |map hmm=>
 rename_i r1 o1;have yN:∀o',∀k l,M (.l k)=some l->dJ M (.h r) (.obj r1 o') (.l k)=some l:=fun o' k l h=>by simp[dJ,h]
 have go:D (.h r)->∃xs,w.heap[r1]? = some (.map xs xs.size)∧vO M.h o1 es xs:=by
  intro hd;obtain⟨fV,b1,b2⟩:=hV.ok _ _ hmm hd;simp only[St.get,KZ,a00]at b1;subst b1;exact b2
 have Ie:∀o',dJ M (.h r) (.obj r1 o') (.h r)=some (.obj r1 o'):=fun o'=>by simp[dJ]
 split at h
 .rename_i j hf;split at h
  case h_2=>simp at h
  rename_i old v0 hj;split at h
  case h_2=>simp at h
  rename_i ov hov;split at h
  case isFalse=>simp at h
  rename_i VN;simp only[a00,a0S]at h;obtain⟨rfl,rfl,rfl⟩:=h;have hd:=hD (.h r) (by simp[oJ]);obtain⟨xs,g1,g2⟩:=go hd;obtain⟨c1,r',c2,c3⟩:=G9 hf g2;cases r' with
  |none=>exact c3.elim
  |some jv=>
   obtain⟨i,v'⟩:=jv;obtain⟨q1,e',x',e1,e2,rfl,q2,q3⟩:=c3;rw[hj]at e1;cases e1;have hold:x'.key=ov:=vN hov q2;have hle:rV M (dJ M (.h r) (.obj r1 o1)):=lJ fun l0 h0=>by
    have h0':M (.h r)=some l0:=h0;have Qc:M (.h r)=some (.obj r1 o1):=hmm;rw[Qc]at h0';cases h0';exact .refl _
   have EY:=g2.upd (f:=fun e=>{ e with key:=kv }) hle.h q1 e2 rfl (hk.mono hle.h) (q3.mono hle.h);obtain⟨v1,v2⟩:=yM hV hmm hd KZ g1 (agz _) EY;refine⟨rfl,.tuple #[x'.val,Go.goInt i],_,_,?_,.ent (Ie _) q1 (q3.mono hle.h),v1,v2,yN _⟩;simp only[Instr.mapEntry,Sem.run_bind,run_underlying hu,Result.andThen_ok,getObj,Sem.run,g1];simp only[c0,c2 w,Result.andThen_ok,e2,a0T,a4H,Instr.keyThatStays,hold,VN,a2d,setObj,(g2.at_ i x' e2).1];simp only[Sem.run_bind,Sem.run_pure,Result.andThen_ok,Sem.run,g1,Array.size_modify]
 .rename_i hf;split at h
  case h_2=>simp at h
  rename_i inf hi;split at h
  case h_2=>simp at h
  rename_i z hz;split at h
  case h_2=>simp at h
  rename_i zt hzt;simp only[a00,a0S]at h;obtain⟨rfl,rfl,rfl⟩:=h;have hd:=hD (.h r) (by simp[oJ]);obtain⟨xs,g1,g2⟩:=go hd;obtain⟨c1,r',c2,c3⟩:=G9 hf g2;have hzr:(zeroValue et).run P w=.ok z w:=by simp[zeroValue,iR hi,hz]
  cases r' with
  |some jv=>exact c3.elim
  |none=>
   have a4C:o1 <+: o1++[es.length]:=⟨_,rfl⟩;have hle:rV M (dJ M (.h r) (.obj r1 (o1++[es.length]))):=lJ fun l0 h0=>by
    have h0':M (.h r)=some l0:=h0;have Qc:M (.h r)=some (.obj r1 o1):=hmm;rw[Qc]at h0';cases h0';exact⟨rfl,a4C⟩
   have EY:=g2.push hle.h (hk.mono hle.h) (.yh hzt);obtain⟨v1,v2⟩:=yM hV hmm hd KZ g1 a4C EY;refine⟨rfl,.tuple #[z,Go.goInt xs.size],_,_,?_,.ent (Ie _) (by rw[a1c (by rw[g2.ord];omega),g2.ord];simp) (.yh hzt),v1,v2,yN _⟩;simp only[Instr.mapEntry,Sem.run_bind,run_underlying hu,Result.andThen_ok,getObj,Sem.run,g1];simp only[c0,c2 w,hzr,Result.andThen_ok,setObj,Sem.run,g1,Array.size_push,Sem.run_bind,Sem.run_pure]
 .simp at h
theorem a4D{t:TypeId}{m k:TV}{e:EV}{s1:St}{i:lD}{mv kv:Value}(hV:Valid M D s.get w)(h:BN P t s m k=some (e,s1,i))(hm:VR M.h m mv)(hk:VR M.h k kv)
  (hD:∀j∈i.ts,D j):s1.env=s.env∧∃x w' M',(Instr.mapEntry t mv kv).run P w=.ok x w'∧ER M' e x ∧
   Valid M' (fun j=>D j∨(s.get j=none∧(s1.get j).isSome=true)) s1.get w'∧Ext M s.get w M' s1.get w' i.ws∧(∀k l,M (.l k)=some l->M' (.l k)=some l):=by
 unfold BN at h;split at h
 .rename_i h0;split at h
  .cases h;exact a2e hV h0 hm hk hD
  .cases h
 .cases h
theorem TW{xs:Array MapEntry}{i:Nat}(h:∀(a:Nat) (x:MapEntry),xs[a]? = some x->x.born=a)(hi:i<xs.size):xs.findIdx? (fun e=>(e.born:Int)==(i:Int))=some i:=by
 rw[Array.findIdx?_eq_some_iff_getElem];refine⟨hi,?_,fun j hj=>?_⟩
 .have:=h i _ (a3T hi);simp[this]
 have:=h j _ (a3T (Nat.lt_trans hj hi));simp[this];omega
theorem a2f{t:TypeId}{m v:TV}{e:EV}{s1:St}{i:lD}{mv ev vv:Value}(hV:Valid M D s.get w)(h:FY s m e v=some (s1,i))(hm:VR M.h m mv)(he:ER M e ev)(hv:VR M.h v vv)
  (hD:∀j∈i.ts,D j):s1.env=s.env∧∃w' M',(Instr.entryStore t mv ev vv).run P w=.ok () w' ∧
   Valid M' (fun j=>D j∨(s.get j=none∧(s1.get j).isSome=true)) s1.get w'∧Ext M s.get w M' s1.get w' i.ws∧(∀k l,M (.l k)=some l->M' (.l k)=some l):=by
 unfold FY at h;split at h
 case h_2=>simp at h
 rename_i r r' j;split at h
 case isFalse=>simp at h
 rename_i hrr;subst hrr;split at h
 case h_2=>simp at h
 rename_i es KZ;split at h
 case h_2=>simp at h
 rename_i k v0 hj;simp only[a00,a0S]at h;obtain⟨rfl,rfl⟩:=h;cases hm with
 |map hmm=>
 rename_i r1 o1;cases he with
 |Eh h1 q1=>
 rename_i r2 i o2;have Qc:M (.h r)=some (.obj r1 o1):=hmm;rw[Qc]at h1;cases h1;have hd:=hD (.h r) (by simp[oJ]);obtain⟨fV,b1,b2⟩:=hV.ok _ _ hmm hd;simp only[St.get,KZ,a00]at b1;subst b1;obtain⟨xs,g1,g2⟩:=b2;have aS:i<xs.size:=by rw[<-g2.ord];exact(a04.1 q1).1
 obtain⟨z1,j2,e2',z2,z3,z4,z5⟩:=g2.at_ i _ (a3T aS);rw[q1]at z2;cases z2;rw[hj]at z3;cases z3;have hle:rV M (dJ M (.h r) (.obj r1 o1)):=lJ fun l0 h0=>by
  have h0':M (.h r)=some l0:=h0;rw[Qc]at h0';cases h0';exact .refl _
 have EY:=g2.upd (f:=fun e=>{ e with val:=vv }) hle.h q1 (a3T aS) rfl (z4.mono hle.h) (hv.mono hle.h);obtain⟨v1,v2⟩:=yM hV hmm hd KZ g1 (agz _) EY;refine⟨rfl,_,_,?_,v1,v2,fun k l h=>by simp[dJ,h]⟩;have hf:=TW (fun a x hx=>(g2.at_ a x hx).1) aS;simp only[Instr.entryStore,Sem.run_bind,Result.andThen_ok,getObj,Sem.run,g1,asInt,asIntOf,Go.goInt,hf,setObj];simp only[Sem.run_bind,Sem.run_pure,Result.andThen_ok,Sem.run,hf,g1,Array.size_modify]
end
def Gf(M:Mp)(env:List (Nat×EV))(a:Act)(X:Array Operand):Prop:=∀x∈X,∀e,Ib env x=some e->ER M e (a.eval x)
theorem jJ.on{M:Mp}{env:List (Nat×EV)}{a:Act}(hE:jJ M env a.tmps)(X:Array Operand):Gf M env a X:=fun _ _ _ he=>a4o hE he
section
variable {M:Mp} {env:List (Nat×EV)} {a:Act} {X:Array Operand}
theorem oM(hE:Gf M env a X){x:Operand}(hx:x∈X){e:EV}(h:Ib env x=some e):ER M e (a.eval x):=hE x hx e h
theorem gY(hE:Gf M env a X){x:Operand}(hx:x∈X){v:TV}(h:qA env x=some v):VR M.h v (a.eval x):=by
 unfold qA at h;split at h
 .rename_i v' he;simp at h;subst h;exact(oM hE hx he).uV
 simp at h
theorem Gg(hE:Gf M env a X):∀{xs:List Operand} {vs:List TV},(∀x∈xs,x∈X)->TA env xs=some vs->bV M.h vs (xs.map a.eval)
 | [],vs,_,h=>by simp[TA]at h;subst h;exact .nil
 |x::xs,vs,hx,h=>by
  simp only[TA]at h;split at h
  .rename_i v vs' h1 h2;simp at h;subst h;exact .cons (gY hE (hx x (by simp)) h1) (Gg hE (fun y hy=>hx y (by simp[hy])) h2)
  simp at h
theorem TY(hE:Gf M env a X):∀{xs:List (Nat×Operand)} {vs:List (Nat×TV)},(∀p∈xs,p.2∈X)->Vx env xs=some vs ->
  PR M.h vs (xs.map fun(i,x)=>(i,a.eval x))
 | [],vs,_,h=>by simp[Vx]at h;subst h;exact .nil
 |(i,x)::xs,vs,hx,h=>by
  simp only[Vx]at h;split at h
  .rename_i v vs' h1 h2;simp at h;subst h;exact .cons (gY hE (hx (i,x) (by simp)) h1) (TY hE (fun y hy=>hx y (by simp[hy])) h2)
  .simp at h
theorem Gh(hE:Gf M env a X){o:Option Operand}(hx:∀x,o=some x->x∈X){v:Option TV}(h:Vz env o=some v):OR M.h v (o.map a.eval):=by
 unfold Vz at h;split at h
 .simp at h;subst h;exact .none
 rename_i x;split at h
 .rename_i v' hv;simp at h;subst h;exact .some (gY hE (hx x rfl) hv)
 simp at h
end
section
variable {P:Program} {M:Mp} {D:Key->Prop} {w:World} {s:St}
def Gi:Op->Bool
 |.call { callee:=.value _,.. }=>true
 |_=>false
theorem G5.lM{C:Ct}{c:Sem Next}{v:TV}{S:Sem Value}(hV:Valid M D C w)(hc:c=(do pure (.value (<-S))))(h:∃z,VR M.h v z∧S.run P w=.ok z w):G5 P M D C w c (.val v) C []:=by
 obtain⟨z,h1,h2⟩:=h;exact .same hV (by rw[hc];simp[h2]) (.val h1)
theorem G5.Nl{C:Ct}{c:Sem Next}{v:EV}{S:Sem Value}(hV:Valid M D C w)(hc:c=(do pure (.value (<-S))))(h:∃z,ER M v z∧S.run P w=.ok z w):G5 P M D C w c v C []:=by
 obtain⟨z,h1,h2⟩:=h;exact .same hV (by rw[hc];simp[h2]) h1
theorem G5.ahj{C:Ct}{c:Sem Next}{v:TV}{S:Sem Value}{C1:Ct}{ws:List Key}(hc:c=(do pure (.value (<-S))))(h:BOk P M D C w S v C1 ws):G5 P M D C w c (.val v) C1 ws:=by
 obtain⟨x,w',M',h1,h2⟩:=h;exact⟨x,w',M',.inl (by rw[hc];simp[h1]),h2⟩
theorem G5.ady{C:Ct}{c:Sem Next}{S:Sem Unit}{C1:Ct}{ws:List Key}(hc:c=(do S;pure .skip))(h:∃w' M',S.run P w=.ok () w'∧Valid M' (fun j=>D j∨(C j=none∧(C1 j).isSome=true)) C1 w'∧Ext M C w M' C1 w' ws∧(∀k l,M (.l k)=some l->M' (.l k)=some l)):G5 P M D C w c .undef C1 ws:=by
 obtain⟨w',M',h1,h2,h3,h4⟩:=h;exact⟨Go.undef,w',M',.inr ⟨rfl,by rw[hc];simp[h1]⟩,⟨h2,h3,.undef,h4⟩⟩
theorem G5.amW{C:Ct}{c:Sem Next}{S:Sem Unit}{C1:Ct}{ws:List Key}(hc:c=(do S;pure .skip))(h:∃w',S.run P w=.ok () w'∧Valid M (fun j=>D j∨(C j=none∧(C1 j).isSome=true)) C1 w'∧Ext M C w M C1 w' ws):G5 P M D C w c .undef C1 ws:=by
 obtain⟨w',h1,h2,h3⟩:=h;exact⟨Go.undef,w',M,.inr ⟨rfl,by rw[hc];simp[h1]⟩,⟨h2,h3,.undef,fun _ _ h=>h⟩⟩
theorem YC{b:Builtin}{at_:Array TypeId}{t:TypeId}{cs:Array Bool}{az:List TV}{xs:List Value}{v:TV}{s1:St}{i:lD}(hV:Valid M D s.get w)(yJ:M (.h s.heap.length)=none)
  (h:qF P b at_ t s az=some (v,s1,i)) (hx:bV M.h az xs) (hD:∀k∈i.ts,D k):s1.env=s.env∧G5 P M D s.get w (builtin b at_ t cs xs.toArray) (.val v) s1.get i.ws:=by
 unfold qF at h;split at h
 .simp only[a09,a0S]at h;obtain⟨⟨v',i'⟩,h1,rfl,rfl,rfl⟩:=h;obtain⟨x,xs',rfl,hx1,hx2⟩:=hx.iK;have:=hx2.pq;subst this;obtain⟨e1,e2⟩:=Yx (t:=t) hV h1 hx1 hD;refine⟨rfl,?_⟩;simp only;rw[e1];exact .lM hV rfl e2
 .obtain⟨x,xs',rfl,hx1,hx2⟩:=hx.iK;obtain⟨y,ys',rfl,hy1,hy2⟩:=hx2.iK;have:=hy2.pq;subst this;obtain⟨e1,e2⟩:=Ir (ty:=t) hV yJ h hx1 hy1 hD;exact⟨e1,.ahj rfl e2⟩
 .obtain⟨x,xs',rfl,hx1,hx2⟩:=hx.iK;obtain⟨y,ys',rfl,hy1,hy2⟩:=hx2.iK;have:=hy2.pq;subst this;obtain⟨e1,e2⟩:=TU (ty:=t) hV h hx1 hy1 hD;exact⟨e1,.ahj rfl e2⟩
 .simp only[a09,a0S]at h;obtain⟨v',h1,rfl,rfl,rfl⟩:=h;exact⟨rfl,.lM hV rfl (yK h1 hx)⟩
 .simp only[a09,a0S]at h;obtain⟨v',h1,rfl,rfl,rfl⟩:=h;exact⟨rfl,.lM hV rfl (yK h1 hx)⟩
 .simp at h
theorem ahk{call:aZ}{site:Nat->Bool}{o:Oper}{a:Act}{v:EV}{s1:St}{i:lD}(hV:Valid M D s.get w)(hE:Gf M s.env a o.op.operands)(yJ:M (.h s.heap.length)=none)(hnl:M (.l s.loc.length)=none)
  (h:oK P call site s o=some (v,s1,i)) (hc:Gi o.op=false) (hD:∀k∈i.ts,D k):s1.env=s.env∧G5 P M D s.get w (execOp a.eval o) v s1.get i.ws:=by
 unfold oK at h;unfold execOp;split at h
 .-- move
  rename_i x ho;rw[ho];simp only[a09,a0S]at h;obtain⟨e,he,rfl,rfl,rfl⟩:=h;exact⟨rfl,.same hV rfl (oM hE (by simp[ho,Op.operands]) he)⟩
 .rename_i x ho;rw[ho];simp only[a09,a0S]at h;obtain⟨e,he,rfl,rfl,rfl⟩:=h;exact⟨rfl,.same hV rfl (oM hE (by simp[ho,Op.operands]) he)⟩
 .-- pick
  rename_i c x y ho;rw[ho];split at h
  .rename_i t ht;simp only[a09,a0S]at h;obtain⟨e,he,rfl,rfl,rfl⟩:=h;have hb:=gY hE (by simp[ho,Op.operands]) ht;have qw:a.eval c=.bool t:=by cases qw:a.eval c<;>rw[qw]at hb<;>cases hb;rfl
   have:=oM hE (by cases t<;>simp[ho,Op.operands]) he;refine⟨rfl,.same hV (x:=a.eval (if t then x else y)) ?_ this⟩;simp only[Sem.run_bind,qw,asBool,Sem.run_pure,Result.andThen_ok];cases t<;>rfl
  .simp at h
 .-- alloc
  rename_i e ho;rw[ho];simp only[a09]at h;obtain⟨z,hz,h⟩:=h;obtain⟨i',x,v',_,_,_,_,hz1,hvr,hzr⟩:=vS hz;simp only[a0S]at h;obtain⟨rfl,rfl,rfl⟩:=h;obtain⟨M',hp⟩:=a4p hV yJ hnl (site (o.dst.getD 0)) e (hvr M.h) hz1 rfl;refine⟨by unfold qB;split<;>rfl,_,_,M',.inl ?_,hp⟩;simp[Instr.alloc,hzr w,newVar,newRow]
 .-- box
  rename_i t x ho;rw[ho];split at h
  .rename_i v0 hv0;split at h
   .rename_i EU;simp only[a00,a0S]at h;obtain⟨rfl,rfl,rfl⟩:=h;obtain⟨M',hp⟩:=a4p hV yJ hnl (site (o.dst.getD 0)) t (gY hE (by simp[ho,Op.operands]) hv0).cells (KY EU) rfl;refine⟨by unfold qB;split<;>rfl,_,_,M',.inl ?_,hp⟩;simp[Instr.box,newVar,newRow]
   .simp at h
  .simp at h
 .-- build
  rename_i t ps ho;rw[ho];split at h
  .rename_i qs hq;simp only[a09,a0S]at h;obtain⟨v0,hb,rfl,rfl,rfl⟩:=h;obtain⟨x,h1,h2⟩:=a4r hb (TY hE (fun p hp=>by simp[ho,Op.operands];exact⟨p.1,by simpa using hp⟩) hq);refine⟨rfl,.lM hV rfl ⟨x,h1,?_⟩⟩;have:=h2 w
   rwa [show(List.map (fun x=>(x.1,a.eval x.2)) ps.toList).toArray=ps.map (fun x=>(x.1,a.eval x.2))from by apply adK;simp]at this
  .simp at h
 .-- buildSlice
  rename_i t len ps ho;rw[ho];split at h
  .rename_i qs hq;simp only[a09,a0S]at h;obtain⟨⟨v0,s0⟩,hb,rfl,rfl,rfl⟩:=h;obtain⟨e1,x,w',M',h1,h2⟩:=tJ hV yJ hb (TY hE (fun p hp=>by simp[ho,Op.operands];exact⟨p.1,by simpa using hp⟩) hq);refine⟨e1,x,w',M',.inl ?_,h2⟩;rw[show(List.map (fun x=>(x.1,a.eval x.2)) ps.toList).toArray=ps.map (fun x=>(x.1,a.eval x.2))from by apply adK;simp]at h1;simp[h1]
  .simp at h
 .-- load
  rename_i t x ho;rw[ho];split at h
  .rename_i e he;simp only[a09,a0S]at h;obtain⟨⟨v0,i0⟩,hl,rfl,rfl,rfl⟩:=h;obtain⟨e1,e2⟩:=G6 hV hl (oM hE (by simp[ho,Op.operands]) he) hD;refine⟨rfl,?_⟩;simp only;rw[e1];exact .lM hV rfl e2
  .simp at h
 .-- store
  rename_i t x y ho;rw[ho];split at h
  .rename_i e v0 he hv0;simp only[a09,a0S]at h;obtain⟨⟨s0,i0⟩,hl,rfl,rfl,rfl⟩:=h;obtain⟨e1,w',e2,e3,e4,e5⟩:=Yu hV hl (oM hE (by simp[ho,Op.operands]) he) (gY hE (by simp[ho,Op.operands]) hv0) hD;exact⟨e1,.amW rfl ⟨w',e2,e3.widen e5,e4⟩⟩
  .simp at h
 .-- nilCheck
  rename_i x ho;rw[ho];split at h
  .rename_i k off he;simp only[a00,a0S]at h;obtain⟨rfl,rfl,rfl⟩:=h;have hx:=oM hE (by simp[ho,Op.operands]) he;refine⟨rfl,.same hV (x:=a.eval x) ?_ hx⟩;cases hxe:a.eval x<;>rw[hxe]at hx<;>cases hx
   simp[hxe]
  .rename_i b off lim he;simp only[a00,a0S]at h;obtain⟨rfl,rfl,rfl⟩:=h;have hx:=oM hE (by simp[ho,Op.operands]) he;refine⟨rfl,.same hV (x:=a.eval x) ?_ hx⟩;have EY:=hx.uV;cases hxe:a.eval x<;>rw[hxe]at EY<;>cases EY
   simp[hxe]
  .rename_i f b c he;simp only[a00,a0S]at h;obtain⟨rfl,rfl,rfl⟩:=h;have hx:=oM hE (by simp[ho,Op.operands]) he;refine⟨rfl,.same hV (x:=a.eval x) ?_ hx⟩;have EY:=hx.uV;cases hxe:a.eval x<;>rw[hxe]at EY<;>cases EY
   simp[hxe]
  .rename_i l he;simp only[a00,a0S]at h;obtain⟨rfl,rfl,rfl⟩:=h;have hx:=oM hE (by simp[ho,Op.operands]) he;refine⟨rfl,.same hV (x:=a.eval x) ?_ hx⟩;have EY:=hx.uV;cases hxe:a.eval x<;>rw[hxe]at EY<;>cases EY
   simp[hxe]
  .simp at h
 .-- binOp
  rename_i op t x y t' ho;rw[ho];split at h
  .rename_i u v0 hu hv;simp only[a09,a0S]at h;obtain⟨r,hb,rfl,rfl,rfl⟩:=h;exact⟨rfl,.lM hV rfl (Yv hb (gY hE (by simp[ho,Op.operands]) hu) (gY hE (by simp[ho,Op.operands]) hv))⟩
  .simp at h
 .-- unOp
  rename_i op t x ho;rw[ho];split at h
  .rename_i u hu;simp only[a09,a0S]at h;obtain⟨r,hb,rfl,rfl,rfl⟩:=h;exact⟨rfl,.lM hV rfl (iP hb (gY hE (by simp[ho,Op.operands]) hu))⟩
  .simp at h
 .-- convert
  rename_i t t' x ho;rw[ho];split at h
  .rename_i u hu;simp only[a09,a0S]at h;obtain⟨r,hb,rfl,rfl,rfl⟩:=h;exact⟨rfl,.lM hV rfl (TP hb (gY hE (by simp[ho,Op.operands]) hu))⟩
  .simp at h
 .-- makeFunc
  rename_i f az bs ho;rw[ho];split at h
  .rename_i us vs hu hv;simp only[a00,a0S]at h;obtain⟨rfl,rfl,rfl⟩:=h;have h1:=Gg hE (fun x hx=>by simp[ho,Op.operands];exact .inl (by simpa using hx)) hu;have h2:=Gg hE (fun x hx=>by simp[ho,Op.operands];exact .inr (by simpa using hx)) hv;refine⟨rfl,.lM hV rfl ⟨.func (.func f) (az.map a.eval) (bs.map a.eval),?_,rfl⟩⟩;have:=VR.fn (f:=f) h1.len h1.at_ h2.len h2.at_
   rwa [show(List.map a.eval az.toList).toArray=az.map a.eval from by apply adK;simp,show(List.map a.eval bs.toList).toArray=bs.map a.eval from by apply adK;simp]at this
  .simp at h
 .-- makeMap
  rename_i t r ho;rw[ho];have yu:s.get (.h s.heap.length)=none:=by simp[St.get]
  have hle:rV M (dJ M (.h s.heap.length) (.obj w.heap.size [])):=lJ fun l0 h0=>by rw[yJ]at h0;cases h0
  have gq:∀c,c<w.heap.size->c∉aI (.obj w.heap.size [])->(w.alloc (.map #[] 0)).heap[c]? = w.heap[c]?:=fun c hc _=>vP w _ c hc;have gW:∀c∈aI (.obj w.heap.size []),(∃l0,M (.h s.heap.length)=some l0∧c∈aI l0)∨w.heap.size<=c:=fun c hc=>.inr (by simp[aI]at hc;omega);have key:MV M D s.get w (.val (.map s.heap.length)) (St.get { s with heap:=s.heap++[.map []] }) [] (.map (some w.heap.size)) (w.alloc (.map #[] 0)) (dJ M (.h s.heap.length) (.obj w.heap.size [])):=by
   refine⟨?_,?_,.val (.map (o:=[]) (by simp[Mp.h,dJ])),qG yJ⟩
   .rw[jR];refine hV.upd _ _ _ (fun j hj=>?_) (fun l0 h0=>by rw[yJ]at h0;cases h0) gq gW (by simp) ⟨#[],heap_alloc_new w _,rfl,rfl,.nil,by simp,by simp⟩;rcases hj with hj|⟨x1,x2⟩
    .exact .inl hj
    .right;unfold lu at x2;split at x2
     .assumption
     .simp[x1]at x2
   .rw[jR];exact Ext.upd _ _ _ [] (.inr ⟨yu,yJ,rfl⟩) hle gq gW (by simp) rfl rfl rfl
  split at h
  .rename_i _ hr;simp only[a00,a0S]at h;obtain⟨rfl,rfl,rfl⟩:=h;have:=Gh hE (fun x hx=>by simp[ho,Op.operands,hx]) hr;refine⟨rfl,_,_,_,.inl ?_,key⟩;cases hrr:r.map a.eval with
   |none=>simp[hrr,Instr.makeMap]
   |some y=>rw[hrr]at this;cases this
  .rename_i k n _ _ hr hu;simp only[a00,a0S]at h;obtain⟨rfl,rfl,rfl⟩:=h;have:=Gh hE (fun x hx=>by simp[ho,Op.operands,hx]) hr;refine⟨rfl,_,_,_,.inl ?_,key⟩;cases hrr:r.map a.eval with
   |none=>rw[hrr]at this;cases this
   |some y=>
    rw[hrr]at this;cases this with
    |some hy=>
     cases hy;simp[hrr,Instr.makeMap,run_underlying hu,asInt,asIntOf]
  .simp at h
 .-- makeSlice
  rename_i t l c ho;rw[ho];split at h
  .rename_i u v0 hu hv;simp only[a09,a0S]at h;obtain⟨⟨r,s0⟩,hb,rfl,rfl,rfl⟩:=h;obtain⟨e1,z,w',M',e2,e3⟩:=zU hV yJ hb (gY hE (by simp[ho,Op.operands]) hu) (gY hE (by simp[ho,Op.operands]) hv);exact⟨e1,z,w',M',.inl (by simp[e2]),e3⟩
  .simp at h
 .-- slice
  rename_i t x lo hi mx ho;rw[ho];split at h
  .rename_i e Yw wV mx' he Gj hhi hmx;have h1:=Gh hE (fun x hx=>by simp[ho,Op.operands,hx]) Gj;have h2:=Gh hE (fun x hx=>by simp[ho,Op.operands,hx]) hhi;have h3:=Gh hE (fun x hx=>by simp[ho,Op.operands,hx]) hmx;split at h
   .simp only[a09,a0S]at h;obtain⟨r,hb,rfl,rfl,rfl⟩:=h;exact⟨rfl,.lM hV rfl (BX hb (oM hE (by simp[ho,Op.operands]) he) h1 h2 h3)⟩
   .simp only[a09,a0S]at h;obtain⟨r,hb,rfl,rfl,rfl⟩:=h;exact⟨rfl,.lM hV rfl (Nc hb (oM hE (by simp[ho,Op.operands]) he).uV h1 h2 h3)⟩
   .simp at h
  .simp at h
 .-- fieldAddr
  rename_i t x f ho;rw[ho];split at h
  .rename_i e n he hn;simp only[a09,a0S]at h;obtain⟨r,hb,rfl,rfl,rfl⟩:=h;exact⟨rfl,.Nl hV rfl (TN hn hb (oM hE (by simp[ho,Op.operands]) he))⟩
  .simp at h
 .-- field
  rename_i t x f ho;rw[ho];split at h
  .rename_i u hu;simp only[a09,a0S]at h;obtain⟨r,hb,rfl,rfl,rfl⟩:=h;exact⟨rfl,.lM hV rfl (Na hb (gY hE (by simp[ho,Op.operands]) hu))⟩
  .simp at h
 .-- indexAddr
  rename_i t x y ho;rw[ho];split at h
  .rename_i e u he hu;simp only[a09,a0S]at h;obtain⟨r,hb,rfl,rfl,rfl⟩:=h;exact⟨rfl,.Nl hV rfl (zS hb (oM hE (by simp[ho,Op.operands]) he) (gY hE (by simp[ho,Op.operands]) hu))⟩
  .simp at h
 .-- index
  rename_i t x y ho;rw[ho];split at h
  .rename_i u v0 hu hv;simp only[a09,a0S]at h;obtain⟨r,hb,rfl,rfl,rfl⟩:=h;exact⟨rfl,.lM hV rfl (Nb hb (gY hE (by simp[ho,Op.operands]) hu) (gY hE (by simp[ho,Op.operands]) hv))⟩
  .simp at h
 .-- lookup
  rename_i t m k ok ho;rw[ho];split at h
  .rename_i u v0 hu hv;simp only[a09,a0S]at h;obtain⟨r,hb,rfl,rfl,rfl⟩:=h;exact⟨rfl,.lM hV rfl (DI hV hb (gY hE (by simp[ho,Op.operands]) hu) (gY hE (by simp[ho,Op.operands]) hv) hD)⟩
  .simp at h
 .-- mapUpdate
  rename_i t m k x ho;rw[ho];split at h
  .rename_i u v0 y hu hv hy;simp only[a09,a0S]at h;obtain⟨⟨s0,i0⟩,hb,rfl,rfl,rfl⟩:=h;obtain⟨e1,e2⟩:=QS hV hb (gY hE (by simp[ho,Op.operands]) hu) (gY hE (by simp[ho,Op.operands]) hv) (gY hE (by simp[ho,Op.operands]) hy) hD;exact⟨e1,.ady rfl e2⟩
  .simp at h
 .-- insert
  rename_i t m k x ho;rw[ho];split at h
  .rename_i u v0 y hu hv hy;simp only[a09,a0S]at h;obtain⟨⟨s0,i0⟩,hb,rfl,rfl,rfl⟩:=h;obtain⟨e1,e2⟩:=QS hV hb (gY hE (by simp[ho,Op.operands]) hu) (gY hE (by simp[ho,Op.operands]) hv) (gY hE (by simp[ho,Op.operands]) hy) hD;exact⟨e1,.ady rfl e2⟩
  .simp at h
 .-- mapEntry
  rename_i t m k ho;rw[ho];split at h
  .rename_i u v0 hu hv;obtain⟨e1,z,w',M',h1,h2,h3,h4,h5⟩:=a4D hV h (gY hE (by simp[ho,Op.operands]) hu) (gY hE (by simp[ho,Op.operands]) hv) hD;exact⟨e1,z,w',M',.inl (by show(do pure (.value (<-Instr.mapEntry t _ _)):Sem Next).run P w=_;simp[h1]),h3,h4,h2,h5⟩
  .simp at h
 .-- entryStore
  rename_i t m k x ho;rw[ho];split at h
  .rename_i u v0 y hu hv hy;simp only[a09,a0S]at h;obtain⟨⟨s0,i0⟩,hb,rfl,rfl,rfl⟩:=h;obtain⟨e1,e2⟩:=a2f (t:=t) hV hb (gY hE (by simp[ho,Op.operands]) hu) (oM hE (by simp[ho,Op.operands]) hv) (gY hE (by simp[ho,Op.operands]) hy) hD;exact⟨e1,.ady rfl e2⟩
  .simp at h
 .-- extract
  rename_i x n ho;rw[ho];split at h
  .rename_i e he;simp only[a09,a0S]at h;obtain⟨r,hb,rfl,rfl,rfl⟩:=h;have hx:=oM hE (by simp[ho,Op.operands]) he;refine⟨rfl,.Nl hV rfl ?_⟩;generalize a.eval x=xv at hx;unfold yH at hb;split at hb
   .simp only[a09]at hb;obtain⟨y0,hb,rfl⟩:=hb;cases hx with
    |val hx=>
     cases hx with
     |dG g1 g2=>
      obtain⟨y,y1,y2⟩:=(bV.mk g1 g2).get hb;exact⟨y,.val y2,by simp[Instr.extract,y1]⟩
   .cases hx with
    |ent q1 q2 q3=>
     split at hb<;>cases hb
     .exact⟨_,.val q3,by simp[Instr.extract]⟩
     .exact⟨_,.Eh q1 q2,by simp[Instr.extract]⟩
   .cases hb
  .simp at h
 .-- call
  rename_i c ho;rw[ho]at hc ⊢;unfold MJ at h;split at h
  .rename_i b az hb has;simp only[a09,a0S]at h;obtain⟨⟨v0,s0,i0⟩,qw,rfl,rfl,rfl⟩:=h;obtain⟨e1,e2⟩:=YC (cs:=c.args.map fun|.const _=>true|_=>false) hV yJ qw (Gg hE (fun x hx=>by simp[ho,Op.operands,Call.operands,hb];simpa using hx) has) hD;refine⟨e1,?_⟩;obtain⟨x,w',M',r1,r2⟩:=e2;refine⟨x,w',M',?_,r2⟩;rw[show(List.map a.eval c.args.toList).toArray=c.args.map a.eval from by apply adK;simp]at r1;unfold ah5 at r1 ⊢;simp only[resolve,hb,Sem.run_bind,Sem.run_pure,Result.andThen_ok,invoke];exact r1
  .rename_i f az hf has;obtain⟨callee,args,ats⟩:=c;simp only at hf;subst hf;simp[Gi]at hc
  .simp at h
 .-- range
  rename_i t x ho;rw[ho];split at h
  .rename_i r k el hv hu;split at h
   .rename_i es KZ;simp only[a00,a0S]at h;obtain⟨rfl,rfl,rfl⟩:=h;have hx:=gY hE (by simp[ho,Op.operands]) hv;refine⟨rfl,?_⟩;generalize hxv:a.eval x=xv at hx;cases hx with
    |map hm=>
    rename_i r1 o1;obtain⟨fV,b1,b2⟩:=hV.ok _ _ hm (hD (.h r) (by simp[wS]));simp only[St.get,KZ,a00]at b1;subst b1;obtain⟨xs,g1,g2⟩:=b2;have yu:s.get (.h s.heap.length)=none:=(by simp[St.get]);have hrl:r<s.heap.length:=(a04.1 KZ).1;have hle:rV M (dJ M (.h s.heap.length) (.obj w.heap.size [])):=lJ fun l0 h0=>by rw[yJ]at h0;cases h0
    have gq:∀c,c<w.heap.size->c∉aI (.obj w.heap.size [])->(w.alloc (.mapIter (some r1) xs.size #[] xs.size)).heap[c]? = w.heap[c]?:=fun c hc _=>vP w _ c hc;have gW:∀c∈aI (.obj w.heap.size []),(∃l0,M (.h s.heap.length)=some l0∧c∈aI l0)∨w.heap.size<=c:=fun c hc=>.inr (by simp[aI]at hc;omega);refine⟨.pointer (some ⟨w.heap.size,0,none⟩),w.alloc (.mapIter (some r1) xs.size #[] xs.size),dJ M (.h s.heap.length) (.obj w.heap.size []),.inl ?_,?_,?_,.val (.iter (o:=[]) (by simp[Mp.h,dJ])),qG yJ⟩
    .simp[hxv,Instr.range,run_underlying hu,getObj,Sem.run,g1,newObj]
    .rw[jR];refine hV.upd _ _ _ (fun j hj=>?_) (fun l0 h0=>by rw[yJ]at h0;cases h0) gq gW (by simp) ⟨r1,o1,#[],?_,?_,?_,rfl⟩
     .rcases hj with hj|⟨x1,x2⟩
      .exact .inl hj
      .right;unfold lu at x2;split at x2
       .assumption
       .simp[x1]at x2
     .have:(Key.h r)≠.h s.heap.length:=fun e=>by cases e;omega
      simp only[Mp.h,dJ,a0g this];exact hm
     .rw[g2.len];exact heap_alloc_new w _
     .rw[g2.len,g2.ord];exact a15 _
    .rw[jR];exact Ext.upd _ _ _ [] (.inr ⟨yu,yJ,rfl⟩) hle gq gW (by simp) rfl rfl rfl
   .simp at h
  .simp at h
 .-- entry
  rename_i x ho;rw[ho];split at h
  .rename_i b hv;split at h
   .rename_i r n i seen hb;split at h
    .rename_i es KZ;split at h
     case isFalse=>simp at h
     rename_i hn;simp only[a09,a0S]at h;obtain⟨e,he,rfl,rfl,rfl⟩:=h;have hx:=gY hE (by simp[ho,Op.operands]) hv;refine⟨rfl,.lM hV rfl ?_⟩;generalize a.eval x=xv at hx;cases hx with
     |iter hm=>
     rename_i b1 o1;obtain⟨fV,c1,c2⟩:=hV.ok _ _ hm (hD (.h b) (by simp[gX]));simp only[St.get,hb,a00]at c1;subst c1;obtain⟨r1,o,sa,d1,d2,d3,d4⟩:=c2;obtain⟨fV,c1,c2⟩:=hV.ok (.h r) _ d1 (hD (.h r) (by simp[gX]));simp only[St.get,KZ,a00]at c1;subst c1;obtain⟨xs,g1,g2⟩:=c2;have iy:sa.toList≠[]:=fun e=>by rw[e]at d4;simp at d4
     obtain⟨k,hk⟩:∃k,sa.back? = some k∧o[k]? = some i:=by
      have h1:(sa.toList.map fun i=>o[i]?).getLast? = some (some i):=by rw[d4];simp
      rw[List.getLast?_map]at h1;simp only[a09]at h1;obtain⟨k,h2,h3⟩:=h1;exact⟨k,by rw[<-Array.getLast?_toList];exact h2,h3⟩
     have lN:k<xs.size:=by rw[<-g2.ord];exact(a04.1 hk.2).1
     obtain⟨q1,j,e',q2,q3,q4,q5⟩:=g2.at_ k _ (a3T lN);rw[hk.2]at q2;cases q2;rw[he]at q3;cases q3;refine⟨.tuple #[xs[k].key,xs[k].val],.Q9 (.cons q4 (.cons q5 .nil)),?_⟩;have hf:xs.find? (·.born==k)=some xs[k]:=by
      rw[<-Array.find?_toList];have:xs[k].born==k:=(by simpa using q1);rw[List.find?_eq_some_iff_getElem];refine⟨this,k,by simpa using lN,by simp,fun j hj=>?_⟩;have rO:j<xs.size:=(by omega);have:=(g2.at_ j _ (a3T rO)).1;simp only[Array.getElem_toList];rw[this];simp;omega
     have hc:xs.size=n:=by rw[<-g2.len];exact hn
     simp only[Instr.entry,getObj,Sem.run_bind,Sem.run,d2,g1,Result.andThen_ok,hk.1,hc,bne_self_eq_false,a2c,a2Y,hf];rfl
    .simp at h
   .simp at h
  .simp at h
 .simp at h
end
abbrev kL(h:List HB):Ct:=St.get ⟨[],[],h,[]⟩
def Mp.only(M:Mp):Mp
 |.h b=>M (.h b)
 |.l _=>none
abbrev ni(r:Option Nat):Fence:={ Fence.wide with round:=r }
def KG(R:Value->World->Prop):Ending->World->Prop
 |.returned v,w=>R v w
 |_,_=>False
def jD(M:Mp)(h:List HB)(w:World)(v:TV)(h':List HB)(ws:List Nat)(y:Value)(w':World):Prop:=
 ∃M',Valid M' uG (kL h') w'∧(∀k,M' (.l k)=none)∧Ext M (kL h) w M' (kL h') w' (ws.map .h)∧VR M'.h v y
def L6(P:Program)(d:Deferred)(w:World)(R:Value->World->Prop):Prop:=
 ∃f az,(invoke d.target d.args).run P w=.ok (.enter f az) w∧∀n,CallsIn Fence.wide n P f az w (KG R)
def U0(P:Program)(d:Deferred)(w:World)(R:Value->World->Prop):Prop:=
 ∃l f tmps uD body,(invoke d.target d.args).run P w=.ok (.round l f tmps uD body) w∧∀n,RoundIn Fence.wide n P l f tmps uD body w (KG R)
def iC(P:Program)(call:aZ):Prop:=
 ∀fv args h v h' ws,call fv args h=some (v,h',ws)->∀(M:Mp) (w:World) (x:Value) (xs:List Value),Valid M uG (kL h) w->(∀k,M (.l k)=none)->VR M.h fv x->bV M.h args xs ->
  ∃d,(∀w,(Deferred.ofValue x xs.toArray).run P w=.ok d w)∧((L6 P d w (jD M h w v h' ws)∧∃f a b,fv=.fn f a b)∨(U0 P d w (jD M h w v h' ws)∧∃l,fv=.kC l))
theorem CallsIn.ex{n:Nat}{P:Program}{f:FuncId}{az:Array Value}{w:World}{R:Value->World->Prop}(h:CallsIn Fence.wide n P f az w (KG R)):∃y w',R y w':=by
 obtain⟨e,w',fr,hR,_⟩:=h.2 [] (room_wide _);cases e with
 |returned v=>exact⟨v,w',hR⟩
 |panicked c=>exact hR.elim
 |outgrown=>exact hR.elim
theorem RoundIn.ex{n:Nat}{P:Program}{l:Nat}{f:FuncId}{tmps:Array Value}{uD body:Code}{w:World}{R:Value->World->Prop}(h:RoundIn Fence.wide n P l f tmps uD body w (KG R)):∃y w',R y w':=by
 obtain⟨e,w',hR,_⟩:=h.2 default [] (room_wide _);cases e with
 |returned v=>exact⟨v,w',hR⟩
 |panicked c=>exact hR.elim
 |outgrown=>exact hR.elim
section
variable {P:Program} {call:aZ}
theorem iC.ex(hC:iC P call){fv:TV}{args:List TV}{h:List HB}{v:TV}{h':List HB}{ws:List Nat}(hc:call fv args h=some (v,h',ws)){M:Mp}{w:World}{x:Value}{xs:List Value}
  (hV:Valid M uG (kL h) w) (hl:∀k,M (.l k)=none) (hx:VR M.h fv x) (Nq:bV M.h args xs):∃y w',jD M h w v h' ws y w':=by
 obtain⟨d,_,h1|h1⟩:=hC _ _ _ _ _ _ hc M w x xs hV hl hx Nq
 .obtain⟨⟨f,az,_,h2⟩,_⟩:=h1;exact CallsIn.ex (h2 0)
 .obtain⟨⟨l,f,tmps,uD,body,_,h2⟩,_⟩:=h1;exact RoundIn.ex (h2 0)
def abp(M' M:Mp):Mp
 |.h b=>M' (.h b)
 |.l j=>M (.l j)
theorem Fa{M:Mp}{D:Key->Prop}{s:St}{w:World}(hV:Valid M D s.get w)(hh:∀b l,M (.h b)=some l->D (.h b)):Valid M.only uG (kL s.heap) w:=by
 refine⟨?_,?_,?_⟩
 .intro k l hk _;cases k with
  |l j=>cases hk
  |h b=>exact hV.ok (.h b) l hk (hh b l hk)
 .intro k k' l l' b iy hk nT _ hc hw;cases k with
  |l j=>cases hk
  |h b=>
   cases k' with
   |l j=>cases nT
   |h b'=>exact hV.own _ _ _ _ _ iy hk nT (hh b l hk) hc hw
 intro k l hk;cases k with
 |l j=>cases hk
 |h b=>exact hV.inb _ _ hk
theorem QU{M:Mp}{D:Key->Prop}{s:St}{w:World}(hV:Valid M D s.get w)
  (yN:∀j l,M (.l j)=some l->∀k' l',Key.l j≠k'->M k'=some l'->∀c∈aI l,c∉aI l')
  {v:TV} {h':List HB} {ws:List Nat} {y:Value} {w':World} (hr:jD M.only s.heap w v h' ws y w') :
  ∃M',MV M D s.get w (.val v) (St.get { s with heap:=h' }) (ws.map .h) y w' M':=by
 obtain⟨M',YA,hl',hX,hy⟩:=hr;have pJ:∀(b j:Nat) (l l':Lc),M' (.h b)=some l->M (.l j)=some l'->∀c∈aI l,c∉aI l':=by
  intro b j l l' hb hj c hc Vt;have aS:=hV.inb _ _ hj c Vt;obtain⟨l0,h1,h2⟩:=hX.fresh _ _ hb c hc aS;exact yN j l' hj (.h b) l0 (by simp) h1 c Vt h2
 refine⟨abp M' M,⟨⟨?_,?_,?_⟩,?_,.val hy,fun _ _ h=>h⟩⟩
 .intro k l hk hd;cases k with
  |h b=>exact YA.ok (.h b) l hk trivial
  |l j=>
   rcases hd with hd|⟨h1,h2⟩
   .obtain⟨b0,h1,h2⟩:=hV.ok (.l j) l hk hd;refine⟨b0,h1,h2.mono (N:=M.h) (N':=(abp M' M).h) (hX.Ic.h) fun c hc=>?_⟩;refine hX.frame c (hV.inb _ _ hk c hc) fun k' nT l' hl' amZ=>?_;obtain⟨b',_,rfl⟩:=a1f.1 nT;exact yN j l hk (.h b') l' (by simp) hl' c hc amZ
   .simp only[St.get]at h1 h2;rw[h1]at h2;cases h2
 .intro k k' l l' b0 iy hk nT hd hc hw;cases k with
  |h b=>
   cases k' with
   |h b'=>exact YA.own (.h b) (.h b') l l' b0 iy hk nT trivial hc hw
   |l j=>exact pJ b j l l' hk nT
  |l j=>
   cases k' with
   |h b'=>exact fun c hc Vt=>pJ b' j l' l nT hk c Vt hc
   |l j'=>exact yN j l hk (.l j') l' iy nT
 .intro k l hk c hc;cases k with
  |h b=>exact YA.inb (.h b) l hk c hc
  |l j=>exact a8S (hV.inb (.l j) l hk c hc) hX.size
 .exact
  {Ic:=by
    intro k l hk;cases k with
    |h b=>exact hX.Ic (.h b) l hk
    |l j=>exact⟨l,hk,.refl l⟩
   frame:=fun c hc hf=>hX.frame c hc fun k hk l hl=>by
    obtain⟨b',_,rfl⟩:=a1f.1 hk;exact hf _ hk l hl
   mW:=fun k hk hn=>by
    cases k with
    |h b=>exact hX.mW (.h b) hk hn
    |l j=>rfl
   kR:=fun k hk hn=>by
    cases k with
    |h b=>exact hX.kR (.h b) hk hn
    |l j=>rfl
   fresh:=fun k l hk c hc aS=>by
    cases k with
    |h b=>exact hX.fresh (.h b) l hk c hc aS
    |l j=>exact⟨l,hk,hc⟩
   size:=hX.size
   has:=fun k hk=>by
    cases k with
    |h b=>exact hX.has (.h b) hk
    |l j=>exact hk
   wsub:=fun k hk=>by
    obtain⟨b',_,rfl⟩:=a1f.1 hk;exact hX.wsub _ hk
   wrote:=fun k hk=>by
    obtain⟨b',_,rfl⟩:=a1f.1 hk;exact hX.wrote _ hk
   os:=hX.os
   output:=hX.output
   tape:=hX.tape }
theorem getEnv(s:St)(env:List (Nat×EV))(ws:List Nat):St.get { s with env:=env,ws:=ws }=s.get:=by
 funext k;cases k<;>rfl
theorem YD(s:St)(d:Option Nat)(v:EV):St.get (s.put d v)=s.get:=by
 funext k;cases d<;>cases k<;>rfl
theorem Valid.sub{M:Mp}{D D':Key->Prop}{C:Ct}{w:World}(hV:Valid M D C w)(h:∀k,D' k->D k):Valid M D' C w:=
 ⟨fun k l hk hd=>hV.ok k l hk (h k hd),fun k k' l l' b a1 a2 a3 hd=>hV.own k k' l l' b a1 a2 a3 (h k hd),hV.inb⟩
theorem a2g{site:Nat->Bool}{s:St}{o:Oper}{c:Call}(h:o.op=.defer c):oK P call site s o=none:=by
 simp[oK,h]
def uf(P:Program)(call:aZ)(site:Nat->Bool)(fl nt:Nat)(ops:Array Oper)(o:Oper)(s:St)(i:lD)(s':St):Prop:=
 ML nt o=true∧((BO ops s.env o=some true∧∃v s1,oK P call site s o=some (v,s1,i)∧s'=St.put { s1 with ws:=jL fl i.ws s.ws } o.dst v) ∨
  (BO ops s.env o=some false∧i=cu∧s'=s.put o.dst .undef))
def nU(i:lD)(k:Key):Prop:=k∈i.ts∨k∈i.ws∨(i.all=true∧k.isH=true)
def L8(M:Mp)(env:List (Nat×EV))(tmps:Array Value)(ops:Array Oper)(o:Oper):Prop:=
 ∀j want d,o.guard=some (j,want)->(ops[j]?).bind (·.dst)=some d->∀e,dK d env=some e->ER M e (tmps.getD d Go.undef)
theorem L9{M:Mp}{env:List (Nat×EV)}{tmps:Array Value}{ops:Array Oper}{o:Oper}{b:Bool}(hG:L8 M env tmps ops o)(h:BO ops env o=some b):Region.wanted o (yielded ops tmps)=b:=by
 unfold BO at h;unfold Region.wanted;split at h
 .rename_i hg;rw[hg];simpa using h
 rename_i j want hg;rw[hg];simp only;split at h
 rotate_left
 .simp at h
 rename_i d hd;split at h
 .rename_i b0 he;have h3:=(hG j want d hg hd _ he).uV;have hb:tmps.getD d Go.undef=.bool b0:=by
   generalize tmps.getD d Go.undef=z at h3;cases h3;rfl
  have:tmps[d]? = some (.bool b0):=by
   by_cases h1:d<tmps.size
   .simp only[Array.getD,h1,dite_true]at hb;rw[a3T h1];exact congrArg some hb
   simp[Array.getD,h1,Go.undef]at hb
  simp only[yielded,hd,a4k,this];simpa using h
 .rename_i he;have h2:=hG j want d hg hd _ he;have hb:tmps.getD d Go.undef=Go.undef:=by
   generalize tmps.getD d Go.undef=z at h2;cases h2;rfl
  have:tmps[d]? = some Go.undef∨tmps[d]? = none:=by
   by_cases h1:d<tmps.size
   .simp only[Array.getD,h1,dite_true]at hb;rw[a3T h1];exact .inl (congrArg some hb)
   right;simpa using h1
  simp at h;subst h;rcases this with this|this<;>simp only[yielded,hd,a4k,this]<;>rfl
 simp at h
def JL(M:Mp)(D:Key->Prop)(s:St)(w:World)(o:Oper)(i:lD)(s':St)(x:Value)(w':World):Prop:=
 ∃v M',s'=St.put { s' with env:=s.env } o.dst v∧MV M D s.get w v s'.get i.ws x w' M'
theorem U1(s:St)(env:List (Nat×EV))(d:Option Nat)(v:EV)(h:s.env=env):s.put d v=St.put { s.put d v with env:=env } d v:=by
 subst h;cases d<;>rfl
theorem a0i(hC:iC P call){site:Nat->Bool}{fl nt:Nat}{ops:Array Oper}{o:Oper}{s s':St}{i:lD}{M:Mp}{D:Key->Prop}{w:World}{a:Act}
  (hS:uf P call site fl nt ops o s i s') (hV:Valid M D s.get w) (yJ:M (.h s.heap.length)=none) (hnl:M (.l s.loc.length)=none)
  (yN:∀j l,M (.l j)=some l->∀k' l',Key.l j≠k'->M k'=some l'->∀c∈aI l,c∉aI l')
  (hE:Gf M s.env a o.op.operands) (hG:L8 M s.env a.tmps ops o) (hD:∀k,nU i k->(M k).isSome=true->D k) :
  (∃x w',JL M D s w o i s' x w') ∧
   ∀(r:Option Nat) (n:Nat) (Q:Exit->Act->World->Prop) (idx:Nat) (K:Act->World->Prop),ops[idx]? = some o ->
    (∀x w',JL M D s w o i s' x w'->K (a.put o.dst x) w')->wpOpIn (ni r) n P ops Q idx K a w:=by
 obtain⟨_,⟨hw,v,s1,kD,rfl⟩|⟨hw,rfl,rfl⟩⟩:=hS
 .have a0j:=L9 hG hw;by_cases hc:Gi o.op=true
  .-- a call
   have:∃f args ats,o.op=.call { callee:=.value f,args:=args,argTypes:=ats }:=by
    unfold Gi at hc;split at hc
    .rename_i f args ats ho;exact⟨_,_,_,ho⟩
    .cases hc
   obtain⟨f,args,ats,ho⟩:=this;simp only[oK,ho,MJ]at kD;split at kD
   .rename_i b az hb has;cases hb
   .rename_i f' az hf has;injection hf with hf;subst hf;split at kD
    .rename_i fv hfv;split at kD
     .rename_i v0 h' ws xK;simp only[a00,a0S]at kD;obtain⟨rfl,rfl,rfl⟩:=kD;have hh:∀b l,M (.h b)=some l->D (.h b):=fun b l hb=>hD _ (.inr (.inr ⟨rfl,rfl⟩)) (by simp[hb]);have hVo:=Fa hV hh;have hfx:VR M.only.h fv (a.eval f):=gY hE (by simp[ho,Op.operands,Call.operands]) hfv;have hax:bV M.only.h az (args.toList.map a.eval):=Gg hE (fun x hx=>by simp[ho,Op.operands,Call.operands];exact .inr (by simpa using hx)) has;have conv:∀y w',jD M.only s.heap w v0 h' ws y w'->JL M D s w o ⟨true,[],ws.map .h⟩ (St.put { s with heap:=h',ws:=jL fl (ws.map .h) s.ws } o.dst (.val v0)) y w':=by
       intro y w' hr;obtain⟨M',hp⟩:=QU hV yN hr;refine⟨.val v0,M',U1 _ _ _ _ rfl,?_⟩;rw[YD];exact hp
      obtain⟨d,hd,Bd⟩:=hC _ _ _ _ _ _ xK M.only w (a.eval f) (args.toList.map a.eval) hVo (fun _=>rfl) hfx hax;refine⟨?_,?_⟩
      .obtain⟨y,w',hr⟩:=iC.ex hC xK hVo (fun _=>rfl) hfx hax;exact⟨y,w',conv y w' hr⟩
      .intro r n Q idx K U2 hK;unfold wpOpIn;simp only[U2,a0j,a2d];refine⟨fun _ _=>trivial,?_⟩;have a4G:∀nx,(invoke d.target d.args).run P w=.ok nx w->(o.semAt (ni r).round a.eval).run P w=.ok nx w:=by
        intro nx hnx;rw[Oper.semAt_eq _ _ _ (fun c=>by rw[ho];simp)];unfold execOp;rw[ho];have:=hd w;rw[show(List.map a.eval args.toList).toArray=args.map a.eval from by apply adK;simp]at this;simp[resolve,this,hnx]
       rcases Bd with⟨⟨f1,as1,hinv,pJ⟩,_⟩|⟨⟨l1,f1,tm1,ag1,bd1,hinv,hrd⟩,_⟩
       .rw[a4G _ hinv];refine⟨fun h=>by simp[Fence.wide]at h,CallsIn.mono (F:=ni r) (pJ (n-1)) fun e w' he=>?_⟩;cases e with
        |returned y=>exact hK y w' (conv y w' he)
        |panicked c=>exact he.elim
        |outgrown=>exact he.elim
       .rw[a4G _ hinv];refine⟨fun h=>by simp[Fence.wide]at h,RoundIn.mono (F:=ni r) (hrd (n-1)) fun e w' he=>?_⟩;cases e with
        |returned y=>exact hK y w' (conv y w' he)
        |panicked c=>exact he.elim
        |outgrown=>exact he.elim
     .simp at kD
    .simp at kD
   .simp at kD
  .-- no call
   have Vt:Gi o.op=false:=(by simpa using hc);have YA:Valid M (fun k=>D k∨M k=none) s.get w:=⟨fun k l hk hd=>hV.ok k l hk (hd.resolve_right (by simp[hk])),fun k k' l l' b a1 a2 a3 hd=>hV.own k k' l l' b a1 a2 a3 (hd.resolve_right (by simp[a2])),hV.inb⟩;obtain⟨he,x,w',M',hr,hp⟩:=ahk YA hE yJ hnl kD Vt (fun k hk=>by
    cases hm:M k with
    |none=>exact .inr rfl
    |some l=>exact .inl (hD k (.inl hk) (by simp[hm])))
   have vH:JL M D s w o i (St.put { s1 with ws:=jL fl i.ws s.ws } o.dst v) x w':=by
    refine⟨v,M',U1 _ _ _ _ he,?_⟩;have hg:St.get { s1 with ws:=jL fl i.ws s.ws }=s1.get:=getEnv s1 s1.env _;rw[YD,hg];exact⟨hp.val.sub fun k hk=>hk.imp .inl id,hp.ext,hp.er,hp.loc⟩
   refine⟨⟨x,w',vH⟩,fun r n Q idx K U2 hK=>?_⟩;unfold wpOpIn;simp only[U2,a0j,a2d];refine⟨fun _ _=>trivial,?_⟩;rw[Oper.semAt_eq _ _ _ (fun c ho=>by rw[a2g ho]at kD;cases kD)];rcases hr with hr|⟨rfl,hr⟩
   .rw[hr];exact hK x w' vH
   .rw[hr];exact hK _ w' vH
 .have a0j:=L9 hG hw;have vH:JL M D s w o cu (s.put o.dst .undef) Go.undef w:=by
   refine⟨.undef,M,U1 _ _ _ _ rfl,?_⟩;rw[YD];exact .same hV .undef
  refine⟨⟨_,_,vH⟩,fun r n Q idx K U2 hK=>?_⟩;unfold wpOpIn;simp only[U2,a0j,a2c,a2Y];exact⟨fun _ _=>trivial,hK _ _ vH⟩
end
structure vW(M0:Mp)(h0:List HB)(w0:World):Prop where
 val:Valid M0 uG (kL h0) w0
 loc:∀k,M0 (.l k)=none
structure Rel(M0:Mp)(h0:List HB)(w0:World)(nt:Nat)(M:Mp)(s:St)(a:Act)(w:World):Prop where
 val:Valid M uG s.get w
 ext:Ext M0 (kL h0) w0 M s.get w (s.ws.map .h)
 env:jJ M s.env a.tmps
 size:nt<=a.tmps.size
 marks:∀d∈a.defers,∃k r,d=⟨.collected r,#[]⟩∧kL h0 (.h k)=none∧(∃o,M (.h k)=some (.obj r o))∧s.get (.h k)=some .mark∧w.heap[r]? = some (.deferred (some []))
 apart:a.defers.Pairwise (·≠·)
theorem a4I{fl b c:Nat}{ws:List Nat}:c∈Ei fl b ws↔c∈ws∨(c=b∧b<fl):=by
 unfold Ei;split
 .rename_i h;split
  .rename_i hc;have hc:b∈ws:=(by simpa using hc);constructor
   .exact .inl
   rintro (h1|⟨rfl,_⟩)
   .exact h1
   exact hc
  simp only[a1Y];constructor
  .rintro (rfl|h1)
   .exact .inr ⟨rfl,h⟩
   exact .inl h1
  rintro (h1|⟨rfl,_⟩)
  .exact .inr h1
  exact .inl rfl
 rename_i h;constructor
 .exact .inl
 rintro (h1|⟨_,h1⟩)
 .exact h1
 exact absurd h1 h
theorem nV{fl c:Nat}:∀{ks:List Key} {ws:List Nat},c∈jL fl ks ws↔c∈ws∨(Key.h c∈ks∧c<fl)
 | [],ws=>by simp[jL]
 |.h b::ks,ws=>by
  rw[jL,nV,a4I];simp only[a1Y,Key.h.injEq];constructor
  .rintro ((h|⟨rfl,h⟩)|⟨h1,h2⟩)
   .exact .inl h
   .exact .inr ⟨.inl rfl,h⟩
   exact .inr ⟨.inr h1,h2⟩
  rintro (h|⟨rfl|h1,h2⟩)
  .exact .inl (.inl h)
  .exact .inl (.inr ⟨rfl,h2⟩)
  exact .inr ⟨h1,h2⟩
 |.l b::ks,ws=>by
  rw[jL,nV];simp
theorem yO{t:Nat}{s:St}{d:Option Nat}{v:EV}:dK t (s.put d v).env=if d=some t then some v else dK t s.env:=by
 cases d with
 |none=>simp[St.put]
 |some d=>simp[St.put,dK]
theorem yP{a:Act}{d:Option Nat}{x:Value}{t:Nat}:(a.put d x).tmps.getD t Go.undef=if d=some t∧t<a.tmps.size then x else a.tmps.getD t Go.undef:=by
 cases d with
 |none=>simp[Act.put]
 |some d=>
  simp only[Act.put,a00];simp only[<-adI,a8u,a8F];by_cases h:d=t
  .subst h;by_cases h1:d<a.tmps.size
   .simp[h1]
   simp[h1]
  simp[h]
theorem Gl{a:Act}{d:Option Nat}{x:Value}:(a.put d x).tmps.size=a.tmps.size:=by
 cases d<;>simp[Act.put]
theorem jE{a:Act}{d:Option Nat}{x:Value}:(a.put d x).defers=a.defers:=by
 cases d<;>rfl
section
variable {P:Program} {call:aZ} {site:Nat->Bool} {fl nt:Nat} {ops:Array Oper} {o:Oper} {s s':St} {i:lD}
theorem uf.a0k(h:uf P call site fl nt ops o s i s'):s'.ws=jL fl i.ws s.ws:=by
 obtain⟨_,⟨_,v,s1,_,rfl⟩|⟨_,rfl,rfl⟩⟩:=h
 .cases o.dst<;>rfl
 cases o.dst<;>rfl
theorem uf.dst(h:uf P call site fl nt ops o s i s'){d:Nat}(hd:o.dst=some d):d<nt:=by
 have:=h.1;simp only[ML,hd]at this;simpa using this
variable {M0:Mp} {h0:List HB} {w0:World} {M:Mp} {a:Act} {w:World}
theorem Rel.loc(hR:Rel M0 h0 w0 nt M s a w):∀j l,M (.l j)=some l->∀k' l',Key.l j≠k'->M k'=some l'->∀c∈aI l,c∉aI l':=by
 intro j l hj k' l' iy nT;obtain⟨b,h1,_⟩:=hR.val.ok _ _ hj trivial;refine hR.val.own _ _ _ _ b iy hj nT trivial h1 ?_;simp only[St.get,a09]at h1;obtain⟨_,_,rfl⟩:=h1;rfl
theorem Rel.nh(hR:Rel M0 h0 w0 nt M s a w):M (.h s.heap.length)=none:=by
 cases h:M (.h s.heap.length)with
 |none=>rfl
 |some l=>have:=hR.val.has h;simp[St.get]at this
theorem Rel.nl(hR:Rel M0 h0 w0 nt M s a w):M (.l s.loc.length)=none:=by
 cases h:M (.l s.loc.length)with
 |none=>rfl
 |some l=>have:=hR.val.has h;simp[St.get]at this
theorem Cb{h:List HB}{k:Key}(hk:(kL h k).isSome=true):∃b,k=.h b∧b<h.length:=by
 cases k with
 |h b=>exact⟨b,rfl,by simpa[kL,St.get]using hk⟩
 |l j=>simp[kL,St.get]at hk
theorem YE{h:List HB}{b:Nat}(hb:b<h.length):(kL h (.h b)).isSome=true:=by simp[kL,St.get,hb]
theorem QV(hR:Rel M0 h0 w0 nt M s a w){M':Mp}{C':Ct}{w':World}{ws:List Key}(hX:Ext M s.get w M' C' w' ws) :
  ∀d∈a.defers,∃k r,d=⟨.collected r,#[]⟩∧kL h0 (.h k)=none∧(∃o,M' (.h k)=some (.obj r o))∧C' (.h k)=some .mark∧w'.heap[r]? = some (.deferred (some [])):=by
 intro d hd;obtain⟨k,r,h1,h2,⟨o,h3⟩,h4,h5⟩:=hR.marks d hd;have hn:Key.h k∉ws:=fun Ez=>by
  have:=(hX.wrote _ Ez).2 _ h4;cases this
 obtain⟨l',g1,g2⟩:=hX.Ic _ _ h3;obtain⟨o',hl⟩:∃o',l'=.obj r o':=by
  cases l' with
  |cells ls=>exact g2.elim
  |obj r' o'=>cases g2.1;exact⟨o',rfl⟩
 refine⟨k,r,h1,h2,⟨o',by rw[g1,hl]⟩,by rw[hX.mW _ (by simp[h4]) hn,h4],?_⟩;rw[hX.frame r (a2D.1 h5).1 fun k' nT l0 qy hc=>?_,h5];obtain⟨b,hb,_⟩:=hR.val.ok _ _ qy trivial;exact hR.val.own k' (.h k) l0 (.obj r o) b (fun e=>hn (e▸nT)) qy h3 trivial hb ((hX.wrote _ nT).2 b hb) r hc (by simp[aI])
theorem Nr(hB:vW M0 h0 w0)(hR:Rel M0 h0 w0 nt M s a w)(hS:uf P call site h0.length nt ops o s i s'){x:Value}{w':World}(vH:JL M uG s w o i s' x w') :
  ∃M',Rel M0 h0 w0 nt M' s' (a.put o.dst x) w':=by
 obtain⟨v,M',he,hp⟩:=vH;refine⟨M',hp.val.sub fun k _=>.inl trivial,?_,?_,by rw[Gl];exact hR.size,by rw[jE];exact QV hR hp.ext,by rw[jE];exact hR.apart⟩
 .refine hR.ext.trans hp.ext (fun k l hk=>hB.val.has hk) (fun k hk Ez=>?_) (fun k hk=>?_)
  .obtain⟨b,rfl,hb⟩:=Cb hk;rw[hS.a0k];refine a1f.2 ⟨b,nV.2 ?_,rfl⟩;rcases Ez with h1|h1
   .obtain⟨b',h2,h3⟩:=a1f.1 h1;cases h3;exact .inl h2
   .exact .inr ⟨h1,hb⟩
  .rw[hS.a0k]at hk;obtain⟨b,hb,rfl⟩:=a1f.1 hk;rcases nV.1 hb with h1|⟨h1,h2⟩
   .have:Key.h b∈s.ws.map .h:=a1f.2 ⟨b,h1,rfl⟩;exact⟨hR.ext.wsub _ this,.inl this⟩
   .exact⟨YE h2,.inr h1⟩
 .intro t e hl;rw[he,yO]at hl;rw[yP];by_cases hd:o.dst=some t
  .rw[a0h hd]at hl;have:=hS.dst hd;have:=hR.size;rw[a0h ⟨hd,by omega⟩];cases hl;exact hp.er
  .rw[a0g hd]at hl;rw[a0g (fun h=>hd h.1)];exact(hR.env t e hl).mono hp.ext.Ic hp.loc
theorem Rel.guard(hR:Rel M0 h0 w0 nt M s a w):L8 M s.env a.tmps ops o:=fun _ _ d _ _ e he=>hR.env d e he
theorem Gm(hC:iC P call)(hR:Rel M0 h0 w0 nt M s a w)(hS:uf P call site h0.length nt ops o s i s') :
  (∃x w',JL M uG s w o i s' x w') ∧
   ∀(r:Option Nat) (n:Nat) (Q:Exit->Act->World->Prop) (idx:Nat) (K:Act->World->Prop),ops[idx]? = some o ->
    (∀x w',JL M uG s w o i s' x w'->K (a.put o.dst x) w')->wpOpIn (ni r) n P ops Q idx K a w:=
 a0i hC hS hR.val hR.nh hR.nl hR.loc (hR.env.on _) hR.guard fun _ _ _=>trivial
theorem Cc{o:Oper}{os:List Oper}{s s':St}{is:List lD}(h:kQ P call site fl nt ops (o::os) s=some (s',is)) :
  ∃i s1 is',uf P call site fl nt ops o s i s1∧kQ P call site fl nt ops os s1=some (s',is')∧is=i::is':=by
 simp only[kQ]at h;split at h
 .simp at h
 .rename_i hd;have hd:ML nt o=true:=by simpa using hd
  split at h
  .rename_i hw;split at h
   .rename_i v s1 i kD;split at h
    .rename_i s2 is2 hr;simp only[a00,a0S]at h;obtain⟨rfl,rfl⟩:=h;exact⟨i,_,_,⟨hd,.inl ⟨hw,v,s1,kD,rfl⟩⟩,hr,rfl⟩
    .simp at h
   .simp at h
  .rename_i hw;split at h
   .rename_i s2 is2 hr;simp only[a00,a0S]at h;obtain⟨rfl,rfl⟩:=h;exact⟨_,_,_,⟨hd,.inr ⟨hw,rfl,rfl⟩⟩,hr,rfl⟩
   .simp at h
  .simp at h
theorem a4J(hC:iC P call)(hB:vW M0 h0 w0){r:Option Nat}{n:Nat}{Q:Exit->Act->World->Prop}:∀(os:List Oper) (k:Nat) (s s':St) (is:List lD) (M:Mp) (a:Act) (w:World),ops.toList.drop k=os ->
  kQ P call site h0.length nt ops os s=some (s',is)->Rel M0 h0 w0 nt M s a w ->
  (∀M' a' w',Rel M0 h0 w0 nt M' s' a' w'->a'.defers=a.defers->Q .normal a' w')->wpOpsIn (ni r) n P ops Q (List.range' k os.length) a w
 | [],k,s,s',is,M,a,w,_,h,hR,hQ=>by
  simp only[kQ,a00,a0S]at h;obtain⟨rfl,rfl⟩:=h;exact hQ M a w hR rfl
 |o::os,k,s,s',is,M,a,w,hd,h,hR,hQ=>by
  obtain⟨i,s1,is',hS,hr,rfl⟩:=Cc h;have ho:ops[k]? = some o:=by
   have:=congrArg (fun l=>l[0]?) hd;simpa using this
  have YB:ops.toList.drop (k+1)=os:=by
   rw[<-ags,hd];rfl
  simp only[a3V,List.range'_succ];rw[wpOpsIn_cons];refine(Gm hC hR hS).2 r n Q k _ ho fun x w' vH=>?_;obtain⟨M',Fb⟩:=Nr hB hR hS vH;exact a4J hC hB os (k+1) s1 s' is' M' _ w' YB hr Fb fun M2 a2 w2 h2 hdf=>hQ M2 a2 w2 h2 (hdf.trans jE)
theorem a2h(hC:iC P call)(hB:vW M0 h0 w0){r:Option Nat}{n:Nat}{Q:Exit->Act->World->Prop}{id:Nat}{s s':St}{is:List lD}{M:Mp}{a:Act}{w:World}
  (h:kQ P call site h0.length nt ops ops.toList s=some (s',is)) (hR:Rel M0 h0 w0 nt M s a w)
  (hQ:∀M' a' w',Rel M0 h0 w0 nt M' s' a' w'->a'.defers=a.defers->Q .normal a' w'):(Code.region id ops false).wpIn (ni r) n P Q a w:=by
 refine wpIn_region ?_;have:=a4J (r:=r) (n:=n) (Q:=Q) hC hB ops.toList 0 s s' is M a w rfl h hR hQ;simpa[List.range_eq_range']using this
end
theorem Ns{i:Nat}:∀{xs l:List Nat},i∈MO xs l->i∈xs∨i∈l
 | [],l,h=>.inr h
 |x::xs,l,h=>by
  simp only[MO]at h;rcases Ns h with h1|h1
  .exact .inl (a3O _ h1)
  split at h1
  .exact .inr h1
  rcases a1Y.1 h1 with rfl|h2
  .exact .inl a3N
  exact .inr h2
theorem Gn{acc:List (List Nat)}{i:Nat}:∀{es:List Edge} {l:List Nat},
  i∈es.foldl (fun l e=>if Region.binds .any e then MO (e.on::acc.getD e.on []) l else l) l->i∈l∨∃e∈es,Region.binds .any e=true∧(i=e.on∨i∈acc.getD e.on [])
 | [],l,h=>.inl h
 |e::es,l,h=>by
  simp only[adp]at h;rcases Gn h with h1|⟨e',h2,h3⟩
  .split at h1
   .rename_i hb;rcases Ns h1 with h2|h2
    .refine .inr ⟨e,a3N,hb,?_⟩;exact a1Y.1 h2
    .exact .inl h2
   .exact .inl h1
  .exact .inr ⟨e',a3O _ h2,h3⟩
theorem YF{acc:List (List Nat)}{o:Oper}{i:Nat}(h:i∈ES acc o):∃e∈o.after,Region.binds .any e=true∧(i=e.on∨i∈acc.getD e.on []):=by
 rcases Gn h with h1|⟨e,h2,h3⟩
 .cases h1
 exact⟨e,by simpa using h2,h3⟩
theorem Gp:∀(os:List Oper) (acc:List (List Nat)),∃t,Es os acc=acc++t
 | [],acc=>⟨[],by simp[Es]⟩
 |o::os,acc=>by
  obtain⟨t,ht⟩:=Gp os (acc++[ES acc o]);exact⟨ES acc o::t,by simp[Es,ht]⟩
theorem QW:∀(os:List Oper) (acc:List (List Nat)) (k:Nat) (o:Oper),os[k]? = some o ->
  (Es os acc)[acc.length+k]? = some (ES ((Es os acc).take (acc.length+k)) o)
 | [],acc,k,o,h=>by simp at h
 |o'::os,acc,0,o,h=>by
  simp at h;subst h;obtain⟨t,ht⟩:=Gp os (acc++[ES acc o']);simp[Es,ht]
 |o'::os,acc,k+1,o,h=>by
  have:=QW os (acc++[ES acc o']) k o (by simpa using h);simp only[Es];simp only[a2a,a3V,a5J]at this
  rwa [show acc.length+(0+1)+k=acc.length+(k+1) by omega]at this
def VO(ops:List Oper)(j:Nat):List Nat:=(Es ops []).getD j []
theorem a4K{ops:List Oper}{j i:Nat}{o:Oper}(hj:ops[j]? = some o)(h:i∈VO ops j):∃e∈o.after,Region.binds .any e=true∧(i=e.on∨(e.on<j∧i∈VO ops e.on)):=by
 have:=QW ops [] j o hj;simp only[a5J,a3U]at this;unfold VO at h;rw[a2X,this]at h;simp only[a4H]at h;obtain⟨e,h1,h2,h3⟩:=YF h;refine⟨e,h1,h2,h3.imp id fun h4=>?_⟩;rw[a2X,a4d]at h4;split at h4
 .rename_i aS;exact⟨aS,by unfold VO;rw[a2X];exact h4⟩
 simp at h4
def ug(D:Nat->Prop)(o:Oper):Prop:=∀e∈o.after,Region.binds .any e=true->D e.on
theorem U3{ops:List Oper}{D:Nat->Prop}(hc:∀j o,ops[j]? = some o->D j->ug D o):∀(j:Nat) (o:Oper),ops[j]? = some o->ug D o->∀i∈VO ops j,D i:=by
 intro j
 induction j using Nat.strongRecOn with
 |_ j ih=>
  intro o ho hw i hi;obtain⟨e,h1,h2,h3⟩:=a4K ho hi;rcases h3 with rfl|⟨aS,h4⟩
  .exact hw e h1 h2
  have hd:=hw e h1 h2;have hl:j<ops.length:=(a04.1 ho).1;have hoe:ops[e.on]? = some ops[e.on]:=a0a (by omega);exact ih e.on aS _ hoe (hc _ _ hoe hd) i h4
theorem yw{ops:List Oper}{i j:Nat}(zV:i<j)(hj:j<ops.length)(hn:i∉VO ops j):(i,j)∈nR ops:=by
 simp only[nR,adZ,a4f,a1f,a6t];exact⟨j,hj,i,⟨zV,by simpa[VO]using hn⟩,rfl⟩
theorem VP{ops:List Oper}(h:mZ ops=true){i:Nat}{o:Oper}(ho:ops[i]? = some o){e:Edge}(he:e∈o.after)(hb:Region.binds .any e=true):e.on<i:=by
 simp only[mZ,a2m,a4s]at h;have:=h.1 (o,i) (by
  rw[a9g];simpa using ho)
 simp only[ad4]at this;have:=this e he;simpa[hb]using this
theorem zW{ops:List Oper}(h:mZ ops=true){i j:Nat}{a b:Oper}(hp:(i,j)∈nR ops)(ha:ops[i]? = some a)(hb:ops[j]? = some b):a.apart ops.toArray b=true∧b.apart ops.toArray a=true:=by
 simp only[mZ,a2m,a4s]at h;have:=h.2 (i,j) hp;simpa[ha,hb]using this
theorem QX{wU:List lD}:∀{ps:List (Nat×Nat)},AZ wU ps=true->∀{i j:Nat} {a b:lD},(i,j)∈ps->wU[i]? = some a->wU[j]? = some b->calm a b=true
 | [],_,i,j,a,b,h,_,_=>by cases h
 |(x,y)::r,hd,i,j,a,b,h,ha,hb=>by
  simp only[AZ,a2m]at hd;rcases a1Y.1 h with h1|h1
  .cases h1;simpa[ha,hb]using hd.1
  exact QX hd.2 h1 ha hb
section
variable {P:Program} {call:aZ} {site:Nat->Bool} {s s1:St} {o:Oper} {v:EV} {i:lD}
theorem a4L{t:TypeId}{a:EV}{r:TV×lD}(h:loadT P t s a=some r):r.2.ws=[]:=by
 unfold loadT at h;split at h
 .split at h
  .simp only[a09]at h;obtain⟨_,_,rfl⟩:=h;rfl
  simp at h
 .split at h
  .split at h
   .simp only[a09]at h;obtain⟨_,_,rfl⟩:=h;rfl
   simp at h
  simp at h
 simp at h
theorem a8T{at_:Array TypeId}{h0:List HB}{x:TV}{r:TV×lD}(h:Yl P at_ h0 x=some r):r.2.ws=[]:=by
 unfold Yl at h
 repeat' (split at h)
 all_goals first
  |(simp at h;done)
  |(simp only[a00]at h;subst h;rfl)
theorem ahl(h:oK P call site s o=some (v,s1,i))(hm:Ij o.op=false):i.ws=[]:=by
 unfold oK at h;split at h
 all_goals first
  |(simp at h;done)
  |(rename_i ho;rw[ho]at hm;simp[Ij]at hm;done)
  |(simp only[a09,a0S]at h;obtain⟨_,_,_,_,rfl⟩:=h;rfl)
  |(split at h<;>first|(simp at h;done)|(simp only[a09,a0S,a00]at h;first|(obtain⟨_,_,_,_,rfl⟩:=h;rfl)|(obtain⟨_,_,rfl⟩:=h;rfl)))
  |skip
 .split at h
  .split at h
   .simp only[a00,a0S]at h;obtain⟨_,_,rfl⟩:=h;rfl
   simp at h
  simp at h
 .split at h
  .simp only[a09,a0S]at h;obtain⟨r,hr,_,_,rfl⟩:=h;exact a4L hr
  simp at h
 .split at h
  .split at h
   .simp only[a09,a0S]at h;obtain⟨_,_,_,_,rfl⟩:=h;rfl
   .simp only[a09,a0S]at h;obtain⟨_,_,_,_,rfl⟩:=h;rfl
   simp at h
  simp at h
 .rename_i c ho;rw[ho]at hm;obtain⟨callee,args,ats⟩:=c;unfold MJ at h;simp only at h;split at h
  .rename_i b az;simp only[a09,a0S]at h;obtain⟨⟨v0,s0,i0⟩,hb,_,_,rfl⟩:=h;simp only[Ij]at hm;unfold qF at hb;split at hb
   .simp only[a09,a0S]at hb;obtain⟨r,hr,_,_,rfl⟩:=hb;exact a8T hr
   .simp at hm
   .simp at hm
   .simp only[a09,a0S]at hb;obtain⟨r,hr,_,_,rfl⟩:=hb;rfl
   .simp only[a09,a0S]at hb;obtain⟨r,hr,_,_,rfl⟩:=hb;rfl
   simp at hb
  .simp[Ij]at hm
  simp at h
 .split at h
  .split at h
   .simp only[a00,a0S]at h;obtain⟨_,_,rfl⟩:=h;rfl
   simp at h
  simp at h
 split at h
 .split at h
  .split at h
   .split at h
    .simp only[a09,a0S]at h;obtain⟨_,_,_,_,rfl⟩:=h;rfl
    simp at h
   simp at h
  simp at h
 simp at h
theorem ahm(h:oK P call site s o=some (v,s1,i))(hm:MP o.op=false):i.ts=[]∧i.ws=[]∧i.all=false:=by
 unfold oK at h;split at h
 all_goals first
  |(simp at h;done)
  |(rename_i ho;rw[ho]at hm;simp[MP]at hm;done)
  |(simp only[a09,a0S]at h;obtain⟨_,_,_,_,rfl⟩:=h;exact⟨rfl,rfl,rfl⟩)
  |(split at h<;>first|(simp at h;done)|(simp only[a09,a0S,a00]at h;first|(obtain⟨_,_,_,_,rfl⟩:=h;exact⟨rfl,rfl,rfl⟩)|(obtain⟨_,_,rfl⟩:=h;exact⟨rfl,rfl,rfl⟩)))
  |skip
 .split at h
  .split at h
   .simp only[a00,a0S]at h;obtain⟨_,_,rfl⟩:=h;exact⟨rfl,rfl,rfl⟩
   simp at h
  simp at h
 .split at h
  .split at h
   .simp only[a09,a0S]at h;obtain⟨_,_,_,_,rfl⟩:=h;exact⟨rfl,rfl,rfl⟩
   .simp only[a09,a0S]at h;obtain⟨_,_,_,_,rfl⟩:=h;exact⟨rfl,rfl,rfl⟩
   simp at h
  simp at h
 rename_i c ho;rw[ho]at hm;obtain⟨callee,args,ats⟩:=c;unfold MJ at h;simp only at h;split at h
 .rename_i b az;simp only[a09,a0S]at h;obtain⟨⟨v0,s0,i0⟩,hb,_,_,rfl⟩:=h;simp only[MP]at hm;unfold qF at hb;split at hb
  .simp at hm
  .simp at hm
  .simp at hm
  .simp only[a09,a0S]at hb;obtain⟨r,hr,_,_,rfl⟩:=hb;exact⟨rfl,rfl,rfl⟩
  .simp only[a09,a0S]at hb;obtain⟨r,hr,_,_,rfl⟩:=hb;exact⟨rfl,rfl,rfl⟩
  simp at hb
 .simp[MP]at hm
 simp at h
variable {fl nt:Nat} {ops:Array Oper} {s':St}
theorem uf.w(h:uf P call site fl nt ops o s i s')(hm:Ij o.op=false):i.ws=[]:=by
 obtain⟨_,⟨_,v,s1,h1,_⟩|⟨_,rfl,_⟩⟩:=h
 .exact ahl h1 hm
 rfl
theorem uf.t(h:uf P call site fl nt ops o s i s')(hm:MP o.op=false):i.ts=[]∧i.ws=[]∧i.all=false:=by
 obtain⟨_,⟨_,v,s1,h1,_⟩|⟨_,rfl,_⟩⟩:=h
 .exact ahm h1 hm
 exact⟨rfl,rfl,rfl⟩
theorem Nu{ws:List Key}{b:lD}(h:MQ ws b=true){k:Key}(hk:k∈ws):¬nU b k:=by
 simp only[MQ,a4s]at h;have:=h k hk;simp only[a2m,a8x,agA]at this;obtain⟨⟨h1,h2⟩,h3⟩:=this;rintro (h4|h4|⟨h4,h5⟩)
 .simp[h4]at h2
 .simp[h4]at h3
 simp[h4,h5]at h1
theorem a2i{wU:List lD}{ol:List Oper}(hd:AZ wU (lU ol)=true){x y:Nat}{a b:Oper}{ia ib:lD}{sa sa' sb sb':St}(hp:(x,y)∈nR ol)(ha:ol[x]? = some a)(hb:ol[y]? = some b)
  (hia:wU[x]? = some ia) (hib:wU[y]? = some ib) (sta:uf P call site fl nt ops a sa ia sa') (stb:uf P call site fl nt ops b sb ib sb') :
  AY a b=true∨((∀k∈ia.ws,¬nU ib k)∧(∀k∈ib.ws,¬nU ia k)):=by
 cases hsp:AY a b
 case true=>exact .inl rfl
 right;by_cases hh:((Ij a.op&&MP b.op)||(MP a.op&&Ij b.op))=true
 .have hm:(x,y)∈lU ol:=by
   simp only[lU,a6t];refine⟨hp,?_⟩;simp only[ha,hb,hsp,aaB,agT];exact hh
  have:=QX hd hm hia hib;simp only[calm,a2m]at this;exact⟨fun k hk=>Nu this.1 hk,fun k hk=>Nu this.2 hk⟩
 .simp only[a8O,a2m,adq,not_and,adY]at hh;constructor
  .intro k hk ht;have h1:Ij a.op=true:=by
    cases h2:Ij a.op with
    |true=>rfl
    |false=>rw[sta.w h2]at hk;cases hk
   obtain⟨t1,t2,t3⟩:=stb.t (hh.1 h1);rcases ht with h|h|⟨h,_⟩
   .rw[t1]at h;cases h
   .rw[t2]at h;cases h
   .rw[t3]at h;cases h
  .intro k hk ht;have h1:Ij b.op=true:=by
    cases h2:Ij b.op with
    |true=>rfl
    |false=>rw[stb.w h2]at hk;cases hk
   have h2:MP a.op=false:=by
    cases h3:MP a.op with
    |false=>rfl
    |true=>have:=hh.2 h3;rw[h1]at this;cases this
   obtain⟨t1,t2,t3⟩:=sta.t h2;rcases ht with h|h|⟨h,_⟩
   .rw[t1]at h;cases h
   .rw[t2]at h;cases h
   .rw[t3]at h;cases h
end
end Tw
