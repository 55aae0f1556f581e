/- Part 1 of a proof: What Op2 makes has, at any place, the cell that value.Op2 returns of the cells there; for two diagrams that fit, and an operation. -/
import Derived.RangeFuncLeaves
import Derived.OrdersIn
import Derived.Laws.CopyRow
import Derived.Laws.Rows
import Derived.Laws.Entries
set_option linter.unusedVariables false
set_option linter.unusedSimpArgs false
set_option linter.unusedSectionVars false
open Go.IntKind (i64)
noncomputable section
abbrev a05:=@Option.some.injEq
abbrev a0c:=@List.getElem?_eq_some_iff
abbrev a0e:=@Option.map_eq_some_iff
abbrev a0f:=@List.getElem?_eq_getElem
abbrev a0j:=@List.getElem?_append_left
abbrev a0o:=@if_neg
abbrev a0p:=@if_pos
abbrev a0t:=@Prod.mk.injEq
abbrev a0v:=@Option.map_some
abbrev a1b:=@Nat.le_refl
abbrev a1c:=@List.getElem?_append_right
abbrev a1l:=@List.mem_map
abbrev a1q:=@List.getElem?_set_ne
abbrev a1Q:=@decide_eq_true_eq
abbrev a2j:=@List.length_append
abbrev a2l:=@List.getElem?_set_self
abbrev a2o:=@Bool.and_eq_true
abbrev a2p:=@Array.getElem?_eq_some_iff
abbrev a2w:=@if_true
abbrev a2y:=@List.mem_cons
abbrev a2P:=@Bool.false_eq_true
abbrev a2U:=@List.mem_singleton
abbrev a2V:=@List.getElem?_cons_zero
abbrev a3g:=@decide_eq_false_iff_not
abbrev a3k:=@List.mem_append
abbrev a3l:=@List.getD_eq_getElem?_getD
abbrev a3m:=@List.mem_cons_self
abbrev a3n:=@List.mem_cons_of_mem
abbrev a3E:=@Nat.add_mul
abbrev a3T:=@if_false
abbrev a3X:=@Nat.mul_le_mul_right
abbrev a4b:=@List.length_drop
abbrev a4c:=@Array.getElem?_eq_getElem
abbrev a4d:=@List.length_take
abbrev a4e:=@Nat.zero_add
abbrev a4f:=@List.length_singleton
abbrev a4g:=@List.eq_nil_of_length_eq_zero
abbrev a4h:=@List.getElem?_eq_none
abbrev a4i:=@List.length_cons
abbrev a4j:=@List.map_append
abbrev a4k:=@List.map_cons
abbrev a4l:=@Nat.lt_or_ge
abbrev a4m:=@List.getElem?_drop
abbrev a4n:=@List.length_map
abbrev a4o:=@List.getElem?_set_self'
abbrev a4p:=@List.getElem?_take
abbrev a4q:=@List.getElem?_map
abbrev a4r:=@List.nodup_cons
abbrev a4s:=@List.mem_range
abbrev a4t:=@Option.bind_some
abbrev a4u:=@List.mem_of_getElem?
abbrev a4v:=@List.length_set
abbrev a4w:=@List.prefix_rfl
abbrev a4z:=@List.getElem_mem
abbrev a4A:=@List.all_eq_true
abbrev a4F:=@List.idxOf_lt_length_iff
abbrev a4H:=@Bool.eq_iff_iff
abbrev a4J:=@List.mem_iff_getElem
abbrev a4K:=@Nat.zero_le
abbrev a4L:=@Int.toNat_natCast
abbrev a4P:=@List.map_congr_left
abbrev a4R:=@List.length_nil
abbrev a4T:=@List.contains_eq_mem
abbrev a4U:=@Nat.le_trans
abbrev a4W:=@List.append_assoc
abbrev a5e:=@Option.getD_some
abbrev a5s:=@not_false_eq_true
abbrev a5y:=@Option.isSome_iff_exists
abbrev a5Q:=@List.mem_of_mem_drop
abbrev a5U:=@List.mem_append_left
abbrev a5W:=@List.append_nil
abbrev a5Y:=@List.nodup_nil
abbrev a6m:=@List.mem_filterMap
abbrev a6D:=@List.drop_eq_getElem_cons
abbrev a6H:=@beq_iff_eq
abbrev a7h:=@List.eq_nil_iff_forall_not_mem
abbrev a7n:=@List.perm_ext_iff_of_nodup
abbrev a7v:=@List.length_eq_zero_iff
abbrev a7B:=@Int.emod_eq_of_lt
abbrev a7C:=@of_decide_eq_true
abbrev a7M:=@Nat.min_eq_left
abbrev a7X:=@List.map_map
abbrev a8h:=@not_true
abbrev a8p:=@List.take_succ_eq_append_getElem
abbrev a8q:=@Array.getD_eq_getD_getElem?
abbrev a8s:=@List.length_replicate
abbrev a8t:=@Bool.not_eq_true'
abbrev a8I:=@List.length_range
abbrev a8J:=@List.mem_filter
abbrev a8K:=@List.getElem?_of_mem
abbrev a8L:=@List.idxOf_eq_length
abbrev a8M:=@List.getElem_idxOf
abbrev a8N:=@List.prefix_append
abbrev a8O:=@Int.mul_le_mul_of_nonneg_left
abbrev a8P:=@List.nodup_append
abbrev a8Q:=@List.mem_iff_getElem?
abbrev a8R:=@Array.getElem?_setIfInBounds
abbrev a8S:=@Nat.eq_of_beq_eq_true
abbrev a8T:=@List.getElem_map
abbrev a8U:=@Bool.not_true
abbrev a8V:=@List.filterMap_cons
abbrev a8W:=@List.getElem_of_mem
abbrev a8X:=@Bool.or_eq_true
abbrev a94:=@Option.some.inj
abbrev a96:=@Classical.choose_spec
abbrev a98:=@List.length_filter_le
abbrev a99:=@Nat.lt_of_lt_of_le
abbrev a9f:=@Nat.le_of_lt
abbrev a9k:=@List.ext_getElem
abbrev a9s:=@Int.le_refl
abbrev a9t:=@List.mem_of_mem_take
abbrev a9u:=@List.mem_zipIdx_iff_getElem?
abbrev a9x:=@Bool.or_eq_false_iff
abbrev a9A:=@List.getElem?_cons_succ
abbrev a9C:=@List.getElem?_set
abbrev a9D:=@List.ext_getElem?
abbrev a9E:=@List.idxOf_append
abbrev a9I:=@Array.length_toList
abbrev a9K:=@List.take_of_length_le
abbrev a9R:=@List.findIdx?_eq_some_iff_getElem
abbrev a9T:=@Nat.add_assoc
abbrev a9V:=@Array.getElem?_append_left
abbrev aae:=@List.getElem_inj
abbrev aaf:=@List.length_mergeSort
abbrev aag:=@List.nil_append
abbrev aaI:=@Int.mul_le_mul_of_nonneg_right
abbrev aaQ:=@List.length_pos_iff
abbrev abw:=@Bool.not_false
abbrev abx:=@List.drop_zero
abbrev aby:=@Prod.ext
abbrev abB:=@Nat.one_mul
abbrev abC:=@Nat.eq_zero_or_pos
abbrev abD:=@Bool.not_eq_false'
abbrev abG:=@List.map_nil
abbrev abI:=@Array.getElem?_modify
abbrev abJ:=@List.mem_append_right
abbrev abP:=@List.all_cons
abbrev abQ:=@Int.add_mul_emod_self_left
abbrev abT:=@forall_congr'
abbrev abV:=@List.nodup_iff_pairwise_ne
abbrev abW:=@Classical.byContradiction
abbrev abX:=@List.pairwise_iff_getElem
abbrev acI:=@Int.mul_one
abbrev acQ:=@Nat.zero_mul
abbrev acW:=@Array.all_eq_true_iff_forall_mem
abbrev ad3:=@Nat.le_of_not_lt
abbrev ad9:=@and_self
abbrev adb:=@List.take_length
abbrev ade:=@List.getElem?_range
abbrev adf:=@List.filter_cons_of_neg
abbrev adl:=@List.filter_cons_of_pos
abbrev adn:=@Bool.true_and
abbrev adq:=@List.any_cons
abbrev adr:=@List.foldl_cons
abbrev adw:=@not_or
abbrev adx:=@List.range_succ
abbrev ady:=@List.Nodup.length_le_of_subset
abbrev adA:=@List.idxOf_cons
abbrev adC:=@Nat.le_mul_of_pos_left
abbrev adD:=@Nat.add_zero
abbrev adE:=@List.getElem?_toArray
abbrev adF:=@Array.getElem?_toList
abbrev adG:=@Array.ext'
abbrev adH:=@Bool.not_eq_true
abbrev adJ:=@List.mem_flatMap
abbrev adK:=@List.getElem?_modify
abbrev adM:=@List.nodup_range
abbrev adO:=@List.replicate_succ
abbrev adT:=@List.mergeSort_perm
abbrev adW:=@List.length_zipWith
abbrev adY:=@Int.natCast_mul
abbrev aeb:=@List.cons.injEq
abbrev aec:=@Int.emod_nonneg
abbrev aey:=@decide_eq_false
abbrev af4:=@Bool.true_eq_false
abbrev af5:=@Int.le_of_lt
abbrev afn:=@List.find?_eq_none
abbrev afz:=@List.take_take
abbrev afK:=@List.drop_drop
abbrev afQ:=@Option.map_map
abbrev ag0:=@Int.mul_nonneg
abbrev agd:=@List.getElem?_replicate
abbrev agi:=@List.pairwise_map
abbrev agz:=@List.drop_of_length_le
abbrev agA:=@Bool.false_or
abbrev agB:=@List.prefix_refl
abbrev agC:=@List.any_eq_true
abbrev agD:=@Bool.and_eq_false_iff
abbrev agE:=@Nat.le_of_ble_eq_true
abbrev agF:=@Nat.le_of_eq
abbrev agG:=@Nat.sub_self
abbrev agH:=@List.find?_cons
abbrev agI:=@Int.ediv_nonneg
abbrev agJ:=@Int.add_comm
abbrev agK:=@List.getElem?_mapIdx
abbrev agL:=@Int.toNat_of_nonneg
abbrev agM:=@Nat.succ_eq_add_one
abbrev agN:=@beq_eq_false_iff_ne
abbrev agO:=@List.drop_take
abbrev agP:=@Nat.mul_le_mul
abbrev agQ:=@Int.add_mul
abbrev agR:=@Nat.mul_one
abbrev agS:=@List.contains_cons
abbrev agT:=@Int.emod_lt_of_pos
abbrev agU:=@List.getElem_range
abbrev agV:=@Bool.and_true
namespace Tw
open Go
inductive NK where
 |ptr|slc|map|fn|ifc
 deriving DecidableEq
inductive TV where
 |bool (b:Bool)
 |int (k:IntKind) (n:Int)
 |str (s:ByteArray)
 |nil (k:NK)
 |ptr (b off lim:Nat)
 |slc (b off len cap sz:Nat) (ex:Bool)
 |map (r:Nat)
 |fn (f:FuncId) (first cap:List TV)
 |kP (l:Nat)
 |agg (cs:List TV)
 |dI (cs:List TV)
 |iter (b:Nat)
inductive EV where
 |val (v:TV)
 |loc (k off:Nat)
 |undef
 |ent (r j:Nat) (v:TV)
 |Es (r j:Nat)
inductive BK where
 |ro|own|grow|last
 deriving DecidableEq
inductive HB where
 |cells (k:BK) (cs:List TV)
 |map (es:List (TV×TV))
 |ng (cs:List TV)
 |mark
 |cZ (r n:Nat) (seen:List Nat)
 |loop (ready:Bool) (f:FuncId) (nt:Nat) (env:List (Nat×EV)) (ps:List Nat) (assign body:Code) (jH:Option Code)
structure St where
 env:List (Nat×EV)
 loc:List (List TV)
 heap:List HB
 ws:List Nat
inductive Key where
 |h (b:Nat)
 |l (k:Nat)
 deriving DecidableEq
def St.get(s:St):Key->Option HB
 |.h b=>s.heap[b]?
 |.l k=>(s.loc[k]?).map (.cells .own)
def TV.toC:TV->Option Value
 |.bool b=>some (.bool b)
 |.int k n=>some (.int k n)
 |.str s=>some (.string s)
 |.nil .ptr=>some (.pointer none)
 |.nil .slc=>some (.slice none 0 0)
 |.nil .map=>some (.map none)
 |.nil .fn=>some .nilFunc
 |.nil .ifc=>some .nilIface
 |_=>none
def TV.TF:List TV->Option (List Value)
 | []=>some []
 |c::cs=>match c.toC,TV.TF cs with
  |some v,some vs=>some (v::vs)
  |_,_=>none
def TV.yB:TV->Option Value
 |.agg cs=>(TV.TF cs).map fun vs=>.agg vs.toArray
 |v=>v.toC
def TV.ofC:Value->Option TV
 |.bool b=>some (.bool b)
 |.int k n=>some (.int k n)
 |.string s=>some (.str s)
 |.pointer none=>some (.nil .ptr)
 |.slice none 0 0=>some (.nil .slc)
 |.map none=>some (.nil .map)
 |.nilFunc=>some (.nil .fn)
 |.nilIface=>some (.nil .ifc)
 |_=>none
def TV.BP:List Value->Option (List TV)
 | []=>some []
 |c::cs=>match TV.ofC c,TV.BP cs with
  |some v,some vs=>some (v::vs)
  |_,_=>none
def TV.Vu:Value->Option TV
 |.agg cs=>(TV.BP cs.toList).map .agg
 |v=>TV.ofC v
def TV.abu:TV->Bool
 |.bool _|.int _ _|.str _|.nil _=>true
 |_=>false
def TV.abv:TV->Bool
 |.agg cs=>cs.all TV.abu
 |v=>v.abu
def TV.flat:TV->Bool
 |.dI vs=>vs.all TV.abv
 |v=>v.abv
def TV.cells:TV->List TV
 |.agg cs=>cs
 |v=>[v]
def iR:TV->Bool
 |.agg _|.dI _=>false
 |_=>true
def aB{α:Type}(P:Program):Sem α->Option α
 |.pure a=>some a
 |.program k=>aB P (k P)
 |.mark _ k=>aB P k
 |_=>none
def dM(t:Nat):List (Nat×EV)->Option EV
 | []=>none
 |(k,v)::r=>if k=t then some v else dM t r
def St.put(s:St)(dst:Option Nat)(v:EV):St:=
 match dst with
 |some d=>{ s with env:=(d,v)::s.env }
 |none=>s
def pick(live:List Nat)(env:List (Nat×EV)):List (Nat×EV):=
 match live with
 | []=>[]
 |t::r=>match dM t env with
  |some v=>(t,v)::pick r env
  |none=>pick r env
def Ir(env:List (Nat×EV)):Operand->Option EV
 |.tmp t=>dM t env
 |.const v=>(TV.Vu v).map .val
 |.func f=>some (.val (.fn f [] []))
 |.global _=>none
def qM(env:List (Nat×EV))(x:Operand):Option TV:=
 match Ir env x with
 |some (.val v)=>some v
 |_=>none
def TG(env:List (Nat×EV)):List Operand->Option (List TV)
 | []=>some []
 |x::xs=>match qM env x,TG env xs with
  |some v,some vs=>some (v::vs)
  |_,_=>none
def VA(env:List (Nat×EV)):List (Nat×Operand)->Option (List (Nat×TV))
 | []=>some []
 |(i,x)::xs=>match qM env x,VA env xs with
  |some v,some vs=>some ((i,v)::vs)
  |_,_=>none
structure mg where
 all:Bool
 ts:List Key
 ws:List Key
def cu:mg:=⟨false,[],[]⟩
def xq(k:Key):mg:=⟨false,[k],[]⟩
def gY(k:List Key):mg:=⟨false,k,[]⟩
def pz(k:Key):mg:=⟨false,[k],[k]⟩
def sub(cs:List TV)(off n:Nat):Option (List TV):=
 if off+n<=cs.length then some ((cs.drop off).take n)else none
def wo(cs:List TV)(off:Nat)(new:List TV):Option (List TV):=
 if off+new.length<=cs.length then some (cs.take off++new++cs.drop (off+new.length))else none
def uK(P:Program)(t:TypeId):Option Bool:=
 match P.underlying t with
 |some (.struct _)|some (.array _ _)=>some true
 |some _=>some false
 |none=>none
def dD(P:Program)(t:TypeId):Option Nat:=(P.info? t).map (·.size)
def uh(P:Program)(t:TypeId)(cs:List TV)(off:Nat):Option TV:=
 match uK P t,dD P t with
 |some true,some n=>(sub cs off n).map .agg
 |some false,some n=>if n=1 then cs[off]? else none
 |_,_=>none
def JL(P:Program)(t:TypeId):Option (List TV):=
 match P.info? t with
 |some i=>match i.zero with
  |some z=>(TV.Vu z).map TV.cells
  |none=>none
 |none=>none
def aV(h:List HB)(b:Nat):Option (List TV):=
 match h[b]? with
 |some (.cells _ cs)=>some cs
 |_=>none
def mD(h:List HB)(b lim:Nat):Option (List TV):=
 match h[b]? with
 |some (.cells k cs)=>if k=.last∧lim≠cs.length then none else some cs
 |_=>none
def Et(floor:Nat)(b:Nat)(ws:List Nat):List Nat:=
 if b<floor then(if ws.contains b then ws else b::ws)else ws
def jU(floor:Nat):List Key->List Nat->List Nat
 | [],ws=>ws
 |.h b::r,ws=>jU floor r (Et floor b ws)
 |.l _::r,ws=>jU floor r ws
def zT(k:BK)(whole:Bool):Option BK:=
 match k,whole with
 |.own,_=>some .own
 |.grow,true=>some .last
 |.last,true=>some .last
 |_,_=>none
def TI(h:List HB)(b off lim:Nat)(new:List TV):Option (List HB):=
 match h[b]? with
 |some (.cells k cs)=>match zT k (lim==cs.length)with
  |some k'=>(wo cs off new).map fun cs'=>h.set b (.cells k' cs')
  |none=>none
 |_=>none
def BK.more:BK->BK
 |.last=>.last
 |_=>.grow
def rY(place:Nat->Option (Nat×Nat)):List TV->List (Nat×TV)->Option (List TV)
 |cs,[]=>some cs
 |cs,(i,v)::r=>match place i with
  |some (off,size)=>if v.cells.length=size then(match wo cs off v.cells with|some cs'=>rY place cs' r|none=>none)else none
  |none=>none
def TJ(P:Program)(fs:Array Field)(i:Nat):Option (Nat×Nat):=
 match fs[i]? with
 |some f=>(dD P f.type).map fun n=>(f.offset,n)
 |none=>none
def BQ(P:Program)(fs:List Field):Bool:=fs.all fun f=>(dD P f.type).isSome
def N8(P:Program)(t:TypeId)(parts:List (Nat×TV)):Option TV:=
 match JL P t,P.underlying t with
 |some z,some (.struct fs)=>if BQ P fs.toList then(rY (TJ P fs) z parts).map .agg else none
 |some z,some (.array _ e)=>match dD P e with
  |some n=>(rY (fun i=>some (i*n,n)) z parts).map .agg
  |none=>none
 |_,_=>none
def times(z:List TV):Nat->List TV
 | 0=>[]
 |n+1=>z++times z n
def jF(P:Program)(t:TypeId):Option (TypeId×Nat):=
 match P.underlying t with
 |some (.slice e)=>match dD P e with
  |some n=>if n=0 then none else some (e,n)
  |none=>none
 |_=>none
def qN(site:Bool)(s:St)(cs:List TV):EV×St:=
 if site then(.val (.ptr s.heap.length 0 cs.length),{ s with heap:=s.heap++[.cells .own cs] })
 else(.loc s.loc.length 0,{ s with loc:=s.loc++[cs] })
def loadT(P:Program)(t:TypeId)(s:St):EV->Option (TV×mg)
 |.loc k off=>match s.loc[k]? with
  |some cs=>(uh P t cs off).map fun v=>(v,xq (.l k))
  |none=>none
 |.val (.ptr b off lim)=>match mD s.heap b lim,dD P t with
  |some cs,some n=>if off+n<=lim then(uh P t cs off).map fun v=>(v,xq (.h b))else none
  |_,_=>none
 |_=>none
def storeT(P:Program)(t:TypeId)(s:St)(a:EV)(v:TV):Option (St×mg):=
 match dD P t with
 |some n=>
  if v.cells.length=n∧v.cells.all iR=true then
   match a with
   |.loc k off=>match s.loc[k]? with
    |some cs=>(wo cs off v.cells).map fun cs'=>({ s with loc:=s.loc.set k cs' },pz (.l k))
    |none=>none
   |.val (.ptr b off lim)=>if off+n<=lim then(TI s.heap b off lim v.cells).map fun h=>({ s with heap:=h },pz (.h b))else none
   |_=>none
  else none
 |none=>none
def Qc(o:Nat):EV->Option EV
 |.loc k off=>some (.loc k (off+o))
 |.val (.ptr b off lim)=>if off+o<=lim then some (.val (.ptr b (off+o) lim))else none
 |_=>none
def Gi(P:Program)(t:TypeId)(i:Nat):Option Nat:=
 match P.underlying t with
 |some (.struct fs)=>match fs[i]? with
  |some f=>match dD P f.type with
   |some n=>if n=0 then none else some f.offset
   |none=>none
  |none=>none
 |_=>none
def idx(n:Nat):TV->Option Nat
 |.int _ i=>if 0<=i∧i<n then some i.toNat else none
 |_=>none
def mF(P:Program)(t:TypeId)(x:EV)(i:TV):Option EV:=
 match P.underlying t with
 |some (.slice e)=>match dD P e,x with
  |some n,.val (.slc b off len cap sz _)=>if n=sz then(idx len i).map fun j=>.val (.ptr b (off+j*n) (off+cap*n))else none
  |_,_=>none
 |some (.array len e)=>match dD P e with
  |some n=>match idx len i with
   |some j=>Qc (j*n) x
   |none=>none
  |none=>none
 |_=>none
def Iz(P:Program)(t:TypeId)(x i:TV):Option TV:=
 match P.underlying t,x with
 |some (.array len e),.agg cs=>match dD P e,idx len i with
  |some n,some j=>uh P e cs (j*n)
  |_,_=>none
 |some .string,.str s=>match idx s.size i with
  |some j=>(s[j]?).map fun b=>.int .u8 b.toNat
  |none=>none
 |_,_=>none
def qO(n:Nat):TV->Option Nat
 |.int _ i=>if 0<=i∧i<=n then some i.toNat else none
 |_=>none
def jw(n d:Nat):Option TV->Option Nat
 |none=>some d
 |some v=>qO n v
def qP(P:Program)(t:TypeId)(x:TV)(lo hi mx:Option TV):Option TV:=
 match P.underlying t,x with
 |some .string,.str s=>match mx with
  |some _=>none
  |none=>match jw s.size s.size hi with
   |some h=>match jw h 0 lo with
    |some l=>some (.str (s.extract l h))
    |none=>none
   |none=>none
 |some (.slice e),.slc b off len cap sz ex=>match dD P e with
  |some n=>
   if n=sz then
    match mx with
    |some m=>match qO cap m,hi with
     |some m,some h=>match qO (min m len) h with
      |some h=>match jw h 0 lo with
       |some l=>some (.slc b (off+l*n) (h-l) (m-l) sz true)
       |none=>none
      |none=>none
     |_,_=>none
    |none=>match jw len len hi with
     |some h=>match jw h 0 lo with
      |some l=>some (.slc b (off+l*n) (h-l) (cap-l) sz ex)
      |none=>none
     |none=>none
   else none
  |none=>none
 |some (.slice e),.nil .slc=>match dD P e,jw 0 0 mx,jw 0 0 hi,jw 0 0 lo with
  |some _,some _,some _,some _=>if mx.isSome&&hi.isNone then none else some (.nil .slc)
  |_,_,_,_=>none
 |_,_=>none
def qC(P:Program)(t:TypeId)(x:EV)(lo hi mx:Option TV):Option TV:=
 match P.underlying t,x with
 |some (.array n e),.val (.ptr b off lim)=>match dD P e with
  |some size=>
   if size=0∨lim<off+n*size∨2^24<n then none else
   match jw n n mx with
   |some m=>match jw m n hi with
    |some h=>match jw h 0 lo with
     |some l=>if mx.isSome&&hi.isNone then none else some (.slc b (off+l*size) (h-l) (m-l) size true)
     |none=>none
    |none=>none
   |none=>none
  |none=>none
 |_,_=>none
def fE(size:Nat)(h:List HB):TV->Option (Nat×List TV)
 |.nil .slc=>some (0,[])
 |.slc b off len cap sz _=>if sz=size then(if len=0 then some (0,[])else match mD h b (off+cap*sz)with|some cs=>(sub cs off (len*size)).map fun l=>(len,l)|none=>none)else none
 |.str s=>if size=1 then some (s.size,s.data.toList.map fun b=>.int .u8 b.toNat)else none
 |_=>none
def dH:TV->List Key
 |.slc b _ _ _ _ _=>[.h b]
 |_=>[]
def TK(P:Program)(t:TypeId):Bool:=
 match P.underlying t with
 |some (.int _)=>true
 |_=>false
def a4x(i:TypeInfo):Bool:=
 match i.zero with
 |some z=>z.cells.size==i.size
 |none=>false
def tY(P:Program)(e:TypeId)(n:Nat):Bool:=
 match P.info? e with
 |some i=>decide (n*i.bytes<=2^40)&&decide (n<=2^40)&&decide (i.bytes<=2^20)&&decide (0<i.bytes)&&a4x i
 |none=>false
def jZ(P:Program)(at_:Array TypeId)(s:St)(d x:TV):Option (TV×St×mg):=
 match at_[0]?,at_[1]? with
 |some st,some xt=>
  if TK P xt||(P.underlying xt).isNone then none else
  match jF P st with
  |some (e,size)=>match fE size s.heap x with
   |some (n,new)=>
    if n=0 then(match d with
     |.nil .slc=>some (d,s,gY (dH x))
     |.slc _ _ _ _ sz _=>if sz=size then some (d,s,gY (dH x))else none
     |_=>none)
    else if new.length=n*size then
     match d with
     |.nil .slc=>if tY P e n then some (.slc s.heap.length 0 n n size false,{ s with heap:=s.heap++[.cells .own new] },gY (dH x))else none
     |.slc b off len cap sz ex=>
      if sz=size then
       if len+n<=cap then
        (TI s.heap b (off+len*size) (off+cap*size) new).map fun h=>(.slc b off (len+n) cap sz ex,{ s with heap:=h },⟨false,.h b::dH x,[.h b]⟩)
       else if tY P e (len+n)then
        if ex then
         (fE size s.heap (.slc b off len cap sz ex)).map fun r=>(.slc s.heap.length 0 (len+n) (len+n) size false,{ s with heap:=s.heap++[.cells .own (r.2++new)] },gY (.h b::dH x))
        else match s.heap[b]? with
         |some (.cells k cs)=>
          if k=.ro∨off≠0∨len≠cap∨cs.length≠len*size∨len=0 then none
          else some (.slc b 0 (len+n) (len+n) size false,{ s with heap:=s.heap.set b (.cells k.more (cs++new))},⟨false,.h b::dH x,[.h b]⟩)
         |_=>none
       else none
      else none
     |_=>none
    else none
   |none=>none
  |none=>none
 |_,_=>none
def isStr:TV->Bool
 |.str _=>true
 |_=>false
def Gj(P:Program)(at_:Array TypeId)(s:St)(d x:TV):Option (TV×St×mg):=
 match at_[0]? with
 |some st=>match jF P st with
  |some (_,size)=>match fE size s.heap x with
   |some (n,new)=>
    if new.length=n*size∧isStr x=false then
     match d with
     |.nil .slc=>some (.int .i64 0,s,gY (dH x))
     |.slc b off len cap sz _=>
      if sz=size then
       if min n len=0 then some (.int .i64 0,s,gY (dH x))
       else(TI s.heap b off (off+cap*size) (new.take (min n len*size))).map fun h=>(.int .i64 (min n len:Nat),{ s with heap:=h },⟨false,.h b::dH x,[.h b]⟩)
      else none
     |_=>none
    else none
   |none=>none
  |none=>none
 |none=>none
def Yx(P:Program)(at_:Array TypeId)(h:List HB)(x:TV):Option (TV×mg):=
 match at_[0]? with
 |some t=>match P.underlying t,x with
  |some .string,.str s=>some (.int .i64 s.size,cu)
  |some (.array n _),_=>some (.int .i64 n,cu)
  |some (.slice _),.slc _ _ len _ _ _=>some (.int .i64 len,cu)
  |some (.slice _),.nil .slc=>some (.int .i64 0,cu)
  |some (.map _ _),.nil .map=>some (.int .i64 0,cu)
  |some (.map _ _),.map r=>match h[r]? with
   |some (.map es)=>some (.int .i64 es.length,xq (.h r))
   |_=>none
  |_,_=>none
 |none=>none
def BA:List TV->Option (List Value)
 | []=>some []
 |c::cs=>match c.yB,BA cs with
  |some v,some vs=>some (v::vs)
  |_,_=>none
def VB(P:Program)(kt:TypeId)(k:Value)(ks:List Value)(r:Option Nat):Bool:=
 match aB P (underlying kt)with
 |some kind=>(match r with|some j=>decide (j<ks.length)|none=>true)&&((ks.zipIdx.all fun(x,i)=>Instr.sameNow kind k x==some (some i==r)) ||
   (ks.zipIdx.all fun(x,i)=>Instr.sameNow kind k x==none&&aB P (Op.equal kt k x)==some (some i==r)))
 |none=>false
def EF(P:Program)(kt:TypeId)(k:Value)(es:List (TV×TV)):Option (Option Nat):=
 match BA (es.map (·.1))with
 |some ks=>match aB P (do Instr.checkKey es.isEmpty 10000 kt k;Instr.findKey kt k (ks.map fun x=>⟨x,.bool false,0⟩))with
  |some r=>if VB P kt k ks (r.map (·.1))then some (r.map (·.1))else none
  |none=>none
 |none=>none
def JM:TV->Option NK
 |.ptr _ _ _=>some .ptr
 |.slc _ _ _ _ _ _=>some .slc
 |.map _=>some .map
 |.fn _ _ _|.kP _=>some .fn
 |_=>none
def Yy:TV->Option NK
 |.nil k=>some k
 |_=>none
def JO(P:Program)(t:TypeId):Option NK:=
 match P.underlying t with
 |some (.pointer _)=>some .ptr
 |some (.slice _)=>some .slc
 |some (.map _ _)=>some .map
 |some (.func _ _ _)=>some .fn
 |_=>none
def BU(P:Program)(t:TypeId)(x y:TV):Bool:=
 match JO P t with
 |some k=>(Yy x==some k&&JM y==some k)||(JM x==some k&&Yy y==some k)
 |none=>false
def sF(P:Program)(op:BinOp)(t:TypeId)(x y:Operand)(a b:TV):Option TV:=
 match a.yB,b.yB with
 |some u,some v=>match aB P (do eqGuard op t x y u v;binOp op t u v)with
  |some r=>TV.Vu r
  |none=>none
 |_,_=>if BU P t a b then(match op with
  |.eql=>some (.bool false)
  |.neq=>some (.bool true)
  |_=>none)else none
def unT(P:Program)(op:UnOp)(a:TV):Option TV:=
 match a.yB with
 |some u=>match aB P (Op.unary op u)with
  |some r=>TV.Vu r
  |none=>none
 |none=>none
def QC(P:Program)(src dst:TypeId)(a:TV):Option TV:=
 match a.yB with
 |some u=>match aB P (convert src dst u)with
  |some r=>TV.Vu r
  |none=>none
 |none=>none
def DN(P:Program)(mx:Bool)(at_:Array TypeId)(t:TypeId)(az:List TV):Option TV:=
 match BA az with
 |some vs=>match aB P (if mx then Builtin.max_ at_ t vs.toArray else Builtin.min_ at_ t vs.toArray)with
  |some r=>TV.Vu r
  |none=>none
 |none=>none
def N9(P:Program)(t:TypeId)(x:TV)(i:Nat):Option TV:=
 match P.underlying t,x with
 |some (.struct fs),.agg cs=>match fs[i]? with
  |some f=>uh P f.type cs f.offset
  |none=>none
 |_,_=>none
def qE(P:Program)(t:TypeId)(len:Nat)(s:St)(ps:List (Nat×TV)):Option (TV×St):=
 match jF P t with
 |some (e,n)=>if len*n<=2^24∧ps.all (fun p=>p.2.cells.all iR)=true then
   match JL P e with
   |some z=>if z.length=n then
     match rY (fun i=>some (i*n,n)) (times z len) ps with
     |some cs=>some (.slc s.heap.length 0 len len n true,{ s with heap:=s.heap++[.cells .own cs] })
     |none=>none
    else none
   |none=>none
  else none
 |none=>none
def a2f:TV->Option Nat
 |.int _ i=>if 0<=i∧i<=2^40 then some i.toNat else none
 |_=>none
def sG(P:Program)(t:TypeId)(s:St)(l c:TV):Option (TV×St):=
 match jF P t,a2f l,a2f c with
 |some (e,n),some l,some c=>
  if l<=c∧tY P e c then
   match JL P e with
   |some z=>if z.length=n then some (.slc s.heap.length 0 l c n true,{ s with heap:=s.heap++[.cells .own (times z c)] })else none
   |none=>none
  else none
 |_,_,_=>none
def gX(P:Program)(t:TypeId)(h:List HB)(m k:TV)(ok:Bool):Option TV:=
 match P.underlying t,k.yB with
 |some (.map kt e),some kv=>
  let es:=match m with
   |.nil .map=>some []
   |.map r=>match h[r]? with
    |some (.map es)=>some es
    |_=>none
   |_=>none
  match es with
  |some es=>match EF P kt kv es with
   |some (some i)=>match es[i]? with
    |some (_,v)=>some (if ok then .dI [v,.bool true]else v)
    |none=>none
   |some none=>match P.info? e with
    |some i=>match i.zero with
     |some z=>(TV.Vu z).map fun z=>if ok then .dI [z,.bool false]else z
     |none=>none
    |none=>none
   |none=>none
  |none=>none
 |_,_=>none
def xM(P:Program)(t:TypeId)(s:St)(m k v:TV):Option (St×mg):=
 match P.underlying t,k.yB,m with
 |some (.map kt _),some kv,.map r=>match s.heap[r]?,aB P (Instr.checkKey false 10000 kt kv)with
  |some (.map es),some ()=>match EF P kt kv es with
   |some (some i)=>match es[i]? with
    |some (old,_)=>match old.yB with
     |some ov=>if Instr.sameBits 10000 ov kv then some ({ s with heap:=s.heap.set r (.map (es.set i (k,v))) },pz (.h r))else none
     |none=>none
    |none=>none
   |some none=>some ({ s with heap:=s.heap.set r (.map (es++[(k,v)])) },pz (.h r))
   |none=>none
  |_,_=>none
 |_,_,_=>none
def zU(P:Program)(t:TypeId)(s:St)(m k:TV):Option (EV×St×mg):=
 match P.underlying t,k.yB,m with
 |some (.map kt e),some kv,.map r=>match s.heap[r]?,aB P (Instr.checkKey false 10000 kt kv)with
  |some (.map es),some ()=>match EF P kt kv es with
   |some (some i)=>match es[i]? with
    |some (old,v)=>match old.yB with
     |some ov=>if Instr.sameBits 10000 ov kv then some (.ent r i v,{ s with heap:=s.heap.set r (.map (es.set i (k,v))) },pz (.h r))else none
     |none=>none
    |none=>none
   |some none=>match P.info? e with
    |some i=>match i.zero with
     |some z=>match TV.Vu z with
      |some z=>some (.ent r es.length z,{ s with heap:=s.heap.set r (.map (es++[(k,z)])) },pz (.h r))
      |none=>none
     |none=>none
    |none=>none
   |none=>none
  |_,_=>none
 |_,_,_=>none
def a0d(P:Program)(t:TypeId)(h h':List HB)(m k:TV):Bool:=
 match gX P t h m k false,gX P t h' m k false with
 |some (.int a x),some (.int b y)=>decide (a=b)&&x==y
 |_,_=>false
def BX(P:Program)(t:TypeId)(s:St)(m k:TV):Option (EV×St×mg):=
 match zU P t s m k with
 |some (e,s1,i)=>if a0d P t s.heap s1.heap m k then some (e,s1,i)else none
 |none=>none
def Gl(s:St)(m:TV)(e:EV)(v:TV):Option (St×mg):=
 match m,e with
 |.map r,.Es r' j=>if r=r' then match s.heap[r]? with
  |some (.map es)=>match es[j]? with
   |some (k,_)=>some ({ s with heap:=s.heap.set r (.map (es.set j (k,v))) },pz (.h r))
   |none=>none
  |_=>none
  else none
 |_,_=>none
def yM(e:EV)(i:Nat):Option EV:=
 match e with
 |.val (.dI vs)=>(vs[i]?).map .val
 |.ent r j v=>match i with
  | 0=>some (.val v)
  | 1=>some (.Es r j)
  |_=>none
 |_=>none
abbrev aY:=TV->List TV->List HB->Option (TV×List HB×List Nat)
def qQ(P:Program)(b:Builtin)(at_:Array TypeId)(t:TypeId)(s:St)(az:List TV):Option (TV×St×mg):=
 match b,az with
 |.len,[x]=>(Yx P at_ s.heap x).map fun(v,i)=>(v,s,i)
 |.append,[d,x]=>jZ P at_ s d x
 |.copy,[d,x]=>Gj P at_ s d x
 |.min,az=>(DN P false at_ t az).map fun v=>(v,s,cu)
 |.max,az=>(DN P true at_ t az).map fun v=>(v,s,cu)
 |_,_=>none
def VD(env:List (Nat×EV)):Option Operand->Option (Option TV)
 |none=>some none
 |some x=>match qM env x with
  |some v=>some (some v)
  |none=>none
def Na(P:Program)(call:aY)(s:St)(c:Call)(t:TypeId):Option (EV×St×mg):=
 match c.callee,TG s.env c.args.toList with
 |.builtin b,some az=>(qQ P b c.argTypes t s az).map fun(v,s,i)=>(.val v,s,i)
 |.value f,some az=>match qM s.env f with
  |some fv=>match call fv az s.heap with
   |some (v,h,ws)=>some (.val v,{ s with heap:=h },⟨true,[],ws.map .h⟩)
   |none=>none
  |none=>none
 |_,_=>none
def pF(P:Program)(call:aY)(site:Nat->Bool)(s:St)(o:Oper):Option (EV×St×mg):=
 match o.op with
 |.move x|.assign x=>(Ir s.env x).map fun v=>(v,s,cu)
 |.pick c a b=>match qM s.env c with
  |some (.bool t)=>(Ir s.env (if t then a else b)).map fun v=>(v,s,cu)
  |_=>none
 |.alloc e=>(JL P e).map fun z=>let (v,s):=qN (site (o.dst.getD 0)) s z;(v,s,cu)
 |.box _ x=>match qM s.env x with
  |some v=>if v.cells.all iR then let (v,s):=qN (site (o.dst.getD 0)) s v.cells;some (v,s,cu)else none
  |none=>none
 |.build t ps=>match VA s.env ps.toList with
  |some ps=>(N8 P t ps).map fun v=>(.val v,s,cu)
  |none=>none
 |.buildSlice t len ps=>match VA s.env ps.toList with
  |some ps=>(qE P t len s ps).map fun(v,s)=>(.val v,s,cu)
  |none=>none
 |.load t a=>match Ir s.env a with
  |some a=>(loadT P t s a).map fun(v,i)=>(.val v,s,i)
  |none=>none
 |.store t a x=>match Ir s.env a,qM s.env x with
  |some a,some v=>(storeT P t s a v).map fun(s,i)=>(.undef,s,i)
  |_,_=>none
 |.nilCheck x=>match Ir s.env x with
  |some (.loc k o)=>some (.loc k o,s,cu)
  |some (.val (.ptr b o lim))=>some (.val (.ptr b o lim),s,cu)
  |some (.val (.fn f a b))=>some (.val (.fn f a b),s,cu)
  |some (.val (.kP l))=>some (.val (.kP l),s,cu)
  |_=>none
 |.binOp op t x y _=>match qM s.env x,qM s.env y with
  |some a,some b=>(sF P op t x y a b).map fun v=>(.val v,s,cu)
  |_,_=>none
 |.unOp op _ x=>match qM s.env x with
  |some a=>(unT P op a).map fun v=>(.val v,s,cu)
  |none=>none
 |.convert src dst x=>match qM s.env x with
  |some a=>(QC P src dst a).map fun v=>(.val v,s,cu)
  |none=>none
 |.makeFunc (.func f) first cap=>match TG s.env first.toList,TG s.env cap.toList with
  |some a,some b=>some (.val (.fn f a b),s,cu)
  |_,_=>none
 |.makeMap t r=>match VD s.env r,P.underlying t with
  |some none,_=>some (.val (.map s.heap.length),{ s with heap:=s.heap++[.map []] },cu)
  |some (some (.int _ _)),some (.map _ _)=>some (.val (.map s.heap.length),{ s with heap:=s.heap++[.map []] },cu)
  |_,_=>none
 |.makeSlice t l c=>match qM s.env l,qM s.env c with
  |some l,some c=>(sG P t s l c).map fun(v,s)=>(.val v,s,cu)
  |_,_=>none
 |.slice t x lo hi mx=>match Ir s.env x,VD s.env lo,VD s.env hi,VD s.env mx with
  |some x,some lo,some hi,some mx=>match P.underlying t,x with
   |some (.array _ _),x=>(qC P t x lo hi mx).map fun v=>(.val v,s,cu)
   |_,.val x=>(qP P t x lo hi mx).map fun v=>(.val v,s,cu)
   |_,_=>none
  |_,_,_,_=>none
 |.fieldAddr t x f=>match Ir s.env x,Gi P t f with
  |some a,some n=>(Qc n a).map fun v=>(v,s,cu)
  |_,_=>none
 |.field t x f=>match qM s.env x with
  |some a=>(N9 P t a f).map fun v=>(.val v,s,cu)
  |none=>none
 |.indexAddr t x i=>match Ir s.env x,qM s.env i with
  |some a,some i=>(mF P t a i).map fun v=>(v,s,cu)
  |_,_=>none
 |.index t x i=>match qM s.env x,qM s.env i with
  |some a,some i=>(Iz P t a i).map fun v=>(.val v,s,cu)
  |_,_=>none
 |.lookup t m k ok=>match qM s.env m,qM s.env k with
  |some m,some k=>(gX P t s.heap m k ok).map fun v=>(.val v,s,gY (match m with|.map r=>[.h r] |_=>[]))
  |_,_=>none
 |.mapUpdate t m k x|.insert t m k x=>match qM s.env m,qM s.env k,qM s.env x with
  |some m,some k,some v=>(xM P t s m k v).map fun(s,i)=>(.undef,s,i)
  |_,_,_=>none
 |.mapEntry t m k=>match qM s.env m,qM s.env k with
  |some m,some k=>BX P t s m k
  |_,_=>none
 |.entryStore _ m e x=>match qM s.env m,Ir s.env e,qM s.env x with
  |some m,some e,some v=>(Gl s m e v).map fun(s,i)=>(.undef,s,i)
  |_,_,_=>none
 |.extract t i=>match Ir s.env t with
  |some e=>(yM e i).map fun v=>(v,s,cu)
  |none=>none
 |.call c=>Na P call s c o.type
 |.range t x=>match qM s.env x,P.underlying t with
  |some (.map r),some (.map _ _)=>match s.heap[r]? with
   |some (.map es)=>some (.val (.iter s.heap.length),{ s with heap:=s.heap++[.cZ r es.length []] },xq (.h r))
   |_=>none
  |_,_=>none
 |.entry x=>match qM s.env x with
  |some (.iter b)=>match s.heap[b]? with
   |some (.cZ r n (i::_))=>match s.heap[r]? with
    |some (.map es)=>if es.length=n then(es[i]?).map fun e=>(.val (.dI [e.1,e.2]),s,gY [.h b,.h r])else none
    |_=>none
   |_=>none
  |_=>none
 |_=>none
def BZ(ops:Array Oper)(env:List (Nat×EV))(o:Oper):Option Bool:=
 match o.guard with
 |none=>some true
 |some (j,want)=>match(ops[j]?).bind (·.dst)with
  |some d=>match dM d env with
   |some (.val (.bool b))=>some (b==want)
   |some .undef=>some false
   |_=>none
  |none=>none
def Nb(nt:Nat)(o:Oper):Bool:=
 match o.dst with
 |some d=>decide (d<nt)
 |none=>true
def l7(P:Program)(call:aY)(site:Nat->Bool)(fl nt:Nat)(ops:Array Oper):List Oper->St->Option (St×List mg)
 | [],s=>some (s,[])
 |o::os,s=>if !Nb nt o then none else match BZ ops s.env o with
  |some true=>match pF P call site s o with
   |some (v,s1,i)=>match l7 P call site fl nt ops os ({ s1 with ws:=jU fl i.ws s.ws }.put o.dst v)with
    |some (s,is)=>some (s,i::is)
    |none=>none
   |none=>none
  |some false=>match l7 P call site fl nt ops os (s.put o.dst .undef)with
   |some (s,is)=>some (s,cu::is)
   |none=>none
  |none=>none
def Nc:List Nat->List Nat->List Nat
 | [],l=>l
 |x::xs,l=>Nc xs (if l.contains x then l else x::l)
def F8(acc:List (List Nat))(o:Oper):List Nat:=
 o.after.toList.foldl (fun l e=>if Region.binds .any e then Nc (e.on::acc.getD e.on []) l else l) []
def EG:List Oper->List (List Nat)->List (List Nat)
 | [],acc=>acc
 |o::os,acc=>EG os (acc++[F8 acc o])
def IB:Op->Bool
 |.store .. |.mapUpdate .. |.insert .. |.mapEntry .. |.entryStore ..=>true
 |.call { callee:=.builtin b,.. }=>match b with
  |.len|.min|.max=>false
  |_=>true
 |.call _=>true
 |_=>false
def Nh:Op->Bool
 |.store .. |.mapUpdate .. |.insert .. |.mapEntry .. |.entryStore .. |.load .. |.lookup .. |.range .. |.entry ..=>true
 |.call { callee:=.builtin b,.. }=>match b with
  |.min|.max=>false
  |_=>true
 |.call _=>true
 |_=>false
def oz(ops:List Oper):List (Nat×Nat):=
 let pr:=EG ops []
 (List.range ops.length).flatMap fun j=>((List.range j).filter fun i=>!(pr.getD j []).contains i).map fun i=>(i,j)
def nK(ops:List Oper):Bool:=
 (ops.zipIdx.all fun(o,i)=>o.after.all fun e=>!Region.binds .any e||decide (e.on<i)) &&
 (oz ops).all fun(i,j)=>match ops[i]?,ops[j]? with
  |some a,some b=>a.apart ops.toArray b&&b.apart ops.toArray a
  |_,_=>false
def Bd(a b:Oper):Bool:=match a.op,b.op,a.guard,b.guard with
 |.lookup t (.tmp m) (.tmp k) false,.mapEntry t' (.tmp m') (.tmp k'),none,none=>t==t'&&m==m'&&k==k'
 |_,_,_,_=>false
def mW(ops:List Oper):List (Nat×Nat):=
 (oz ops).filter fun(i,j)=>match ops[i]?,ops[j]? with
  |some a,some b=>((IB a.op&&Nh b.op)||(Nh a.op&&IB b.op))&&!Bd a b
  |_,_=>false
def Key.isH:Key->Bool
 |.h _=>true
 |.l _=>false
def Nj(ws:List Key)(b:mg):Bool:=
 ws.all fun k=>!(b.all&&k.isH)&&!b.ts.contains k&&!b.ws.contains k
def calm(a b:mg):Bool:=Nj a.ws b&&Nj b.ws a
def Bf(xC:List mg):List (Nat×Nat)->Bool
 | []=>true
 |(i,j)::r=>(match xC[i]?,xC[j]? with
  |some a,some b=>calm a b
  |_,_=>false)&&Bf xC r
inductive Ex where
 |norm|exit (id:Nat)|ret
structure FnT where
 nt:Nat
 body:Code
 results:List ResultVar
def TL(P:Program)(f:Nat):Option FnT:=
 match P.funcs[f]? with
 | some fn => if fn.name == "runtime.NumGoroutine" then none else match fn.body with
  |some b=>some ⟨fn.ntmps,b,fn.results.toList⟩
  |none=>none
 |none=>none
structure qJ where
 live:List (Nat×List (Nat×List Nat))
 head:List (Nat×List (Nat×List Nat))
 site:List (Nat×List Nat)
 exts:List Nat:=[]
 ext:TV->List TV->List HB->Option (TV×List HB×List Nat):=fun _ _ _=>none
 dem:List Nat:=[]
 din:List Nat:=[]
 a8Y:List Nat:=[]
def QD{α:Type}(k:Nat):List (Nat×List α)->List α
 | []=>[]
 |(j,l)::r=>if j=k then l else QD k r
def qJ.iy(T:qJ)(f id:Nat):List Nat:=QD id (QD f T.live)
def qJ.eH(T:qJ)(f id:Nat):List Nat:=QD id (QD f T.head)
def qJ.TM(T:qJ)(f d:Nat):Bool:=(QD f T.site).contains d
def C9:List (Nat×EV)->Nat
 | []=>0
 |(_,.loc k _)::r=>max (k+1) (C9 r)
 |_::r=>C9 r
def jW(live:List Nat)(s:St):St:=
 let env:=pick live s.env
 { s with env:=env,loc:=s.loc.take (C9 env) }
def dV:Code->Nat
 |.region id _ _=>id
 |.seq a _=>dV a
 |.block _ b=>dV b
 |.loop b=>dV b
 |.scope b=>dV b
 |_=>0
def iter(g:St->Option (Ex×St)):Nat->St->Option (Ex×St)
 | 0,_=>none
 |n+1,s=>match g s with
  |some (.norm,s)=>iter g n s
  |r=>r
def isVal:Nat×EV->Bool
 |(_,.loc _ _)|(_,.ent _ _ _)|(_,.Es _ _)=>false
 |_=>true
def QE:Bool->Option Code->Option Ex
 |true,none=>some .norm
 |false,some .ret=>some .ret
 |false,some (.exit id)=>some (.exit id)
 |_,_=>none
def exec(P:Program)(T:qJ)(call:aY)(L:Nat)(f:Nat)(gW:Bool)(fl nt:Nat):Code->St->Option (Ex×St)
 |.skip,s=>some (.norm,s)
 |.label _,s=>some (.norm,s)
 |.region id ops draw,s=>match l7 P call (fun d=>gW||T.TM f d) fl nt ops ops.toList s with
  |some (s,xC)=>if !draw||(nK ops.toList&&Bf xC (mW ops.toList))then some (.norm,{ s with env:=pick (T.iy f id) s.env })else none
  |none=>none
 |.seq a b,s=>match exec P T call L f gW fl nt a s with
  |some (.norm,s)=>exec P T call L f gW fl nt b s
  |r=>r
 |.cond c a b,s=>match qM s.env c with
  |some (.bool true)=>exec P T call L f gW fl nt a s
  |some (.bool false)=>exec P T call L f gW fl nt b s
  |_=>none
 |.block id b,s=>match exec P T call L f gW fl nt b s with
  |some (.exit i,s)=>some (if i=id then .norm else .exit i,s)
  |r=>r
 |.scope b,s=>exec P T call L f gW fl nt b s
 |.loop b,s=>iter (fun s=>exec P T call L f gW fl nt b (jW (T.eH f (dV b)) s)) L s
 |.exit id,s=>some (.exit id,s)
 |.ret,s=>some (.ret,s)
 |.rangeFunc g ps assign body,s=>match qM s.env g with
  |some (.fn f1 a1 b1)=>
   if s.env.all isVal&&!gW then
    match call (.fn f1 a1 b1) [.kP (s.heap.length+1)] (s.heap++[.mark,.loop true f nt s.env ps.toList assign body none])with
    |some (_,h,ws)=>match h[s.heap.length+1]? with
     |some (.loop rd f2 Qd e2 Cb a2 b2 jH)=>match QE rd jH with
      |some e=>some (e,{ s with heap:=h.set (s.heap.length+1) (.loop false f2 Qd e2 Cb a2 b2 (some .skip)),ws:=jU fl (ws.map .h) s.ws })
      |none=>none
     |_=>none
    |none=>none
   else none
  |_=>none
 |_,_=>none
def a4y(P:Program)(s:St):ResultVar->Option TV
 |.tmp t=>match dM t s.env with
  |some (.val v)=>some v
  |_=>none
 |.cell a t=>match dM a s.env with
  |some a=>(loadT P t s a).map (·.1)
  |none=>none
def xO(P:Program)(s:St):List ResultVar->Option (List TV)
 | []=>some []
 |r::rs=>match a4y P s r,xO P s rs with
  |some v,some vs=>some (v::vs)
  |_,_=>none
def one:List TV->TV
 | [v]=>v
 |vs=>.dI vs
def nM:Nat->List TV->List (Nat×EV)
 |_,[]=>[]
 |k,v::vs=>(k,.val v)::nM (k+1) vs
def sJ(env:List (Nat×EV)):List Nat->List TV->List (Nat×EV)
 |p::ps,v::vs=>sJ ((p,.val v)::env) ps vs
 |_,_=>env
def amI(P:Program)(T:qJ)(call:aY)(L:Nat)(f:Nat)(args:List TV)(h:List HB):Option (TV×List HB×List Nat):=
 match TL P f with
 |some t=>match exec P T call L f false h.length t.nt t.body ⟨nM 0 args,[],h,[]⟩with
  |some (.norm,s)|some (.ret,s)=>match xO P s t.results with
   |some vs=>if s.ws.isEmpty&&(one vs).flat then some (one vs,h,[])else some (one vs,s.heap,s.ws)
   |none=>none
  |_=>none
 |none=>none
def sK:Ex->Option Code
 |.norm=>none
 |.ret=>some .ret
 |.exit id=>some (.exit id)
def pG:Ex->Bool
 |.norm=>true
 |_=>false
def Nk(P:Program)(T:qJ)(call:aY)(L:Nat)(l:Nat)(args:List TV)(h:List HB):Option (TV×List HB×List Nat):=
 match h[l]? with
 |some (.loop true f nt env ps assign body _)=>
  if args.length=ps.length∧ps.all (fun p=>decide (p<nt))then
   match exec P T call L f true h.length nt assign ⟨sJ env ps args,[],h,[]⟩with
   |some (.norm,s)=>match s.heap[l]? with
    |some (.loop true f' nt' env' ps' a' b' _)=>
     match exec P T call L f true h.length nt body { s with heap:=s.heap.set l (.loop false f' nt' env' ps' a' b' none),ws:=Et h.length l s.ws }with
     |some (e,s)=>match s.heap[l]? with
      |some (.loop false f' nt' env' ps' a' b' none)=>some (.bool (pG e),s.heap.set l (.loop (pG e) f' nt' env' ps' a' b' (sK e)),Et h.length l s.ws)
      |_=>none
     |none=>none
    |_=>none
   |_=>none
  else none
 |_=>none
def ap(P:Program)(T:qJ)(L:Nat):Nat->aY
 | 0,_,_,_=>none
 |n+1,.fn f first cap,args,h=>amI P T (ap P T L n) L f (first++args++cap) h
 |n+1,.kP l,args,h=>Nk P T (ap P T L n) L l args h
 |_,_,_,_=>none
def run(P:Program)(T:qJ)(L n f:Nat)(args:List TV)(h:List HB):Option (TV×List HB×List Nat):=ap P T L n (.fn f [] []) args h
structure Pl where
 c:Nat
 base:Nat
 ext:Nat
 tot:Nat
inductive Lc where
 |cells (ls:List Pl)
 |obj (r:Nat) (o:List Nat)
abbrev Mp:=Key->Option Lc
abbrev Np:=Nat->Option Lc
def Mp.h(M:Mp):Np:=fun b=>M (.h b)
inductive VR(M:Np):TV->Value->Prop
 |bool (b:Bool):VR M (.bool b) (.bool b)
 |int (k:IntKind) (n:Int):VR M (.int k n) (.int k n)
 |str (s:ByteArray):VR M (.str s) (.string s)
 |a2g:VR M (.nil .ptr) (.pointer none)
 |TN:VR M (.nil .slc) (.slice none 0 0)
 |Yz:VR M (.nil .map) (.map none)
 |nfn:VR M (.nil .fn) .nilFunc
 |a2h:VR M (.nil .ifc) .nilIface
 |ptr {b off lim:Nat} {ls:List Pl} {p:Pl} (hb:M b=some (.cells ls)) (hp:p∈ls) (h:lim<=p.ext) (ht:p.base+lim<=p.tot) :
   VR M (.ptr b off lim) (.pointer (some ⟨p.c,p.base+off,none⟩))
 |slc {b off len cap sz:Nat} {ex:Bool} {ls:List Pl} {p:Pl} {a:Addr} {cap':Nat} (hb:M b=some (.cells ls)) (hp:cap'=0∨p∈ls)
   (h:off+cap*sz<=p.ext) (hl:len<=cap) (hc:cap<=cap') (hx:ex=true->cap'=cap)
   (ha:cap'=0∨(a=⟨p.c,p.base+off,none⟩∧p.base+off+cap'*sz<=p.tot)) (hk:cap'<2^63) :
   VR M (.slc b off len cap sz ex) (.slice (some a) len cap')
 |map {r r':Nat} {o:List Nat} (h:M r=some (.obj r' o)):VR M (.map r) (.map (some r'))
 |kP {l l':Nat} {o:List Nat} (h:M l=some (.obj l' o)):VR M (.kP l) (.func (.yield l') #[] #[])
 |iter {l l':Nat} {o:List Nat} (h:M l=some (.obj l' o)):VR M (.iter l) (.pointer (some ⟨l',0,none⟩))
 |fn {f:FuncId} {az bs:List TV} {xs ys:List Value} (h1:az.length=xs.length) (h2:∀(i:Nat) (c:TV) (v:Value),az[i]? = some c->xs[i]? = some v->VR M c v)
   (h3:bs.length=ys.length) (h4:∀(i:Nat) (c:TV) (v:Value),bs[i]? = some c->ys[i]? = some v->VR M c v):VR M (.fn f az bs) (.func (.func f) xs.toArray ys.toArray)
 |agg {az:List TV} {xs:List Value} (h1:az.length=xs.length) (h2:∀(i:Nat) (c:TV) (v:Value),az[i]? = some c->xs[i]? = some v->VR M c v):VR M (.agg az) (.agg xs.toArray)
 |dI {az:List TV} {xs:List Value} (h1:az.length=xs.length) (h2:∀(i:Nat) (c:TV) (v:Value),az[i]? = some c->xs[i]? = some v->VR M c v):VR M (.dI az) (.tuple xs.toArray)
structure bU(M:Np)(az:List TV)(xs:List Value):Prop where
 len:az.length=xs.length
 at_:∀(i:Nat) (c:TV) (v:Value),az[i]? = some c->xs[i]? = some v->VR M c v
theorem VR.agg'{M:Np}{az:List TV}{xs:List Value}(h:bU M az xs):VR M (.agg az) (.agg xs.toArray):=.agg h.len h.at_
theorem VR.Qe{M:Np}{az:List TV}{xs:List Value}(h:bU M az xs):VR M (.dI az) (.tuple xs.toArray):=.dI h.len h.at_
theorem bU.nil{M:Np}:bU M [] []:=⟨rfl,fun i c v h=>by simp at h⟩
theorem bU.cons{M:Np}{c:TV}{v:Value}{az:List TV}{xs:List Value}(h:VR M c v)(hs:bU M az xs):bU M (c::az) (v::xs):=
 ⟨by simp[hs.len],fun i c' v' h1 h2=>by
  cases i with
  |zero=>simp at h1 h2;subst h1;subst h2;exact h
  |succ i=>simp at h1 h2;exact hs.at_ i _ _ h1 h2⟩
theorem bU.qc{M:Np}{xs:List Value}(h:bU M [] xs):xs=[]:=by
 have:=h.len;simp at this;exact a4g this.symm
theorem bU.iK{M:Np}{c:TV}{az:List TV}{xs:List Value}(h:bU M (c::az) xs):∃v vs,xs=v::vs∧VR M c v∧bU M az vs:=by
 cases xs with
 |nil=>have:=h.len;simp at this
 |cons v vs=>exact⟨v,vs,rfl,h.at_ 0 c v rfl rfl,⟨by have:=h.len;simpa using this,fun i c' v' h1 h2=>h.at_ (i+1) c' v' (by simpa using h1) (by simpa using h2)⟩⟩
theorem bU.append{M:Np}{az bs:List TV}{xs ys:List Value}(h:bU M az xs)(h':bU M bs ys):bU M (az++bs) (xs++ys):=by
 induction az generalizing xs with
 |nil=>have:=h.qc;subst this;simpa using h'
 |cons c az ih=>
  obtain⟨v,vs,rfl,hv,hvs⟩:=h.iK;exact .cons hv (ih hvs)
theorem bU.take{M:Np}{az:List TV}{xs:List Value}(h:bU M az xs)(n:Nat):bU M (az.take n) (xs.take n):=
 ⟨by simp[h.len],fun i c v h1 h2=>by
  rw[a4p]at h1 h2;split at h1
  .rename_i hi;rw[a0p hi]at h2;exact h.at_ i c v h1 h2
  .simp at h1⟩
theorem bU.drop{M:Np}{az:List TV}{xs:List Value}(h:bU M az xs)(n:Nat):bU M (az.drop n) (xs.drop n):=
 ⟨by simp[h.len],fun i c v h1 h2=>by
  rw[a4m]at h1 h2;exact h.at_ _ c v h1 h2⟩
theorem bU.get{M:Np}{az:List TV}{xs:List Value}(h:bU M az xs){i:Nat}{c:TV}(hc:az[i]? = some c):∃v,xs[i]? = some v∧VR M c v:=by
 have hi:i<az.length:=(a0c.1 hc).1;have xE:i<xs.length:=by rw[<-h.len];exact hi
 exact⟨xs[i],by simp[xE],h.at_ i c _ hc (by simp[xE])⟩
def KT:Lc->Lc->Prop
 |.cells ls,.cells xP=>∀p∈ls,∃q∈xP,q.c=p.c∧q.base=p.base∧p.ext<=q.ext∧q.tot=p.tot
 |.obj r o,.obj r' o'=>r=r'∧o <+: o'
 |_,_=>False
def rZ{α:Type}(M M':α->Option Lc):Prop:=∀k l,M k=some l->∃l',M' k=some l'∧KT l l'
theorem KT.refl(l:Lc):KT l l:=by
 cases l with
 |cells ls=>exact fun p hp=>⟨p,hp,rfl,rfl,a1b _,rfl⟩
 |obj r o=>exact⟨rfl,agB o⟩
theorem KT.trans{a b c:Lc}(h:KT a b)(h':KT b c):KT a c:=by
 cases a<;>cases b<;>cases c<;>simp only[KT]at *
 .intro p hp;obtain⟨q,hq,h1,h2,h3,h4⟩:=h p hp;obtain⟨r,hr,g1,g2,g3,g4⟩:=h' q hq;exact⟨r,hr,g1.trans h1,g2.trans h2,a4U h3 g3,g4.trans h4⟩
 exact⟨h.1.trans h'.1,h.2.trans h'.2⟩
theorem rZ.refl{α:Type}(M:α->Option Lc):rZ M M:=fun _ l h=>⟨l,h,.refl l⟩
theorem rZ.trans{α:Type}{a b c:α->Option Lc}(h:rZ a b)(h':rZ b c):rZ a c:=fun k l hl=>
 let ⟨l',h1,h2⟩:=h k l hl
 let ⟨l'',g1,g2⟩:=h' k l' h1
 ⟨l'',g1,h2.trans g2⟩
theorem rZ.h{M M':Mp}(hm:rZ M M'):rZ M.h M'.h:=fun b l hl=>hm (.h b) l hl
theorem VR.mono{M M':Np}(hm:rZ M M'){v:TV}{x:Value}(h:VR M v x):VR M' v x:=by
 induction h with
 |bool b=>exact .bool b
 |int k n=>exact .int k n
 |str s=>exact .str s
 |a2g=>exact .a2g
 |TN=>exact .TN
 |Yz=>exact .Yz
 |nfn=>exact .nfn
 |a2h=>exact .a2h
 |ptr hb hp h ht=>
  obtain⟨l',h1,h2⟩:=hm _ _ hb;cases l' with
  |obj r _=>exact h2.elim
  |cells xP=>
   obtain⟨q,hq,e1,e2,e3,e4⟩:=h2 _ hp;rw[<-e1,<-e2];exact .ptr h1 hq (a4U h e3) (by rw[e2,e4];exact ht)
 |slc hb hp h hl hc hx ha hk=>
  obtain⟨l',h1,h2⟩:=hm _ _ hb;cases l' with
  |obj r _=>exact h2.elim
  |cells xP=>
   rcases hp with hp|hp
   .exact .slc h1 (.inl hp) h hl hc hx (.inl hp) hk
   obtain⟨q,hq,e1,e2,e3,e4⟩:=h2 _ hp;exact .slc h1 (.inr hq) (a4U h e3) hl hc hx (by rw[e1,e2,e4];exact ha) hk
 |map h=>
  obtain⟨l',h1,h2⟩:=hm _ _ h;cases l' with
  |obj r _=>cases h2.1;exact .map h1
  |cells xP=>exact h2.elim
 |kP h=>
  obtain⟨l',h1,h2⟩:=hm _ _ h;cases l' with
  |obj r _=>cases h2.1;exact .kP h1
  |cells xP=>exact h2.elim
 |iter h=>
  obtain⟨l',h1,h2⟩:=hm _ _ h;cases l' with
  |obj r _=>cases h2.1;exact .iter h1
  |cells xP=>exact h2.elim
 |fn h1 _ h3 _ ih2 ih4=>exact .fn h1 ih2 h3 ih4
 |agg h1 _ ih=>exact .agg h1 ih
 |dI h1 _ ih=>exact .dI h1 ih
theorem bU.mono{M M':Np}(hm:rZ M M'){az:List TV}{xs:List Value}(h:bU M az xs):bU M' az xs:=
 ⟨h.len,fun i c v h1 h2=>(h.at_ i c v h1 h2).mono hm⟩
theorem a4B{M:Np}{v:TV}{x y:Value}(h:v.toC=some x)(hy:VR M v y):y=x:=by
 cases hy<;>simp[TV.toC]at h<;>first|exact h|exact h.symm|skip
theorem a0g{M:Np}:∀{az:List TV} {xs ys:List Value},TV.TF az=some xs->bU M az ys->ys=xs
 | [],xs,ys,h,hy=>by simp[TV.TF]at h;subst h;exact hy.qc
 |c::az,xs,ys,h,hy=>by
  simp only[TV.TF]at h;split at h
  .rename_i v vs h1 h2;simp at h;subst h;obtain⟨w,ws,rfl,hw,YA⟩:=hy.iK;rw[a4B h1 hw,a0g h2 YA]
  simp at h
theorem wu{M:Np}{v:TV}{x y:Value}(h:v.yB=some x)(hy:VR M v y):y=x:=by
 unfold TV.yB at h;split at h
 .simp only[a0e]at h;obtain⟨vs,h1,rfl⟩:=h;cases hy with
  |agg g1 g2=>rw[a0g h1 ⟨g1,g2⟩]
 exact a4B h hy
theorem VR.a4C{M:Np}{v:TV}{x:Value}(h:TV.ofC x=some v):VR M v x:=by
 unfold TV.ofC at h;split at h<;>simp at h<;>subst h<;>constructor
theorem bU.a0h{M:Np}:∀{xs:List Value} {az:List TV},TV.BP xs=some az->bU M az xs
 | [],az,h=>by simp[TV.BP]at h;subst h;exact .nil
 |x::xs,az,h=>by
  simp only[TV.BP]at h;split at h
  .rename_i v vs h1 h2;simp at h;subst h;exact .cons (.a4C h1) (bU.a0h h2)
  simp at h
theorem VR.yC{M:Np}{v:TV}{x:Value}(h:TV.Vu x=some v):VR M v x:=by
 unfold TV.Vu at h;split at h
 .rename_i cs;simp only[a0e]at h;obtain⟨vs,h1,rfl⟩:=h;have:=VR.agg' (bU.a0h (M:=M) h1);simpa using this
 exact .a4C h
theorem VR.cells{M:Np}{v:TV}{x:Value}(h:VR M v x):bU M v.cells x.cells.toList:=by
 cases h with
 |agg h1 h2=>exact⟨by simpa[TV.cells,Value.cells]using h1,by simpa[TV.cells,Value.cells]using h2⟩
 |_=>exact .cons (by first|assumption|constructor<;>assumption) .nil
theorem iY{α:Type}{P:Program}:∀{s:Sem α} {a:α},aB P s=some a->∀w,s.run P w=.ok a w
 |.pure b,a,h,w=>by simp[aB]at h;simp[Sem.run,h]
 |.program k,a,h,w=>by simp only[aB]at h;simp only[Sem.run];exact iY h w
 |.mark _ k,a,h,w=>by simp only[aB]at h;simp only[Sem.run];exact iY h w
 |.load ..,a,h,w=>by simp[aB]at h
 |.store ..,a,h,w=>by simp[aB]at h
 |.new ..,a,h,w=>by simp[aB]at h
 |.shape ..,a,h,w=>by simp[aB]at h
 |.freeze ..,a,h,w=>by simp[aB]at h
 |.frozen ..,a,h,w=>by simp[aB]at h
 |.getObj ..,a,h,w=>by simp[aB]at h
 |.setObj ..,a,h,w=>by simp[aB]at h
 |.choose ..,a,h,w=>by simp[aB]at h
 |.sys ..,a,h,w=>by simp[aB]at h
 |.halt ..,a,h,w=>by simp[aB]at h
def wr:HB->Bool
 |.cells .ro _=>false
 |.mark=>false
 |_=>true
def aI:Lc->List Nat
 |.cells ls=>ls.map (·.c)
 |.obj r _=>[r]
structure Nl(N:Np)(w:World)(k:BK)(cs:List TV)(p:Pl):Prop where
 row:∃(arr:Array Value) (ty:TypeId) (fz:Nat×Nat),w.heap[p.c]? = some (.cells arr ty fz)∧arr.size=p.tot∧(k≠.ro->fz=(0,0)) ∧
  ((k=.last->p.ext=cs.length)->∀(i:Nat) (c:TV) (v:Value),i<p.ext->cs[i]? = some c->arr[p.base+i]? = some v->VR N c v)
 fit:p.base+p.ext<=p.tot
 ext:p.ext<=cs.length
 base:k≠.ro->p.base=0
inductive ER(M:Mp):EV->Value->Prop
 |val {v:TV} {x:Value} (h:VR M.h v x):ER M (.val v) x
 |loc {k off:Nat} {p:Pl} (h:M (.l k)=some (.cells [p])) (hb:p.base=0):ER M (.loc k off) (.pointer (some ⟨p.c,off,none⟩))
 |undef:ER M .undef Go.undef
 |ent {r j:Nat} {v:TV} {r1 i:Nat} {o:List Nat} {x:Value} (h:M (.h r)=some (.obj r1 o)) (hi:o[i]? = some j) (hv:VR M.h v x):ER M (.ent r j v) (.tuple #[x,Go.goInt i])
 |Es {r j r1 i:Nat} {o:List Nat} (h:M (.h r)=some (.obj r1 o)) (hi:o[i]? = some j):ER M (.Es r j) (Go.goInt i)
theorem ER.vG{M:Mp}{v:TV}{x:Value}(h:ER M (.val v) x):VR M.h v x:=by cases h;assumption
def jR(M:Mp)(env:List (Nat×EV))(tmps:Array Value):Prop:=∀t e,dM t env=some e->ER M e (tmps.getD t Go.undef)
structure a8Z(N:Np)(rd:Bool)(f nt:Nat)(env:List (Nat×EV))(ps:List Nat)(a b:Code)(jH:Option Code)(lp:Loop):Prop where
 ps:lp.params.toList=ps
 uJ:lp.assign=a
 body:lp.body=b
 size:nt<=lp.tmps.size
 KU:∀t v,dM t env=some (.val v)->VR N v (lp.tmps.getD t Go.undef)
 TP:∀t,dM t env=some .undef->lp.tmps.getD t Go.undef=Go.undef
 nol:∀t e,dM t env=some e->isVal (t,e)=true
 ready:rd=true->lp.state=.ready∧lp.pending=none
 busy:rd=false->jH=none->lp.state=.busy
 done:rd=false->∀j,jH=some j->j≠.skip->lp.state=.done∧lp.pending=some j
structure wz(N:Np)(o:List Nat)(es:List (TV×TV))(xs:Array MapEntry):Prop where
 len:es.length=xs.size
 ord:o.length=xs.size
 nod:o.Nodup
 sur:∀j,j<es.length->j∈o
 at_:∀(i:Nat) (x:MapEntry),xs[i]? = some x->x.born=i∧∃j e,o[i]? = some j∧es[j]? = some e∧VR N e.1 x.key∧VR N e.2 x.val
def ah8(N:Np)(w:World)(es:List (TV×TV))(r:Nat)(o:List Nat):Prop:=
 ∃xs:Array MapEntry,w.heap[r]? = some (.map xs xs.size)∧wz N o es xs
theorem wz.mono{N N':Np}{o:List Nat}{es:List (TV×TV)}{xs:Array MapEntry}(hm:rZ N N')(h:wz N o es xs):wz N' o es xs:=
 ⟨h.len,h.ord,h.nod,h.sur,fun i x hx=>let ⟨b,j,e,h1,h2,h3,h4⟩:=h.at_ i x hx;⟨b,j,e,h1,h2,h3.mono hm,h4.mono hm⟩⟩
def mG(N:Np)(w:World)(k:BK)(cs:List TV)(ls:List Pl):Prop:=
 (∀c∈cs,iR c=true)∧(∀p∈ls,Nl N w k cs p)∧(k=.own->∃p,ls=[p]∧p.ext=cs.length) ∧
   ((k=.grow∨k=.last)->(ls.map (·.c)).Nodup∧∀p∈ls,∀q∈ls,p.ext=cs.length->q.ext=cs.length->p=q)
def pK(N:Np)(w:World):HB->Lc->Prop
 |.cells k cs,.cells ls=>mG N w k cs ls
 |.ng cs,.cells ls=>∃cs',cs'.Perm cs∧mG N w .last cs' ls
 |.map es,.obj r o=>ah8 N w es r o
 |.mark,.obj r _=>r<w.heap.size
 |.cZ m n seen,.obj r _=>∃(b:Nat) (o:List Nat) (sa:Array Nat),N m=some (.obj b o)∧w.heap[r]? = some (.mapIter (some b) n sa n)∧n<=o.length∧sa.toList.map (fun i=>o[i]?)=seen.reverse.map some
 |.loop rd f nt env ps a b jH,.obj r _=>∃lp,w.heap[r]? = some (.loop lp)∧a8Z N rd f nt env ps a b jH lp
 |_,_=>False
theorem Nl.mono{N N':Np}{w w':World}{k:BK}{cs:List TV}{p:Pl}(hm:rZ N N')(hw:w'.heap[p.c]? = w.heap[p.c]?)(h:Nl N w k cs p):Nl N' w' k cs p:=
 ⟨let ⟨arr,ty,fz,h1,h2,h3,h4⟩:=h.row;⟨arr,ty,fz,hw.trans h1,h2,h3,fun z i c v a b d=>(h4 z i c v a b d).mono hm⟩,h.fit,h.ext,h.base⟩
theorem a8Z.mono{N N':Np}{rd:Bool}{f nt:Nat}{env:List (Nat×EV)}{ps:List Nat}{a b:Code}{jH:Option Code}{lp:Loop}(hm:rZ N N')(h:a8Z N rd f nt env ps a b jH lp):a8Z N' rd f nt env ps a b jH lp:=
 { h with KU:=fun t v e=>(h.KU t v e).mono hm }
theorem mG.mono{N N':Np}{w w':World}{k:BK}{cs:List TV}{ls:List Pl}(hm:rZ N N')(hw:∀p∈ls,w'.heap[p.c]? = w.heap[p.c]?)(h:mG N w k cs ls):mG N' w' k cs ls:=
 ⟨h.1,fun p hp=>(h.2.1 p hp).mono hm (hw p hp),h.2.2⟩
theorem pK.mono{N N':Np}{w w':World}{b:HB}{l:Lc}(hm:rZ N N')(hw:∀c∈aI l,w'.heap[c]? = w.heap[c]?)(h:pK N w b l):pK N' w' b l:=by
 cases b with
 |cells k cs=>
  cases l with
  |obj r _=>exact h.elim
  |cells ls=>exact mG.mono hm (fun p hp=>hw p.c (a1l.2 ⟨p,hp,rfl⟩)) h
 |ng cs=>
  cases l with
  |obj r _=>exact h.elim
  |cells ls=>
   obtain⟨cs',h1,h2⟩:=h;exact⟨cs',h1,h2.mono hm fun p hp=>hw p.c (a1l.2 ⟨p,hp,rfl⟩)⟩
 |map es=>
  cases l with
  |cells ls=>exact h.elim
  |obj r _=>
   obtain⟨xs,h1,h2⟩:=h;exact⟨xs,(hw r (by simp[aI])).trans h1,h2.mono hm⟩
 |mark=>
  cases l with
  |cells ls=>exact h.elim
  |obj r _=>
   have h':r<w.heap.size:=h;have:=hw r (by simp[aI]);rw[a4c h']at this;exact(a2p.1 this).1
 |cZ m n seen=>
  cases l with
  |cells ls=>exact h.elim
  |obj r _=>
   obtain⟨b,o,sa,h1,h2,h3,h4⟩:=h;obtain⟨l',g1,g2⟩:=hm _ _ h1;cases l' with
   |cells xP=>exact g2.elim
   |obj b' o'=>
    obtain⟨rfl,g3⟩:=g2;refine⟨b,o',sa,g1,(hw r (by simp[aI])).trans h2,a4U h3 g3.length_le,?_⟩;rw[<-h4];refine a4P fun i hi=>?_;have:o[i]?∈sa.toList.map (fun i=>o[i]?):=a1l.2 ⟨i,hi,rfl⟩;rw[h4]at this;obtain⟨j,_,hj⟩:=a1l.1 this;have aQ:=(a0c.1 hj.symm).1;obtain⟨t,rfl⟩:=g3;rw[a0j aQ]
 |loop rd f nt env ps a b jH=>
  cases l with
  |cells ls=>exact h.elim
  |obj r _=>
   obtain⟨lp,h1,h2⟩:=h;exact⟨lp,(hw r (by simp[aI])).trans h1,h2.mono hm⟩
theorem pK.inb{N:Np}{w:World}{b:HB}{l:Lc}(h:pK N w b l):∀c∈aI l,c<w.heap.size:=by
 intro c hc;cases b with
 |cells k cs=>
  cases l with
  |obj r _=>exact h.elim
  |cells ls=>
   obtain⟨p,hp,rfl⟩:=a1l.1 hc;obtain⟨arr,ty,fz,h1,_⟩:=(h.2.1 p hp).row;exact(a2p.1 h1).1
 |ng cs=>
  cases l with
  |obj r _=>exact h.elim
  |cells ls=>
   obtain⟨p,hp,rfl⟩:=a1l.1 hc;obtain⟨cs',_,h⟩:=h;obtain⟨arr,ty,fz,h1,_⟩:=(h.2.1 p hp).row;exact(a2p.1 h1).1
 |map es=>
  cases l with
  |cells ls=>exact h.elim
  |obj r _=>
   obtain⟨xs,h1,_⟩:=h;simp[aI]at hc;subst hc;exact(a2p.1 h1).1
 |mark=>
  cases l with
  |cells ls=>exact h.elim
  |obj r _=>
   simp[aI]at hc;subst hc;exact h
 |cZ m n seen=>
  cases l with
  |cells ls=>exact h.elim
  |obj r _=>
   obtain⟨b,o,sa,_,h1,_⟩:=h;simp[aI]at hc;subst hc;exact(a2p.1 h1).1
 |loop rd f nt env ps a b jH=>
  cases l with
  |cells ls=>exact h.elim
  |obj r _=>
   obtain⟨lp,h1,_⟩:=h;simp[aI]at hc;subst hc;exact(a2p.1 h1).1
abbrev Ct:=Key->Option HB
structure Valid(M:Mp)(D:Key->Prop)(C:Ct)(w:World):Prop where
 ok:∀k l,M k=some l->D k->∃b,C k=some b∧pK M.h w b l
 own:∀k k' l l' b,k≠k'->M k=some l->M k'=some l'->D k->C k=some b->wr b=true->∀c∈aI l,c∉aI l'
 inb:∀k l,M k=some l->∀c∈aI l,c<w.heap.size
def uM:Key->Prop:=fun _=>True
theorem Valid.has{M:Mp}{C:Ct}{w:World}(h:Valid M uM C w){k:Key}{l:Lc}(hk:M k=some l):(C k).isSome=true:=
 let ⟨_,h1,_⟩:=h.ok k l hk trivial;by simp[h1]
theorem Valid.of_heap{M:Mp}{D:Key->Prop}{C:Ct}{w w':World}(h:Valid M D C w)(hw:w'.heap=w.heap):Valid M D C w':=
 ⟨fun k l hk hd=>let ⟨b,h1,h2⟩:=h.ok k l hk hd;⟨b,h1,h2.mono (.refl _) (fun c _=>by rw[hw])⟩,h.own,by rw[hw];exact h.inb⟩
def dL(M:Mp)(k:Key)(l:Lc):Mp:=fun j=>if j=k then some l else M j
def lX(C:Ct)(k:Key)(b:HB):Ct:=fun j=>if j=k then some b else C j
theorem mJ{M:Mp}{k:Key}{l:Lc}(h:∀l0,M k=some l0->KT l0 l):rZ M (dL M k l):=by
 intro j l0 hj;by_cases hjk:j=k
 .subst hjk;exact⟨l,by simp[dL],h l0 hj⟩
 exact⟨l0,by simp[dL,hjk,hj],.refl _⟩
theorem Valid.upd{M:Mp}{D D':Key->Prop}{C:Ct}{w w':World}(h:Valid M D C w)(k:Key)(b:HB)(l:Lc)
  (hD:∀j,D' j->D j∨j=k)
  (hold:∀l0,M k=some l0->D k∧KT l0 l∧∀b0,C k=some b0->wr b0=true)
  (fZ:∀c,c<w.heap.size->c∉aI l->w'.heap[c]? = w.heap[c]?)
  (fP:∀c∈aI l,(∃l0,M k=some l0∧c∈aI l0)∨w.heap.size<=c)
  (EH:w.heap.size<=w'.heap.size)
  (QF:pK (dL M k l).h w' b l):Valid (dL M k l) D' (lX C k b) w':=by
 have hle:rZ M (dL M k l):=mJ fun l0 h0=>(hold l0 h0).2.1;refine⟨?_,?_,?_⟩
 .intro j l0 hj hd;by_cases hjk:j=k
  .subst hjk;simp only[dL,a2w,a05]at hj;subst hj;exact⟨b,by simp[lX],QF⟩
  .simp only[dL,hjk,a3T]at hj;obtain⟨b0,h1,h2⟩:=h.ok j l0 hj ((hD j hd).resolve_right hjk);refine⟨b0,by simp[lX,hjk,h1],h2.mono hle.h fun c hc=>?_⟩;have aQ:=h.inb j l0 hj c hc;refine fZ c aQ fun qm=>?_;rcases fP c qm with⟨l1,VE,hc1⟩|EI
   .obtain⟨hDk,_,hw⟩:=hold l1 VE;obtain⟨b1,Cc,_⟩:=h.ok k l1 VE hDk;exact h.own k j l1 l0 b1 (fun e=>hjk e.symm) VE hj hDk Cc (hw b1 Cc) c hc1 hc
   .omega
 .intro j j' l0 l0' b0 iC hj DR hd hb hw c hc Vw;by_cases hjk:j=k
  .subst hjk;have a90:j'≠j:=fun e=>iC e.symm;simp only[dL,a2w,a05]at hj;subst hj;simp only[dL,a90,a3T]at DR;have aQ:=h.inb j' l0' DR c Vw;rcases fP c hc with⟨l1,VE,hc1⟩|EI
   .obtain⟨hDk,_,hw⟩:=hold l1 VE;obtain⟨b1,Cc,_⟩:=h.ok j l1 VE hDk;exact h.own j j' l1 l0' b1 iC VE DR hDk Cc (hw b1 Cc) c hc1 Vw
   .omega
  .simp only[dL,hjk,a3T]at hj;simp only[lX,hjk,a3T]at hb;have hdj:=(hD j hd).resolve_right hjk;have aQ:=h.inb j l0 hj c hc;by_cases a90:j'=k
   .subst a90;simp only[dL,a2w,a05]at DR;subst DR;rcases fP c Vw with⟨l1,VE,hc1⟩|EI
    .exact h.own j j' l0 l1 b0 iC hj VE hdj hb hw c hc hc1
    .omega
   .simp only[dL,a90,a3T]at DR;exact h.own j j' l0 l0' b0 iC hj DR hdj hb hw c hc Vw
 .intro j l0 hj c hc;by_cases hjk:j=k
  .subst hjk;simp only[dL,a2w,a05]at hj;subst hj;exact QF.inb c hc
  .simp only[dL,hjk,a3T]at hj;exact a99 (h.inb j l0 hj c hc) EH
structure Ext(M0:Mp)(C0:Ct)(w0:World)(M:Mp)(C:Ct)(w:World)(ws:List Key):Prop where
 Iu:rZ M0 M
 frame:∀c,c<w0.heap.size->(∀k∈ws,∀l,M0 k=some l->c∉aI l)->w.heap[c]? = w0.heap[c]?
 nH:∀k,(C0 k).isSome=true->k∉ws->C k=C0 k
 l9:∀k,((C0 k).isSome=true∨C k=none)->k∉ws->M k=M0 k
 fresh:∀k l,M k=some l->∀c∈aI l,c<w0.heap.size->∃l0,M0 k=some l0∧c∈aI l0
 size:w0.heap.size<=w.heap.size
 has:∀k,(C0 k).isSome=true->(C k).isSome=true
 wsub:∀k∈ws,(C0 k).isSome=true
 wrote:∀k∈ws,(M0 k).isSome=true∧∀b,C0 k=some b->wr b=true
 os:w.os=w0.os
 output:w.output=w0.output
 tape:w.tape=w0.tape
theorem Ext.refl(M:Mp)(C:Ct)(w:World):Ext M C w M C w []:=
 ⟨.refl _,fun _ _ _=>rfl,fun _ _ _=>rfl,fun _ _ _=>rfl,fun _ l h c hc _=>⟨l,h,hc⟩,a1b _,fun _ h=>h,(by simp),(by simp),rfl,rfl,rfl⟩
theorem Ext.drew{M0:Mp}{C0:Ct}{w0:World}{M:Mp}{C:Ct}{w w':World}{ws:List Key}(h:Ext M0 C0 w0 M C w ws)
  (hh:w'.heap=w.heap) (ho:w'.os=w.os) (hu:w'.output=w.output) (ht:w'.tape=w.tape):Ext M0 C0 w0 M C w' ws:=
 { h with frame:=(by rw[hh];exact h.frame),size:=(by rw[hh];exact h.size),os:=ho.trans h.os,output:=hu.trans h.output,tape:=ht.trans h.tape }
theorem Ext.trans{M0 M M':Mp}{C0 C C':Ct}{w0 w w':World}{ws TQ adI:List Key}(h:Ext M0 C0 w0 M C w ws)(h':Ext M C w M' C' w' TQ)
  (hd:∀k l,M0 k=some l->(C0 k).isSome=true) (hs:∀k,(C0 k).isSome=true->(k∈ws∨k∈TQ)->k∈adI) (hb:∀k∈adI,(C0 k).isSome=true∧(k∈ws∨k∈TQ)) :
  Ext M0 C0 w0 M' C' w' adI where
 Iu:=h.Iu.trans h'.Iu
 frame:=by
  intro c hc hf;have h1:w.heap[c]? = w0.heap[c]?:=h.frame c hc fun k hk l hl=>hf k (hs k (h.wsub k hk) (.inl hk)) l hl;rw[<-h1];refine h'.frame c (a99 hc h.size) fun k hk l hl qm=>?_;obtain⟨l0,h2,h3⟩:=h.fresh k l hl c qm hc;exact hf k (hs k (hd k l0 h2) (.inr hk)) l0 h2 h3
 nH:=fun k hk hn=>by
  have hn1:k∉ws:=fun e=>hn (hs k hk (.inl e));have DT:k∉TQ:=fun e=>hn (hs k hk (.inr e));rw[h'.nH k (h.has k hk) DT,h.nH k hk hn1]
 l9:=fun k hk hn=>by
  rcases hk with hk|hk
  .have hn1:k∉ws:=fun e=>hn (hs k hk (.inl e));have DT:k∉TQ:=fun e=>hn (hs k hk (.inr e));rw[h'.l9 k (.inl (h.has k hk)) DT,h.l9 k (.inl hk) hn1]
  .have hC:C k=none:=by
    cases hc:C k with
    |none=>rfl
    |some b=>have:=h'.has k (by simp[hc]);simp[hk]at this
   have DT:k∉TQ:=fun e=>by have:=h'.wsub k e;simp[hC]at this
   have hn1:k∉ws:=fun e=>by have:=h.has k (h.wsub k e);simp[hC]at this
   rw[h'.l9 k (.inr hk) DT,h.l9 k (.inr hC) hn1]
 fresh:=fun k l hl c hc aQ=>by
  obtain⟨l1,h1,h2⟩:=h'.fresh k l hl c hc (a99 aQ h.size);exact h.fresh k l1 h1 c h2 aQ
 size:=a4U h.size h'.size
 has:=fun k hk=>h'.has k (h.has k hk)
 wsub:=fun k hk=>(hb k hk).1
 wrote:=fun k hk=>by
  by_cases h1:k∈ws
  .exact h.wrote k h1
  .have h2:=h'.wrote k ((hb k hk).2.resolve_left h1);rw[h.l9 k (.inl (hb k hk).1) h1,h.nH k (hb k hk).1 h1]at h2;exact h2
 os:=h'.os.trans h.os
 output:=h'.output.trans h.output
 tape:=h'.tape.trans h.tape
theorem Ext.upd{M:Mp}{C:Ct}{w w':World}(k:Key)(b:HB)(l:Lc)(ws:List Key)
  (YA:((C k).isSome=true∧ws=[k]∧(M k).isSome=true∧∀b,C k=some b->wr b=true)∨(C k=none∧M k=none∧ws=[]))
  (hle:rZ M (dL M k l))
  (fZ:∀c,c<w.heap.size->c∉aI l->w'.heap[c]? = w.heap[c]?)
  (fP:∀c∈aI l,(∃l0,M k=some l0∧c∈aI l0)∨w.heap.size<=c)
  (EH:w.heap.size<=w'.heap.size) (ho:w'.os=w.os) (hou:w'.output=w.output) (ht:w'.tape=w.tape) :
  Ext M C w (dL M k l) (lX C k b) w' ws where
 Iu:=hle
 frame:=by
  intro c hc hf;refine fZ c hc fun qm=>?_;rcases fP c qm with⟨l0,h1,h2⟩|EI
  .rcases YA with⟨_,rfl,_⟩|⟨_,hn,_⟩
   .exact hf k (by simp) l0 h1 h2
   .rw[hn]at h1;cases h1
  .omega
 nH:=fun j hj hn=>by
  have:j≠k:=by
   rintro rfl;rcases YA with⟨_,rfl,_⟩|⟨h1,_⟩
   .simp at hn
   .simp[h1]at hj
  simp[lX,this]
 l9:=fun j hj hn=>by
  have:j≠k:=by
   rintro rfl;rcases YA with⟨_,rfl,_⟩|⟨h1,_⟩
   .simp at hn
   .rcases hj with hj|hj
    .simp[h1]at hj
    .simp[lX]at hj
  simp[dL,this]
 fresh:=fun j l0 hj c hc aQ=>by
  by_cases hjk:j=k
  .subst hjk;simp only[dL,a2w,a05]at hj;subst hj;rcases fP c hc with h1|EI
   .exact h1
   .omega
  .simp only[dL,hjk,a3T]at hj;exact⟨l0,hj,hc⟩
 size:=EH
 has:=fun j hj=>by
  by_cases hjk:j=k
  .simp[lX,hjk]
  .simpa[lX,hjk]using hj
 wsub:=by
  rcases YA with⟨h1,rfl,_⟩|⟨_,_,rfl⟩
  .intro j hj;simp at hj;subst hj;exact h1
  .simp
 wrote:=by
  rcases YA with⟨_,rfl,h1⟩|⟨_,_,rfl⟩
  .intro j hj;simp at hj;subst hj;exact h1
  .simp
 os:=ho
 output:=hou
 tape:=ht
theorem ER.mono{M M':Mp}(hm:rZ M M')(hl:∀k l,M (.l k)=some l->M' (.l k)=some l){e:EV}{x:Value}(h:ER M e x):ER M' e x:=by
 cases h with
 |val h=>exact .val (h.mono hm.h)
 |loc h hb=>exact .loc (hl _ _ h) hb
 |undef=>exact .undef
 |ent h hi hv=>
  obtain⟨l',h1,h2⟩:=hm _ _ h;cases l' with
  |cells _=>exact h2.elim
  |obj r1 o'=>
   obtain⟨rfl,t,rfl⟩:=h2;exact .ent h1 (by rw[a0j (a0c.1 hi).1];exact hi) (hv.mono hm.h)
 |Es h hi=>
  obtain⟨l',h1,h2⟩:=hm _ _ h;cases l' with
  |cells _=>exact h2.elim
  |obj r1 o'=>
   obtain⟨rfl,t,rfl⟩:=h2;exact .Es h1 (by rw[a0j (a0c.1 hi).1];exact hi)
structure Nq(M:Mp)(D:Key->Prop)(C:Ct)(w:World)(v:EV)(C1:Ct)(ws:List Key)(x:Value)(w':World)(M':Mp):Prop where
 val:Valid M' (fun k=>D k∨(C k=none∧(C1 k).isSome=true)) C1 w'
 ext:Ext M C w M' C1 w' ws
 er:ER M' v x
 loc:∀k l,M (.l k)=some l->M' (.l k)=some l
theorem Nq.same{M:Mp}{D:Key->Prop}{C:Ct}{w:World}{v:EV}{x:Value}(h:Valid M D C w)(he:ER M v x):Nq M D C w v C [] x w M:=
 ⟨⟨fun k l hk hd=>h.ok k l hk (hd.elim id fun⟨a,b⟩=>by simp[a]at b),fun k k' l l' b a1 a2 a3 hd=>h.own k k' l l' b a1 a2 a3 (hd.elim id fun⟨a,b⟩=>by simp[a]at b),h.inb⟩,.refl M C w,he,fun _ _ h=>h⟩
theorem wB(w:World)(o:Obj)(i:Nat)(h:i<w.heap.size):(w.alloc o).heap[i]? = w.heap[i]?:=by
 show(w.heap.push o)[i]? = w.heap[i]?;rw[Array.getElem?_push,a0o (Nat.ne_of_lt h)]
section
variable {P:Program} {w:World}
theorem iT{t:TypeId}{i:TypeInfo}(h:P.info? t=some i):(typeInfo t).run P w=.ok i w:=by simp[typeInfo,h]
theorem F9{t:TypeId}{n:Nat}(h:dD P t=some n):∃i,P.info? t=some i∧i.size=n:=by
 simpa[dD]using h
theorem cO{t:TypeId}{n:Nat}(h:dD P t=some n):(Go.sizeOf t).run P w=.ok n w:=by
 obtain⟨i,h1,h2⟩:=F9 h;simp[Go.sizeOf,iT h1,h2]
theorem zV{t:TypeId}{b:Bool}(h:uK P t=some b):(isAgg t).run P w=.ok b w:=by
 unfold uK at h;split at h<;>simp at h<;>subst h
 .simp[isAgg,run_underlying ‹_›]
 .simp[isAgg,run_underlying ‹_›]
 rename_i d _ _ hu;simp only[isAgg,Sem.run_bind,run_underlying hu,Result.andThen_ok];cases d<;>simp_all
theorem uj(c o n:Nat):(⟨c,o,none⟩:Addr).add n=⟨c,o+n,none⟩:=by
 unfold Addr.add;split<;>simp_all
theorem IC{N:Np}{c:TV}{v:Value}(h:VR N c v)(ho:iR c=true):v.oneCell'=true:=by
 cases h<;>first|rfl|simp[iR]at ho
theorem um{cs:List TV}{off n:Nat}{r:List TV}(h:sub cs off n=some r):off+n<=cs.length∧r=(cs.drop off).take n∧r.length=n:=by
 unfold sub at h;split at h
 .rename_i hl;simp at h;subst h;exact⟨hl,rfl,by simp;omega⟩
 simp at h
theorem vS{cs:List TV}{off:Nat}{new r:List TV}(h:wo cs off new=some r) :
  off+new.length<=cs.length∧r=cs.take off++new++cs.drop (off+new.length)∧r.length=cs.length:=by
 unfold wo at h;split at h
 .rename_i hl;simp at h;subst h;exact⟨hl,by simp,by simp;omega⟩
 .simp at h
theorem Nl.slice{N:Np}{k:BK}{cs:List TV}{p:Pl}(h:Nl N w k cs p){off n:Nat}{r:List TV}(hr:sub cs off n=some r)(he:off+n<=p.ext)(hz:k=.last->p.ext=cs.length) :
  ∃xs:List Value,bU N r xs∧∀(j:Nat) (v:Value),xs[j]? = some v->w.cell? ⟨p.c,p.base+off+j,none⟩=some v:=by
 obtain⟨arr,ty,fz,h1,h2,_,h4⟩:=h.row;obtain⟨s1,s2,s3⟩:=um hr;have hf:=h.fit;refine⟨(arr.toList.drop (p.base+off)).take n,⟨by rw[s3];simp;omega,fun i c v a b=>?_⟩,fun j v hj=>?_⟩
 .rw[s2,a4p]at a;rw[a4p]at b;split at a
  .rename_i hi;rw[a0p hi,a4m]at b;rw[a4m]at a;exact h4 hz (off+i) c v (by omega) a (by simpa[a9T]using b)
  .simp at a
 .rw[a4p]at hj;split at hj
  .rw[a4m]at hj;simp only[World.cell?,h1];simpa using hj
  .simp at hj
theorem yD{N:Np}{k:BK}{cs:List TV}{p:Pl}(h:Nl N w k cs p){off n:Nat}{r:List TV}(hr:sub cs off n=some r)(he:off+n<=p.ext)(hz:k=.last->p.ext=cs.length) :
  ∃xs:List Value,bU N r xs∧∀w':World,w'.heap=w.heap->(loadCells ⟨p.c,p.base+off,none⟩ n).run P w'=.ok xs.toArray w':=by
 obtain⟨xs,h1,h2⟩:=h.slice hr he hz;refine⟨xs,h1,fun w' hw'=>?_⟩;have hl:xs.length=n:=by rw[<-h1.len];exact(um hr).2.2
 have:=run_loadCells_list (P:=P) w' ⟨p.c,p.base+off,none⟩ xs (fun j v hj=>by
  rw[uj];have e:=h2 j v hj;simp only[World.cell?,hw']at e ⊢;exact e)
 rwa [hl]at this
theorem JQ{N:Np}{k:BK}{cs:List TV}{p:Pl}(h:Nl N w k cs p){t:TypeId}{off n:Nat}{v:TV}(hs:dD P t=some n)
  (hv:uh P t cs off=some v) (he:off+n<=p.ext) (hz:k=.last->p.ext=cs.length) :
  ∃x,VR N v x∧(loadVar t ⟨p.c,p.base+off,none⟩).run P w=.ok x w:=by
 unfold uh at hv;rw[hs]at hv;cases ha:uK P t with
 |none=>simp[ha]at hv
 |some b=>
  cases b with
  |true=>
   simp only[ha,a0e]at hv;obtain⟨r,hr,rfl⟩:=hv;obtain⟨xs,g1,g2⟩:=yD (P:=P) h hr he hz;exact⟨_,.agg' g1,by simp[loadVar,zV ha,cO hs,g2 w rfl]⟩
  |false=>
   simp only[ha]at hv;split at hv
   case isFalse=>simp at hv
   rename_i hn1;have he1:off+1<=p.ext:=(by omega);have aQ:=(a0c.1 hv).1;have hr:sub cs off 1=some [v]:=by
    unfold sub;rw[a0p (by omega)];congr 1;rw[a6D aQ];have:=(a0c.1 hv).2;simp[this]
   obtain⟨xs,g1,g2⟩:=h.slice hr he1 hz;obtain⟨x,xs',rfl,gx,_⟩:=g1.iK;have:=g2 0 x rfl;simp only[adD]at this;exact⟨x,gx,by simp[loadVar,zV ha,this]⟩
end
theorem IE{M:Mp}{k:Key}{l:Lc}(h:M k=some l):dL M k l=M:=by
 funext j;unfold dL;split
 .rename_i e;rw[e,h]
 rfl
theorem ku(s:St)(b:HB)(e:List (Nat×EV))(ws:List Nat):St.get { s with heap:=s.heap++[b],env:=e,ws:=ws }=lX s.get (.h s.heap.length) b:=by
 funext k
 cases k with
 |h j=>
  simp only[St.get,lX,Key.h.injEq];split
  .rename_i e;subst e;simp
  rename_i e;by_cases hj:j<s.heap.length
  .rw[a0j hj]
  rw[a4h (by simp;omega),a4h (by omega)]
 |l j=>simp[St.get,lX]
theorem jy(s:St)(i:Nat)(b:HB)(h:i<s.heap.length)(e:List (Nat×EV))(ws:List Nat):St.get { s with heap:=s.heap.set i b,env:=e,ws:=ws }=lX s.get (.h i) b:=by
 funext k
 cases k with
 |h j=>
  simp only[St.get,lX,Key.h.injEq];rw[a9C];by_cases hj:i=j
  .subst hj;simp[h]
  rw[a0o hj,a0o (fun e=>hj e.symm)]
 |l j=>simp[St.get,lX]
theorem QG(s:St)(cs:List TV)(e:List (Nat×EV))(ws:List Nat):St.get { s with loc:=s.loc++[cs],env:=e,ws:=ws }=lX s.get (.l s.loc.length) (.cells .own cs):=by
 funext k
 cases k with
 |l j=>
  simp only[St.get,lX,Key.l.injEq];split
  .rename_i e;subst e;simp
  rename_i e;by_cases hj:j<s.loc.length
  .rw[a0j hj]
  rw[a4h (by simp;omega),a4h (by omega)]
 |h j=>simp[St.get,lX]
theorem Nr(s:St)(i:Nat)(cs:List TV)(h:i<s.loc.length)(e:List (Nat×EV))(ws:List Nat):St.get { s with loc:=s.loc.set i cs,env:=e,ws:=ws }=lX s.get (.l i) (.cells .own cs):=by
 funext k
 cases k with
 |l j=>
  simp only[St.get,lX,Key.l.injEq];rw[a9C];by_cases hj:i=j
  .subst hj;simp[h]
  rw[a0o hj,a0o (fun e=>hj e.symm)]
 |h j=>simp[St.get,lX]
theorem xQ{h:List HB}{b lim:Nat}{cs:List TV}(e:mD h b lim=some cs):∃k,h[b]? = some (.cells k cs)∧(k=.last->lim=cs.length):=by
 unfold mD at e;split at e
 .rename_i k cs' hb;split at e
  .cases e
  rename_i hn;simp at e;subst e;exact⟨k,hb,fun hk=>Decidable.not_not.1 fun hl=>hn ⟨hk,hl⟩⟩
 simp at e
theorem JR{k k':BK}{b:Bool}(e:zT k b=some k'):(k=.own∧k'=.own)∨((k=.grow∨k=.last)∧k'=.last∧b=true):=by
 unfold zT at e;split at e<;>simp_all
theorem IG{h h':List HB}{b off lim:Nat}{new:List TV}(e:TI h b off lim new=some h') :
  ∃k k' cs cs',h[b]? = some (.cells k cs)∧((k=.own∧k'=.own)∨((k=.grow∨k=.last)∧k'=.last∧lim=cs.length))∧wo cs off new=some cs'∧h'=h.set b (.cells k' cs'):=by
 unfold TI at e;split at e
 .rename_i k cs hb;split at e
  .rename_i k' hk;simp only[a0e]at e;obtain⟨cs',h1,h2⟩:=e;refine⟨k,k',cs,cs',hb,?_,h1,h2.symm⟩;rcases JR hk with h|⟨a,b,c⟩
   .exact .inl h
   .exact .inr ⟨a,b,by simpa using c⟩
  .cases e
 .simp at e
theorem VF{arr:Array Value}{off:Nat}{xs:List Value}(i:Nat)(h:off+xs.length<=arr.size) :
  (arr.toList.take off++xs++arr.toList.drop (off+xs.length)).toArray[i]? = if i<off then arr[i]? else if i<off+xs.length then xs[i-off]? else arr[i]?:=by
 have hl:(arr.toList.take off).length=off:=by simp;omega
 simp only[adE];by_cases h1:i<off
 .rw[a0p h1,a4W,a0j (by omega),a4p,a0p h1];simp
 .rw[a0o h1];by_cases h2:i<off+xs.length
  .rw[a0p h2,a4W,a1c (by omega),hl,a0j (by omega)]
  .rw[a0o h2,a1c (by simp;omega),a4m];have:off+xs.length+(i-(List.take off arr.toList++xs).length)=i:=by simp;omega
   rw[this];simp
theorem a2i{cs new r:List TV}{off:Nat}(h:wo cs off new=some r)(i:Nat) :
  r[i]? = if i<off then cs[i]? else if i<off+new.length then new[i-off]? else cs[i]?:=by
 obtain⟨h1,h2,_⟩:=vS h;have hl:(cs.take off).length=off:=by simp;omega
 rw[h2];by_cases h1:i<off
 .rw[a0p h1,a4W,a0j (by omega),a4p,a0p h1]
 .rw[a0o h1];by_cases h2:i<off+new.length
  .rw[a0p h2,a4W,a1c (by omega),hl,a0j (by omega)]
  .rw[a0o h2,a1c (by simp;omega),a4m];congr 1;simp;omega
theorem VG{cs new r:List TV}{off:Nat}(h:wo cs off new=some r)(hc:∀c∈cs,iR c=true)(hn:∀c∈new,iR c=true):∀c∈r,iR c=true:=by
 obtain⟨_,h2,_⟩:=vS h;intro c hcr;rw[h2]at hcr;simp only[a3k]at hcr;rcases hcr with(h|h)|h
 .exact hc c (a9t h)
 .exact hn c h
 exact hc c (a5Q h)
theorem vH(w:World)(g:Nat)(arr:Array Value)(c:Nat)(h:c≠g):(w.setRow g arr).heap[c]? = w.heap[c]?:=by
 simp only[World.setRow,abI];rw[a0o (fun e=>h e.symm)]
theorem Ns(w:World)(g:Nat)(arr cur:Array Value)(ty:TypeId)(fz:Nat×Nat)(h:w.heap[g]? = some (.cells cur ty fz)):(w.setRow g arr).heap[g]? = some (.cells arr ty fz):=by
 simp[World.setRow,abI,h]
theorem Valid.widen{M:Mp}{D:Key->Prop}{C C1:Ct}{w':World}(h:Valid M D C1 w')(hn:∀k,C k=none->C1 k=none):Valid M (fun j=>D j∨(C j=none∧(C1 j).isSome=true)) C1 w':=
 have aux:∀j,(D j∨(C j=none∧(C1 j).isSome=true))->D j:=fun j hj=>hj.elim id fun⟨a,b⟩=>by rw[hn j a]at b;cases b
 ⟨fun k l hk hd=>h.ok k l hk (aux k hd),fun k k' l l' b a1 a2 a3 hd=>h.own k k' l l' b a1 a2 a3 (aux k hd),h.inb⟩
theorem DU{C:Ct}{k:Key}{b:HB}(hk:(C k).isSome=true):∀j,C j=none->lX C k b j=none:=by
 intro j hj;unfold lX;split
 .rename_i e;subst e;rw[hj]at hk;cases hk
 exact hj
theorem Valid.wrB{M:Mp}{D:Key->Prop}{C:Ct}{w:World}(h:Valid M D C w){k:Key}{ls:List Pl}{p:Pl}{cs:List TV}{kk Bg:BK}(hk:M k=some (.cells ls))(hd:D k)
  (hc:C k=some (.cells kk cs)) (hp:p∈ls) (xR:(kk=.own∧Bg=.own)∨((kk=.grow∨kk=.last)∧Bg=.last∧p.ext=cs.length)) :
  p.base=0∧p.ext=cs.length∧(∀c∈cs,iR c=true)∧(∀q∈ls,Nl M.h w kk cs q)∧(ls.map (·.c)).Nodup∧(∀q∈ls,q.ext=cs.length->q=p) ∧
  ∃(arr:Array Value) (ty:TypeId),w.heap[p.c]? = some (.cells arr ty (0,0))∧arr.size=p.tot∧cs.length<=p.tot ∧
   ∀(i:Nat) (c:TV) (v:Value),cs[i]? = some c->arr[i]? = some v->VR M.h c v:=by
 obtain⟨b,h1,h2⟩:=h.ok k _ hk hd;rw[hc]at h1;cases h1;obtain⟨g1,g2,g3,g4⟩:=h2;have iC:kk≠.ro:=by rcases xR with⟨e,_⟩|⟨e|e,_⟩<;>rw[e]<;>simp
 have Gg:=g2 p hp;have hb:=Gg.base iC;have hx:p.ext=cs.length∧(ls.map (·.c)).Nodup∧∀q∈ls,q.ext=cs.length->q=p:=by
  rcases xR with⟨e,_⟩|⟨e,_,he⟩
  .obtain⟨q,rfl,hq⟩:=g3 e;simp at hp;subst hp;exact⟨hq,by simp,fun q' hq' _=>by simpa using hq'⟩
  .obtain⟨n1,n2⟩:=g4 e;exact⟨he,n1,fun q hq hqe=>n2 q hq p hp hqe he⟩
 obtain⟨arr,ty,fz,r1,r2,r3,r4⟩:=Gg.row;have:=r3 iC;subst this;have hf:=Gg.fit;refine⟨hb,hx.1,g1,g2,hx.2.1,hx.2.2,arr,ty,r1,r2,by omega,fun i c v a b=>?_⟩;have hi:=(a0c.1 a).1;exact r4 (fun _=>hx.1) i c v (by omega) a (by simpa[hb]using b)
theorem Valid.YB{M:Mp}{D:Key->Prop}{C:Ct}{w:World}(h:Valid M D C w){k:Key}{ls:List Pl}{p:Pl}{cs:List TV}{kk Bg:BK}{lim:Nat}(hk:M k=some (.cells ls))(hd:D k)
  (hc:C k=some (.cells kk cs)) (hp:p∈ls) (hl:lim<=p.ext) (xR:(kk=.own∧Bg=.own)∨((kk=.grow∨kk=.last)∧Bg=.last∧lim=cs.length)) :
  (kk=.own∧Bg=.own)∨((kk=.grow∨kk=.last)∧Bg=.last∧p.ext=cs.length):=by
 rcases xR with e|⟨e1,e2,e3⟩
 .exact .inl e
 .obtain⟨b,h1,h2⟩:=h.ok k _ hk hd;rw[hc]at h1;cases h1;have:=(h2.2.1 p hp).ext;exact .inr ⟨e1,e2,by omega⟩
theorem Nu:∀{ls:List Pl},(ls.map (·.c)).Nodup->∀{p q:Pl},p∈ls->q∈ls->q.c=p.c->q=p
 | [],_,p,q,hp,_,_=>by simp at hp
 |a::ls,h,p,q,hp,hq,e=>by
  simp only[a4k,a4r]at h;rcases a2y.1 hp with h1|h1<;>rcases a2y.1 hq with h2|h2
  .rw[h1,h2]
  .exact(h.1 (a1l.2 ⟨q,h2,by rw[e,h1]⟩)).elim
  .exact(h.1 (a1l.2 ⟨p,h1,by rw[<-e,h2]⟩)).elim
  exact Nu h.2 h1 h2 e
theorem yN{P:Program}{M:Mp}{D:Key->Prop}{C:Ct}{w:World}(h:Valid M D C w){k:Key}{ls:List Pl}{p:Pl}{cs cs' new:List TV}{off:Nat}{xs:List Value}{kk Bg:BK}
  (hk:M k=some (.cells ls)) (hd:D k) (hc:C k=some (.cells kk cs)) (hp:p∈ls) (xR:(kk=.own∧Bg=.own)∨((kk=.grow∨kk=.last)∧Bg=.last∧p.ext=cs.length))
  (ho:wo cs off new=some cs') (hx:bU M.h new xs) (hn:∀c∈new,iR c=true) :
  ∃w',(storeCells ⟨p.c,p.base+off,none⟩ xs).run P w=.ok () w'∧Valid M D (lX C k (.cells Bg cs')) w'∧Ext M C w M (lX C k (.cells Bg cs')) w' [k]:=by
 obtain⟨hb,he,h1,Gg,jA,huq,arr,ty,hr,hs,hle,hv⟩:=h.wrB hk hd hc hp xR;obtain⟨o1,o2,o3⟩:=vS ho;have hlen:=hx.len;have iC:kk≠.ro:=by rcases xR with⟨e,_⟩|⟨e|e,_⟩<;>rw[e]<;>simp
 have aha:Bg≠.ro:=by rcases xR with⟨_,e⟩|⟨_,e,_⟩<;>rw[e]<;>simp
 have Yo:∀b0,C k=some b0->wr b0=true:=fun b0 zN=>by rw[hc]at zN;cases zN;cases kk<;>simp_all [wr]
 have Fa:∀v∈xs,v.oneCell'=true:=by
  intro v hv;obtain⟨i,hi,rfl⟩:=a4J.1 hv;have xE:i<new.length:=by omega
  exact IC (hx.at_ i new[i] xs[i] (by simp[xE]) (by simp[hi])) (hn _ (a4z xE))
 have vI:=run_storeCells_at (P:=P) p.c (p.base+off) ty xs 0 arr w hr (by omega) Fa;simp only[adD,hb,a4e]at vI
 let w':World:=w.setRow p.c (arr.toList.take off++xs++arr.toList.drop (off+xs.length)).toArray
 have qF:dL M k (.cells ls)=M:=IE hk;have fZ:∀c,c<w.heap.size->c∉aI (.cells ls)->w'.heap[c]? = w.heap[c]?:=fun c _ hc=>vH w p.c _ c (fun e=>hc (by rw[e];exact a1l.2 ⟨p,hp,rfl⟩));have fP:∀c∈aI (.cells ls),(∃l0,M k=some l0∧c∈aI l0)∨w.heap.size<=c:=fun c hc=>.inl ⟨_,hk,hc⟩;have uX:w.heap.size<=w'.heap.size:=by simp[w']
 have II:rZ M (dL M k (.cells ls)):=by rw[qF];exact .refl _
 refine⟨w',by rw[hb,a4e];exact vI,?_,?_⟩
 .have:=h.upd (D':=D) (w':=w') k (.cells Bg cs') (.cells ls) (fun j hj=>.inl hj) (fun l0 h0=>by
   rw[hk]at h0;cases h0;exact⟨hd,.refl _,Yo⟩) fZ fP uX (by
   rw[qF];refine⟨VG ho h1 hn,fun q hq=>?_,fun e=>?_,fun e=>⟨jA,fun q1 JU q2 Gm e1 e2=>by rw[huq q1 JU (by omega),huq q2 Gm (by omega)]⟩⟩
   .have YC:=Gg q hq;by_cases Yp:q.c=p.c
    .have:=Nu jA hp hq Yp;subst this;refine⟨⟨_,ty,(0,0),Ns w q.c _ arr ty (0,0) hr,by simp;omega,fun _=>rfl,fun _ i c v hi a b=>?_⟩,by omega,by omega,fun _=>hb⟩;rw[hb,a4e,VF i (by omega)]at b;rw[a2i ho i,hlen]at a;split at a
     .rename_i hi1;rw[a0p hi1]at b;exact hv i c v a b
     .rename_i hi1;rw[a0o hi1]at b;split at a
      .rename_i JV;rw[a0p JV]at b;exact hx.at_ _ c v a b
      .rename_i JV;rw[a0o JV]at b;exact hv i c v a b
    .obtain⟨uN,ty',fz',t1,t2,t3,t4⟩:=YC.row;refine⟨⟨uN,ty',fz',(vH w p.c _ q.c Yp).trans t1,t2,fun _=>t3 iC,fun hz i c v hi a b=>?_⟩,YC.fit,by have:=YC.ext;omega,fun _=>YC.base iC⟩;exfalso;apply Yp;rcases xR with⟨e,_⟩|⟨_,e,_⟩
     .obtain⟨b',g1,g2⟩:=h.ok k _ hk hd;rw[hc]at g1;cases g1;obtain⟨q',g3,_⟩:=g2.2.2.1 e;rw[g3]at hq hp;simp at hq hp;rw[hq,hp]
     .rw[huq q hq (by rw[hz e];omega)]
   .rcases xR with⟨e0,_⟩|⟨_,e1,_⟩
    .obtain⟨b',g1,g2⟩:=h.ok k _ hk hd;rw[hc]at g1;cases g1;obtain⟨q',g3,g4⟩:=g2.2.2.1 e0;exact⟨q',g3,by omega⟩
    .rw[e1]at e;cases e)
  rwa [qF]at this
 .have:=Ext.upd (M:=M) (C:=C) (w:=w) (w':=w') k (.cells Bg cs') (.cells ls) [k] (.inl ⟨by simp[hc],rfl,by simp[hk],Yo⟩) II fZ fP uX rfl rfl rfl
  rwa [qF]at this
theorem Nv{M:Mp}{D:Key->Prop}{C:Ct}{w:World}(h:Valid M D C w){k:Key}{cs:List TV}{arr:Array Value}(ty:TypeId)
  (hk:M k=none) (hc:C k=none) (hl:cs.length<=arr.size) (hx:∀(i:Nat) (c:TV) (v:Value),cs[i]? = some c->arr[i]? = some v->VR M.h c v) (hn:∀c∈cs,iR c=true) :
  Valid (dL M k (.cells [⟨w.heap.size,0,cs.length,arr.size⟩])) (fun j=>D j∨(C j=none∧(lX C k (.cells .own cs) j).isSome=true)) (lX C k (.cells .own cs)) (w.alloc (.cells arr ty)) ∧
  Ext M C w (dL M k (.cells [⟨w.heap.size,0,cs.length,arr.size⟩])) (lX C k (.cells .own cs)) (w.alloc (.cells arr ty)) []:=by
 have hle:rZ M (dL M k (.cells [⟨w.heap.size,0,cs.length,arr.size⟩])):=mJ fun l0 h0=>by rw[hk]at h0;cases h0
 have fZ:∀c,c<w.heap.size->c∉aI (.cells [⟨w.heap.size,0,cs.length,arr.size⟩])->(w.alloc (.cells arr ty)).heap[c]? = w.heap[c]?:=fun c hc _=>wB w _ c hc;have fP:∀c∈aI (.cells [⟨w.heap.size,0,cs.length,arr.size⟩]),(∃l0,M k=some l0∧c∈aI l0)∨w.heap.size<=c:=fun c hc=>.inr (by simp[aI]at hc;omega);refine⟨h.upd k _ _ (fun j hj=>?_) (fun l0 h0=>by rw[hk]at h0;cases h0) fZ fP (by simp) ?_,Ext.upd k _ _ [] (.inr ⟨hc,hk,rfl⟩) hle fZ fP (by simp) rfl rfl rfl⟩
 .rcases hj with hj|⟨a,b⟩
  .exact .inl hj
  .right;unfold lX at b;split at b
   .assumption
   .simp[a]at b
 .refine⟨hn,fun q hq=>?_,fun _=>⟨_,rfl,rfl⟩,by simp⟩;simp at hq;subst hq;exact⟨⟨arr,ty,(0,0),heap_alloc_new w _,rfl,fun _=>rfl,fun _ i c v _ a b=>(hx i c v a (by simpa using b)).mono hle.h⟩,by simpa using hl,a1b _,fun _=>rfl⟩
theorem a4D{M:Mp}{env:List (Nat×EV)}{a:Act}(hE:jR M env a.tmps){x:Operand}{e:EV}(h:Ir env x=some e):ER M e (a.eval x):=by
 cases x with
 |tmp t=>exact hE t e h
 |const v=>
  simp only[Ir,a0e]at h;obtain⟨t,h1,rfl⟩:=h;exact .val (.yC h1)
 |func f=>
  simp only[Ir,a05]at h;subst h;exact .val (VR.fn (xs:=[]) (ys:=[]) rfl (by simp) rfl (by simp))
 |global g=>simp[Ir]at h
theorem YD{M:Mp}{env:List (Nat×EV)}{a:Act}(hE:jR M env a.tmps){x:Operand}{v:TV}(h:qM env x=some v):VR M.h v (a.eval x):=by
 unfold qM at h;split at h
 .rename_i v' he;simp at h;subst h;exact(a4D hE he).vG
 simp at h
structure PR(N:Np)(ps:List (Nat×TV))(qs:List (Nat×Value)):Prop where
 len:ps.length=qs.length
 at_:∀(i:Nat) (p:Nat×TV) (q:Nat×Value),ps[i]? = some p->qs[i]? = some q->p.1=q.1∧VR N p.2 q.2
theorem PR.nil{N:Np}:PR N [] []:=⟨rfl,by simp⟩
theorem PR.cons{N:Np}{i:Nat}{v:TV}{x:Value}{ps:List (Nat×TV)}{qs:List (Nat×Value)}(h:VR N v x)(hs:PR N ps qs):PR N ((i,v)::ps) ((i,x)::qs):=
 ⟨by simp[hs.len],fun j p q a b=>by
  cases j with
  |zero=>simp at a b;subst a;subst b;exact⟨rfl,h⟩
  |succ j=>simp at a b;exact hs.at_ j p q a b⟩
theorem PR.iK{N:Np}{i:Nat}{v:TV}{ps:List (Nat×TV)}{qs:List (Nat×Value)}(h:PR N ((i,v)::ps) qs):∃x qs',qs=(i,x)::qs'∧VR N v x∧PR N ps qs':=by
 cases qs with
 |nil=>have:=h.len;simp at this
 |cons q qs'=>
  have h0:=h.at_ 0 (i,v) q rfl rfl;obtain⟨j,x⟩:=q;obtain⟨h1,h2⟩:=h0;simp only at h1;subst h1;exact⟨x,qs',rfl,h2,⟨by have:=h.len;simpa using this,fun j p q a b=>h.at_ (j+1) p q (by simpa using a) (by simpa using b)⟩⟩
theorem PR.qc{N:Np}{qs:List (Nat×Value)}(h:PR N [] qs):qs=[]:=by
 have:=h.len;simp at this;exact a4g this.symm
def ahd(P:Program)(c:Sem Next)(w:World)(x:Value)(w':World):Prop:=
 c.run P w=.ok (.value x) w'∨(x=Go.undef∧c.run P w=.ok .skip w')
def Gn(P:Program)(M:Mp)(D:Key->Prop)(C:Ct)(w:World)(c:Sem Next)(v:EV)(C1:Ct)(ws:List Key):Prop:=
 ∃x w' M',ahd P c w x w'∧Nq M D C w v C1 ws x w' M'
section
variable {P:Program} {M:Mp} {D:Key->Prop} {w:World} {s:St}
theorem Gn.same{C:Ct}{c:Sem Next}{v:EV}{x:Value}(hV:Valid M D C w)(hr:c.run P w=.ok (.value x) w)(he:ER M v x):Gn P M D C w c v C []:=
 ⟨x,w,M,.inl hr,.same hV he⟩
theorem qR{k:Key}{l:Lc}(hk:M k=none):∀j l',M (.l j)=some l'->dL M k l (.l j)=some l':=by
 intro j l' h;unfold dL;rw[a0o (fun e=>by rw[<-e,h]at hk;cases hk)];exact h
theorem a4E(hV:Valid M D s.get w)(yO:M (.h s.heap.length)=none)(hnl:M (.l s.loc.length)=none)(site:Bool){cs:List TV}{xs:Array Value}(ty:TypeId)
  (hx:bU M.h cs xs.toList) (hn:∀c∈cs,iR c=true) {v:EV} {s1:St} (h:qN site s cs=(v,s1)) :
  ∃M',Nq M D s.get w v s1.get [] (.pointer (some ⟨w.heap.size,0,none⟩)) (w.alloc (.cells xs ty)) M':=by
 have hlen:cs.length<=xs.size:=by have:=hx.len;simpa using agF this
 have JW:∀(i:Nat) (c:TV) (v:Value),cs[i]? = some c->xs[i]? = some v->VR M.h c v:=fun i c v a b=>hx.at_ i c v a (by simpa using b);unfold qN at h;cases site with
 |true=>
  simp only[a2w,a0t]at h;obtain⟨rfl,rfl⟩:=h;have hc:s.get (.h s.heap.length)=none:=by simp[St.get]
  have:=Nv hV ty yO hc hlen JW hn;refine⟨dL M (.h s.heap.length) (.cells [⟨w.heap.size,0,cs.length,xs.size⟩]),⟨?_,?_,?_,qR yO⟩⟩
  .rw[ku];exact this.1
  .rw[ku];exact this.2
  .exact .val (VR.ptr (p:=⟨w.heap.size,0,cs.length,xs.size⟩) (ls:=[⟨w.heap.size,0,cs.length,xs.size⟩]) (by simp[Mp.h,dL]) (by simp) (a1b _) (by simpa using hlen))
 |false=>
  simp only[a2P,a3T,a0t]at h;obtain⟨rfl,rfl⟩:=h;have hc:s.get (.l s.loc.length)=none:=by simp[St.get]
  have:=Nv hV ty hnl hc hlen JW hn;refine⟨dL M (.l s.loc.length) (.cells [⟨w.heap.size,0,cs.length,xs.size⟩]),⟨?_,?_,?_,qR hnl⟩⟩
  .rw[QG];exact this.1
  .rw[QG];exact this.2
  .exact ER.loc (p:=⟨w.heap.size,0,cs.length,xs.size⟩) (by simp[dL]) rfl
theorem a0i{x:Value}{c:TV}(h:TV.ofC x=some c):iR c=true:=by
 unfold TV.ofC at h;split at h<;>simp at h<;>subst h<;>rfl
theorem VH:∀{xs:List Value} {cs:List TV},TV.BP xs=some cs->∀c∈cs,iR c=true
 | [],cs,h=>by simp[TV.BP]at h;subst h;simp
 |x::xs,cs,h=>by
  simp only[TV.BP]at h;split at h
  .rename_i v vs h1 h2;simp at h;subst h;intro c hc;rcases a2y.1 hc with rfl|hc
   .exact a0i h1
   exact VH h2 c hc
  simp at h
theorem a2k{x:Value}{v:TV}(h:TV.Vu x=some v):∀c∈v.cells,iR c=true:=by
 unfold TV.Vu at h;split at h
 .simp only[a0e]at h;obtain⟨vs,h1,rfl⟩:=h;exact VH h1
 have h1:=a0i h;cases v<;>simp[iR]at h1<;>simp[TV.cells,iR]
theorem wC{t:TypeId}{z:List TV}(h:JL P t=some z):∃i x v,P.info? t=some i∧i.zero=some x∧TV.Vu x=some v∧z=v.cells∧(∀c∈z,iR c=true) ∧
  (∀N:Np,bU N z x.cells.toList)∧∀w,(zeroValue t).run P w=.ok x w:=by
 unfold JL at h;split at h
 .rename_i i hi;split at h
  .rename_i x hx;simp only[a0e]at h;obtain⟨v,h1,rfl⟩:=h;exact⟨i,x,v,hi,hx,h1,rfl,a2k h1,fun N=>(VR.yC h1).cells,fun w=>by simp[zeroValue,iT hi,hx]⟩
  .simp at h
 .simp at h
theorem YE(vs:List Value):∀(k off:Nat) (arr:Array Value),off+k+vs.length<=arr.size ->
  ((vs.zipIdx k).foldl (fun(cs:Array Value) (c:Value×Nat)=>cs.setIfInBounds (off+c.2) c.1) arr).toList=arr.toList.take (off+k)++vs++arr.toList.drop (off+k+vs.length):=by
 induction vs with
 |nil=>intro k off arr h;simp
 |cons v vs ih=>
  intro k off arr h;simp only[a4i]at h;simp only[List.zipIdx_cons,adr];rw[ih (k+1) off _ (by simp;omega)];have e:=list_seg_step arr.toList (off+k) v vs (by simp;omega);simpa[Array.toList_setIfInBounds,a9T]using e
theorem Lu{N:Np}{place place':Nat->Option (Nat×Nat)}(hp:∀i x,place i=some x->place' i=some x):∀{ps:List (Nat×TV)} {qs:List (Nat×Value)} {cs r:List TV} {arr:Array Value},rY place cs ps=some r->PR N ps qs ->
  bU N cs arr.toList->∃uN,Instr.fill place' arr qs=some uN∧bU N r uN.toList
 | [],qs,cs,r,arr,h,hq,hc=>by
  have:=hq.qc;subst this;simp[rY]at h;subst h;exact⟨arr,rfl,hc⟩
 |(i,v)::ps,qs,cs,r,arr,h,hq,hc=>by
  obtain⟨x,qs',rfl,hx,hq'⟩:=hq.iK;simp only[rY]at h;split at h
  .rename_i off size Gg;split at h
   .rename_i uX;split at h
    .rename_i cs' ho;obtain⟨o1,o2,o3⟩:=vS ho;have hxc:=hx.cells;have hl1:=hxc.len;have QH:=hc.len;simp only[a9I]at hl1 QH;have e:(x.cells.zipIdx.foldl (fun(cs:Array Value) (c:Value×Nat)=>cs.setIfInBounds (off+c.2) c.1) arr).toList=arr.toList.take off++x.cells.toList++arr.toList.drop (off+x.cells.toList.length):=by
      rw[<-Array.foldl_toList,Array.toList_zipIdx];have:=YE x.cells.toList 0 off arr (by simp;omega);simpa using this
     have Vw:bU N cs' (x.cells.zipIdx.foldl (fun(cs:Array Value) (c:Value×Nat)=>cs.setIfInBounds (off+c.2) c.1) arr).toList:=by
      have hlx:x.cells.toList.length=v.cells.length:=(by simp[hl1]);rw[e,o2,hlx];exact((hc.take off).append hxc).append (hc.drop _)
     obtain⟨uN,g1,g2⟩:=Lu hp h hq' Vw;refine⟨uN,?_,g2⟩;simp only[Instr.fill,hp i _ Gg];rw[a0o (by simp;omega)];exact g1
    .simp at h
   .simp at h
  .simp at h
theorem Nw{w:World}:∀(fs:List Field),BQ P fs=true->(fs.mapM (fun f=>Functor.map (Prod.mk f.offset) (Go.sizeOf f.type):Field->Sem (Nat×Nat))).run P w=.ok (fs.map fun f=>(f.offset,(dD P f.type).getD 0)) w
 | [],_=>by simp
 |f::fs,h=>by
  simp only[BQ,abP,a2o]at h;obtain⟨n,hn⟩:=a5y.1 h.1;have ih:=Nw (w:=w) fs (by simpa[BQ]using h.2);simp only[List.mapM_cons,Sem.run_bind,Sem.run_map,cO hn,Result.andThen_ok,Sem.run_pure,ih,a4k,hn,a5e]
theorem a4G{N:Np}{t:TypeId}{ps:List (Nat×TV)}{qs:List (Nat×Value)}{v:TV}(h:N8 P t ps=some v)(hq:PR N ps qs) :
  ∃x,VR N v x∧∀w,(Instr.build t qs.toArray).run P w=.ok x w:=by
 unfold N8 at h;split at h
 .rename_i z fs hz hu;split at h
  .rename_i ha;simp only[a0e]at h;obtain⟨r,hr,rfl⟩:=h;obtain⟨i,x,v,_,_,_,_,_,hvr,hzr⟩:=wC hz;obtain⟨uN,g1,g2⟩:=Lu (place':=fun i=>(fs.map fun f=>(f.offset,(dD P f.type).getD 0))[i]?) (fun i x hx=>by
    unfold TJ at hx;split at hx
    .rename_i f hf;simp only[a0e]at hx;obtain⟨n,hn,rfl⟩:=hx;simp[hf,hn]
    .simp at hx) hr hq (hvr N)
   refine⟨_,.agg' g2,fun w=>?_⟩;have hm:(fs.mapM (fun f=>Functor.map (Prod.mk f.offset) (Go.sizeOf f.type):Field->Sem (Nat×Nat))).run P w=.ok (fs.map fun f=>(f.offset,(dD P f.type).getD 0)) w:=by
    rw[Array.mapM_eq_mapM_toList,Sem.run_map,Nw fs.toList ha];simp only[Result.andThen_ok];congr 1;apply adG;simp
   simp only[Array.getElem?_map]at g1;simp[Instr.build,hzr w,run_underlying hu,hm,g1]
  .simp at h
 .rename_i z n e hz hu;split at h
  .rename_i n hn;simp only[a0e]at h;obtain⟨r,hr,rfl⟩:=h;obtain⟨i,x,v,_,_,_,_,_,hvr,hzr⟩:=wC hz;obtain⟨uN,g1,g2⟩:=Lu (place':=fun i=>some (i*n,n)) (fun i x hx=>hx) hr hq (hvr N);exact⟨_,.agg' g2,fun w=>by simp[Instr.build,hzr w,run_underlying hu,cO hn,g1]⟩
  .simp at h
 .simp at h
end
section
variable {P:Program} {M:Mp} {D:Key->Prop} {w:World} {s:St}
theorem VI{t:TypeId}{cs:List TV}{off:Nat}{v:TV}(h:uh P t cs off=some v):∃n,dD P t=some n∧off+n<=cs.length:=by
 unfold uh at h;split at h
 .rename_i n _ hn;simp only[a0e]at h;obtain⟨r,hr,_⟩:=h;exact⟨n,hn,(um hr).1⟩
 .rename_i n _ hn;split at h
  .rename_i h1;subst h1;exact⟨1,hn,(a0c.1 h).1⟩
  simp at h
 simp at h
theorem a0k{N:Np}{t:TypeId}{cs:List TV}{off:Nat}{v:TV}{xs:List Value}(h:uh P t cs off=some v)(hx:bU N cs xs) :
  ∃x,VR N v x∧(Go.part t xs.toArray off).run P w=.ok x w:=by
 unfold uh at h;split at h
 .rename_i n ha hn;simp only[a0e]at h;obtain⟨r,hr,rfl⟩:=h;obtain⟨s1,s2,s3⟩:=um hr;have hl:=hx.len;refine⟨.agg ((xs.drop off).take n).toArray,.agg' (by rw[s2];exact(hx.drop off).take n),?_⟩;simp[Go.part,zV ha,cO hn]
 .rename_i n ha hn;split at h
  .obtain⟨x,h1,h2⟩:=hx.get h;exact⟨x,h2,by simp[Go.part,zV ha,h1]⟩
  .simp at h
 .simp at h
theorem Gp{t:TypeId}{e:EV}{v:TV}{i:mg}{x:Value}(hV:Valid M D s.get w)(h:loadT P t s e=some (v,i))(hx:ER M e x)(hD:∀k∈i.ts,D k) :
  i.ws=[]∧∃y,VR M.h v y∧(Instr.loadAt t x).run P w=.ok y w:=by
 unfold loadT at h;split at h
 .rename_i k off;split at h
  .rename_i cs hk;simp only[a0e,a0t]at h;obtain⟨v',hv,rfl,rfl⟩:=h;cases hx with
   |loc hm hb=>
    rename_i p;have hg:s.get (.l k)=some (.cells .own cs):=(by simp[St.get,hk]);have hd:=hD (.l k) (by simp[xq]);obtain⟨b,h1,h2⟩:=hV.ok _ _ hm hd;rw[hg]at h1;cases h1;obtain⟨_,h3,h4,_⟩:=h2;obtain⟨q,hq,he⟩:=h4 rfl;simp at hq;subst hq;obtain⟨n,hn,hle⟩:=VI hv;obtain⟨y,g1,g2⟩:=JQ (P:=P) (h3 p (by simp)) hn hv (by omega) (fun e=>by cases e);rw[hb,a4e]at g2;exact⟨rfl,y,g1,by simp[Instr.loadAt,Instr.sureAddr,g2]⟩
  .simp at h
 .rename_i b off lim;split at h
  .rename_i cs n hb hn;split at h
   .rename_i KW;simp only[a0e,a0t]at h;obtain⟨v',hv,rfl,rfl⟩:=h;cases hx with
    |val hx=>
     cases hx with
     |ptr hm hp hl ht=>
      rename_i ls p;obtain⟨k,hk,VJ⟩:=xQ hb;have hd:=hD (.h b) (by simp[xq]);obtain⟨fU,h1,h2⟩:=hV.ok _ _ hm hd;simp only[St.get,hk,a05]at h1;subst h1;obtain⟨_,h3,_⟩:=h2;obtain⟨y,g1,g2⟩:=JQ (P:=P) (h3 p hp) hn hv (by omega) (fun e=>by have:=VJ e;have:=(h3 p hp).ext;omega);exact⟨rfl,y,g1,by simp[Instr.loadAt,Instr.sureAddr,g2]⟩
   .simp at h
  .simp at h
 .simp at h
theorem LC{l:List TV}(h:l.all iR=true):∀c∈l,iR c=true:=by simpa using h
theorem YF{t:TypeId}{e:EV}{v:TV}{i:mg}{x y:Value}{s1:St}(hV:Valid M D s.get w)(h:storeT P t s e v=some (s1,i))(hx:ER M e x)(hy:VR M.h v y)(hD:∀k∈i.ts,D k) :
  s1.env=s.env∧∃w',(Instr.storeAt t x y).run P w=.ok () w'∧Valid M D s1.get w'∧Ext M s.get w M s1.get w' i.ws∧∀k,s.get k=none->s1.get k=none:=by
 unfold storeT at h;split at h
 case h_2=>simp at h
 rename_i n hn;split at h
 case isFalse=>simp at h
 rename_i hc;obtain⟨hlen,Fa⟩:=hc;have hyc:=hy.cells;have hyl:y.cells.size=n:=by have:=hyc.len;simp at this;omega
 split at h
 .rename_i k off;split at h
  .rename_i cs hk;simp only[a0e,a0t]at h;obtain⟨cs',ho,rfl,rfl⟩:=h;cases hx with
   |loc hm hb=>
    rename_i p;have hg:s.get (.l k)=some (.cells .own cs):=(by simp[St.get,hk]);obtain⟨w',r1,r2,r3⟩:=yN (P:=P) hV hm (hD _ (by simp[pz])) hg (a2U.2 rfl) (.inl ⟨rfl,rfl⟩) ho hyc (LC Fa);have JX:=(a0c.1 hk).1;refine⟨rfl,w',?_,?_,?_,?_⟩
    .rw[hb,a4e]at r1;simp[Instr.storeAt,Instr.sureAddr,storeVar,cO hn,hyl,r1]
    .rw[Nr s k cs' JX];exact r2
    .rw[Nr s k cs' JX];exact r3
    .rw[Nr s k cs' JX];exact DU (by simp[hg])
  .simp at h
 .rename_i b off lim;split at h
  .rename_i KW;simp only[a0e,a0t]at h;obtain⟨h',hs,rfl,rfl⟩:=h;cases hx with
   |val hx=>
    cases hx with
    |ptr hm hp hl ht=>
     rename_i ls p;obtain⟨kk,Bg,cs,cs',hb,xR,ho,rfl⟩:=IG hs;have hg:s.get (.h b)=some (.cells kk cs):=(by simp[St.get,hb]);obtain⟨w',r1,r2,r3⟩:=yN (P:=P) hV hm (hD _ (by simp[pz])) hg hp (hV.YB hm (hD _ (by simp[pz])) hg hp hl xR) ho hyc (LC Fa);have JX:=(a0c.1 hb).1;refine⟨rfl,w',?_,?_,?_,?_⟩
     .simp[Instr.storeAt,Instr.sureAddr,storeVar,cO hn,hyl,r1]
     .rw[jy s b _ JX];exact r2
     .rw[jy s b _ JX];exact r3
     .rw[jy s b _ JX];exact DU (by simp[hg])
  .simp at h
 .simp at h
theorem Gq{n:Nat}{v:TV}{j:Nat}{N:Np}{x:Value}(h:idx n v=some j)(hx:VR N v x):∃k i,x=.int k i∧0<=i∧i<n∧j=i.toNat∧j<n:=by
 unfold idx at h;split at h
 .rename_i k i;split at h
  .rename_i hc;simp at h;subst h;cases hx;exact⟨k,i,rfl,hc.1,hc.2,rfl,by omega⟩
  simp at h
 simp at h
theorem Ny{o:Nat}{e e':EV}{x:Value}(h:Qc o e=some e')(hx:ER M e x):∃a,x=.pointer (some a)∧ER M e' (.pointer (some (a.add o))):=by
 unfold Qc at h;split at h
 .simp at h;subst h;cases hx with
  |loc hm hb=>exact⟨_,rfl,by rw[uj];exact .loc hm hb⟩
 .rename_i b off lim;split at h
  .rename_i hl;simp at h;subst h;cases hx with
   |val hx=>
    cases hx with
    |ptr hm hp hl ht=>exact⟨_,rfl,by rw[uj,a9T];exact .val (.ptr hm hp hl ht)⟩
  simp at h
 simp at h
theorem TR{t:TypeId}{f n:Nat}{e e':EV}{x:Value}(h1:Gi P t f=some n)(h:Qc n e=some e')(hx:ER M e x) :
  ∃y,ER M e' y∧(Instr.fieldAt t x f).run P w=.ok y w:=by
 obtain⟨a,rfl,he⟩:=Ny h hx;unfold Gi at h1;split at h1
 .rename_i fs hu;split at h1
  .rename_i fd hf;split at h1
   .rename_i m hm;split at h1
    .simp at h1
    .rename_i hz;simp at h1;subst h1;refine⟨_,he,?_⟩;simp[Instr.fieldAt,run_underlying hu,hf,Instr.sureAddr,fieldPlace,cO hm,hz]
   .simp at h1
  .simp at h1
 .simp at h1
theorem Nz{N:Np}{t:TypeId}{f:Nat}{v v':TV}{x:Value}(h:N9 P t v f=some v')(hx:VR N v x) :
  ∃y,VR N v' y∧(Instr.field t x f).run P w=.ok y w:=by
 unfold N9 at h;split at h
 .rename_i fs cs hu;split at h
  .rename_i fd hf;cases hx with
   |agg g1 g2=>
    obtain⟨y,r1,r2⟩:=a0k (P:=P) (w:=w) h ⟨g1,g2⟩;exact⟨y,r1,by simp[Instr.field,run_underlying hu,hf,asAgg,r2]⟩
  .simp at h
 .simp at h
theorem zW{t:TypeId}{e e':EV}{v:TV}{x y:Value}(h:mF P t e v=some e')(hx:ER M e x)(hy:VR M.h v y) :
  ∃z,ER M e' z∧(Instr.indexAt t x y).run P w=.ok z w:=by
 unfold mF at h;split at h
 .rename_i el hu;split at h
  .rename_i n b off len cap sz ex hn;split at h
   .rename_i uX;simp only[a0e]at h;obtain⟨j,hj,rfl⟩:=h;subst uX;obtain⟨k,i,rfl,h0,h1,rfl,h2⟩:=Gq hj hy;cases hx with
    |val hx=>
     cases hx with
     |slc hb hp hl hle hc hex ha hk=>
      rename_i ls p a cap';rcases ha with ha|⟨rfl,ha⟩
      .omega
      .have hmul:i.toNat*n+n<=len*n:=by
        have:=a3X n (show i.toNat+1<=len by omega)
        rwa [a3E,abB]at this
       have abz:cap*n<=cap'*n:=a3X n (by omega);have hp:=hp.resolve_left (by omega);refine⟨_,.val (.ptr hb hp (lim:=off+cap*n) (off:=off+i.toNat*n) (by omega) (by omega)),?_⟩;simp[Instr.indexAt,asIntOf,run_underlying hu,h0,h1,cO hn,uj,a9T]
   .simp at h
  .simp at h
 .rename_i len el hu;split at h
  .rename_i n hn;split at h
   .rename_i j hj;obtain⟨k,i,rfl,h0,h1,rfl,h2⟩:=Gq hj hy;obtain⟨a,rfl,he⟩:=Ny h hx;refine⟨_,he,?_⟩;simp[Instr.indexAt,asIntOf,run_underlying hu,Instr.sureAddr,h0,h1,cO hn]
   .simp at h
  .simp at h
 .simp at h
theorem NC{N:Np}{t:TypeId}{v u r:TV}{x y:Value}(h:Iz P t v u=some r)(hx:VR N v x)(hy:VR N u y) :
  ∃z,VR N r z∧(Instr.index t x y).run P w=.ok z w:=by
 unfold Iz at h;split at h
 .rename_i len el cs hu;split at h
  .rename_i n j hn hj;obtain⟨k,i,rfl,h0,h1,rfl,h2⟩:=Gq hj hy;cases hx with
   |agg g1 g2=>
    obtain⟨z,r1,r2⟩:=a0k (P:=P) (w:=w) h ⟨g1,g2⟩;exact⟨z,r1,by simp[Instr.index,asIntOf,run_underlying hu,h0,h1,cO hn,r2]⟩
  .simp at h
 .rename_i bs hu;split at h
  .rename_i j hj;obtain⟨k,i,rfl,h0,h1,rfl,h2⟩:=Gq hj hy;simp only[a0e]at h;obtain⟨b,hb,rfl⟩:=h;cases hx;exact⟨_,.int _ _,by simp[Instr.index,asIntOf,run_underlying hu,h0,hb]⟩
  .simp at h
 .simp at h
end
section
variable {P:Program} {M:Mp} {D:Key->Prop} {w:World} {s:St}
theorem a0l{N:Np}:∀{az:List TV} {xs ys:List Value},BA az=some xs->bU N az ys->ys=xs
 | [],xs,ys,h,hy=>by simp[BA]at h;subst h;exact hy.qc
 |c::az,xs,ys,h,hy=>by
  simp only[BA]at h;split at h
  .rename_i v vs h1 h2;simp at h;subst h;obtain⟨u,us,rfl,hu,hus⟩:=hy.iK;rw[wu h1 hu,a0l h2 hus]
  simp at h
def Gs:NK->Value->Prop
 |.ptr,x=>x=.pointer none
 |.slc,x=>x=.slice none 0 0
 |.map,x=>x=.map none
 |.fn,x=>x=.nilFunc
 |.ifc,x=>x=.nilIface
def yE:NK->Value->Prop
 |.ptr,x=>∃a,x=.pointer (some a)
 |.slc,x=>∃a l c,x=.slice (some a) l c
 |.map,x=>∃r,x=.map (some r)
 |.fn,x=>∃f a c,x=.func f a c
 |.ifc,_=>False
theorem a0m{N:Np}{v:TV}{k:NK}{x:Value}(h:Yy v=some k)(hx:VR N v x):Gs k x:=by
 cases hx<;>simp[Yy]at h<;>subst h<;>rfl
theorem VK{N:Np}{v:TV}{k:NK}{x:Value}(h:JM v=some k)(hx:VR N v x):yE k x:=by
 cases hx<;>simp[JM]at h<;>subst h<;>simp[yE]
theorem a4I{t:TypeId}{k:NK}(h:JO P t=some k):match k with
  |.ptr=>∃e,P.underlying t=some (.pointer e)
  |.slc=>∃e,P.underlying t=some (.slice e)
  |.map=>∃e f,P.underlying t=some (.map e f)
  |.fn=>∃e f g,P.underlying t=some (.func e f g)
  |.ifc=>False:=by
 unfold JO at h;split at h<;>simp at h<;>subst h<;>simp_all
theorem a2m{t:TypeId}{k:NK}{x y:Value}(h:JO P t=some k)(hxy:(Gs k x∧yE k y)∨(yE k x∧Gs k y))(d:Nat) :
  (Op.equalIn (d+1) t x y).run P w=.ok false w:=by
 have hk:=a4I h;cases k with
 |ptr=>
  obtain⟨e,hu⟩:=hk;rcases hxy with⟨hx,a,rfl⟩|⟨⟨a,rfl⟩,hy⟩
  .cases hx;simp[Op.equalIn,run_underlying hu]
  .cases hy;simp[Op.equalIn,run_underlying hu]
 |slc=>
  obtain⟨e,hu⟩:=hk;rcases hxy with⟨hx,a,l,c,rfl⟩|⟨⟨a,l,c,rfl⟩,hy⟩
  .cases hx;simp[Op.equalIn,run_underlying hu]
  .cases hy;simp[Op.equalIn,run_underlying hu]
 |map=>
  obtain⟨e,f,hu⟩:=hk;rcases hxy with⟨hx,a,rfl⟩|⟨⟨a,rfl⟩,hy⟩
  .cases hx;simp[Op.equalIn,run_underlying hu]
  .cases hy;simp[Op.equalIn,run_underlying hu]
 |fn=>
  obtain⟨e,f,g,hu⟩:=hk;rcases hxy with⟨hx,a,b,c,rfl⟩|⟨⟨a,b,c,rfl⟩,hy⟩
  .cases hx;simp[Op.equalIn,run_underlying hu]
  .cases hy;simp[Op.equalIn,run_underlying hu]
 |ifc=>exact hk.elim
theorem a0n{t:TypeId}{k:NK}{ox oy:Operand}{x y:Value}(h:JO P t=some k)(hxy:(Gs k x∧yE k y)∨(yE k x∧Gs k y))(b:Bool)(op:BinOp)(hb:(op=.eql∧b=false)∨(op=.neq∧b=true)) :
  (do eqGuard op t ox oy x y;binOp op t x y:Sem Value).run P w=.ok (.bool b) w:=by
 have he:(Op.equal t x y).run P w=.ok false w:=a2m h hxy 9999;have hg:(eqGuard op t ox oy x y).run P w=.ok () w:=by
  cases k<;>rcases hxy with⟨hx,hy⟩|⟨hx,hy⟩<;>simp only[Gs,yE]at hx hy <;>
   (first|(exact hy.elim)|(exact hx.elim)|skip)<;>(try obtain⟨_,rfl⟩:=hx)<;>(try obtain⟨_,rfl⟩:=hy)<;>(try obtain⟨_,_,rfl⟩:=hx)<;>(try obtain⟨_,_,rfl⟩:=hy)<;>(try subst hx)<;>(try subst hy) <;>
   (try obtain⟨_,_,_,rfl⟩:=hx)<;>(try obtain⟨_,_,_,rfl⟩:=hy)<;>rcases hb with⟨rfl,rfl⟩|⟨rfl,rfl⟩<;>simp[eqGuard]
 have Qg:(binOp op t x y).run P w=.ok (.bool b) w:=by
  cases k<;>rcases hxy with⟨hx,hy⟩|⟨hx,hy⟩<;>simp only[Gs,yE]at hx hy <;>
   (first|(exact hy.elim)|(exact hx.elim)|skip)<;>(try obtain⟨_,rfl⟩:=hx)<;>(try obtain⟨_,rfl⟩:=hy)<;>(try obtain⟨_,_,rfl⟩:=hx)<;>(try obtain⟨_,_,rfl⟩:=hy)<;>(try subst hx)<;>(try subst hy) <;>
   (try obtain⟨_,_,_,rfl⟩:=hx)<;>(try obtain⟨_,_,_,rfl⟩:=hy)<;>rcases hb with⟨rfl,rfl⟩|⟨rfl,rfl⟩<;>simp only[binOp,Sem.run_bind,he,Result.andThen_ok,Sem.run_pure,abw]
 simp only[Sem.run_bind,hg,Result.andThen_ok,Qg]
theorem YG{N:Np}{op:BinOp}{t:TypeId}{ox oy:Operand}{a b r:TV}{x y:Value}(h:sF P op t ox oy a b=some r)(hx:VR N a x)(hy:VR N b y) :
  ∃z,VR N r z∧(do eqGuard op t ox oy x y;binOp op t x y:Sem Value).run P w=.ok z w:=by
 unfold sF at h;split at h
 .rename_i u v hu hv;split at h
  .rename_i z hz;have e1:=wu hu hx;have e2:=wu hv hy;subst e1;subst e2;exact⟨z,.yC h,iY hz w⟩
  .simp at h
 .split at h
  .rename_i hn;unfold BU at hn;split at hn
   case h_2=>simp at hn
   rename_i k hk;have hxy:(Gs k x∧yE k y)∨(yE k x∧Gs k y):=by
    simp only[a8X,a2o,a6H]at hn;rcases hn with⟨h1,h2⟩|⟨h1,h2⟩
    .exact .inl ⟨a0m h1 hx,VK h2 hy⟩
    .exact .inr ⟨VK h1 hx,a0m h2 hy⟩
   split at h
   .simp at h;subst h;exact⟨_,.bool false,a0n hk hxy false _ (.inl ⟨rfl,rfl⟩)⟩
   .simp at h;subst h;exact⟨_,.bool true,a0n hk hxy true _ (.inr ⟨rfl,rfl⟩)⟩
   .simp at h
  .simp at h
theorem iQ{N:Np}{op:UnOp}{a r:TV}{x:Value}(h:unT P op a=some r)(hx:VR N a x):∃z,VR N r z∧(Op.unary op x).run P w=.ok z w:=by
 unfold unT at h;split at h
 .rename_i u hu;split at h
  .rename_i z hz;have e1:=wu hu hx;subst e1;exact⟨z,.yC h,iY hz w⟩
  simp at h
 simp at h
theorem TT{N:Np}{t u:TypeId}{a r:TV}{x:Value}(h:QC P t u a=some r)(hx:VR N a x):∃z,VR N r z∧(convert t u x).run P w=.ok z w:=by
 unfold QC at h;split at h
 .rename_i u hu;split at h
  .rename_i z hz;have e1:=wu hu hx;subst e1;exact⟨z,.yC h,iY hz w⟩
  simp at h
 simp at h
theorem yP{N:Np}{mx:Bool}{at_:Array TypeId}{t:TypeId}{az:List TV}{r:TV}{xs:List Value}(h:DN P mx at_ t az=some r)(hx:bU N az xs) :
  ∃z,VR N r z∧(if mx then Builtin.max_ at_ t xs.toArray else Builtin.min_ at_ t xs.toArray).run P w=.ok z w:=by
 unfold DN at h;split at h
 .rename_i us hu;split at h
  .rename_i z hz;have e1:=a0l hu hx;subst e1;exact⟨z,.yC h,iY hz w⟩
  .simp at h
 .simp at h
theorem lq{n j:Nat}{v:TV}(h:qO n v=some j):j<=n:=by
 unfold qO at h;split at h
 .split at h
  .simp at h;omega
  simp at h
 simp at h
theorem sN{N:Np}{n j m:Nat}{v:TV}{x:Value}{code:BoundsCode}(h:qO n v=some j)(hx:VR N v x)(hm:j<=m) :
  (Instr.sliceBound x m code).run P w=.ok j w:=by
 unfold qO at h;split at h
 .rename_i k i;split at h
  .rename_i hc;simp at h;subst h;cases hx;have:i<=(m:Int):=(by omega);simp[Instr.sliceBound,asIntOf,hc.1,this]
  .simp at h
 .simp at h
inductive OR(N:Np):Option TV->Option Value->Prop
 |none:OR N none none
 |some {v:TV} {x:Value} (h:VR N v x):OR N (some v) (some x)
theorem xU{N:Np}{is:Bool}{len cap' n l0 hg:Nat}{lo hi:Option TV}{YH xE:Option Value}(hl:OR N lo YH)(hh:OR N hi xE)
  (h1:jw n len hi=some hg) (h2:jw hg 0 lo=some l0) (h3:hg<=cap'):(Instr.sliceBounds is len cap' YH xE none).run P w=.ok (l0,hg,cap') w:=by
 cases hh with
 |none=>
  simp only[jw,a05]at h1;subst h1;cases hl with
  |none=>simp only[jw,a05]at h2;subst h2;simp[Instr.sliceBounds]
  |some hv=>simp only[jw]at h2;simp[Instr.sliceBounds,sN (P:=P) (w:=w) h2 hv (lq h2)]
 |some hv'=>
  simp only[jw]at h1;cases hl with
  |none=>simp only[jw,a05]at h2;subst h2;simp[Instr.sliceBounds,sN (P:=P) (w:=w) h1 hv' h3]
  |some hv=>simp only[jw]at h2;simp[Instr.sliceBounds,sN (P:=P) (w:=w) h1 hv' h3,sN (P:=P) (w:=w) h2 hv (lq h2)]
theorem Fb{N:Np}{is:Bool}{len cap' n k l0 hg m:Nat}{lo:Option TV}{hi mx:TV}{YH:Option Value}{xE mx':Value}(hl:OR N lo YH)(hh:VR N hi xE)(hm:VR N mx mx')
  (h0:qO k mx=some m) (h1:qO n hi=some hg) (h2:jw hg 0 lo=some l0) (h3:hg<=m) (h4:m<=cap'):(Instr.sliceBounds is len cap' YH (some xE) (some mx')).run P w=.ok (l0,hg,m) w:=by
 have r1:=fun code=>sN (P:=P) (w:=w) (code:=code) h0 hm h4;have r2:=fun code=>sN (P:=P) (w:=w) (code:=code) h1 hh h3;cases hl with
 |none=>simp only[jw,a05]at h2;subst h2;simp[Instr.sliceBounds,r1,r2]
 |some hv=>simp only[jw]at h2;simp[Instr.sliceBounds,r1,r2,sN (P:=P) (w:=w) h2 hv (lq h2)]
theorem ND{N:Np}{t:TypeId}{v r:TV}{lo hi mx:Option TV}{x:Value}{YH xE mx':Option Value}(h:qP P t v lo hi mx=some r)(hx:VR N v x)
  (hl:OR N lo YH) (hh:OR N hi xE) (hm:OR N mx mx'):∃z,VR N r z∧(Instr.sliceAt t x YH xE mx').run P w=.ok z w:=by
 unfold qP at h;split at h
 .-- strings
  rename_i bs hu;split at h
  .simp at h
  .cases hm;split at h
   .rename_i h0 QI;split at h
    .rename_i l0 qL;simp at h;subst h;cases hx;refine⟨_,.str _,?_⟩;have hle:h0<=bs.size:=by
      cases hi with
      |none=>simp only[jw,a05]at QI;omega
      |some v=>simp only[jw]at QI;exact lq QI
     have e1:=xU (P:=P) (w:=w) (is:=false) (cap':=bs.size) hl hh QI qL hle;simp[Instr.sliceAt,Instr.slice,run_underlying hu,e1]
    .simp at h
   .simp at h
 .-- slices
  rename_i e b off len cap sz ex hu;split at h
  .rename_i n hn;split at h
   case isFalse=>simp at h
   rename_i uX;subst uX;cases hx with
   |slc hb hp Fe hle wE hex ha hk=>
    rename_i ls p a cap';have fin:∀(l hgh m:Nat) (ex':Bool),l<=hgh->hgh<=len->hgh<=m->m<=cap'->(m':Nat)->m'<=m->m'<=cap->hgh<=m'->(ex'=true->m=m') ->
      VR N (.slc b (off+l*n) (hgh-l) (m'-l) n ex') (.slice (if m=l then some a else(some a).map (·.add (l*n))) (hgh-l) (m-l)):=by
     intro l hgh m ex' h1 h2 h3 h4 m' h5 h5' h6 h7;have hmul:l*n+(hgh-l)*n=hgh*n:=by rw[<-a3E];congr 1;omega
     have abz:m'*n<=cap*n:=a3X n h5';have aqT:l*n+(m'-l)*n=m'*n:=by rw[<-a3E];congr 1;omega
     have Bh:(if m=l then some a else(some a).map (·.add (l*n)))=some (if m=l then a else a.add (l*n)):=by split<;>rfl
     rw[Bh];refine .slc hb (hp.imp (fun e=>by omega) id) (by omega) (by omega) (by omega) (fun e=>by have:=h7 e;omega) ?_ (by omega);by_cases hml:m=l
     .left;omega
     .right;rcases ha with ha|⟨rfl,ha⟩
      .omega
      .rw[a0o hml,uj];have aqU:l*n+(m-l)*n=m*n:=by rw[<-a3E];congr 1;omega
       have aqV:m*n<=cap'*n:=a3X n h4;exact⟨by rw[a9T],by omega⟩
    split at h
    .rename_i m0;cases hm with
     |some Qh=>
      split at h
      .rename_i m h0 hm1;split at h
       .rename_i hg hh1;split at h
        .rename_i l0 qL;simp at h;subst h;cases hh with
         |some hhv=>
          have b1:=lq hm1;have b2:=lq hh1;have b3:l0<=hg:=by
           cases lo with
           |none=>simp only[jw,a05]at qL;omega
           |some v=>simp only[jw]at qL;exact lq qL
          have e1:=Fb (P:=P) (w:=w) (is:=true) (len:=len) (cap':=cap') hl hhv Qh hm1 hh1 qL (by omega) (by omega);exact⟨_,fin l0 hg m true b3 (by omega) (by omega) (by omega) m (by omega) (by omega) (by omega) (fun _=>rfl),by simp[Instr.sliceAt,Instr.slice,run_underlying hu,e1,cO hn]⟩
        .simp at h
       .simp at h
      .simp at h
    .cases hm;split at h
     .rename_i hg QI;split at h
      .rename_i l0 qL;simp at h;subst h;have hgl:hg<=len:=by
        cases hi with
        |none=>simp only[jw,a05]at QI;omega
        |some v=>simp only[jw]at QI;exact lq QI
       have hlg:l0<=hg:=by
        cases lo with
        |none=>simp only[jw,a05]at qL;omega
        |some v=>simp only[jw]at qL;exact lq qL
       refine⟨_,fin l0 hg cap' ex hlg hgl (by omega) (by omega) cap wE (by omega) (by omega) hex,?_⟩;have e1:=xU (P:=P) (w:=w) (is:=true) (cap':=cap') hl hh QI qL (by omega);simp[Instr.sliceAt,Instr.slice,run_underlying hu,e1,cO hn]
      .simp at h
     .simp at h
  .simp at h
 .-- nil
  rename_i e hu;split at h
  .rename_i x0 x1 x2 x3 hn QJ QI qL;split at h
   .simp at h
   .rename_i hg;simp at h;subst h;cases hx;refine⟨_,.TN,?_⟩;have z1:∀{o:Option TV} {k:Nat},jw 0 0 o=some k->k=0:=fun{o k} e=>by
     cases o with
     |none=>simp only[jw,a05]at e;omega
     |some v=>simp only[jw]at e;have:=lq e;omega
    have e2:=z1 QI;subst e2;have e3:=z1 qL;subst e3;have e1:(Instr.sliceBounds true 0 0 YH xE mx').run P w=.ok (0,0,0) w:=by
     cases hm with
     |none=>exact xU hl hh QI qL (by omega)
     |some Qh=>
      have e4:=z1 QJ;subst e4;cases hh with
      |none=>simp at hg
      |some hhv=>exact Fb hl hhv Qh QJ QI qL (by omega) (by omega)
    simp[Instr.sliceAt,Instr.slice,run_underlying hu,e1,cO hn]
  .simp at h
 .simp at h
theorem Ce{t:TypeId}{e:EV}{r:TV}{lo hi mx:Option TV}{x:Value}{YH xE mx':Option Value}(h:qC P t e lo hi mx=some r)(hx:ER M e x)
  (hl:OR M.h lo YH) (hh:OR M.h hi xE) (hm:OR M.h mx mx'):∃z,VR M.h r z∧(Instr.sliceAt t x YH xE mx').run P w=.ok z w:=by
 unfold qC at h;split at h
 .rename_i n el b off lim hu;split at h
  .rename_i size hn;split at h
   .simp at h
   .rename_i hc;cases hx with
    |val hx=>
    cases hx with
    |ptr hb hp Fe amN=>
    rename_i ls p;split at h
    .rename_i m QJ;split at h
     .rename_i hg QI;split at h
      .rename_i l0 qL;split at h
       .simp at h
       .rename_i hs;simp at h;subst h;have hmn:m<=n:=by
         cases mx with
         |none=>simp only[jw,a05]at QJ;omega
         |some v=>simp only[jw]at QJ;exact lq QJ
        have hgm:hg<=m:=by
         cases hi with
         |none=>
          cases mx with
          |some v=>simp at hs
          |none=>simp only[jw,a05]at QI QJ;omega
         |some v=>simp only[jw]at QI;exact lq QI
        have hlg:l0<=hg:=by
         cases lo with
         |none=>simp only[jw,a05]at qL;omega
         |some v=>simp only[jw]at qL;exact lq qL
        have e1:(Instr.sliceBounds false n n YH xE mx').run P w=.ok (l0,hg,m) w:=by
         cases hm with
         |none=>
          simp only[jw,a05]at QJ;subst QJ;exact xU hl hh QI qL (by omega)
         |some Qh=>
          cases hh with
          |none=>simp at hs
          |some hhv=>
           simp only[jw]at QJ QI;exact Fb hl hhv Qh QJ QI qL (by omega) hmn
        have m1:l0*size+(hg-l0)*size=hg*size:=by rw[<-a3E];congr 1;omega
        have m2:l0*size+(m-l0)*size=m*size:=by rw[<-a3E];congr 1;omega
        have m3:hg*size<=n*size:=a3X size (by omega);have m4:m*size<=n*size:=a3X size (by omega);refine⟨.slice (some (if m=l0 then(⟨p.c,p.base+off,none⟩:Addr)else(⟨p.c,p.base+off,none⟩:Addr).add (l0*size))) (hg-l0) (m-l0),?_,?_⟩
        .refine .slc hb (.inr hp) (by omega) (by omega) (by omega) (fun _=>rfl) ?_ (by omega);by_cases hml:m=l0
         .left;omega
         .right;rw[a0o hml,uj];exact⟨by rw[a9T],by omega⟩
        .simp[Instr.sliceAt,run_underlying hu,Instr.sureAddr,e1,cO hn]
      .simp at h
     .simp at h
    .simp at h
  .simp at h
 .simp at h
theorem oC(z:List TV):∀n,(times z n).length=n*z.length
 | 0=>by simp[times]
 |n+1=>by simp[times,oC z n,a3E,Nat.add_comm]
theorem QK(z:List TV)(hz:0<z.length):∀(n i:Nat),i<n*z.length->(times z n)[i]? = z[i%z.length]?
 | 0,i,h=>by simp at h
 |n+1,i,h=>by
  simp only[times];by_cases hi:i<z.length
  .rw[a0j hi,Nat.mod_eq_of_lt hi]
  rw[a1c (by omega),QK z hz n (i-z.length) (by rw[a3E]at h;omega)];congr 1;rw[Nat.mod_eq_sub_mod (a:=i) (by omega)]
theorem IJ{z:List TV}(h:∀c∈z,iR c=true):∀n,∀c∈times z n,iR c=true
 | 0=>by simp[times]
 |n+1=>by
  intro c hc;simp only[times,a3k]at hc;rcases hc with hc|hc
  .exact h c hc
  exact IJ h n c hc
theorem VL{N:Np}{z:List TV}{x:Array Value}(h:bU N z x.toList)(n m:Nat)(hm:m=n*z.length) :
  bU N (times z n) ((Array.range m).map (x[·%x.size]!)).toList:=by
 have hl:=h.len;simp only[a9I]at hl;refine⟨by simp[oC,hm],fun i c v a b=>?_⟩;have hi:i<n*z.length:=by have:=(a0c.1 a).1;rwa [oC]at this
 have hz:0<z.length:=by
  rcases abC z.length with e|e
  .rw[e]at hi;simp at hi
  .exact e
 rw[QK z hz n i hi]at a;have ahg:i%x.size<x.size:=Nat.mod_lt _ (by omega);have hb:v=x[i%x.size]:=by
  rw[adF,Array.getElem?_map]at b;simp only[Array.getElem?_range]at b;rw[a0p (by omega)]at b;simp only[a0v,a05]at b;rw[<-b,getElem!_pos x _ ahg]
 rw[hl]at a;exact h.at_ (i%x.size) c v a (by simp[hb,ahg])
theorem qU{t e:TypeId}{n:Nat}(h:jF P t=some (e,n)):P.underlying t=some (.slice e)∧dD P e=some n∧0<n:=by
 unfold jF at h;split at h
 .rename_i e' hu;split at h
  .rename_i n' hn;split at h
   .simp at h
   simp at h;obtain⟨rfl,rfl⟩:=h;exact⟨hu,hn,by omega⟩
  simp at h
 simp at h
theorem QL{place:Nat->Option (Nat×Nat)}:∀{ps:List (Nat×TV)} {cs r:List TV},rY place cs ps=some r->r.length=cs.length
 | [],cs,r,h=>by simp[rY]at h;rw[h]
 |(i,v)::ps,cs,r,h=>by
  simp only[rY]at h;split at h
  .split at h
   .split at h
    .rename_i cs' ho;rw[QL h,(vS ho).2.2]
    simp at h
   simp at h
  simp at h
theorem QM{place:Nat->Option (Nat×Nat)}:∀{ps:List (Nat×TV)} {cs r:List TV},rY place cs ps=some r->(∀c∈cs,iR c=true) ->
  (∀p∈ps,∀c∈p.2.cells,iR c=true)->∀c∈r,iR c=true
 | [],cs,r,h,h1,_=>by simp[rY]at h;subst h;exact h1
 |(i,v)::ps,cs,r,h,h1,h2=>by
  simp only[rY]at h;split at h
  .split at h
   .split at h
    .rename_i cs' ho;exact QM h (VG ho h1 (h2 (i,v) (by simp))) (fun p hp=>h2 p (by simp[hp]))
    .simp at h
   .simp at h
  .simp at h
theorem tZ{t:TypeId}{len:Nat}{ps:List (Nat×TV)}{qs:List (Nat×Value)}{r:TV}{s1:St}(hV:Valid M D s.get w)(yO:M (.h s.heap.length)=none)
  (h:qE P t len s ps=some (r,s1)) (hq:PR M.h ps qs) :
  s1.env=s.env∧∃x w' M',(Instr.buildSlice t len qs.toArray).run P w=.ok x w'∧Nq M D s.get w (.val r) s1.get [] x w' M':=by
 unfold qE at h;split at h
 case h_2=>simp at h
 rename_i e n zO;obtain⟨hu,hn,hn0⟩:=qU zO;split at h
 case isFalse=>simp at h
 rename_i hc;obtain⟨hc1,JY⟩:=hc;split at h
 case h_2=>simp at h
 rename_i z hz;split at h
 case isFalse=>simp at h
 rename_i Yq;split at h
 case h_2=>simp at h
 rename_i cs hf;simp at h;obtain⟨rfl,rfl⟩:=h;obtain⟨i,x,v,_,_,_,_,hz1,hvr,hzr⟩:=wC hz;have hx0:=(hvr M.h).len;simp only[a9I]at hx0;have ht:=VL (hvr M.h) len (len*n) (by rw[Yq]);obtain⟨uN,g1,g2⟩:=Lu (place':=fun i=>some (i*n,n)) (fun i x hx=>hx) hf hq ht;have Fa:∀c∈cs,iR c=true:=QM hf (IJ hz1 len) (fun p hp=>by
  have:=a4A.1 JY p hp;exact LC this)
 have hlen:cs.length=uN.size:=by have:=g2.len;simpa using this
 have qm:cs.length=len*n:=by rw[QL hf,oC,Yq]
 have yF:s.get (.h s.heap.length)=none:=by simp[St.get]
 have JW:∀(i:Nat) (c:TV) (v:Value),cs[i]? = some c->uN[i]? = some v->VR M.h c v:=fun i c v a b=>g2.at_ i c v a (by simpa using b);have fP:=Nv hV e yO yF (agF hlen) JW Fa;refine⟨rfl,.slice (some ⟨w.heap.size,0,none⟩) len len,w.alloc (.cells uN e),dL M (.h s.heap.length) (.cells [⟨w.heap.size,0,cs.length,uN.size⟩]),?_,⟨?_,?_,?_,qR yO⟩⟩
 .have hle:¬(len*n>2^24):=by omega
  by_cases h0:len*n=0
  .have amP:cs=[]:=a4g (by omega);have g1':Instr.fill (fun i=>some (i*n,n)) ((Array.range (len*n)).map ((#[]:Array Value)[·%(#[]:Array Value).size]!)) qs=some uN:=by
    rw[h0]at g1 ⊢;have e0:Array.range 0=#[]:=rfl;rw[e0]at g1 ⊢;simpa using g1
   simp only[Instr.buildSlice,Sem.run_bind,run_underlying hu,Result.andThen_ok,cO hn];rw[a0o hle,a0p h0];simp only[Sem.run_pure,Sem.run_bind,Result.andThen_ok,g1',newRow,run_newObj,World.alloc]
  .simp only[Instr.buildSlice,Sem.run_bind,run_underlying hu,Result.andThen_ok,cO hn];rw[a0o hle,a0o h0];simp only[Sem.run_pure,Sem.run_bind,Result.andThen_ok,hzr w,g1,newRow,run_newObj,World.alloc]
 .rw[ku];exact fP.1
 .rw[ku];exact fP.2
 .have hlb:len<2^63:=by
   have:=Nat.le_mul_of_pos_right len (show 0<n by omega);omega
  refine .val (.slc (ls:=[⟨w.heap.size,0,cs.length,uN.size⟩]) (p:=⟨w.heap.size,0,cs.length,uN.size⟩) (by simp[Mp.h,dL]) (by simp) (by simp[qm]) (a1b _) (a1b _) (fun _=>rfl) (.inr ⟨by simp,by simp;omega⟩) hlb)
end
section
variable {P:Program} {M:Mp} {D:Key->Prop} {w:World} {s:St}
theorem a0q{i:Int}(h0:0<=i)(h1:i<=2^40):i64.wrap i=i:=by
 have h2:i%(2^64:Int)=i:=a7B h0 (by omega);simp only[IntKind.wrap,IntKind.bits,IntKind.signed,h2];rw[a0o];simp only[adn,a1Q,ge_iff_le];omega
theorem QN{N:Np}{v:TV}{n:Nat}{x:Value}(h:a2f v=some n)(hx:VR N v x):∃k i,x=.int k i∧0<=i∧i<=2^40∧n=i.toNat:=by
 unfold a2f at h;split at h
 .split at h
  .rename_i k i hc;simp at h;subst h;cases hx;exact⟨k,i,rfl,hc.1,hc.2,rfl⟩
  simp at h
 simp at h
theorem zX{e:TypeId}{n:Nat}(h:tY P e n=true):∃i x,P.info? e=some i∧i.zero=some x∧x.cells.size=i.size∧n*i.bytes<=2^40∧n<=2^40∧i.bytes<=2^20∧0<i.bytes:=by
 unfold tY at h;split at h
 .rename_i i hi;simp only[a2o,a1Q]at h;obtain⟨⟨⟨⟨h1,h2⟩,h3⟩,h4⟩,h5⟩:=h;unfold a4x at h5;split at h5
  .rename_i x hx;exact⟨i,x,hi,hx,by simpa using h5,h1,h2,h3,h4⟩
  simp at h5
 simp at h
theorem zY{t:TypeId}{a b r:TV}{x y:Value}{s1:St}(hV:Valid M D s.get w)(yO:M (.h s.heap.length)=none)
  (h:sG P t s a b=some (r,s1)) (hx:VR M.h a x) (hy:VR M.h b y) :
  s1.env=s.env∧∃z w' M',(Instr.makeSlice t x y).run P w=.ok z w'∧Nq M D s.get w (.val r) s1.get [] z w' M':=by
 unfold sG at h;split at h
 case h_2=>simp at h
 rename_i e n l c zO hl hc;obtain⟨hu,hn,hn0⟩:=qU zO;obtain⟨_,li,rfl,l0,l1,rfl⟩:=QN hl hx;obtain⟨_,ci,rfl,c0,c1,rfl⟩:=QN hc hy;split at h
 case isFalse=>simp at h
 rename_i QO;obtain⟨hlc,JZ⟩:=QO;obtain⟨i,zx,hi,hzx,hzs,Cc,xX,hb3,hb4⟩:=zX JZ;split at h
 case h_2=>simp at h
 rename_i z hz;split at h
 case isFalse=>simp at h
 rename_i Yq;simp at h;obtain⟨rfl,rfl⟩:=h;obtain⟨i',x,v,xE,Fg,_,_,hz1,hvr,hzr⟩:=wC hz;rw[hi]at xE;cases xE;have ht:=VL (hvr M.h) ci.toNat (ci.toNat*n) (by rw[Yq])
 let arr:Array Value:=(Array.range (ci.toNat*n)).map (x.cells[·%x.cells.size]!)
 have hlen:(times z ci.toNat).length=arr.size:=by have:=ht.len;simpa[arr]using this
 have qm:(times z ci.toNat).length=ci.toNat*n:=by rw[oC,Yq]
 have yF:s.get (.h s.heap.length)=none:=by simp[St.get]
 have JW:∀(i:Nat) (c:TV) (v:Value),(times z ci.toNat)[i]? = some c->arr[i]? = some v->VR M.h c v:=fun i c v a b=>ht.at_ i c v a (by rw[adF];exact b);have fP:=Nv hV e yO yF (agF hlen) JW (IJ hz1 _);have hmul:(li.toNat)*n<=ci.toNat*n:=a3X n hlc;refine⟨rfl,.slice (some ⟨w.heap.size,0,none⟩) li.toNat ci.toNat,w.alloc (.cells arr e),dL M (.h s.heap.length) (.cells [⟨w.heap.size,0,(times z ci.toNat).length,arr.size⟩]),?_,⟨?_,?_,?_,qR yO⟩⟩
 .have hwl:=a0q l0 l1;have hwc:=a0q c0 c1;have KX:¬((i.bytes:Int)*ci>2^48):=by
   have e1:(ci.toNat*i.bytes:Nat)<=2^40:=Cc;have e2:((i.bytes:Int)*ci)=((ci.toNat*i.bytes:Nat):Int):=by
    rw[Nat.mul_comm,adY,agL c0]
   omega
  simp only[Instr.makeSlice,Sem.run_bind,run_underlying hu,Result.andThen_ok,asInt,asIntOf,Sem.run_pure,iT hi,hwl,hwc];rw[a0o (by simp;exact⟨⟨⟨c0,by omega⟩,l0⟩,by omega⟩)];simp only[Sem.run_bind,run_askRoom,Result.andThen_ok,cO hn];by_cases h0:ci.toNat*n=0
  .rw[a0p h0];have e0:arr=#[]:=Array.eq_empty_of_size_eq_zero (by omega);have e1:(Array.range (ci.toNat*n)).map ((#[]:Array Value)[·%(#[]:Array Value).size]!)=#[]:=by
    rw[h0];have e0:Array.range 0=#[]:=rfl;rw[e0];simp
   simp only[Sem.run_pure,Result.andThen_ok,e1,newRow,Sem.run_bind,run_newObj,World.alloc,e0]
  .rw[a0o h0];simp only[Sem.run_bind,hzr w,Sem.run_pure,Result.andThen_ok,newRow,run_newObj,World.alloc,arr]
 .rw[ku];exact fP.1
 .rw[ku];exact fP.2
 .refine .val (.slc (ls:=[⟨w.heap.size,0,(times z ci.toNat).length,arr.size⟩]) (p:=⟨w.heap.size,0,(times z ci.toNat).length,arr.size⟩) (by simp[Mp.h,dL]) (by simp) (by simp[qm]) hlc (a1b _) (fun _=>rfl) (.inr ⟨by simp,by simp;omega⟩) (by omega))
theorem YI{at_:Array TypeId}{t:TypeId}{v r:TV}{i:mg}{x:Value}(hV:Valid M D s.get w)(h:Yx P at_ s.heap v=some (r,i))(hx:VR M.h v x)(hD:∀k∈i.ts,D k) :
  i.ws=[]∧∃z,VR M.h r z∧(Builtin.len_ at_ t #[x]).run P w=.ok z w:=by
 unfold Yx at h;split at h
 case h_2=>simp at h
 rename_i t0 ht0;split at h
 .rename_i b hu;simp at h;obtain⟨rfl,rfl⟩:=h;cases hx;exact⟨rfl,_,.int _ _,by simp[Builtin.len_,ht0,run_underlying hu,goInt]⟩
 .rename_i n el _ hu;simp at h;obtain⟨rfl,rfl⟩:=h;exact⟨rfl,_,.int _ _,by simp[Builtin.len_,ht0,run_underlying hu,goInt]⟩
 .rename_i el b off len cap sz ex hu;simp at h;obtain⟨rfl,rfl⟩:=h;cases hx;exact⟨rfl,_,.int _ _,by simp[Builtin.len_,ht0,run_underlying hu,goInt]⟩
 .rename_i el hu;simp at h;obtain⟨rfl,rfl⟩:=h;cases hx;exact⟨rfl,_,.int _ _,by simp[Builtin.len_,ht0,run_underlying hu,goInt]⟩
 .rename_i k el hu;simp at h;obtain⟨rfl,rfl⟩:=h;cases hx;exact⟨rfl,_,.int _ _,by simp[Builtin.len_,ht0,run_underlying hu,goInt]⟩
 .rename_i k el r0 hu;split at h
  .rename_i es he;simp at h;obtain⟨rfl,rfl⟩:=h;cases hx with
   |map hm=>
    obtain⟨fU,h1,h2⟩:=hV.ok _ _ hm (hD _ (by simp[xq]));simp only[St.get,he,a05]at h1;subst h1;obtain⟨xs,g1,g2⟩:=h2;have g2:=g2.len;refine⟨rfl,_,.int _ _,?_⟩;simp[Builtin.len_,ht0,run_underlying hu,goInt,getObj,Sem.run,g1,g2]
  .simp at h
 .simp at h
end
section
variable {P:Program} {M:Mp} {D:Key->Prop} {w:World} {s:St}
theorem Ci{C:Ct}{size n:Nat}{v:TV}{l:List TV}{x:Value}{h:List HB}(hh:∀b,C (.h b)=h[b]?)(hV:Valid M D C w)(hs:fE size h v=some (n,l))(hx:VR M.h v x)(hD:∀k∈dH v,D k) :
  (Builtin.lenOf x).run P w=.ok n w∧(∀c∈l,iR c=true)∧∃arr,(∀w':World,w'.heap=w.heap->(Builtin.firstCells size n x).run P w'=.ok arr w')∧bU M.h l arr.toList:=by
 unfold fE at hs;split at hs
 .simp at hs;obtain⟨rfl,rfl⟩:=hs;cases hx;exact⟨by simp[Builtin.lenOf],by simp,#[],fun w' _=>by simp[Builtin.firstCells],.nil⟩
 .rename_i b off len cap sz ex;split at hs
  .rename_i uX;subst uX;split at hs
   .rename_i hz;subst hz;simp at hs;obtain⟨rfl,rfl⟩:=hs;cases hx with
    |slc hm hp Fe hle wE hex ha hk=>
     exact⟨by simp[Builtin.lenOf],by simp,#[],fun w' _=>by simp[Builtin.firstCells,loadCells,loadCellsFrom],.nil⟩
   split at hs
   .rename_i cs hb;simp only[a0e,a0t]at hs;obtain⟨r,hr,rfl,rfl⟩:=hs;cases hx with
    |slc hm hp Fe hle wE hex ha hk=>
     rename_i ls p a cap';obtain⟨k,hk,VJ⟩:=xQ hb;obtain⟨fU,h1,h2⟩:=hV.ok _ _ hm (hD _ (by simp[dH]));rw[hh,hk]at h1;cases h1;obtain⟨g1,g2,_⟩:=h2;obtain⟨s1,s2,s3⟩:=um hr;refine⟨by simp[Builtin.lenOf],fun c hc=>g1 c (by rw[s2]at hc;exact a5Q (a9t hc)),?_⟩;by_cases h0:cap'=0
     .have qL:len=0:=(by omega);subst qL;have:r=[]:=a4g (by rw[s3];simp);subst this;exact⟨#[],fun w' _=>by simp[Builtin.firstCells,loadCells,loadCellsFrom],.nil⟩
     .rcases ha with ha|⟨rfl,ha⟩
      .exact absurd ha h0
      .obtain⟨xs,x1,x2⟩:=yD (P:=P) (g2 p (hp.resolve_left h0)) hr (by have:=a3X sz hle;omega) (fun e=>by have:=VJ e;have:=(g2 p (hp.resolve_left h0)).ext;omega);exact⟨xs.toArray,fun w' hw'=>by simp[Builtin.firstCells,x2 w' hw'],x1⟩
   .simp at hs
  .simp at hs
 .rename_i bs;split at hs
  .rename_i uX;simp at hs;obtain⟨rfl,rfl⟩:=hs;cases hx;refine⟨by simp[Builtin.lenOf],by simp[iR],(bs.extract 0 bs.size).data.map fun b=>.int .u8 b.toNat,fun w' _=>rfl,?_⟩;refine⟨by simp,fun i c v a b=>?_⟩;simp only[a4q,a0e]at a;obtain⟨y,hy,rfl⟩:=a;rw[show bs.extract 0 bs.size=bs from by simp]at b;simp only[Array.toList_map,a4q,hy,a0v,a05]at b;rw[<-b];exact .int _ _
  .simp at hs
 .simp at hs
theorem TU{size n b off len cap sz:Nat}{ex:Bool}{l:List TV}{h:List HB}(hs:fE size h (.slc b off len cap sz ex)=some (n,l)):sz=size∧n=len∧l.length=len*size:=by
 simp only[fE]at hs;split at hs
 .rename_i hz;split at hs
  .rename_i h0;cases hs;exact⟨hz,h0.symm,by simp[h0]⟩
  split at hs
  .simp only[a0e,a0t]at hs;obtain⟨r,hr,rfl,rfl⟩:=hs;exact⟨hz,rfl,(um hr).2.2⟩
  cases hs
 cases hs
theorem QS(N:Nat):∀(r c:Nat),c<=2*N+192->Builtin.growBy N r c<=2*N+192
 | 0,c,h=>by simpa[Builtin.growBy]using h
 |r+1,c,h=>by
  simp only[Builtin.growBy];split
  .exact h
  exact QS N r _ (by omega)
theorem YJ{KY c:Nat}(h:c<KY):Builtin.nextslicecap KY c<=2*KY+192:=by
 unfold Builtin.nextslicecap;split
 .omega
 split
 .omega
 exact QS KY 4 c (by omega)
theorem a95{KY c b:Nat}(h:c<KY)(h1:KY*b<=2^40)(h2:b<=2^20):¬(Builtin.nextslicecap KY c*b>2^48):=by
 have e1:=YJ h;have e2:Builtin.nextslicecap KY c*b<=(2*KY+192)*b:=a3X b e1;have e3:(2*KY+192)*b=2*(KY*b)+192*b:=by rw[a3E,Nat.mul_assoc]
 omega
theorem wF(z:Array Value)(n:Nat):(Builtin.zeroCells z n).size=n*z.size:=by simp[Builtin.zeroCells]
def wH:TypeDesc->Bool
 |.int _=>true
 |_=>false
theorem YK{t:TypeId}(h:¬(TK P t||(P.underlying t).isNone)=true):∃d,P.underlying t=some d∧wH d=false:=by
 simp only[a8X,adw,adH]at h;obtain⟨h1,h2⟩:=h;cases hu:P.underlying t with
 |none=>simp[hu]at h2
 |some d=>
  refine⟨d,rfl,?_⟩;unfold TK at h1;rw[hu]at h1;cases d<;>simp_all [wH]
theorem Fh{at_:Array TypeId}{st xt e:TypeId}{size n sLen sCap:Nat}{i:TypeInfo}{z sv xv:Value}{base:Option Addr}{d:TypeDesc}{old new:Array Value}{ty:TypeId}
  (h0:at_[0]? = some st) (h1:at_[1]? = some xt) (hu:P.underlying st=some (.slice e)) (hn:dD P e=some size) (Ko:P.underlying xt=some d) (hd:wH d=false)
  (hi:P.info? e=some i) (hz:i.zero=some z) (hsv:sv=.slice base sLen sCap)
  (hl:(Builtin.lenOf xv).run P w=.ok n w) (wE:sCap<sLen+n) (Cc:(sLen+n)*i.bytes<=2^40) (xX:sLen+n<=2^40) (hb3:i.bytes<=2^20)
  (hold:∀w':World,w'.heap=w.heap->(Builtin.firstCells size sLen sv).run P w'=.ok old w') (fP:∀w':World,w'.heap=w.heap->(Builtin.firstCells size n xv).run P w'=.ok new w') :
  ∃kL,sLen+n<=kL∧kL<2^63∧(Builtin.append_ at_ ty #[sv,xv]).run P w=.ok (.slice (some ⟨w.heap.size,0,none⟩) (sLen+n) kL) (w.drew.alloc (.cells (old++new++Builtin.zeroCells z.cells (kL-(sLen+n))) e)):=by
 subst hsv;refine⟨(Question.appendCap (sLen+n) sCap e).cut (w.tape w.drawn (.appendCap (sLen+n) sCap e)),by simp[Question.cut],?_,?_⟩
 .have:=Nat.mod_lt (w.tape w.drawn (.appendCap (sLen+n) sCap e)) (show 0<2^63-(sLen+n) by omega);simp only[Question.cut];omega
 have hz':∀w,(zeroValue e).run P w=.ok z w:=fun w=>by simp[zeroValue,iT hi,hz]
 have hq:(Question.appendCap (sLen+n) sCap e).forced=false:=rfl;have hle:¬(sLen+n<=sCap):=by omega
 have KX:¬(((sLen+n:Nat):Int)>i64.max):=by
  have:i64.max=2^63-1:=rfl;rw[this];omega
 have JZ:=a95 wE Cc hb3;have e1:=hold w.drew rfl;have e2:=fP w.drew rfl;unfold Builtin.append_;simp only[adE,a2V,a9A,h0,h1];simp only[Sem.run_bind,run_underlying hu,Result.andThen_ok,cO hn,run_underlying Ko,Sem.run_pure];rw[a0o (by cases d<;>simp_all [wH])];simp only[Sem.run_bind,hl,Result.andThen_ok];rw[a0o hle];simp only[Sem.run_bind,iT hi,Result.andThen_ok];rw[a0o (fun h=>KX h.1)];simp only[Sem.run_bind,iT hi,Result.andThen_ok];rw[a0o JZ];simp only[Sem.run_bind,Sem.run_pure,run_choose,hq,a2P,a3T,Result.andThen_ok,iT hi,run_askRoom,World.drew_eq,e1];rw[a0p (by cases d<;>simp_all [wH])];simp only[Sem.run_bind,Sem.run_pure,Result.andThen_ok,e2,hz',newRow,run_newObj,World.size_drew,World.alloc_eq]
theorem QU{at_:Array TypeId}{st xt e:TypeId}{size n sLen sCap:Nat}{a:Addr}{sv xv:Value}{d:TypeDesc}{new:Array Value}{ty:TypeId}{w':World}
  (h0:at_[0]? = some st) (h1:at_[1]? = some xt) (hu:P.underlying st=some (.slice e)) (hn:dD P e=some size) (Ko:P.underlying xt=some d) (hd:wH d=false)
  (hsv:sv=.slice (some a) sLen sCap) (hl:(Builtin.lenOf xv).run P w=.ok n w) (wE:sLen+n<=sCap)
  (fP:(Builtin.firstCells size n xv).run P w=.ok new w) (vT:(storeCells (a.add (sLen*size)) new.toList).run P w=.ok () w') :
  (Builtin.append_ at_ ty #[sv,xv]).run P w=.ok (.slice (some a) (sLen+n) sCap) w':=by
 subst hsv;unfold Builtin.append_;simp only[adE,a2V,a9A,h0,h1];simp only[Sem.run_bind,run_underlying hu,Result.andThen_ok,cO hn,run_underlying Ko,Sem.run_pure];rw[a0o (by cases d<;>simp_all [wH])];simp only[Sem.run_bind,hl,Result.andThen_ok];rw[a0p wE];rw[a0p (by cases d<;>simp_all [wH])];simp only[Sem.run_bind,fP,Result.andThen_ok,vT,Sem.run_pure]
theorem VN{at_:Array TypeId}{st xt e:TypeId}{size sLen sCap:Nat}{base:Option Addr}{sv xv:Value}{d:TypeDesc}{new:Array Value}{ty:TypeId}
  (h0:at_[0]? = some st) (h1:at_[1]? = some xt) (hu:P.underlying st=some (.slice e)) (hn:dD P e=some size) (Ko:P.underlying xt=some d) (hd:wH d=false)
  (hsv:sv=.slice base sLen sCap) (hl:(Builtin.lenOf xv).run P w=.ok 0 w) (wE:sLen<=sCap)
  (fP:(Builtin.firstCells size 0 xv).run P w=.ok new w) (iC:new.toList=[]) :
  (Builtin.append_ at_ ty #[sv,xv]).run P w=.ok sv w:=by
 subst hsv;unfold Builtin.append_;simp only[adE,a2V,a9A,h0,h1];simp only[Sem.run_bind,run_underlying hu,Result.andThen_ok,cO hn,run_underlying Ko,Sem.run_pure];rw[a0o (by cases d<;>simp_all [wH])];simp only[Sem.run_bind,hl,Result.andThen_ok];rw[a0p (by omega)];rw[a0p (by cases d<;>simp_all [wH])];simp only[Sem.run_bind,fP,Result.andThen_ok];cases base<;>simp[iC,storeCells]
end
section
variable {P:Program} {M:Mp} {D:Key->Prop} {w:World} {s:St}
def BOk(P:Program)(M:Mp)(D:Key->Prop)(C:Ct)(w:World)(c:Sem Value)(v:TV)(C1:Ct)(ws:List Key):Prop:=
 ∃x w' M',c.run P w=.ok x w'∧Nq M D C w (.val v) C1 ws x w' M'
theorem Ext.drew'{M0:Mp}{C0:Ct}{w0:World}{M:Mp}{C:Ct}{w:World}{ws:List Key}(h:Ext M0 C0 w0.drew M C w ws):Ext M0 C0 w0 M C w ws:=
 ⟨h.Iu,h.frame,h.nH,h.l9,h.fresh,h.size,h.has,h.wsub,h.wrote,h.os,h.output,h.tape⟩
theorem bU.TW{N:Np}{l:List TV}{arr:Array Value}(h:bU N l arr.toList){i:Nat}{c:TV}{v:Value}(a:l[i]? = some c)(b:arr[i]? = some v):VR N c v:=
 h.at_ i c v a (by rw[adF];exact b)
theorem VO(hV:Valid M D s.get w)(yO:M (.h s.heap.length)=none){cs:List TV}{pre rest:Array Value}{e:TypeId}(hx:bU M.h cs pre.toList)(hn:∀c∈cs,iR c=true)
  {len kL size:Nat} (QV:cs.length=len*size) (hle:len<=kL) (hk:kL<2^63) (NG:rest.size=(kL-len)*size) :
  ∃M',Nq M D s.get w (.val (.slc s.heap.length 0 len len size false)) (St.get { s with heap:=s.heap++[.cells .own cs] }) [] (.slice (some ⟨w.heap.size,0,none⟩) len kL) (w.drew.alloc (.cells (pre++rest) e)) M':=by
 have yF:s.get (.h s.heap.length)=none:=by simp[St.get]
 have Gg:pre.size=cs.length:=by have:=hx.len;simp at this;omega
 have amN:(pre++rest).size=kL*size:=by
  have:len*size+(kL-len)*size=kL*size:=by rw[<-a3E];congr 1;omega
  simp;omega
 have hmul:len*size<=kL*size:=a3X size hle;have YL:Valid M D s.get w.drew:=hV.of_heap rfl;have fP:=Nv YL (cs:=cs) (arr:=pre++rest) e yO yF (by omega) (fun i c v a b=>by
  have hi:=(a0c.1 a).1;rw[a9V (by omega)]at b;exact hx.TW a b) hn
 refine⟨dL M (.h s.heap.length) (.cells [⟨w.heap.size,0,cs.length,(pre++rest).size⟩]),⟨?_,?_,?_,qR yO⟩⟩
 .rw[ku];exact fP.1
 .rw[ku];exact fP.2.drew'
 .exact .val (.slc (ls:=[⟨w.heap.size,0,cs.length,(pre++rest).size⟩]) (p:=⟨w.heap.size,0,cs.length,(pre++rest).size⟩) (by simp[Mp.h,dL]) (by simp) (by simp[QV]) (a1b _) hle (fun h=>by simp at h) (.inr ⟨by simp,by simp only[a4e];omega⟩) hk)
theorem EJ:∀{ls:List Pl},(ls.map (·.c)).Nodup->∀{p q:Pl},p∈ls->q∈ls->q.c=p.c->q=p
 | [],_,p,q,hp,_,_=>by simp at hp
 |a::ls,h,p,q,hp,hq,e=>by
  simp only[a4k,a4r]at h;rcases a2y.1 hp with h1|h1<;>rcases a2y.1 hq with h2|h2
  .rw[h1,h2]
  .exact(h.1 (a1l.2 ⟨q,h2,by rw[e,h1]⟩)).elim
  .exact(h.1 (a1l.2 ⟨p,h1,by rw[<-e,h2]⟩)).elim
  exact EJ h.2 h1 h2 e
theorem a0r(hV:Valid M D s.get w){b:Nat}{k:BK}{cs new:List TV}{ls:List Pl}{p:Pl}{x:Array Value}(hm:M (.h b)=some (.cells ls))(hd:D (.h b))(hb:s.heap[b]? = some (.cells k cs))
  (hk:k≠.ro) (hp:p∈ls) (Fe:cs.length<=p.ext) (hx:bU M.h new x.toList) (hn:∀c∈new,iR c=true) (iC:new≠[]) {w':World}
  (fl:Bool) (old rest:Array Value) (ty0:TypeId)
  (hw:(fl=true∧cs.length+new.length<=p.tot∧(storeCells ⟨p.c,cs.length,none⟩ x.toList).run P w=.ok () w') ∨
   (fl=false∧bU M.h cs old.toList∧w'=w.drew.alloc (.cells (old++x++rest) ty0))) :
  ∃M' q,Valid M' D (St.get { s with heap:=s.heap.set b (.cells k.more (cs++new)) }) w'∧Ext M s.get w M' (St.get { s with heap:=s.heap.set b (.cells k.more (cs++new)) }) w' [.h b] ∧
   (∀j l,M (.l j)=some l->M' (.l j)=some l)∧(∃xP,M' (.h b)=some (.cells xP)∧q∈xP)∧cs.length+new.length<=q.ext∧q.base=0 ∧
   ((fl=true∧q.c=p.c∧q.tot=p.tot)∨(fl=false∧q.c=w.heap.size∧q.tot=(old++x++rest).size)):=by
 have hg:s.get (.h b)=some (.cells k cs):=by simp[St.get,hb]
 have yQ:=(a0c.1 hb).1;obtain⟨fU,h1,h2⟩:=hV.ok _ _ hm hd;rw[hg]at h1;cases h1;obtain⟨ho,Gg,ahi,a0s⟩:=h2;have hxl:=hx.len;simp only[a9I]at hxl;have jA:(ls.map (·.c)).Nodup:=by
  cases k with
  |ro=>exact absurd rfl hk
  |own=>obtain⟨q,rfl,_⟩:=ahi rfl;simp
  |grow=>exact(a0s (.inl rfl)).1
  |last=>exact(a0s (.inr rfl)).1
 have aqZ:∀q∈ls,q.ext=cs.length->q=p:=by
  intro q hq he;cases k with
  |ro=>exact absurd rfl hk
  |own=>
   obtain⟨q',e',_⟩:=ahi rfl;rw[e']at hp hq;simp at hp hq;rw[hq,hp]
  |grow=>
   have:=(Gg p hp).ext;exact(a0s (.inl rfl)).2 q hq p hp he (by omega)
  |last=>
   have:=(Gg p hp).ext;exact(a0s (.inr rfl)).2 q hq p hp he (by omega)
 have hpe:p.ext=cs.length:=by have:=(Gg p hp).ext;omega
 have hpb:p.base=0:=(Gg p hp).base hk;have hmr:k.more≠.own:=by cases k<;>simp[BK.more]
 have hml:k.more=.last->k=.last:=by cases k<;>simp[BK.more]
 have Fa:∀c∈cs++new,iR c=true:=by
  intro c hc;rcases a3k.1 hc with h|h
  .exact ho c h
  .exact hn c h
 rcases hw with⟨hfl,JZ,vT⟩|⟨hfl,hold,rfl⟩
 .-- in place
  let p':Pl:={ p with ext:=cs.length+new.length }
  let xP:List Pl:=ls.map fun q=>if q.c=p.c then p' else q
  have hqp:∀q∈ls,q.c=p.c->q=p:=by
   intro q hq he;exact EJ jA hp hq he
  have hp':p'∈xP:=a1l.2 ⟨p,hp,by simp⟩;have a4M:xP.map (·.c)=ls.map (·.c):=by
   simp only[xP,a7X];apply a4P;intro q hq;simp only[Function.comp];split
   .rename_i he;exact he.symm
   .rfl
  have hlc:KT (.cells ls) (.cells xP):=by
   intro q hq;by_cases he:q.c=p.c
   .have:=hqp q hq he;subst this;exact⟨p',hp',rfl,rfl,by simp[p'];omega,rfl⟩
   .exact⟨q,a1l.2 ⟨q,hq,by simp[he]⟩,rfl,rfl,a1b _,rfl⟩
  obtain⟨arr,ty,fz,r1,r2,r3,r4⟩:=(Gg p hp).row;have:=r3 hk;subst this;have ahl:∀v∈x.toList,v.oneCell'=true:=by
   intro v hv;obtain⟨i,hi,rfl⟩:=a4J.1 hv;have xE:i<new.length:=by simp at hi;omega
   exact IC (hx.at_ i new[i] x.toList[i] (by simp[xE]) (by simp)) (hn _ (a4z xE))
  have vI:=run_storeCells_at (P:=P) p.c cs.length ty x.toList 0 arr w r1 (by simp;omega) ahl;simp only[adD,a9I]at vI;rw[vI]at vT;have amU:=Result.ok.inj vT;obtain⟨_,rfl⟩:=amU
  let w':World:=w.setRow p.c (arr.toList.take cs.length++x.toList++arr.toList.drop (cs.length+x.size)).toArray
  have fZ:∀c,c<w.heap.size->c∉aI (.cells xP)->w'.heap[c]? = w.heap[c]?:=fun c _ hc=>vH w p.c _ c (fun e=>hc (by rw[e];exact a1l.2 ⟨p',hp',rfl⟩));have fP:∀c∈aI (.cells xP),(∃l0,M (.h b)=some l0∧c∈aI l0)∨w.heap.size<=c:=fun c hc=>.inl ⟨_,hm,by simp only[aI]at hc ⊢;rwa [a4M]at hc⟩;have II:rZ M (dL M (.h b) (.cells xP)):=mJ fun l0 h0=>by rw[hm]at h0;cases h0;exact hlc
  have VP:∀i,(arr.toList.take cs.length++x.toList++arr.toList.drop (cs.length+x.size)).toArray[i]? = if i<cs.length then arr[i]? else if i<cs.length+x.size then x[i-cs.length]? else arr[i]?:=by
   intro i;have:=VF (arr:=arr) (off:=cs.length) (xs:=x.toList) i (by simp;omega);simpa using this
  have QF:pK (dL M (.h b) (.cells xP)).h w' (.cells k.more (cs++new)) (.cells xP):=by
   refine⟨Fa,fun q hq=>?_,fun e=>absurd e hmr,fun _=>⟨by rw[a4M];exact jA,fun q1 JU q2 Gm e1 e2=>?_⟩⟩
   .obtain⟨q0,YC,rfl⟩:=a1l.1 hq;by_cases he:q0.c=p.c
    .simp only[he,a2w];refine⟨⟨_,ty,(0,0),Ns w p.c _ arr ty (0,0) r1,by simp[p'];omega,fun _=>rfl,fun _ i c v hi a b=>?_⟩,by simp[p',hpb];omega,by simp[p'],fun _=>hpb⟩;simp only[p',hpb,a4e]at b hi;rw[VP i]at b;by_cases h1:i<cs.length
     .rw[a0p h1]at b;rw[a0j h1]at a;exact(r4 (fun _=>hpe) i c v (by omega) a (by simpa[hpb]using b)).mono II.h
     .rw[a0o h1,a0p (by omega)]at b;rw[a1c (by omega)]at a;exact(hx.TW a b).mono II.h
    .simp only[he,a3T];have JU:=Gg q0 YC;obtain⟨uN,ty',fz',t1,t2,t3,t4⟩:=JU.row;refine⟨⟨uN,ty',fz',(vH w p.c _ q0.c he).trans t1,t2,fun _=>t3 hk,fun hz i c v hi a b=>?_⟩,JU.fit,by have:=JU.ext;simp;omega,fun _=>JU.base hk⟩;have:=JU.ext;rw[a0j (by omega)]at a;exact(t4 (fun e=>by have:=hz (by rw[e];rfl);have:0<new.length:=aaQ.2 iC;simp at *;omega) i c v hi a b).mono II.h
   .have aux:∀q∈xP,q.ext=(cs++new).length->new≠[]->q=p':=by
     intro q hq e iC;obtain⟨q0,YC,rfl⟩:=a1l.1 hq;by_cases he:q0.c=p.c
     .simp[he]
     .simp only[he,a3T]at e;have:=(Gg q0 YC).ext;have:0<new.length:=aaQ.2 iC;simp at e;omega
    rw[aux q1 JU e1 iC,aux q2 Gm e2 iC]
  refine⟨dL M (.h b) (.cells xP),p',?_,?_,?_,⟨xP,by simp[dL],hp'⟩,a1b _,hpb,.inl ⟨hfl,rfl,rfl⟩⟩
  .rw[jy s b _ yQ];exact hV.upd (.h b) _ _ (fun j hj=>.inl hj) (fun l0 h0=>by
    rw[hm]at h0;cases h0;exact⟨hd,hlc,fun b0 zN=>by rw[hg]at zN;cases zN;cases k<;>simp_all [wr]⟩) fZ fP (by simp) QF
  .rw[jy s b _ yQ];exact Ext.upd (.h b) _ _ [.h b] (.inl ⟨by simp[hg],rfl,by simp[hm],fun b0 zN=>by rw[hg]at zN;cases zN;cases k<;>simp_all [wr]⟩) II fZ fP (by simp) rfl rfl rfl
  .intro j l hj;simp[dL,hj]
 .-- a new row
  let p':Pl:=⟨w.heap.size,0,cs.length+new.length,(old++x++rest).size⟩
  let xP:List Pl:=p'::ls
  let w':World:=w.drew.alloc (.cells (old++x++rest) ty0)
  have QW:=hold.len;simp only[a9I]at QW;have aQ:∀q∈ls,q.c<w.heap.size:=fun q hq=>hV.inb _ _ hm q.c (a1l.2 ⟨q,hq,rfl⟩);have hlc:KT (.cells ls) (.cells xP):=fun q hq=>⟨q,a3n _ hq,rfl,rfl,a1b _,rfl⟩;have fZ:∀c,c<w.heap.size->c∉aI (.cells xP)->w'.heap[c]? = w.heap[c]?:=fun c hc _=>wB w.drew _ c hc;have fP:∀c∈aI (.cells xP),(∃l0,M (.h b)=some l0∧c∈aI l0)∨w.heap.size<=c:=by
   intro c hc;simp only[aI,xP,a4k,a2y]at hc;rcases hc with rfl|hc
   .exact .inr (a1b _)
   .exact .inl ⟨_,hm,hc⟩
  have II:rZ M (dL M (.h b) (.cells xP)):=mJ fun l0 h0=>by rw[hm]at h0;cases h0;exact hlc
  have QF:pK (dL M (.h b) (.cells xP)).h w' (.cells k.more (cs++new)) (.cells xP):=by
   refine⟨Fa,fun q hq=>?_,fun e=>absurd e hmr,fun _=>⟨?_,fun q1 JU q2 Gm e1 e2=>?_⟩⟩
   .rcases a2y.1 hq with rfl|hq
    .refine⟨⟨_,ty0,(0,0),heap_alloc_new w.drew _,rfl,fun _=>rfl,fun _ i c v hi a b=>?_⟩,by simp[p'];omega,by simp[p'],fun _=>rfl⟩;simp only[p',a4e]at b hi;by_cases h1:i<cs.length
     .rw[a0j h1]at a;rw[Array.append_assoc,a9V (by omega)]at b;exact(hold.TW a b).mono II.h
     .rw[a1c (by omega)]at a;rw[Array.append_assoc,Array.getElem?_append_right (by omega),a9V (by omega),<-QW]at b;exact(hx.TW a b).mono II.h
    .have JU:=Gg q hq;obtain⟨uN,ty',fz',t1,t2,t3,t4⟩:=JU.row;refine⟨⟨uN,ty',fz',(wB w.drew _ q.c (aQ q hq)).trans t1,t2,fun _=>t3 hk,fun hz i c v hi a b=>?_⟩,JU.fit,by have:=JU.ext;simp;omega,fun _=>JU.base hk⟩;have:=JU.ext;rw[a0j (by omega)]at a;exact(t4 (fun e=>by have:=hz (by rw[e];rfl);have:0<new.length:=aaQ.2 iC;simp at *;omega) i c v hi a b).mono II.h
   .simp only[xP,a4k,a4r];refine⟨fun a2n=>?_,jA⟩;obtain⟨q,hq,he⟩:=a1l.1 a2n;have:=aQ q hq;simp only[p']at he;omega
   .have ahm:0<new.length:=aaQ.2 iC;have aux:∀q∈xP,q.ext=(cs++new).length->q=p':=by
     intro q hq e;rcases a2y.1 hq with rfl|hq
     .rfl
     .have:=(Gg q hq).ext;simp at e;omega
    rw[aux q1 JU e1,aux q2 Gm e2]
  refine⟨dL M (.h b) (.cells xP),p',?_,?_,?_,⟨xP,by simp[dL],a3m⟩,a1b _,rfl,.inr ⟨hfl,rfl,rfl⟩⟩
  .rw[jy s b _ yQ];exact hV.upd (.h b) _ _ (fun j hj=>.inl hj) (fun l0 h0=>by
    rw[hm]at h0;cases h0;exact⟨hd,hlc,fun b0 zN=>by rw[hg]at zN;cases zN;cases k<;>simp_all [wr]⟩) fZ fP (by simp) QF
  .rw[jy s b _ yQ];exact Ext.upd (.h b) _ _ [.h b] (.inl ⟨by simp[hg],rfl,by simp[hm],fun b0 zN=>by rw[hg]at zN;cases zN;cases k<;>simp_all [wr]⟩) II fZ fP (by simp) rfl rfl rfl
  .intro j l hj;simp[dL,hj]
end
section
variable {P:Program} {M:Mp} {D:Key->Prop} {w:World} {s:St}
theorem IK{at_:Array TypeId}{ty:TypeId}{d x r:TV}{s1:St}{i:mg}{dv xv:Value}(hV:Valid M D s.get w)(yO:M (.h s.heap.length)=none)
  (h:jZ P at_ s d x=some (r,s1,i)) (hd:VR M.h d dv) (hx:VR M.h x xv) (hD:∀k∈i.ts,D k) :
  s1.env=s.env∧BOk P M D s.get w (Builtin.append_ at_ ty #[dv,xv]) r s1.get i.ws:=by
 unfold jZ at h;split at h
 case h_2=>simp at h
 rename_i st xt h0 h1;split at h
 .simp at h
 rename_i hint;obtain⟨dd,Ko,hdd⟩:=YK hint;split at h
 case h_2=>simp at h
 rename_i e size zO;obtain⟨hu,hn,hn0⟩:=qU zO;split at h
 case h_2=>simp at h
 rename_i n new mM;split at h
 .-- nothing
  rename_i hz;subst hz;have key:∀(base:Option Addr) (l c:Nat),dv=.slice base l c->l<=c->(∀k∈dH x,D k)->(Builtin.append_ at_ ty #[dv,xv]).run P w=.ok dv w:=by
   intro base l c e hlc hDk;obtain⟨s1',s2',arr,TY,s4'⟩:=Ci (P:=P) (fun b=>rfl) hV mM hx hDk;refine VN h0 h1 hu hn Ko hdd e s1' hlc (TY w rfl) ?_;have a4N:new=[]:=by
    unfold fE at mM;split at mM
    .simp at mM;exact mM
    .split at mM
     .split at mM
      .simpa using mM
      split at mM
      .simp only[a0e,a0t]at mM;obtain⟨r',hr',e1,e2⟩:=mM;subst e2;exact a4g (by rw[(um hr').2.2,e1];simp)
      .simp at mM
     .simp at mM
    .split at mM
     .simp at mM;obtain⟨e1,e2⟩:=mM;rw[<-e2];rename_i bs _;have:bs.data.toList=[]:=a4g (by simpa using e1);simp[this]
     .simp at mM
    .simp at mM
   rw[a4N]at s4';exact s4'.qc
  split at h
  .simp at h;obtain⟨rfl,rfl,rfl⟩:=h;have YM:=hd;cases hd;exact⟨rfl,_,w,M,key none 0 0 rfl (a1b _) hD,.same hV (.val YM)⟩
  .split at h
   .simp at h;obtain⟨rfl,rfl,rfl⟩:=h;have YM:=hd;cases hd with
    |slc hb hp Fe hle wE hex ha hk=>
     exact⟨rfl,_,w,M,key _ _ _ rfl (by omega) hD,.same hV (.val YM)⟩
   .simp at h
  .simp at h
 rename_i hz;split at h
 case isFalse=>simp at h
 rename_i hlen;have abA:new≠[]:=by
  intro e;have:0<n*size:=Nat.mul_pos (by omega) hn0;rw[e]at hlen;simp only[a4R]at hlen;omega
 split at h
 .-- nil
  split at h
  case isFalse=>simp at h
  rename_i JZ;simp at h;obtain⟨rfl,rfl,rfl⟩:=h;obtain⟨inf,z,hi,hiz,hzs,Cc,xX,hb3,hb4⟩:=zX JZ;obtain⟨s1',s2',arr,TY,s4'⟩:=Ci (P:=P) (fun b=>rfl) hV mM hx hD;have uX:inf.size=size:=by obtain⟨i',e1,e2⟩:=F9 hn;rw[hi]at e1;cases e1;exact e2
  cases hd;obtain⟨kL,c1,c1',c2⟩:=Fh (P:=P) (w:=w) (ty:=ty) (base:=none) (sLen:=0) (sCap:=0) (old:=#[]) (new:=arr) h0 h1 hu hn Ko hdd hi hiz rfl s1' (by omega) (by simpa using Cc) (by omega) hb3
   (fun w' hw'=>by simp[Builtin.firstCells]) TY
  simp only[a4e]at c1 c2;obtain⟨M',hp⟩:=VO (size:=size) (len:=n) (rest:=Builtin.zeroCells z.cells (kL-n)) (e:=e) (pre:=#[]++arr) hV yO (by simpa using s4') s2' hlen c1 c1' (by rw[wF,hzs,uX]);exact⟨rfl,_,_,M',c2,hp⟩
 .-- a slice
  rename_i b off len cap sz ex;split at h
  case isFalse=>simp at h
  rename_i adL;subst adL;have hd0:=hd;cases hd with
  |slc hb hp Fe hle wE hex ha hk=>
  rename_i ls p a cap';split at h
  .-- room
   rename_i amX;simp only[a0e,a0t]at h;obtain⟨hp',Fj,rfl,rfl,rfl⟩:=h;obtain⟨kk,Bg,cs,cs',hbc,xR,ho,rfl⟩:=IG Fj;have hDs:∀k∈dH x,D k:=fun k hk=>hD k (a3n _ hk);obtain⟨s1',s2',arr,TY,s4'⟩:=Ci (P:=P) (fun b=>rfl) hV mM hx hDs;have hg:s.get (.h b)=some (.cells kk cs):=(by simp[St.get,hbc]);have yQ:=(a0c.1 hbc).1;rcases ha with ha|⟨rfl,ha⟩
   .omega
   have hDb:=hD (.h b) (by simp);have hp:=hp.resolve_left (by omega);obtain⟨w',r1,r2,r3⟩:=yN (P:=P) hV hb hDb hg hp (hV.YB hb hDb hg hp Fe xR) ho s4' s2';obtain⟨o1,o2,o3⟩:=vS ho;have hmul:len*sz+n*sz=(len+n)*sz:=(by rw[a3E]);refine⟨rfl,_,w',M,QU (P:=P) (w:=w) (ty:=ty) (a:=⟨p.c,p.base+off,none⟩) h0 h1 hu hn Ko hdd rfl s1' (by omega) (TY w rfl) (by rw[uj,a9T];exact r1),⟨?_,?_,?_,fun _ _ h=>h⟩⟩
   .rw[jy s b _ yQ];exact⟨fun k l hk hd=>r2.ok k l hk (hd.elim id fun⟨x1,x2⟩=>by
      simp only[lX]at x2;split at x2
      .rename_i e;subst e;rw[hg]at x1;cases x1
      .simp[x1]at x2),fun k k' l l' b' a1 a2 a3 hd=>r2.own k k' l l' b' a1 a2 a3 (hd.elim id fun⟨x1,x2⟩=>by
      simp only[lX]at x2;split at x2
      .rename_i e;subst e;rw[hg]at x1;cases x1
      .simp[x1]at x2),r2.inb⟩
   .rw[jy s b _ yQ];exact r3
   .exact .val (.slc hb (.inr hp) (by omega) (by omega) wE hex (.inr ⟨rfl,ha⟩) hk)
  .rename_i amX;split at h
   case isFalse=>simp at h
   rename_i JZ;obtain⟨inf,z,hi,hiz,hzs,Cc,xX,hb3,hb4⟩:=zX JZ;have uX:inf.size=sz:=by obtain⟨i',e1,e2⟩:=F9 hn;rw[hi]at e1;cases e1;exact e2
   have hmul:len*sz+n*sz=(len+n)*sz:=(by rw[a3E]);split at h
   .-- exact: always a new row
    rename_i aho;have NH:=hex aho;simp only[a0e,a0t]at h;obtain⟨⟨l0,old⟩,qF,rfl,rfl,rfl⟩:=h;obtain⟨_,qL,hold⟩:=TU qF;rw[qL]at qF;have hDs:∀k∈dH x,D k:=fun k hk=>hD k (a3n _ hk);obtain⟨s1',s2',arr,TY,s4'⟩:=Ci (P:=P) (fun b=>rfl) hV mM hx hDs;obtain⟨t1',t2',a4O,t3',t4'⟩:=Ci (P:=P) (fun b=>rfl) hV qF hd0 (fun k hk=>hD k (by simp[dH]at hk;simp[hk,gY]));obtain⟨kL,c1,c1',c2⟩:=Fh (P:=P) (w:=w) (ty:=ty) (base:=some a) (sLen:=len) (sCap:=cap') (old:=a4O) (new:=arr) h0 h1 hu hn Ko hdd hi hiz rfl s1' (by omega) Cc xX hb3 t3' TY;obtain⟨M',ahp⟩:=VO (size:=sz) (len:=len+n) (rest:=Builtin.zeroCells z.cells (kL-(len+n))) (e:=e) (pre:=a4O++arr) hV yO (by simpa using t4'.append s4') (fun c hc=>(a3k.1 hc).elim (t2' c) (s2' c)) (by simp[hold,hlen,hmul]) c1 c1' (by rw[wF,hzs,uX]);exact⟨rfl,_,_,M',c2,ahp⟩
   .-- it grows
    split at h
    case h_2=>simp at h
    rename_i aho _ k cs hbc;split at h
    .simp at h
    .rename_i QO;simp only[adw,ne_eq,Decidable.not_not]at QO;have hkc:=hk;obtain⟨hk,rfl,rfl,qm,qL⟩:=QO;have hp:=hp.resolve_left (by omega);simp only[a05,a0t]at h;obtain⟨rfl,rfl,rfl⟩:=h;have hDs:∀k∈dH x,D k:=fun k hk=>hD k (a3n _ hk);have hDb:=hD (.h b) (by simp);obtain⟨s1',s2',arr,TY,s4'⟩:=Ci (P:=P) (fun b=>rfl) hV mM hx hDs;have hg:s.get (.h b)=some (.cells k cs):=(by simp[St.get,hbc]);have hnb:∀(M':Mp) (w':World),Valid M' D (St.get { s with heap:=s.heap.set b (.cells k.more (cs++new)) }) w' ->
       Valid M' (fun j=>D j∨(s.get j=none∧(St.get { s with heap:=s.heap.set b (.cells k.more (cs++new)) } j).isSome=true)) (St.get { s with heap:=s.heap.set b (.cells k.more (cs++new)) }) w':=by
      intro M' w' hv;have aux:∀j,(D j∨(s.get j=none∧(St.get { s with heap:=s.heap.set b (.cells k.more (cs++new)) } j).isSome=true))->D j:=by
       intro j hj;rcases hj with hj|⟨x1,x2⟩
       .exact hj
       .rw[jy s b _ (a0c.1 hbc).1]at x2;simp only[lX]at x2;split at x2
        .rename_i e;subst e;exact hDb
        .simp[x1]at x2
      exact⟨fun k l hk hd=>hv.ok k l hk (aux k hd),fun k k' l l' b' a1 a2 a3 hd=>hv.own k k' l l' b' a1 a2 a3 (aux k hd),hv.inb⟩
     have ar2:arr.size=n*sz:=by have:=s4'.len;simp at this;omega
     have ahq:p.base=0∧p.ext<=cs.length:=by
      obtain⟨fU,q1,q2⟩:=hV.ok _ _ hb hDb;rw[hg]at q1;cases q1;exact⟨(q2.2.1 p hp).base hk,(q2.2.1 p hp).ext⟩
     by_cases EK:len+n<=cap'
     .-- in place
      rcases ha with ha|⟨rfl,ha⟩
      .omega
      have abz:(len+n)*sz<=cap'*sz:=a3X sz EK;have Fa:∀v∈arr.toList,v.oneCell'=true:=by
       intro v hv;obtain⟨i,hi,rfl⟩:=a4J.1 hv;have xE:i<new.length:=by simp at hi;omega
       exact IC (s4'.at_ i new[i] arr.toList[i] (by simp[xE]) (by simp)) (s2' _ (a4z xE))
      obtain⟨fU,q1,q2⟩:=hV.ok _ _ hb hDb;rw[hg]at q1;cases q1;obtain⟨row,rty,rfz,z1,z2,z3,z4⟩:=(q2.2.1 p hp).row;have:=z3 hk;subst this;have vI:=run_storeCells_at (P:=P) p.c cs.length rty arr.toList 0 row w z1 (by simp;omega) Fa;obtain⟨M',q,v1,v2,v3,⟨xP,v4,v5⟩,v6,v7,v8⟩:=a0r (P:=P) hV hb hDb hbc hk hp (by omega) s4' s2' abA true #[] #[] 0 (.inl ⟨rfl,by omega,vI⟩);rcases v8 with⟨_,v9,v10⟩|⟨v9,_⟩
      .refine⟨rfl,_,_,M',QU (P:=P) (w:=w) (ty:=ty) (a:=⟨p.c,p.base+0,none⟩) h0 h1 hu hn Ko hdd rfl s1' EK (TY w rfl) (by rw[uj,ahq.1];simp only[a4e,adD];rw[<-qm];exact vI),⟨hnb _ _ v1,v2,?_,v3⟩⟩;refine .val (.slc v4 (.inr v5) (by omega) (a1b _) EK (fun h=>by simp at h) (.inr ⟨by rw[v9,v7,ahq.1],by rw[v7,v10];omega⟩) hkc)
      .cases v9
     .-- a new row
      have qF:fE sz s.heap (.slc b 0 len len sz ex)=some (len,cs):=by
       have:sub cs 0 (len*sz)=some cs:=by
        unfold sub;rw[a0p (by omega)];simp[<-qm]
       simp[fE,mD,hbc,this,qm,qL]
      obtain⟨t1',t2',a4O,t3',t4'⟩:=Ci (P:=P) (fun b=>rfl) hV qF hd0 (fun k hk=>by simp[dH]at hk;rw[hk];exact hDb);obtain⟨kL,c1,c1',c2⟩:=Fh (P:=P) (w:=w) (ty:=ty) (base:=some a) (sLen:=len) (sCap:=cap') (old:=a4O) (new:=arr) h0 h1 hu hn Ko hdd hi hiz rfl s1' (by omega) Cc xX hb3 t3' TY;obtain⟨M',q,v1,v2,v3,⟨xP,v4,v5⟩,v6,v7,v8⟩:=a0r (P:=P) hV hb hDb hbc hk hp (by omega) s4' s2' abA false a4O (Builtin.zeroCells z.cells (kL-(len+n))) e (.inr ⟨rfl,t4',rfl⟩);rcases v8 with⟨v9,_⟩|⟨_,v10,v11⟩
      .cases v9
      .refine⟨rfl,_,_,M',c2,⟨hnb _ _ v1,v2,?_,v3⟩⟩;refine .val (.slc v4 (.inr v5) (by omega) (a1b _) c1 (fun h=>by simp at h) (.inr ⟨by rw[v10,v7],?_⟩) c1');rw[v11,v7];have QW:=t4'.len;simp only[a9I]at QW;have hm3:(len+n)*sz+(kL-(len+n))*sz=kL*sz:=by rw[<-a3E];congr 1;omega
       simp only[Array.size_append,wF,hzs,uX];omega
 .simp at h
end
section
variable {P:Program} {M:Mp} {D:Key->Prop} {w:World} {s:St}
theorem a4Q{cs l:List TV}{off n m:Nat}(h:sub cs off n=some l)(hm:m<=n):sub cs off m=some (l.take m):=by
 obtain⟨h1,h2,h3⟩:=um h;unfold sub;rw[a0p (by omega),h2,afz,a7M hm]
theorem U0{at_:Array TypeId}{ty:TypeId}{d x r:TV}{s1:St}{i:mg}{dv xv:Value}(hV:Valid M D s.get w)
  (h:Gj P at_ s d x=some (r,s1,i)) (hd:VR M.h d dv) (hx:VR M.h x xv) (hD:∀k∈i.ts,D k) :
  s1.env=s.env∧BOk P M D s.get w (Builtin.copy_ at_ ty #[dv,xv]) r s1.get i.ws:=by
 unfold Gj at h;split at h
 case h_2=>simp at h
 rename_i st h0;split at h
 case h_2=>simp at h
 rename_i e size zO;obtain⟨hu,hn,hn0⟩:=qU zO;split at h
 case h_2=>simp at h
 rename_i n new mM;split at h
 case isFalse=>simp at h
 rename_i hlen;obtain⟨hlen,NJ⟩:=hlen;have first:∀(m:Nat),m<=n->(∀k∈dH x,D k)->(Builtin.lenOf xv).run P w=.ok n w∧(∀c∈new.take (m*size),iR c=true) ∧
   ∃arr,(Builtin.firstCells size m xv).run P w=.ok arr w∧bU M.h (new.take (m*size)) arr.toList:=by
  intro m hm hDs;obtain⟨s1',s2',arr,TY,s4'⟩:=Ci (P:=P) (fun b=>rfl) hV mM hx hDs;refine⟨s1',fun c hc=>s2' c (a9t hc),?_⟩;have hmul:m*size<=n*size:=a3X size hm;cases hx with
  |TN=>
   unfold fE at mM;simp at mM;obtain⟨rfl,rfl⟩:=mM;exact⟨#[],by simp[Builtin.firstCells],by simpa using bU.nil⟩
  |slc hb hp Fe hle wE hex ha hk=>
   rename_i b off len cap sz ex ls p a cap';unfold fE at mM;simp only at mM;split at mM
   case isFalse=>simp at mM
   rename_i uX;subst uX;split at mM
   .rename_i hz;simp at mM;obtain⟨rfl,rfl⟩:=mM;have:m=0:=(by omega);subst this;exact⟨#[],by simp[Builtin.firstCells,loadCells,loadCellsFrom],by simpa using bU.nil⟩
   split at mM
   case h_2=>simp at mM
   rename_i cs hbc;simp only[a0e,a0t]at mM;obtain⟨r',hr,rfl,rfl⟩:=mM;obtain⟨k,hk,VJ⟩:=xQ hbc;obtain⟨fU,h1,h2⟩:=hV.ok _ _ hb (hDs _ (by simp[dH]));simp only[St.get,hk,a05]at h1;subst h1;by_cases h00:cap'=0
   .have qL:len=0:=(by omega);subst qL;have:m=0:=(by omega);subst this;exact⟨#[],by simp[Builtin.firstCells,loadCells,loadCellsFrom],by simpa using bU.nil⟩
   .rcases ha with ha|⟨rfl,ha⟩
    .exact absurd ha h00
    .obtain⟨xs,x1,x2⟩:=yD (P:=P) (h2.2.1 p (hp.resolve_left h00)) (a4Q hr hmul) (by have:=a3X sz hle;omega) (fun e=>by have:=VJ e;have:=(h2.2.1 p (hp.resolve_left h00)).ext;omega);exact⟨xs.toArray,by simp[Builtin.firstCells,x2 w rfl],x1⟩
  |str bs=>simp[isStr]at NJ
  |_=>simp[fE]at mM
 split at h
 .simp at h;obtain⟨rfl,rfl,rfl⟩:=h;cases hd;obtain⟨f1,f2,arr,f3,f4⟩:=first 0 (a4K _) hD
  have f5:=f4.len;simp at f5;exact⟨rfl,.int .i64 0,w,M,by simp[Builtin.copy_,h0,run_underlying hu,f1,cO hn,f3,goInt],.same hV (.val (.int _ _))⟩
 .rename_i b off len cap sz ex;split at h
  case isFalse=>simp at h
  rename_i uX;subst uX;have hd0:=hd;cases hd with
  |slc hb hp Fe hle wE hex ha hk=>
  rename_i ls p a cap';split at h
  .rename_i hm;simp at h;obtain⟨rfl,rfl,rfl⟩:=h;obtain⟨f1,f2,arr,f3,f4⟩:=first 0 (a4K _) hD
   have f5:arr.toList=[]:=by
    have:=f4.len;simp only[acQ,List.take_zero,a4R]at this;exact a4g this.symm
   refine⟨rfl,.int .i64 0,w,M,?_,.same hV (.val (.int _ _))⟩;have e1:Nat.min n len=0:=hm;simp[Builtin.copy_,h0,run_underlying hu,f1,cO hn,e1,f3,goInt,f5,storeCells]
  .rename_i hm;simp only[a0e,a0t]at h;obtain⟨hp',Fj,rfl,rfl,rfl⟩:=h;obtain⟨kk,Bg,cs,cs',hbc,xR,ho,rfl⟩:=IG Fj;obtain⟨f1,f2,arr,f3,f4⟩:=first (min n len) (Nat.min_le_left _ _) (fun k hk=>hD k (a3n _ hk))
   have hg:s.get (.h b)=some (.cells kk cs):=(by simp[St.get,hbc]);have yQ:=(a0c.1 hbc).1;rcases ha with ha|⟨rfl,ha⟩
   .omega
   obtain⟨w',r1,r2,r3⟩:=yN (P:=P) hV hb (hD (.h b) (by simp)) hg (hp.resolve_left (by omega)) (hV.YB hb (hD (.h b) (by simp)) hg (hp.resolve_left (by omega)) Fe xR) ho f4 f2;refine⟨rfl,.int .i64 (min n len:Nat),w',M,?_,⟨?_,?_,.val (.int _ _),fun _ _ h=>h⟩⟩
   .have e1:Nat.min n len=min n len:=rfl;simp[Builtin.copy_,h0,run_underlying hu,f1,cO hn,e1,f3,goInt,r1]
   .rw[jy s b _ yQ];exact r2.widen (DU (by simp[hg]))
   .rw[jy s b _ yQ];exact r3
 .simp at h
end
section
variable {P:Program} {M:Mp} {D:Key->Prop} {w:World} {s:St} {N:Np}
theorem bI{α β:Type}(x:Sem α)(f:α->Sem β):aB P (x >>= f)=(aB P x).bind fun a=>aB P (f a):=by
 show aB P (x.bind f)=_
 induction x with
 |pure a=>rfl
 |program k ih=>exact ih P
 |mark m k ih=>exact ih
 |_=>rfl
def IL(b:Nat->Bool)(L:List MapEntry)(i0:Nat):Option (Nat×Value)->Prop
 |none=>∀i,i<L.length->b i=false
 |some (i,v)=>i0<=i∧b (i-i0)=true∧∃x,L[i-i0]? = some x∧v=x.val
theorem IL.succ{b:Nat->Bool}{e:MapEntry}{L:List MapEntry}{i0:Nat}{r:Option (Nat×Value)}(hb:b 0=false)(h:IL (fun i=>b (i+1)) L (i0+1) r):IL b (e::L) i0 r:=by
 cases r with
 |none=>
  intro i hi;cases i with
  |zero=>exact hb
  |succ i=>exact h i (by simpa using hi)
 |some r=>
  obtain⟨h1,h2,x,h3,h4⟩:=h;have e1:r.1-i0=(r.1-(i0+1))+1:=by omega
  refine⟨by omega,by rw[e1];exact h2,x,by rw[e1];simpa using h3,h4⟩
theorem Kq(kind:TypeDesc)(k:Value):∀(L:List MapEntry) (i0:Nat) (b:Nat->Bool),(∀i x,L[i]? = some x->Instr.sameNow kind k x.key=some (b i)) ->
  ∃r,Instr.findNow kind k L i0=some r∧IL b L i0 r
 | [],i0,b,_=>⟨none,rfl,fun i hi=>absurd hi (by simp)⟩
 |e::L,i0,b,h=>by
  have h0:=h 0 e rfl;obtain⟨r,g1,g2⟩:=Kq kind k L (i0+1) (fun i=>b (i+1)) fun i x hx=>h (i+1) x (by simpa using hx);simp only[Instr.findNow,h0];cases hb:b 0 with
  |true=>exact⟨_,rfl,a1b _,by simpa using hb,e,by simp,rfl⟩
  |false=>exact⟨r,g1,g2.succ hb⟩
theorem Cj(kt:TypeId)(k:Value):∀(L:List MapEntry) (i0:Nat) (b:Nat->Bool),(∀i x,L[i]? = some x->aB P (Op.equal kt k x.key)=some (b i)) ->
  ∃r,(∀w,(Instr.findAsking kt k L i0).run P w=.ok r w)∧IL b L i0 r
 | [],i0,b,_=>⟨none,fun w=>rfl,fun i hi=>absurd hi (by simp)⟩
 |e::L,i0,b,h=>by
  have h0:=fun w=>iY (h 0 e rfl) w;obtain⟨r,g1,g2⟩:=Cj kt k L (i0+1) (fun i=>b (i+1)) fun i x hx=>h (i+1) x (by simpa using hx);cases hb:b 0 with
  |true=>exact⟨some (i0,e.val),fun w=>by simp[Instr.findAsking,h0 w,hb],a1b _,by simpa using hb,e,by simp,rfl⟩
  |false=>exact⟨r,fun w=>by simp[Instr.findAsking,h0 w,hb,g1 w],g2.succ hb⟩
theorem a0u:∀{l:List TV} {vs:List Value},BA l=some vs->∀(i:Nat) (c:TV),l[i]? = some c->∃v,vs[i]? = some v∧c.yB=some v
 | [],vs,h,i,c,hc=>by simp at hc
 |a::l,vs,h,i,c,hc=>by
  simp only[BA]at h;split at h
  .rename_i v ws h1 h2;cases h;cases i with
   |zero=>simp at hc;subst hc;exact⟨v,rfl,h1⟩
   |succ i=>simpa using a0u h2 i c (by simpa using hc)
  cases h
def FR(N:Np)(o:List Nat)(es:List (TV×TV))(xs:Array MapEntry):Option Nat->Option (Nat×Value)->Prop
 |none,none=>True
 |some j,some (i,v)=>o[i]? = some j∧∃e x,es[j]? = some e∧xs[i]? = some x∧v=x.val∧VR N e.1 x.key∧VR N e.2 x.val
 |_,_=>False
theorem Gt{o:List Nat}{kt:TypeId}{k:Value}{es:List (TV×TV)}{r:Option Nat}{xs:Array MapEntry}(h:EF P kt k es=some r)(hx:wz N o es xs) :
  (∀w,(Instr.checkKey xs.isEmpty 10000 kt k).run P w=.ok () w)∧∃r',(∀w,(Instr.findKey kt k xs.toList).run P w=.ok r' w) ∧
   FR N o es xs r r':=by
 unfold EF at h;split at h
 case h_2=>simp at h
 rename_i ks EL;split at h
 case h_2=>simp at h
 rename_i r0 hr;split at h
 case isFalse=>simp at h
 rename_i QX;cases h;generalize r0.map (·.1)=r at QX ⊢;have hl:es.isEmpty=xs.isEmpty:=by
  rw[a4H];simp[List.isEmpty_iff,<-a7v,hx.len]
 have JX:ks.length=es.length:=by
  have:∀{l:List TV} {vs:List Value},BA l=some vs->vs.length=l.length:=by
   intro l
   induction l with
   |nil=>intro vs h;simp[BA]at h;subst h;rfl
   |cons a l ih=>
    intro vs h;simp only[BA]at h;split at h
    .rename_i v ws h1 h2;cases h;simp[ih h2]
    .cases h
  simpa using this EL
 rw[bI]at hr;cases hc:aB P (Instr.checkKey es.isEmpty 10000 kt k)with
 |none=>simp[hc]at hr
 |some u=>
  refine⟨fun w=>by rw[<-hl];exact iY hc w,?_⟩;unfold VB at QX;split at QX
  case h_2=>simp at QX
  rename_i kind hd;have hdr:=fun w=>iY hd w;simp only[a2o]at QX;obtain⟨hj,hs⟩:=QX;have a97:∀(i:Nat) (x:MapEntry),xs.toList[i]? = some x->∃(j:Nat) (e:TV×TV),o[i]? = some j∧es[j]? = some e∧VR N e.1 x.key∧VR N e.2 x.val∧ks[j]? = some x.key:=by
   intro i x hi;obtain⟨_,j,e,h1,h2,h3,h4⟩:=hx.at_ i x (by simpa using hi);obtain⟨v,g1,g2⟩:=a0u EL j e.1 (by simp[h2]);exact⟨j,e,h1,h2,h3,h4,by rw[g1,wu g2 h3]⟩
  let b:Nat->Bool:=fun i=>o[i]? == r
  have hb:∀i j,o[i]? = some j->b i=(some j==r):=fun i j h=>by simp only[b,h]
  have fin:∀r',IL b xs.toList 0 r'->FR N o es xs r r':=by
   intro r' hf;cases r' with
   |none=>
    cases r with
    |none=>trivial
    |some j=>
     simp only[a1Q]at hj;obtain⟨i,hi⟩:=a8Q.1 (hx.sur j (by omega));have h1:=hf i (by have:=(a0c.1 hi).1;have:=hx.ord;simp;omega);rw[hb i j hi]at h1;simp at h1
   |some q=>
    obtain⟨i,v⟩:=q;obtain⟨_,h1,x,h2,h3⟩:=hf;simp only[Nat.sub_zero]at h1 h2;obtain⟨j,e,g1,g2,g3,g4,_⟩:=a97 i x h2;rw[hb i j g1]at h1;simp only[a6H]at h1;subst h1;exact⟨g1,e,x,g2,by simpa using h2,h3,g3,g4⟩
  have Fq:∀{p:Value×Nat->Bool},ks.zipIdx.all p=true->∀j x,ks[j]? = some x->p (x,j)=true:=by
   intro p hp j x hjx;exact a4A.1 hp (x,j) (a9u.2 (by simpa using hjx))
  unfold Instr.findKey;rcases a8X _ _▸hs with hs|hs
  .obtain⟨r',g1,g2⟩:=Kq kind k xs.toList 0 b fun i x hi=>by
    obtain⟨j,e,h1,_,_,_,h5⟩:=a97 i x hi;have:=Fq hs j _ h5;simp only[a6H]at this;rw[this,hb i j h1]
   exact⟨r',fun w=>by simp[hdr w,g1],fin r' g2⟩
  .by_cases h0:xs.toList=[]
   .refine⟨none,fun w=>by simp[hdr w,h0,Instr.findNow],fin none (by rw[h0];intro i hi;simp at hi)⟩
   .have Yr:Instr.findNow kind k xs.toList 0=none:=by
     cases hL:xs.toList with
     |nil=>exact absurd hL h0
     |cons x L=>
      obtain⟨j,e,h1,_,_,_,h5⟩:=a97 0 x (by rw[hL];rfl);have:=Fq hs j _ h5;simp only[a2o,a6H]at this;simp only[Instr.findNow,this.1]
    obtain⟨r',g1,g2⟩:=Cj (P:=P) kt k xs.toList 0 b fun i x hi=>by
     obtain⟨j,e,h1,_,_,_,h5⟩:=a97 i x hi;have:=Fq hs j _ h5;simp only[a2o,a6H]at this;rw[this.2,hb i j h1]
    exact⟨r',fun w=>by simp[hdr w,Yr,g1 w],fin r' g2⟩
theorem DV{t:TypeId}{m k r:TV}{ok:Bool}{mv kv:Value}(hV:Valid M D s.get w)(h:gX P t s.heap m k ok=some r)(hm:VR M.h m mv)(hk:VR M.h k kv)
  (hD:∀j∈(match m with|.map r=>[Key.h r] |_=>[]),D j):∃z,VR M.h r z∧(Instr.lookup t mv kv ok).run P w=.ok z w:=by
 unfold gX at h;split at h
 case h_2=>simp at h
 rename_i kt e kx hu hkx;have:=wu hkx hk;subst this;simp only at h;have main:∀(o:List Nat) (es:List (TV×TV)) (xs:Array MapEntry),wz M.h o es xs->((mv=.map none∧xs=#[])∨∃r1 ck,mv=.map (some r1)∧w.heap[r1]? = some (.map xs ck)) ->
   (match EF P kt kv es with
   |some (some i)=>match es[i]? with
    |some (_,v)=>some (if ok then .dI [v,.bool true]else v)
    |none=>none
   |some none=>match P.info? e with
    |some i=>match i.zero with
     |some z=>(TV.Vu z).map fun z=>if ok then .dI [z,.bool false]else z
     |none=>none
    |none=>none
   |none=>none)=some r->∃z,VR M.h r z∧(Instr.lookup t mv kv ok).run P w=.ok z w:=by
  intro o es xs hx vI h;cases hf:EF P kt kv es with
  |none=>simp[hf]at h
  |some r0=>
   rw[hf]at h;obtain⟨c1,r',c2,c3⟩:=Gt hf hx;cases r0 with
   |some j=>
    cases r' with
    |none=>exact c3.elim
    |some jv=>
     obtain⟨j',v⟩:=jv;obtain⟨_,e',x',e1,e2,rfl,_,hv⟩:=c3;simp only[e1,a05]at h;subst h;refine⟨if ok then .tuple #[x'.val,.bool true]else x'.val,?_,?_⟩
     .cases ok
      .exact hv
      .exact .Qe (.cons hv (.cons (.bool true) .nil))
     .rcases vI with⟨rfl,rfl⟩|⟨r1,ck,rfl,hmp⟩
      .simp only[Instr.lookup,Sem.run_bind,run_underlying hu,Result.andThen_ok,c1 w,c2 w,Sem.run_pure]
      .simp only[Instr.lookup,Sem.run_bind,run_underlying hu,Result.andThen_ok,getObj,Sem.run,hmp,c1 w,c2 w,Sem.run_pure]
   |none=>
    cases r' with
    |some jv=>exact c3.elim
    |none=>
     simp only at h;split at h
     case h_2=>simp at h
     rename_i inf hi;split at h
     case h_2=>simp at h
     rename_i z hz;simp only[a0e]at h;obtain⟨zt,hzt,rfl⟩:=h;have hv:VR M.h zt z:=.yC hzt;refine⟨if ok then .tuple #[z,.bool false]else z,?_,?_⟩
     .cases ok
      .exact hv
      .exact .Qe (.cons hv (.cons (.bool false) .nil))
     .have hzr:(zeroValue e).run P w=.ok z w:=(by simp[zeroValue,iT hi,hz]);rcases vI with⟨rfl,rfl⟩|⟨r1,ck,rfl,hmp⟩
      .simp only[Instr.lookup,Sem.run_bind,run_underlying hu,Result.andThen_ok,c1 w,c2 w,Sem.run_pure,hzr]
      .simp only[Instr.lookup,Sem.run_bind,run_underlying hu,Result.andThen_ok,getObj,Sem.run,hmp,c1 w,c2 w,Sem.run_pure,hzr]
 cases hm with
 |Yz=>exact main [] [] #[] ⟨rfl,rfl,.nil,by simp,by simp⟩ (.inl ⟨rfl,rfl⟩) h
 |map hmm=>
  rename_i r0 r1 o1;obtain⟨fU,b1,b2⟩:=hV.ok _ _ hmm (hD _ (by simp));simp only[St.get]at b1;simp only[b1]at h;cases fU with
  |map es=>
   obtain⟨xs,g1,g2⟩:=b2;exact main o1 es xs g2 (.inr ⟨r1,xs.size,rfl,g1⟩) h
  |cells k cs=>exact b2.elim
  |loop=>simp at h
  |mark=>simp at h
  |ng=>simp at h
  |cZ=>simp at h
 |_=>simp at h
end
section
variable {P:Program} {M:Mp} {D:Key->Prop} {w:World} {s:St}
theorem yR(hV:Valid M D s.get w){r r1:Nat}{o o':List Nat}{es fQ:List (TV×TV)}{xs xs':Array MapEntry}(hm:M (.h r)=some (.obj r1 o))(hd:D (.h r))(hb:s.heap[r]? = some (.map es))
  (hr:w.heap[r1]? = some (.map xs xs.size)) (ho:o <+: o') (hx:wz (dL M (.h r) (.obj r1 o')).h o' fQ xs') :
  Valid (dL M (.h r) (.obj r1 o')) (fun j=>D j∨(s.get j=none∧(St.get { s with heap:=s.heap.set r (.map fQ) } j).isSome=true)) (St.get { s with heap:=s.heap.set r (.map fQ) }) { w with heap:=w.heap.setIfInBounds r1 (.map xs' xs'.size) } ∧
  Ext M s.get w (dL M (.h r) (.obj r1 o')) (St.get { s with heap:=s.heap.set r (.map fQ) }) { w with heap:=w.heap.setIfInBounds r1 (.map xs' xs'.size) } [.h r]:=by
 have hg:s.get (.h r)=some (.map es):=by simp[St.get,hb]
 have yQ:=(a0c.1 hb).1;have hle:rZ M (dL M (.h r) (.obj r1 o')):=mJ fun l0 h0=>by rw[hm]at h0;cases h0;exact⟨rfl,ho⟩
 have aQ:r1<w.heap.size:=(a2p.1 hr).1;have fZ:∀c,c<w.heap.size->c∉aI (.obj r1 o')->(w.heap.setIfInBounds r1 (Obj.map xs' xs'.size))[c]? = w.heap[c]?:=fun c _ hc=>by
  rw[a8R,a0o (by simp[aI]at hc;omega)]
 have fP:∀c∈aI (.obj r1 o'),(∃l0,M (.h r)=some l0∧c∈aI l0)∨w.heap.size<=c:=fun c hc=>.inl ⟨_,hm,hc⟩;constructor
 .rw[jy s r _ yQ];refine Valid.widen ?_ (DU (by simp[hg]));exact hV.upd (D':=D) (w':={ w with heap:=w.heap.setIfInBounds r1 (.map xs' xs'.size) }) (.h r) (.map fQ) (.obj r1 o') (fun j hj=>.inl hj) (fun l0 h0=>by
   rw[hm]at h0;cases h0;exact⟨hd,⟨rfl,ho⟩,fun b0 zN=>by rw[hg]at zN;cases zN;rfl⟩) fZ fP (by simp) ⟨xs',by simp[aQ],hx⟩
 .rw[jy s r _ yQ];exact Ext.upd (M:=M) (C:=s.get) (w:=w) (w':={ w with heap:=w.heap.setIfInBounds r1 (.map xs' xs'.size) }) (.h r) (.map fQ) (.obj r1 o') [.h r] (.inl ⟨by simp[hg],rfl,by simp[hm],fun b0 zN=>by rw[hg]at zN;cases zN;rfl⟩) hle fZ fP (by simp) rfl rfl rfl
theorem wz.lt{N:Np}{o:List Nat}{es:List (TV×TV)}{xs:Array MapEntry}(g2:wz N o es xs):∀j∈o,j<es.length:=fun j hj=>by
 obtain⟨i,hi⟩:=a8Q.1 hj;have:i<xs.size:=by rw[<-g2.ord];exact(a0c.1 hi).1
 obtain⟨_,j',e,z1,z2,_⟩:=g2.at_ i _ (a4c this);rw[hi]at z1;cases z1;exact(a0c.1 z2).1
theorem wz.upd{N N':Np}{o:List Nat}{es:List (TV×TV)}{xs:Array MapEntry}(g2:wz N o es xs)(hle:rZ N N'){i j:Nat}{x':MapEntry}{f:MapEntry->MapEntry}{k v:TV}
  (q1:o[i]? = some j) (e2:xs[i]? = some x') (hb:(f x').born=x'.born) (hk:VR N' k (f x').key) (hv:VR N' v (f x').val):wz N' o (es.set j (k,v)) (xs.modify i f):=by
 have g3:=g2.mono hle;refine⟨by simp[g2.len],by simp[g2.ord],g2.nod,fun j' DR=>g2.sur j' (by simpa using DR),fun a x h2=>?_⟩;rw[abI]at h2;by_cases ha:i=a
 .subst ha;rw[a0p rfl,e2]at h2;simp only[a0v,a05]at h2;subst h2;obtain⟨z1,j2,e2',z2,z3,_⟩:=g2.at_ i x' e2;rw[q1]at z2;cases z2;exact⟨hb.trans z1,j,(k,v),q1,by rw[a9C];simp[(a0c.1 z3).1],hk,hv⟩
 .rw[a0o ha]at h2;obtain⟨z1,j2,e2',z2,z3,z4,z5⟩:=g3.at_ a x h2;refine⟨z1,j2,e2',z2,?_,z4,z5⟩;have iC:j≠j2:=fun e=>by
   subst e;have i1:=a0c.1 q1;have i2:=a0c.1 z2;exact ha ((aae g2.nod (h₀:=i1.1) (h₁:=i2.1)).1 (i1.2.trans i2.2.symm))
  rw[a9C,a0o iC];exact z3
theorem wz.push{N N':Np}{o:List Nat}{es:List (TV×TV)}{xs:Array MapEntry}(g2:wz N o es xs)(hle:rZ N N'){k v:TV}{kv vv:Value}
  (hk:VR N' k kv) (hv:VR N' v vv):wz N' (o++[es.length]) (es++[(k,v)]) (xs.push { key:=kv,val:=vv,born:=xs.size }):=by
 have aQ:=g2.lt;have g3:=g2.mono hle;refine⟨by simp[g2.len],by simp[g2.ord],?_,fun j hj=>?_,fun a x h2=>?_⟩
 .rw[a8P];exact⟨g2.nod,by simp,fun x hx y hy=>by simp at hy;subst hy;have:=aQ x hx;omega⟩
 .simp only[a2j,a4i,a4R]at hj;rcases a4l j es.length with h1|h1
  .exact a5U _ (g2.sur j h1)
  .exact abJ _ (by simp;omega)
 .rw[Array.getElem?_push]at h2;by_cases ha:a=xs.size
  .rw[a0p ha]at h2;simp only[a05]at h2;subst h2;exact⟨ha.symm,es.length,(k,v),by rw[a1c (by rw[g2.ord];omega),g2.ord,ha];simp,by simp,hk,hv⟩
  .rw[a0o ha]at h2;obtain⟨z1,j2,e2',z2,z3,z4,z5⟩:=g3.at_ a x h2;exact⟨z1,j2,e2',by rw[a0j (a0c.1 z2).1];exact z2,by rw[a0j (a0c.1 z3).1];exact z3,z4,z5⟩
theorem QY{t:TypeId}{m k v:TV}{s1:St}{i:mg}{mv kv vv:Value}(hV:Valid M D s.get w)(h:xM P t s m k v=some (s1,i))(hm:VR M.h m mv)(hk:VR M.h k kv)(hv:VR M.h v vv)
  (hD:∀j∈i.ts,D j):s1.env=s.env∧∃w' M',(Instr.mapUpdate t mv kv vv).run P w=.ok () w' ∧
   Valid M' (fun j=>D j∨(s.get j=none∧(s1.get j).isSome=true)) s1.get w'∧Ext M s.get w M' s1.get w' i.ws∧(∀k l,M (.l k)=some l->M' (.l k)=some l):=by
 unfold xM at h;split at h
 case h_2=>simp at h
 rename_i kt et kx r hu hkx;have:=wu hkx hk;subst this;split at h
 case h_2=>simp at h
 rename_i es LD hck;have c0:=iY hck w;cases hm with
 |map hmm=>
 rename_i r1 o1;have yS:∀o',∀k l,M (.l k)=some l->dL M (.h r) (.obj r1 o') (.l k)=some l:=fun o' k l h=>by simp[dL,h]
 have go:D (.h r)->∃xs,w.heap[r1]? = some (.map xs xs.size)∧wz M.h o1 es xs:=by
  intro hd;obtain⟨fU,b1,b2⟩:=hV.ok _ _ hmm hd;simp only[St.get,LD,a05]at b1;subst b1;exact b2
 split at h
 .-- an entry that is there
  rename_i j hf;split at h
  case h_2=>simp at h
  rename_i old ov0 hj;split at h
  case h_2=>simp at h
  rename_i ov hov;split at h
  case isFalse=>simp at h
  rename_i VQ;simp only[a05,a0t]at h;obtain⟨rfl,rfl⟩:=h;have hd:=hD (.h r) (by simp[pz]);obtain⟨xs,g1,g2⟩:=go hd;obtain⟨c1,r',c2,c3⟩:=Gt hf g2;cases r' with
  |none=>exact c3.elim
  |some jv=>
   obtain⟨i,v'⟩:=jv;obtain⟨q1,e',x',e1,e2,rfl,q2,_⟩:=c3;rw[hj]at e1;cases e1;have hold:x'.key=ov:=wu hov q2;have hle:rZ M (dL M (.h r) (.obj r1 o1)):=mJ fun l0 h0=>by
    have h0':M (.h r)=some l0:=h0;have Qi:M (.h r)=some (.obj r1 o1):=hmm;rw[Qi]at h0';cases h0';exact .refl _
   have Fg:=g2.upd (f:=fun e=>{ e with key:=kv,val:=vv }) hle.h q1 e2 rfl (hk.mono hle.h) (hv.mono hle.h);obtain⟨v1,v2⟩:=yR hV hmm hd LD g1 (agB _) Fg;refine⟨rfl,_,_,?_,v1,v2,yS _⟩;simp only[Instr.mapUpdate,Sem.run_bind,run_underlying hu,Result.andThen_ok,getObj,Sem.run,g1];simp only[c0,c2 w,Result.andThen_ok,e2,a0v,a5e,Instr.keyThatStays,hold,VQ,a2w,setObj];simp only[Sem.run_bind,Sem.run_pure,Result.andThen_ok,Sem.run,g1,Array.size_modify]
 .-- a new entry
  rename_i hf;simp only[a05,a0t]at h;obtain⟨rfl,rfl⟩:=h;have hd:=hD (.h r) (by simp[pz]);obtain⟨xs,g1,g2⟩:=go hd;obtain⟨c1,r',c2,c3⟩:=Gt hf g2;cases r' with
  |some jv=>exact c3.elim
  |none=>
   have Eu:o1 <+: o1++[es.length]:=⟨_,rfl⟩;have hle:rZ M (dL M (.h r) (.obj r1 (o1++[es.length]))):=mJ fun l0 h0=>by
    have h0':M (.h r)=some l0:=h0;have Qi:M (.h r)=some (.obj r1 o1):=hmm;rw[Qi]at h0';cases h0';exact⟨rfl,Eu⟩
   have Fg:=g2.push hle.h (hk.mono hle.h) (hv.mono hle.h);obtain⟨v1,v2⟩:=yR hV hmm hd LD g1 Eu Fg;refine⟨rfl,_,_,?_,v1,v2,yS _⟩;simp only[Instr.mapUpdate,Sem.run_bind,run_underlying hu,Result.andThen_ok,getObj,Sem.run,g1];simp only[c0,c2 w,Result.andThen_ok,setObj,Sem.run,g1,Array.size_push]
 .simp at h
theorem a2q{t:TypeId}{m k:TV}{e:EV}{s1:St}{i:mg}{mv kv:Value}(hV:Valid M D s.get w)(h:zU P t s m k=some (e,s1,i))(hm:VR M.h m mv)(hk:VR M.h k kv)
  (hD:∀j∈i.ts,D j):s1.env=s.env∧∃x w' M',(Instr.mapEntry t mv kv).run P w=.ok x w'∧ER M' e x ∧
   Valid M' (fun j=>D j∨(s.get j=none∧(s1.get j).isSome=true)) s1.get w'∧Ext M s.get w M' s1.get w' i.ws∧(∀k l,M (.l k)=some l->M' (.l k)=some l):=by
 unfold zU at h;split at h
 case h_2=>simp at h
 rename_i kt et kx r hu hkx;have:=wu hkx hk;subst this;split at h
 case h_2=>simp at h
 rename_i es LD hck;have c0:=iY hck w;cases hm with
 |map hmm=>
 rename_i r1 o1;have yS:∀o',∀k l,M (.l k)=some l->dL M (.h r) (.obj r1 o') (.l k)=some l:=fun o' k l h=>by simp[dL,h]
 have go:D (.h r)->∃xs,w.heap[r1]? = some (.map xs xs.size)∧wz M.h o1 es xs:=by
  intro hd;obtain⟨fU,b1,b2⟩:=hV.ok _ _ hmm hd;simp only[St.get,LD,a05]at b1;subst b1;exact b2
 have Iw:∀o',dL M (.h r) (.obj r1 o') (.h r)=some (.obj r1 o'):=fun o'=>by simp[dL]
 split at h
 .rename_i j hf;split at h
  case h_2=>simp at h
  rename_i old v0 hj;split at h
  case h_2=>simp at h
  rename_i ov hov;split at h
  case isFalse=>simp at h
  rename_i VQ;simp only[a05,a0t]at h;obtain⟨rfl,rfl,rfl⟩:=h;have hd:=hD (.h r) (by simp[pz]);obtain⟨xs,g1,g2⟩:=go hd;obtain⟨c1,r',c2,c3⟩:=Gt hf g2;cases r' with
  |none=>exact c3.elim
  |some jv=>
   obtain⟨i,v'⟩:=jv;obtain⟨q1,e',x',e1,e2,rfl,q2,q3⟩:=c3;rw[hj]at e1;cases e1;have hold:x'.key=ov:=wu hov q2;have hle:rZ M (dL M (.h r) (.obj r1 o1)):=mJ fun l0 h0=>by
    have h0':M (.h r)=some l0:=h0;have Qi:M (.h r)=some (.obj r1 o1):=hmm;rw[Qi]at h0';cases h0';exact .refl _
   have Fg:=g2.upd (f:=fun e=>{ e with key:=kv }) hle.h q1 e2 rfl (hk.mono hle.h) (q3.mono hle.h);obtain⟨v1,v2⟩:=yR hV hmm hd LD g1 (agB _) Fg;refine⟨rfl,.tuple #[x'.val,Go.goInt i],_,_,?_,.ent (Iw _) q1 (q3.mono hle.h),v1,v2,yS _⟩;simp only[Instr.mapEntry,Sem.run_bind,run_underlying hu,Result.andThen_ok,getObj,Sem.run,g1];simp only[c0,c2 w,Result.andThen_ok,e2,a0v,a5e,Instr.keyThatStays,hold,VQ,a2w,setObj,(g2.at_ i x' e2).1];simp only[Sem.run_bind,Sem.run_pure,Result.andThen_ok,Sem.run,g1,Array.size_modify]
 .rename_i hf;split at h
  case h_2=>simp at h
  rename_i inf hi;split at h
  case h_2=>simp at h
  rename_i z hz;split at h
  case h_2=>simp at h
  rename_i zt hzt;simp only[a05,a0t]at h;obtain⟨rfl,rfl,rfl⟩:=h;have hd:=hD (.h r) (by simp[pz]);obtain⟨xs,g1,g2⟩:=go hd;obtain⟨c1,r',c2,c3⟩:=Gt hf g2;have hzr:(zeroValue et).run P w=.ok z w:=by simp[zeroValue,iT hi,hz]
  cases r' with
  |some jv=>exact c3.elim
  |none=>
   have Eu:o1 <+: o1++[es.length]:=⟨_,rfl⟩;have hle:rZ M (dL M (.h r) (.obj r1 (o1++[es.length]))):=mJ fun l0 h0=>by
    have h0':M (.h r)=some l0:=h0;have Qi:M (.h r)=some (.obj r1 o1):=hmm;rw[Qi]at h0';cases h0';exact⟨rfl,Eu⟩
   have Fg:=g2.push hle.h (hk.mono hle.h) (.yC hzt);obtain⟨v1,v2⟩:=yR hV hmm hd LD g1 Eu Fg;refine⟨rfl,.tuple #[z,Go.goInt xs.size],_,_,?_,.ent (Iw _) (by rw[a1c (by rw[g2.ord];omega),g2.ord];simp) (.yC hzt),v1,v2,yS _⟩;simp only[Instr.mapEntry,Sem.run_bind,run_underlying hu,Result.andThen_ok,getObj,Sem.run,g1];simp only[c0,c2 w,hzr,Result.andThen_ok,setObj,Sem.run,g1,Array.size_push,Sem.run_bind,Sem.run_pure]
 .simp at h
theorem a4S{t:TypeId}{m k:TV}{e:EV}{s1:St}{i:mg}{mv kv:Value}(hV:Valid M D s.get w)(h:BX P t s m k=some (e,s1,i))(hm:VR M.h m mv)(hk:VR M.h k kv)
  (hD:∀j∈i.ts,D j):s1.env=s.env∧∃x w' M',(Instr.mapEntry t mv kv).run P w=.ok x w'∧ER M' e x ∧
   Valid M' (fun j=>D j∨(s.get j=none∧(s1.get j).isSome=true)) s1.get w'∧Ext M s.get w M' s1.get w' i.ws∧(∀k l,M (.l k)=some l->M' (.l k)=some l):=by
 unfold BX at h;split at h
 .rename_i h0;split at h
  .cases h;exact a2q hV h0 hm hk hD
  .cases h
 .cases h
theorem U1{xs:Array MapEntry}{i:Nat}(h:∀(a:Nat) (x:MapEntry),xs[a]? = some x->x.born=a)(hi:i<xs.size):xs.findIdx? (fun e=>(e.born:Int)==(i:Int))=some i:=by
 rw[Array.findIdx?_eq_some_iff_getElem];refine⟨hi,?_,fun j hj=>?_⟩
 .have:=h i _ (a4c hi);simp[this]
 have:=h j _ (a4c (Nat.lt_trans hj hi));simp[this];omega
theorem a2r{t:TypeId}{m v:TV}{e:EV}{s1:St}{i:mg}{mv ev vv:Value}(hV:Valid M D s.get w)(h:Gl s m e v=some (s1,i))(hm:VR M.h m mv)(he:ER M e ev)(hv:VR M.h v vv)
  (hD:∀j∈i.ts,D j):s1.env=s.env∧∃w' M',(Instr.entryStore t mv ev vv).run P w=.ok () w' ∧
   Valid M' (fun j=>D j∨(s.get j=none∧(s1.get j).isSome=true)) s1.get w'∧Ext M s.get w M' s1.get w' i.ws∧(∀k l,M (.l k)=some l->M' (.l k)=some l):=by
 unfold Gl at h;split at h
 case h_2=>simp at h
 rename_i r r' j;split at h
 case isFalse=>simp at h
 rename_i hrr;subst hrr;split at h
 case h_2=>simp at h
 rename_i es LD;split at h
 case h_2=>simp at h
 rename_i k v0 hj;simp only[a05,a0t]at h;obtain⟨rfl,rfl⟩:=h;cases hm with
 |map hmm=>
 rename_i r1 o1;cases he with
 |Es h1 q1=>
 rename_i r2 i o2;have Qi:M (.h r)=some (.obj r1 o1):=hmm;rw[Qi]at h1;cases h1;have hd:=hD (.h r) (by simp[pz]);obtain⟨fU,b1,b2⟩:=hV.ok _ _ hmm hd;simp only[St.get,LD,a05]at b1;subst b1;obtain⟨xs,g1,g2⟩:=b2;have aQ:i<xs.size:=by rw[<-g2.ord];exact(a0c.1 q1).1
 obtain⟨z1,j2,e2',z2,z3,z4,z5⟩:=g2.at_ i _ (a4c aQ);rw[q1]at z2;cases z2;rw[hj]at z3;cases z3;have hle:rZ M (dL M (.h r) (.obj r1 o1)):=mJ fun l0 h0=>by
  have h0':M (.h r)=some l0:=h0;rw[Qi]at h0';cases h0';exact .refl _
 have Fg:=g2.upd (f:=fun e=>{ e with val:=vv }) hle.h q1 (a4c aQ) rfl (z4.mono hle.h) (hv.mono hle.h);obtain⟨v1,v2⟩:=yR hV hmm hd LD g1 (agB _) Fg;refine⟨rfl,_,_,?_,v1,v2,fun k l h=>by simp[dL,h]⟩;have hf:=U1 (fun a x hx=>(g2.at_ a x hx).1) aQ;simp only[Instr.entryStore,Sem.run_bind,Result.andThen_ok,getObj,Sem.run,g1,asInt,asIntOf,Go.goInt,hf,setObj];simp only[Sem.run_bind,Sem.run_pure,Result.andThen_ok,Sem.run,hf,g1,Array.size_modify]
end
def Gu(M:Mp)(env:List (Nat×EV))(a:Act)(X:Array Operand):Prop:=∀x∈X,∀e,Ir env x=some e->ER M e (a.eval x)
theorem jR.on{M:Mp}{env:List (Nat×EV)}{a:Act}(hE:jR M env a.tmps)(X:Array Operand):Gu M env a X:=fun _ _ _ he=>a4D hE he
section
variable {M:Mp} {env:List (Nat×EV)} {a:Act} {X:Array Operand}
theorem pI(hE:Gu M env a X){x:Operand}(hx:x∈X){e:EV}(h:Ir env x=some e):ER M e (a.eval x):=hE x hx e h
theorem gZ(hE:Gu M env a X){x:Operand}(hx:x∈X){v:TV}(h:qM env x=some v):VR M.h v (a.eval x):=by
 unfold qM at h;split at h
 .rename_i v' he;simp at h;subst h;exact(pI hE hx he).vG
 simp at h
theorem Gv(hE:Gu M env a X):∀{xs:List Operand} {vs:List TV},(∀x∈xs,x∈X)->TG env xs=some vs->bU M.h vs (xs.map a.eval)
 | [],vs,_,h=>by simp[TG]at h;subst h;exact .nil
 |x::xs,vs,hx,h=>by
  simp only[TG]at h;split at h
  .rename_i v vs' h1 h2;simp at h;subst h;exact .cons (gZ hE (hx x (by simp)) h1) (Gv hE (fun y hy=>hx y (by simp[hy])) h2)
  simp at h
theorem U2(hE:Gu M env a X):∀{xs:List (Nat×Operand)} {vs:List (Nat×TV)},(∀p∈xs,p.2∈X)->VA env xs=some vs ->
  PR M.h vs (xs.map fun(i,x)=>(i,a.eval x))
 | [],vs,_,h=>by simp[VA]at h;subst h;exact .nil
 |(i,x)::xs,vs,hx,h=>by
  simp only[VA]at h;split at h
  .rename_i v vs' h1 h2;simp at h;subst h;exact .cons (gZ hE (hx (i,x) (by simp)) h1) (U2 hE (fun y hy=>hx y (by simp[hy])) h2)
  .simp at h
theorem Gw(hE:Gu M env a X){o:Option Operand}(hx:∀x,o=some x->x∈X){v:Option TV}(h:VD env o=some v):OR M.h v (o.map a.eval):=by
 unfold VD at h;split at h
 .simp at h;subst h;exact .none
 rename_i x;split at h
 .rename_i v' hv;simp at h;subst h;exact .some (gZ hE (hx x rfl) hv)
 simp at h
end
section
variable {P:Program} {M:Mp} {D:Key->Prop} {w:World} {s:St}
def Gx:Op->Bool
 |.call { callee:=.value _,.. }=>true
 |_=>false
theorem Gn.mO{C:Ct}{c:Sem Next}{v:TV}{S:Sem Value}(hV:Valid M D C w)(hc:c=(do pure (.value (<-S))))(h:∃z,VR M.h v z∧S.run P w=.ok z w):Gn P M D C w c (.val v) C []:=by
 obtain⟨z,h1,h2⟩:=h;exact .same hV (by rw[hc];simp[h2]) (.val h1)
theorem Gn.NM{C:Ct}{c:Sem Next}{v:EV}{S:Sem Value}(hV:Valid M D C w)(hc:c=(do pure (.value (<-S))))(h:∃z,ER M v z∧S.run P w=.ok z w):Gn P M D C w c v C []:=by
 obtain⟨z,h1,h2⟩:=h;exact .same hV (by rw[hc];simp[h2]) h1
theorem Gn.ahr{C:Ct}{c:Sem Next}{v:TV}{S:Sem Value}{C1:Ct}{ws:List Key}(hc:c=(do pure (.value (<-S))))(h:BOk P M D C w S v C1 ws):Gn P M D C w c (.val v) C1 ws:=by
 obtain⟨x,w',M',h1,h2⟩:=h;exact⟨x,w',M',.inl (by rw[hc];simp[h1]),h2⟩
theorem Gn.adN{C:Ct}{c:Sem Next}{S:Sem Unit}{C1:Ct}{ws:List Key}(hc:c=(do S;pure .skip))(h:∃w' M',S.run P w=.ok () w'∧Valid M' (fun j=>D j∨(C j=none∧(C1 j).isSome=true)) C1 w'∧Ext M C w M' C1 w' ws∧(∀k l,M (.l k)=some l->M' (.l k)=some l)):Gn P M D C w c .undef C1 ws:=by
 obtain⟨w',M',h1,h2,h3,h4⟩:=h;exact⟨Go.undef,w',M',.inr ⟨rfl,by rw[hc];simp[h1]⟩,⟨h2,h3,.undef,h4⟩⟩
theorem Gn.an5{C:Ct}{c:Sem Next}{S:Sem Unit}{C1:Ct}{ws:List Key}(hc:c=(do S;pure .skip))(h:∃w',S.run P w=.ok () w'∧Valid M (fun j=>D j∨(C j=none∧(C1 j).isSome=true)) C1 w'∧Ext M C w M C1 w' ws):Gn P M D C w c .undef C1 ws:=by
 obtain⟨w',h1,h2,h3⟩:=h;exact⟨Go.undef,w',M,.inr ⟨rfl,by rw[hc];simp[h1]⟩,⟨h2,h3,.undef,fun _ _ h=>h⟩⟩
theorem YN{b:Builtin}{at_:Array TypeId}{t:TypeId}{cs:Array Bool}{az:List TV}{xs:List Value}{v:TV}{s1:St}{i:mg}(hV:Valid M D s.get w)(yO:M (.h s.heap.length)=none)
  (h:qQ P b at_ t s az=some (v,s1,i)) (hx:bU M.h az xs) (hD:∀k∈i.ts,D k):s1.env=s.env∧Gn P M D s.get w (builtin b at_ t cs xs.toArray) (.val v) s1.get i.ws:=by
 unfold qQ at h;split at h
 .simp only[a0e,a0t]at h;obtain⟨⟨v',i'⟩,h1,rfl,rfl,rfl⟩:=h;obtain⟨x,xs',rfl,hx1,hx2⟩:=hx.iK;have:=hx2.qc;subst this;obtain⟨e1,e2⟩:=YI (t:=t) hV h1 hx1 hD;refine⟨rfl,?_⟩;simp only;rw[e1];exact .mO hV rfl e2
 .obtain⟨x,xs',rfl,hx1,hx2⟩:=hx.iK;obtain⟨y,ys',rfl,hy1,hy2⟩:=hx2.iK;have:=hy2.qc;subst this;obtain⟨e1,e2⟩:=IK (ty:=t) hV yO h hx1 hy1 hD;exact⟨e1,.ahr rfl e2⟩
 .obtain⟨x,xs',rfl,hx1,hx2⟩:=hx.iK;obtain⟨y,ys',rfl,hy1,hy2⟩:=hx2.iK;have:=hy2.qc;subst this;obtain⟨e1,e2⟩:=U0 (ty:=t) hV h hx1 hy1 hD;exact⟨e1,.ahr rfl e2⟩
 .simp only[a0e,a0t]at h;obtain⟨v',h1,rfl,rfl,rfl⟩:=h;exact⟨rfl,.mO hV rfl (yP h1 hx)⟩
 .simp only[a0e,a0t]at h;obtain⟨v',h1,rfl,rfl,rfl⟩:=h;exact⟨rfl,.mO hV rfl (yP h1 hx)⟩
 .simp at h
theorem ahs{call:aY}{site:Nat->Bool}{o:Oper}{a:Act}{v:EV}{s1:St}{i:mg}(hV:Valid M D s.get w)(hE:Gu M s.env a o.op.operands)(yO:M (.h s.heap.length)=none)(hnl:M (.l s.loc.length)=none)
  (h:pF P call site s o=some (v,s1,i)) (hc:Gx o.op=false) (hD:∀k∈i.ts,D k):s1.env=s.env∧Gn P M D s.get w (execOp a.eval o) v s1.get i.ws:=by
 unfold pF at h;unfold execOp;split at h
 .-- move
  rename_i x ho;rw[ho];simp only[a0e,a0t]at h;obtain⟨e,he,rfl,rfl,rfl⟩:=h;exact⟨rfl,.same hV rfl (pI hE (by simp[ho,Op.operands]) he)⟩
 .rename_i x ho;rw[ho];simp only[a0e,a0t]at h;obtain⟨e,he,rfl,rfl,rfl⟩:=h;exact⟨rfl,.same hV rfl (pI hE (by simp[ho,Op.operands]) he)⟩
 .-- pick
  rename_i c x y ho;rw[ho];split at h
  .rename_i t ht;simp only[a0e,a0t]at h;obtain⟨e,he,rfl,rfl,rfl⟩:=h;have hb:=gZ hE (by simp[ho,Op.operands]) ht;have qK:a.eval c=.bool t:=by cases qK:a.eval c<;>rw[qK]at hb<;>cases hb;rfl
   have:=pI hE (by cases t<;>simp[ho,Op.operands]) he;refine⟨rfl,.same hV (x:=a.eval (if t then x else y)) ?_ this⟩;simp only[Sem.run_bind,qK,asBool,Sem.run_pure,Result.andThen_ok];cases t<;>rfl
  .simp at h
 .-- alloc
  rename_i e ho;rw[ho];simp only[a0e]at h;obtain⟨z,hz,h⟩:=h;obtain⟨i',x,v',_,_,_,_,hz1,hvr,hzr⟩:=wC hz;simp only[a0t]at h;obtain⟨rfl,rfl,rfl⟩:=h;obtain⟨M',hp⟩:=a4E hV yO hnl (site (o.dst.getD 0)) e (hvr M.h) hz1 rfl;refine⟨by unfold qN;split<;>rfl,_,_,M',.inl ?_,hp⟩;simp[Instr.alloc,hzr w,newVar,newRow]
 .-- box
  rename_i t x ho;rw[ho];split at h
  .rename_i v0 hv0;split at h
   .rename_i Fa;simp only[a05,a0t]at h;obtain⟨rfl,rfl,rfl⟩:=h;obtain⟨M',hp⟩:=a4E hV yO hnl (site (o.dst.getD 0)) t (gZ hE (by simp[ho,Op.operands]) hv0).cells (LC Fa) rfl;refine⟨by unfold qN;split<;>rfl,_,_,M',.inl ?_,hp⟩;simp[Instr.box,newVar,newRow]
   .simp at h
  .simp at h
 .-- build
  rename_i t ps ho;rw[ho];split at h
  .rename_i qs hq;simp only[a0e,a0t]at h;obtain⟨v0,hb,rfl,rfl,rfl⟩:=h;obtain⟨x,h1,h2⟩:=a4G hb (U2 hE (fun p hp=>by simp[ho,Op.operands];exact⟨p.1,by simpa using hp⟩) hq);refine⟨rfl,.mO hV rfl ⟨x,h1,?_⟩⟩;have:=h2 w
   rwa [show(List.map (fun x=>(x.1,a.eval x.2)) ps.toList).toArray=ps.map (fun x=>(x.1,a.eval x.2))from by apply adG;simp]at this
  .simp at h
 .-- buildSlice
  rename_i t len ps ho;rw[ho];split at h
  .rename_i qs hq;simp only[a0e,a0t]at h;obtain⟨⟨v0,s0⟩,hb,rfl,rfl,rfl⟩:=h;obtain⟨e1,x,w',M',h1,h2⟩:=tZ hV yO hb (U2 hE (fun p hp=>by simp[ho,Op.operands];exact⟨p.1,by simpa using hp⟩) hq);refine⟨e1,x,w',M',.inl ?_,h2⟩;rw[show(List.map (fun x=>(x.1,a.eval x.2)) ps.toList).toArray=ps.map (fun x=>(x.1,a.eval x.2))from by apply adG;simp]at h1;simp[h1]
  .simp at h
 .-- load
  rename_i t x ho;rw[ho];split at h
  .rename_i e he;simp only[a0e,a0t]at h;obtain⟨⟨v0,i0⟩,hl,rfl,rfl,rfl⟩:=h;obtain⟨e1,e2⟩:=Gp hV hl (pI hE (by simp[ho,Op.operands]) he) hD;refine⟨rfl,?_⟩;simp only;rw[e1];exact .mO hV rfl e2
  .simp at h
 .-- store
  rename_i t x y ho;rw[ho];split at h
  .rename_i e v0 he hv0;simp only[a0e,a0t]at h;obtain⟨⟨s0,i0⟩,hl,rfl,rfl,rfl⟩:=h;obtain⟨e1,w',e2,e3,e4,e5⟩:=YF hV hl (pI hE (by simp[ho,Op.operands]) he) (gZ hE (by simp[ho,Op.operands]) hv0) hD;exact⟨e1,.an5 rfl ⟨w',e2,e3.widen e5,e4⟩⟩
  .simp at h
 .-- nilCheck
  rename_i x ho;rw[ho];split at h
  .rename_i k off he;simp only[a05,a0t]at h;obtain⟨rfl,rfl,rfl⟩:=h;have hx:=pI hE (by simp[ho,Op.operands]) he;refine⟨rfl,.same hV (x:=a.eval x) ?_ hx⟩;cases hxe:a.eval x<;>rw[hxe]at hx<;>cases hx
   simp[hxe]
  .rename_i b off lim he;simp only[a05,a0t]at h;obtain⟨rfl,rfl,rfl⟩:=h;have hx:=pI hE (by simp[ho,Op.operands]) he;refine⟨rfl,.same hV (x:=a.eval x) ?_ hx⟩;have Fg:=hx.vG;cases hxe:a.eval x<;>rw[hxe]at Fg<;>cases Fg
   simp[hxe]
  .rename_i f b c he;simp only[a05,a0t]at h;obtain⟨rfl,rfl,rfl⟩:=h;have hx:=pI hE (by simp[ho,Op.operands]) he;refine⟨rfl,.same hV (x:=a.eval x) ?_ hx⟩;have Fg:=hx.vG;cases hxe:a.eval x<;>rw[hxe]at Fg<;>cases Fg
   simp[hxe]
  .rename_i l he;simp only[a05,a0t]at h;obtain⟨rfl,rfl,rfl⟩:=h;have hx:=pI hE (by simp[ho,Op.operands]) he;refine⟨rfl,.same hV (x:=a.eval x) ?_ hx⟩;have Fg:=hx.vG;cases hxe:a.eval x<;>rw[hxe]at Fg<;>cases Fg
   simp[hxe]
  .simp at h
 .-- binOp
  rename_i op t x y t' ho;rw[ho];split at h
  .rename_i u v0 hu hv;simp only[a0e,a0t]at h;obtain⟨r,hb,rfl,rfl,rfl⟩:=h;exact⟨rfl,.mO hV rfl (YG hb (gZ hE (by simp[ho,Op.operands]) hu) (gZ hE (by simp[ho,Op.operands]) hv))⟩
  .simp at h
 .-- unOp
  rename_i op t x ho;rw[ho];split at h
  .rename_i u hu;simp only[a0e,a0t]at h;obtain⟨r,hb,rfl,rfl,rfl⟩:=h;exact⟨rfl,.mO hV rfl (iQ hb (gZ hE (by simp[ho,Op.operands]) hu))⟩
  .simp at h
 .-- convert
  rename_i t t' x ho;rw[ho];split at h
  .rename_i u hu;simp only[a0e,a0t]at h;obtain⟨r,hb,rfl,rfl,rfl⟩:=h;exact⟨rfl,.mO hV rfl (TT hb (gZ hE (by simp[ho,Op.operands]) hu))⟩
  .simp at h
 .-- makeFunc
  rename_i f az bs ho;rw[ho];split at h
  .rename_i us vs hu hv;simp only[a05,a0t]at h;obtain⟨rfl,rfl,rfl⟩:=h;have h1:=Gv hE (fun x hx=>by simp[ho,Op.operands];exact .inl (by simpa using hx)) hu;have h2:=Gv hE (fun x hx=>by simp[ho,Op.operands];exact .inr (by simpa using hx)) hv;refine⟨rfl,.mO hV rfl ⟨.func (.func f) (az.map a.eval) (bs.map a.eval),?_,rfl⟩⟩;have:=VR.fn (f:=f) h1.len h1.at_ h2.len h2.at_
   rwa [show(List.map a.eval az.toList).toArray=az.map a.eval from by apply adG;simp,show(List.map a.eval bs.toList).toArray=bs.map a.eval from by apply adG;simp]at this
  .simp at h
 .-- makeMap
  rename_i t r ho;rw[ho];have yF:s.get (.h s.heap.length)=none:=by simp[St.get]
  have hle:rZ M (dL M (.h s.heap.length) (.obj w.heap.size [])):=mJ fun l0 h0=>by rw[yO]at h0;cases h0
  have fZ:∀c,c<w.heap.size->c∉aI (.obj w.heap.size [])->(w.alloc (.map #[] 0)).heap[c]? = w.heap[c]?:=fun c hc _=>wB w _ c hc;have fP:∀c∈aI (.obj w.heap.size []),(∃l0,M (.h s.heap.length)=some l0∧c∈aI l0)∨w.heap.size<=c:=fun c hc=>.inr (by simp[aI]at hc;omega);have key:Nq M D s.get w (.val (.map s.heap.length)) (St.get { s with heap:=s.heap++[.map []] }) [] (.map (some w.heap.size)) (w.alloc (.map #[] 0)) (dL M (.h s.heap.length) (.obj w.heap.size [])):=by
   refine⟨?_,?_,.val (.map (o:=[]) (by simp[Mp.h,dL])),qR yO⟩
   .rw[ku];refine hV.upd _ _ _ (fun j hj=>?_) (fun l0 h0=>by rw[yO]at h0;cases h0) fZ fP (by simp) ⟨#[],heap_alloc_new w _,rfl,rfl,.nil,by simp,by simp⟩;rcases hj with hj|⟨x1,x2⟩
    .exact .inl hj
    .right;unfold lX at x2;split at x2
     .assumption
     .simp[x1]at x2
   .rw[ku];exact Ext.upd _ _ _ [] (.inr ⟨yF,yO,rfl⟩) hle fZ fP (by simp) rfl rfl rfl
  split at h
  .rename_i _ hr;simp only[a05,a0t]at h;obtain⟨rfl,rfl,rfl⟩:=h;have:=Gw hE (fun x hx=>by simp[ho,Op.operands,hx]) hr;refine⟨rfl,_,_,_,.inl ?_,key⟩;cases hrr:r.map a.eval with
   |none=>simp[hrr,Instr.makeMap]
   |some y=>rw[hrr]at this;cases this
  .rename_i k n _ _ hr hu;simp only[a05,a0t]at h;obtain⟨rfl,rfl,rfl⟩:=h;have:=Gw hE (fun x hx=>by simp[ho,Op.operands,hx]) hr;refine⟨rfl,_,_,_,.inl ?_,key⟩;cases hrr:r.map a.eval with
   |none=>rw[hrr]at this;cases this
   |some y=>
    rw[hrr]at this;cases this with
    |some hy=>
     cases hy;simp[hrr,Instr.makeMap,run_underlying hu,asInt,asIntOf]
  .simp at h
 .-- makeSlice
  rename_i t l c ho;rw[ho];split at h
  .rename_i u v0 hu hv;simp only[a0e,a0t]at h;obtain⟨⟨r,s0⟩,hb,rfl,rfl,rfl⟩:=h;obtain⟨e1,z,w',M',e2,e3⟩:=zY hV yO hb (gZ hE (by simp[ho,Op.operands]) hu) (gZ hE (by simp[ho,Op.operands]) hv);exact⟨e1,z,w',M',.inl (by simp[e2]),e3⟩
  .simp at h
 .-- slice
  rename_i t x lo hi mx ho;rw[ho];split at h
  .rename_i e YH xE mx' he Gy hhi hmx;have h1:=Gw hE (fun x hx=>by simp[ho,Op.operands,hx]) Gy;have h2:=Gw hE (fun x hx=>by simp[ho,Op.operands,hx]) hhi;have h3:=Gw hE (fun x hx=>by simp[ho,Op.operands,hx]) hmx;split at h
   .simp only[a0e,a0t]at h;obtain⟨r,hb,rfl,rfl,rfl⟩:=h;exact⟨rfl,.mO hV rfl (Ce hb (pI hE (by simp[ho,Op.operands]) he) h1 h2 h3)⟩
   .simp only[a0e,a0t]at h;obtain⟨r,hb,rfl,rfl,rfl⟩:=h;exact⟨rfl,.mO hV rfl (ND hb (pI hE (by simp[ho,Op.operands]) he).vG h1 h2 h3)⟩
   .simp at h
  .simp at h
 .-- fieldAddr
  rename_i t x f ho;rw[ho];split at h
  .rename_i e n he hn;simp only[a0e,a0t]at h;obtain⟨r,hb,rfl,rfl,rfl⟩:=h;exact⟨rfl,.NM hV rfl (TR hn hb (pI hE (by simp[ho,Op.operands]) he))⟩
  .simp at h
 .-- field
  rename_i t x f ho;rw[ho];split at h
  .rename_i u hu;simp only[a0e,a0t]at h;obtain⟨r,hb,rfl,rfl,rfl⟩:=h;exact⟨rfl,.mO hV rfl (Nz hb (gZ hE (by simp[ho,Op.operands]) hu))⟩
  .simp at h
 .-- indexAddr
  rename_i t x y ho;rw[ho];split at h
  .rename_i e u he hu;simp only[a0e,a0t]at h;obtain⟨r,hb,rfl,rfl,rfl⟩:=h;exact⟨rfl,.NM hV rfl (zW hb (pI hE (by simp[ho,Op.operands]) he) (gZ hE (by simp[ho,Op.operands]) hu))⟩
  .simp at h
 .-- index
  rename_i t x y ho;rw[ho];split at h
  .rename_i u v0 hu hv;simp only[a0e,a0t]at h;obtain⟨r,hb,rfl,rfl,rfl⟩:=h;exact⟨rfl,.mO hV rfl (NC hb (gZ hE (by simp[ho,Op.operands]) hu) (gZ hE (by simp[ho,Op.operands]) hv))⟩
  .simp at h
 .-- lookup
  rename_i t m k ok ho;rw[ho];split at h
  .rename_i u v0 hu hv;simp only[a0e,a0t]at h;obtain⟨r,hb,rfl,rfl,rfl⟩:=h;exact⟨rfl,.mO hV rfl (DV hV hb (gZ hE (by simp[ho,Op.operands]) hu) (gZ hE (by simp[ho,Op.operands]) hv) hD)⟩
  .simp at h
 .-- mapUpdate
  rename_i t m k x ho;rw[ho];split at h
  .rename_i u v0 y hu hv hy;simp only[a0e,a0t]at h;obtain⟨⟨s0,i0⟩,hb,rfl,rfl,rfl⟩:=h;obtain⟨e1,e2⟩:=QY hV hb (gZ hE (by simp[ho,Op.operands]) hu) (gZ hE (by simp[ho,Op.operands]) hv) (gZ hE (by simp[ho,Op.operands]) hy) hD;exact⟨e1,.adN rfl e2⟩
  .simp at h
 .-- insert
  rename_i t m k x ho;rw[ho];split at h
  .rename_i u v0 y hu hv hy;simp only[a0e,a0t]at h;obtain⟨⟨s0,i0⟩,hb,rfl,rfl,rfl⟩:=h;obtain⟨e1,e2⟩:=QY hV hb (gZ hE (by simp[ho,Op.operands]) hu) (gZ hE (by simp[ho,Op.operands]) hv) (gZ hE (by simp[ho,Op.operands]) hy) hD;exact⟨e1,.adN rfl e2⟩
  .simp at h
 .-- mapEntry
  rename_i t m k ho;rw[ho];split at h
  .rename_i u v0 hu hv;obtain⟨e1,z,w',M',h1,h2,h3,h4,h5⟩:=a4S hV h (gZ hE (by simp[ho,Op.operands]) hu) (gZ hE (by simp[ho,Op.operands]) hv) hD;exact⟨e1,z,w',M',.inl (by show(do pure (.value (<-Instr.mapEntry t _ _)):Sem Next).run P w=_;simp[h1]),h3,h4,h2,h5⟩
  .simp at h
 .-- entryStore
  rename_i t m k x ho;rw[ho];split at h
  .rename_i u v0 y hu hv hy;simp only[a0e,a0t]at h;obtain⟨⟨s0,i0⟩,hb,rfl,rfl,rfl⟩:=h;obtain⟨e1,e2⟩:=a2r (t:=t) hV hb (gZ hE (by simp[ho,Op.operands]) hu) (pI hE (by simp[ho,Op.operands]) hv) (gZ hE (by simp[ho,Op.operands]) hy) hD;exact⟨e1,.adN rfl e2⟩
  .simp at h
 .-- extract
  rename_i x n ho;rw[ho];split at h
  .rename_i e he;simp only[a0e,a0t]at h;obtain⟨r,hb,rfl,rfl,rfl⟩:=h;have hx:=pI hE (by simp[ho,Op.operands]) he;refine⟨rfl,.NM hV rfl ?_⟩;generalize a.eval x=xv at hx;unfold yM at hb;split at hb
   .simp only[a0e]at hb;obtain⟨y0,hb,rfl⟩:=hb;cases hx with
    |val hx=>
     cases hx with
     |dI g1 g2=>
      obtain⟨y,y1,y2⟩:=(bU.mk g1 g2).get hb;exact⟨y,.val y2,by simp[Instr.extract,y1]⟩
   .cases hx with
    |ent q1 q2 q3=>
     split at hb<;>cases hb
     .exact⟨_,.val q3,by simp[Instr.extract]⟩
     .exact⟨_,.Es q1 q2,by simp[Instr.extract]⟩
   .cases hb
  .simp at h
 .-- call
  rename_i c ho;rw[ho]at hc ⊢;unfold Na at h;split at h
  .rename_i b az hb has;simp only[a0e,a0t]at h;obtain⟨⟨v0,s0,i0⟩,qK,rfl,rfl,rfl⟩:=h;obtain⟨e1,e2⟩:=YN (cs:=c.args.map fun|.const _=>true|_=>false) hV yO qK (Gv hE (fun x hx=>by simp[ho,Op.operands,Call.operands,hb];simpa using hx) has) hD;refine⟨e1,?_⟩;obtain⟨x,w',M',r1,r2⟩:=e2;refine⟨x,w',M',?_,r2⟩;rw[show(List.map a.eval c.args.toList).toArray=c.args.map a.eval from by apply adG;simp]at r1;unfold ahd at r1 ⊢;simp only[resolve,hb,Sem.run_bind,Sem.run_pure,Result.andThen_ok,invoke];exact r1
  .rename_i f az hf has;obtain⟨callee,args,ats⟩:=c;simp only at hf;subst hf;simp[Gx]at hc
  .simp at h
 .-- range
  rename_i t x ho;rw[ho];split at h
  .rename_i r k el hv hu;split at h
   .rename_i es LD;simp only[a05,a0t]at h;obtain⟨rfl,rfl,rfl⟩:=h;have hx:=gZ hE (by simp[ho,Op.operands]) hv;refine⟨rfl,?_⟩;generalize hxv:a.eval x=xv at hx;cases hx with
    |map hm=>
    rename_i r1 o1;obtain⟨fU,b1,b2⟩:=hV.ok _ _ hm (hD (.h r) (by simp[xq]));simp only[St.get,LD,a05]at b1;subst b1;obtain⟨xs,g1,g2⟩:=b2;have yF:s.get (.h s.heap.length)=none:=(by simp[St.get]);have hrl:r<s.heap.length:=(a0c.1 LD).1;have hle:rZ M (dL M (.h s.heap.length) (.obj w.heap.size [])):=mJ fun l0 h0=>by rw[yO]at h0;cases h0
    have fZ:∀c,c<w.heap.size->c∉aI (.obj w.heap.size [])->(w.alloc (.mapIter (some r1) xs.size #[] xs.size)).heap[c]? = w.heap[c]?:=fun c hc _=>wB w _ c hc;have fP:∀c∈aI (.obj w.heap.size []),(∃l0,M (.h s.heap.length)=some l0∧c∈aI l0)∨w.heap.size<=c:=fun c hc=>.inr (by simp[aI]at hc;omega);refine⟨.pointer (some ⟨w.heap.size,0,none⟩),w.alloc (.mapIter (some r1) xs.size #[] xs.size),dL M (.h s.heap.length) (.obj w.heap.size []),.inl ?_,?_,?_,.val (.iter (o:=[]) (by simp[Mp.h,dL])),qR yO⟩
    .simp[hxv,Instr.range,run_underlying hu,getObj,Sem.run,g1,newObj]
    .rw[ku];refine hV.upd _ _ _ (fun j hj=>?_) (fun l0 h0=>by rw[yO]at h0;cases h0) fZ fP (by simp) ⟨r1,o1,#[],?_,?_,?_,rfl⟩
     .rcases hj with hj|⟨x1,x2⟩
      .exact .inl hj
      .right;unfold lX at x2;split at x2
       .assumption
       .simp[x1]at x2
     .have:(Key.h r)≠.h s.heap.length:=fun e=>by cases e;omega
      simp only[Mp.h,dL,a0o this];exact hm
     .rw[g2.len];exact heap_alloc_new w _
     .rw[g2.len,g2.ord];exact a1b _
    .rw[ku];exact Ext.upd _ _ _ [] (.inr ⟨yF,yO,rfl⟩) hle fZ fP (by simp) rfl rfl rfl
   .simp at h
  .simp at h
 .-- entry
  rename_i x ho;rw[ho];split at h
  .rename_i b hv;split at h
   .rename_i r n i seen hb;split at h
    .rename_i es LD;split at h
     case isFalse=>simp at h
     rename_i hn;simp only[a0e,a0t]at h;obtain⟨e,he,rfl,rfl,rfl⟩:=h;have hx:=gZ hE (by simp[ho,Op.operands]) hv;refine⟨rfl,.mO hV rfl ?_⟩;generalize a.eval x=xv at hx;cases hx with
     |iter hm=>
     rename_i b1 o1;obtain⟨fU,c1,c2⟩:=hV.ok _ _ hm (hD (.h b) (by simp[gY]));simp only[St.get,hb,a05]at c1;subst c1;obtain⟨r1,o,sa,d1,d2,d3,d4⟩:=c2;obtain⟨fU,c1,c2⟩:=hV.ok (.h r) _ d1 (hD (.h r) (by simp[gY]));simp only[St.get,LD,a05]at c1;subst c1;obtain⟨xs,g1,g2⟩:=c2;have iC:sa.toList≠[]:=fun e=>by rw[e]at d4;simp at d4
     obtain⟨k,hk⟩:∃k,sa.back? = some k∧o[k]? = some i:=by
      have h1:(sa.toList.map fun i=>o[i]?).getLast? = some (some i):=by rw[d4];simp
      rw[List.getLast?_map]at h1;simp only[a0e]at h1;obtain⟨k,h2,h3⟩:=h1;exact⟨k,by rw[<-Array.getLast?_toList];exact h2,h3⟩
     have kC:k<xs.size:=by rw[<-g2.ord];exact(a0c.1 hk.2).1
     obtain⟨q1,j,e',q2,q3,q4,q5⟩:=g2.at_ k _ (a4c kC);rw[hk.2]at q2;cases q2;rw[he]at q3;cases q3;refine⟨.tuple #[xs[k].key,xs[k].val],.Qe (.cons q4 (.cons q5 .nil)),?_⟩;have hf:xs.find? (·.born==k)=some xs[k]:=by
      rw[<-Array.find?_toList];have:xs[k].born==k:=(by simpa using q1);rw[List.find?_eq_some_iff_getElem];refine⟨this,k,by simpa using kC,by simp,fun j hj=>?_⟩;have rV:j<xs.size:=(by omega);have:=(g2.at_ j _ (a4c rV)).1;simp only[Array.getElem_toList];rw[this];simp;omega
     have hc:xs.size=n:=by rw[<-g2.len];exact hn
     simp only[Instr.entry,getObj,Sem.run_bind,Sem.run,d2,g1,Result.andThen_ok,hk.1,hc,bne_self_eq_false,a2P,a3T,hf];rfl
    .simp at h
   .simp at h
  .simp at h
 .simp at h
end
abbrev kX(h:List HB):Ct:=St.get ⟨[],[],h,[]⟩
def Mp.only(M:Mp):Mp
 |.h b=>M (.h b)
 |.l _=>none
abbrev nN(r:Option Nat):Fence:={ Fence.wide with round:=r }
def KZ(R:Value->World->Prop):Ending->World->Prop
 |.returned v,w=>R v w
 |_,_=>False
def jI(M:Mp)(h:List HB)(w:World)(v:TV)(h':List HB)(ws:List Nat)(y:Value)(w':World):Prop:=
 ∃M',Valid M' uM (kX h') w'∧(∀k,M' (.l k)=none)∧Ext M (kX h) w M' (kX h') w' (ws.map .h)∧VR M'.h v y
def LG(P:Program)(d:Deferred)(w:World)(R:Value->World->Prop):Prop:=
 ∃f az,(invoke d.target d.args).run P w=.ok (.enter f az) w∧∀n,CallsIn Fence.wide n P f az w (KZ R)
def U3(P:Program)(d:Deferred)(w:World)(R:Value->World->Prop):Prop:=
 ∃l f tmps uJ body,(invoke d.target d.args).run P w=.ok (.round l f tmps uJ body) w∧∀n,RoundIn Fence.wide n P l f tmps uJ body w (KZ R)
def iD(P:Program)(call:aY):Prop:=
 ∀fv args h v h' ws,call fv args h=some (v,h',ws)->∀(M:Mp) (w:World) (x:Value) (xs:List Value),Valid M uM (kX h) w->(∀k,M (.l k)=none)->VR M.h fv x->bU M.h args xs ->
  ∃d,(∀w,(Deferred.ofValue x xs.toArray).run P w=.ok d w)∧((LG P d w (jI M h w v h' ws)∧∃f a b,fv=.fn f a b)∨(U3 P d w (jI M h w v h' ws)∧∃l,fv=.kP l))
theorem CallsIn.ex{n:Nat}{P:Program}{f:FuncId}{az:Array Value}{w:World}{R:Value->World->Prop}(h:CallsIn Fence.wide n P f az w (KZ R)):∃y w',R y w':=by
 obtain⟨e,w',fr,hR,_⟩:=h.2 [] (room_wide _);cases e with
 |returned v=>exact⟨v,w',hR⟩
 |panicked c=>exact hR.elim
 |outgrown=>exact hR.elim
theorem RoundIn.ex{n:Nat}{P:Program}{l:Nat}{f:FuncId}{tmps:Array Value}{uJ body:Code}{w:World}{R:Value->World->Prop}(h:RoundIn Fence.wide n P l f tmps uJ body w (KZ R)):∃y w',R y w':=by
 obtain⟨e,w',hR,_⟩:=h.2 default [] (room_wide _);cases e with
 |returned v=>exact⟨v,w',hR⟩
 |panicked c=>exact hR.elim
 |outgrown=>exact hR.elim
section
variable {P:Program} {call:aY}
theorem iD.ex(hC:iD P call){fv:TV}{args:List TV}{h:List HB}{v:TV}{h':List HB}{ws:List Nat}(hc:call fv args h=some (v,h',ws)){M:Mp}{w:World}{x:Value}{xs:List Value}
  (hV:Valid M uM (kX h) w) (hl:∀k,M (.l k)=none) (hx:VR M.h fv x) (NP:bU M.h args xs):∃y w',jI M h w v h' ws y w':=by
 obtain⟨d,_,h1|h1⟩:=hC _ _ _ _ _ _ hc M w x xs hV hl hx NP
 .obtain⟨⟨f,az,_,h2⟩,_⟩:=h1;exact CallsIn.ex (h2 0)
 .obtain⟨⟨l,f,tmps,uJ,body,_,h2⟩,_⟩:=h1;exact RoundIn.ex (h2 0)
def abE(M' M:Mp):Mp
 |.h b=>M' (.h b)
 |.l j=>M (.l j)
theorem Fv{M:Mp}{D:Key->Prop}{s:St}{w:World}(hV:Valid M D s.get w)(hh:∀b l,M (.h b)=some l->D (.h b)):Valid M.only uM (kX s.heap) w:=by
 refine⟨?_,?_,?_⟩
 .intro k l hk _;cases k with
  |l j=>cases hk
  |h b=>exact hV.ok (.h b) l hk (hh b l hk)
 .intro k k' l l' b iC hk oD _ hc hw;cases k with
  |l j=>cases hk
  |h b=>
   cases k' with
   |l j=>cases oD
   |h b'=>exact hV.own _ _ _ _ _ iC hk oD (hh b l hk) hc hw
 intro k l hk;cases k with
 |l j=>cases hk
 |h b=>exact hV.inb _ _ hk
theorem QZ{M:Mp}{D:Key->Prop}{s:St}{w:World}(hV:Valid M D s.get w)
  (yS:∀j l,M (.l j)=some l->∀k' l',Key.l j≠k'->M k'=some l'->∀c∈aI l,c∉aI l')
  {v:TV} {h':List HB} {ws:List Nat} {y:Value} {w':World} (hr:jI M.only s.heap w v h' ws y w') :
  ∃M',Nq M D s.get w (.val v) (St.get { s with heap:=h' }) (ws.map .h) y w' M':=by
 obtain⟨M',YL,hl',hX,hy⟩:=hr;have qm:∀(b j:Nat) (l l':Lc),M' (.h b)=some l->M (.l j)=some l'->∀c∈aI l,c∉aI l':=by
  intro b j l l' hb hj c hc Vw;have aQ:=hV.inb _ _ hj c Vw;obtain⟨l0,h1,h2⟩:=hX.fresh _ _ hb c hc aQ;exact yS j l' hj (.h b) l0 (by simp) h1 c Vw h2
 refine⟨abE M' M,⟨⟨?_,?_,?_⟩,?_,.val hy,fun _ _ h=>h⟩⟩
 .intro k l hk hd;cases k with
  |h b=>exact YL.ok (.h b) l hk trivial
  |l j=>
   rcases hd with hd|⟨h1,h2⟩
   .obtain⟨b0,h1,h2⟩:=hV.ok (.l j) l hk hd;refine⟨b0,h1,h2.mono (N:=M.h) (N':=(abE M' M).h) (hX.Iu.h) fun c hc=>?_⟩;refine hX.frame c (hV.inb _ _ hk c hc) fun k' oD l' hl' an8=>?_;obtain⟨b',_,rfl⟩:=a1l.1 oD;exact yS j l hk (.h b') l' (by simp) hl' c hc an8
   .simp only[St.get]at h1 h2;rw[h1]at h2;cases h2
 .intro k k' l l' b0 iC hk oD hd hc hw;cases k with
  |h b=>
   cases k' with
   |h b'=>exact YL.own (.h b) (.h b') l l' b0 iC hk oD trivial hc hw
   |l j=>exact qm b j l l' hk oD
  |l j=>
   cases k' with
   |h b'=>exact fun c hc Vw=>qm b' j l' l oD hk c Vw hc
   |l j'=>exact yS j l hk (.l j') l' iC oD
 .intro k l hk c hc;cases k with
  |h b=>exact YL.inb (.h b) l hk c hc
  |l j=>exact a99 (hV.inb (.l j) l hk c hc) hX.size
 .exact
  {Iu:=by
    intro k l hk;cases k with
    |h b=>exact hX.Iu (.h b) l hk
    |l j=>exact⟨l,hk,.refl l⟩
   frame:=fun c hc hf=>hX.frame c hc fun k hk l hl=>by
    obtain⟨b',_,rfl⟩:=a1l.1 hk;exact hf _ hk l hl
   nH:=fun k hk hn=>by
    cases k with
    |h b=>exact hX.nH (.h b) hk hn
    |l j=>rfl
   l9:=fun k hk hn=>by
    cases k with
    |h b=>exact hX.l9 (.h b) hk hn
    |l j=>rfl
   fresh:=fun k l hk c hc aQ=>by
    cases k with
    |h b=>exact hX.fresh (.h b) l hk c hc aQ
    |l j=>exact⟨l,hk,hc⟩
   size:=hX.size
   has:=fun k hk=>by
    cases k with
    |h b=>exact hX.has (.h b) hk
    |l j=>exact hk
   wsub:=fun k hk=>by
    obtain⟨b',_,rfl⟩:=a1l.1 hk;exact hX.wsub _ hk
   wrote:=fun k hk=>by
    obtain⟨b',_,rfl⟩:=a1l.1 hk;exact hX.wrote _ hk
   os:=hX.os
   output:=hX.output
   tape:=hX.tape }
theorem getEnv(s:St)(env:List (Nat×EV))(ws:List Nat):St.get { s with env:=env,ws:=ws }=s.get:=by
 funext k;cases k<;>rfl
theorem YO(s:St)(d:Option Nat)(v:EV):St.get (s.put d v)=s.get:=by
 funext k;cases d<;>cases k<;>rfl
theorem Valid.sub{M:Mp}{D D':Key->Prop}{C:Ct}{w:World}(hV:Valid M D C w)(h:∀k,D' k->D k):Valid M D' C w:=
 ⟨fun k l hk hd=>hV.ok k l hk (h k hd),fun k k' l l' b a1 a2 a3 hd=>hV.own k k' l l' b a1 a2 a3 (h k hd),hV.inb⟩
theorem a2s{site:Nat->Bool}{s:St}{o:Oper}{c:Call}(h:o.op=.defer c):pF P call site s o=none:=by
 simp[pF,h]
def uo(P:Program)(call:aY)(site:Nat->Bool)(fl nt:Nat)(ops:Array Oper)(o:Oper)(s:St)(i:mg)(s':St):Prop:=
 Nb nt o=true∧((BZ ops s.env o=some true∧∃v s1,pF P call site s o=some (v,s1,i)∧s'=St.put { s1 with ws:=jU fl i.ws s.ws } o.dst v) ∨
  (BZ ops s.env o=some false∧i=cu∧s'=s.put o.dst .undef))
def oG(i:mg)(k:Key):Prop:=k∈i.ts∨k∈i.ws∨(i.all=true∧k.isH=true)
def LH(M:Mp)(env:List (Nat×EV))(tmps:Array Value)(ops:Array Oper)(o:Oper):Prop:=
 ∀j want d,o.guard=some (j,want)->(ops[j]?).bind (·.dst)=some d->∀e,dM d env=some e->ER M e (tmps.getD d Go.undef)
theorem LJ{M:Mp}{env:List (Nat×EV)}{tmps:Array Value}{ops:Array Oper}{o:Oper}{b:Bool}(hG:LH M env tmps ops o)(h:BZ ops env o=some b):Region.wanted o (yielded ops tmps)=b:=by
 unfold BZ at h;unfold Region.wanted;split at h
 .rename_i hg;rw[hg];simpa using h
 rename_i j want hg;rw[hg];simp only;split at h
 rotate_left
 .simp at h
 rename_i d hd;split at h
 .rename_i b0 he;have h3:=(hG j want d hg hd _ he).vG;have hb:tmps.getD d Go.undef=.bool b0:=by
   generalize tmps.getD d Go.undef=z at h3;cases h3;rfl
  have:tmps[d]? = some (.bool b0):=by
   by_cases h1:d<tmps.size
   .simp only[Array.getD,h1,dite_true]at hb;rw[a4c h1];exact congrArg some hb
   simp[Array.getD,h1,Go.undef]at hb
  simp only[yielded,hd,a4t,this];simpa using h
 .rename_i he;have h2:=hG j want d hg hd _ he;have hb:tmps.getD d Go.undef=Go.undef:=by
   generalize tmps.getD d Go.undef=z at h2;cases h2;rfl
  have:tmps[d]? = some Go.undef∨tmps[d]? = none:=by
   by_cases h1:d<tmps.size
   .simp only[Array.getD,h1,dite_true]at hb;rw[a4c h1];exact .inl (congrArg some hb)
   right;simpa using h1
  simp at h;subst h;rcases this with this|this<;>simp only[yielded,hd,a4t,this]<;>rfl
 simp at h
def Kr(M:Mp)(D:Key->Prop)(s:St)(w:World)(o:Oper)(i:mg)(s':St)(x:Value)(w':World):Prop:=
 ∃v M',s'=St.put { s' with env:=s.env } o.dst v∧Nq M D s.get w v s'.get i.ws x w' M'
theorem U4(s:St)(env:List (Nat×EV))(d:Option Nat)(v:EV)(h:s.env=env):s.put d v=St.put { s.put d v with env:=env } d v:=by
 subst h;cases d<;>rfl
theorem a0w(hC:iD P call){site:Nat->Bool}{fl nt:Nat}{ops:Array Oper}{o:Oper}{s s':St}{i:mg}{M:Mp}{D:Key->Prop}{w:World}{a:Act}
  (hS:uo P call site fl nt ops o s i s') (hV:Valid M D s.get w) (yO:M (.h s.heap.length)=none) (hnl:M (.l s.loc.length)=none)
  (yS:∀j l,M (.l j)=some l->∀k' l',Key.l j≠k'->M k'=some l'->∀c∈aI l,c∉aI l')
  (hE:Gu M s.env a o.op.operands) (hG:LH M s.env a.tmps ops o) (hD:∀k,oG i k->(M k).isSome=true->D k) :
  (∃x w',Kr M D s w o i s' x w') ∧
   ∀(r:Option Nat) (n:Nat) (Q:Exit->Act->World->Prop) (idx:Nat) (K:Act->World->Prop),ops[idx]? = some o ->
    (∀x w',Kr M D s w o i s' x w'->K (a.put o.dst x) w')->wpOpIn (nN r) n P ops Q idx K a w:=by
 obtain⟨_,⟨hw,v,s1,jf,rfl⟩|⟨hw,rfl,rfl⟩⟩:=hS
 .have a0x:=LJ hG hw;by_cases hc:Gx o.op=true
  .-- a call
   have:∃f args ats,o.op=.call { callee:=.value f,args:=args,argTypes:=ats }:=by
    unfold Gx at hc;split at hc
    .rename_i f args ats ho;exact⟨_,_,_,ho⟩
    .cases hc
   obtain⟨f,args,ats,ho⟩:=this;simp only[pF,ho,Na]at jf;split at jf
   .rename_i b az hb has;cases hb
   .rename_i f' az hf has;injection hf with hf;subst hf;split at jf
    .rename_i fv hfv;split at jf
     .rename_i v0 h' ws xY;simp only[a05,a0t]at jf;obtain⟨rfl,rfl,rfl⟩:=jf;have hh:∀b l,M (.h b)=some l->D (.h b):=fun b l hb=>hD _ (.inr (.inr ⟨rfl,rfl⟩)) (by simp[hb]);have hVo:=Fv hV hh;have hfx:VR M.only.h fv (a.eval f):=gZ hE (by simp[ho,Op.operands,Call.operands]) hfv;have hax:bU M.only.h az (args.toList.map a.eval):=Gv hE (fun x hx=>by simp[ho,Op.operands,Call.operands];exact .inr (by simpa using hx)) has;have conv:∀y w',jI M.only s.heap w v0 h' ws y w'->Kr M D s w o ⟨true,[],ws.map .h⟩ (St.put { s with heap:=h',ws:=jU fl (ws.map .h) s.ws } o.dst (.val v0)) y w':=by
       intro y w' hr;obtain⟨M',hp⟩:=QZ hV yS hr;refine⟨.val v0,M',U4 _ _ _ _ rfl,?_⟩;rw[YO];exact hp
      obtain⟨d,hd,uY⟩:=hC _ _ _ _ _ _ xY M.only w (a.eval f) (args.toList.map a.eval) hVo (fun _=>rfl) hfx hax;refine⟨?_,?_⟩
      .obtain⟨y,w',hr⟩:=iD.ex hC xY hVo (fun _=>rfl) hfx hax;exact⟨y,w',conv y w' hr⟩
      .intro r n Q idx K U5 hK;unfold wpOpIn;simp only[U5,a0x,a2w];refine⟨fun _ _=>trivial,?_⟩;have a4V:∀nx,(invoke d.target d.args).run P w=.ok nx w->(o.semAt (nN r).round a.eval).run P w=.ok nx w:=by
        intro nx hnx;rw[Oper.semAt_eq _ _ _ (fun c=>by rw[ho];simp)];unfold execOp;rw[ho];have:=hd w;rw[show(List.map a.eval args.toList).toArray=args.map a.eval from by apply adG;simp]at this;simp[resolve,this,hnx]
       rcases uY with⟨⟨f1,as1,hinv,qm⟩,_⟩|⟨⟨l1,f1,tm1,ag1,bd1,hinv,hrd⟩,_⟩
       .rw[a4V _ hinv];refine⟨fun h=>by simp[Fence.wide]at h,CallsIn.mono (F:=nN r) (qm (n-1)) fun e w' he=>?_⟩;cases e with
        |returned y=>exact hK y w' (conv y w' he)
        |panicked c=>exact he.elim
        |outgrown=>exact he.elim
       .rw[a4V _ hinv];refine⟨fun h=>by simp[Fence.wide]at h,RoundIn.mono (F:=nN r) (hrd (n-1)) fun e w' he=>?_⟩;cases e with
        |returned y=>exact hK y w' (conv y w' he)
        |panicked c=>exact he.elim
        |outgrown=>exact he.elim
     .simp at jf
    .simp at jf
   .simp at jf
  .-- no call
   have Vw:Gx o.op=false:=(by simpa using hc);have YL:Valid M (fun k=>D k∨M k=none) s.get w:=⟨fun k l hk hd=>hV.ok k l hk (hd.resolve_right (by simp[hk])),fun k k' l l' b a1 a2 a3 hd=>hV.own k k' l l' b a1 a2 a3 (hd.resolve_right (by simp[a2])),hV.inb⟩;obtain⟨he,x,w',M',hr,hp⟩:=ahs YL hE yO hnl jf Vw (fun k hk=>by
    cases hm:M k with
    |none=>exact .inr rfl
    |some l=>exact .inl (hD k (.inl hk) (by simp[hm])))
   have vT:Kr M D s w o i (St.put { s1 with ws:=jU fl i.ws s.ws } o.dst v) x w':=by
    refine⟨v,M',U4 _ _ _ _ he,?_⟩;have hg:St.get { s1 with ws:=jU fl i.ws s.ws }=s1.get:=getEnv s1 s1.env _;rw[YO,hg];exact⟨hp.val.sub fun k hk=>hk.imp .inl id,hp.ext,hp.er,hp.loc⟩
   refine⟨⟨x,w',vT⟩,fun r n Q idx K U5 hK=>?_⟩;unfold wpOpIn;simp only[U5,a0x,a2w];refine⟨fun _ _=>trivial,?_⟩;rw[Oper.semAt_eq _ _ _ (fun c ho=>by rw[a2s ho]at jf;cases jf)];rcases hr with hr|⟨rfl,hr⟩
   .rw[hr];exact hK x w' vT
   .rw[hr];exact hK _ w' vT
 .have a0x:=LJ hG hw;have vT:Kr M D s w o cu (s.put o.dst .undef) Go.undef w:=by
   refine⟨.undef,M,U4 _ _ _ _ rfl,?_⟩;rw[YO];exact .same hV .undef
  refine⟨⟨_,_,vT⟩,fun r n Q idx K U5 hK=>?_⟩;unfold wpOpIn;simp only[U5,a0x,a2P,a3T];exact⟨fun _ _=>trivial,hK _ _ vT⟩
end
structure wI(M0:Mp)(h0:List HB)(w0:World):Prop where
 val:Valid M0 uM (kX h0) w0
 loc:∀k,M0 (.l k)=none
structure Rel(M0:Mp)(h0:List HB)(w0:World)(nt:Nat)(M:Mp)(s:St)(a:Act)(w:World):Prop where
 val:Valid M uM s.get w
 ext:Ext M0 (kX h0) w0 M s.get w (s.ws.map .h)
 env:jR M s.env a.tmps
 size:nt<=a.tmps.size
 marks:∀d∈a.defers,∃k r,d=⟨.collected r,#[]⟩∧kX h0 (.h k)=none∧(∃o,M (.h k)=some (.obj r o))∧s.get (.h k)=some .mark∧w.heap[r]? = some (.deferred (some []))
 apart:a.defers.Pairwise (·≠·)
theorem a4X{fl b c:Nat}{ws:List Nat}:c∈Et fl b ws↔c∈ws∨(c=b∧b<fl):=by
 unfold Et;split
 .rename_i h;split
  .rename_i hc;have hc:b∈ws:=(by simpa using hc);constructor
   .exact .inl
   rintro (h1|⟨rfl,_⟩)
   .exact h1
   exact hc
  simp only[a2y];constructor
  .rintro (rfl|h1)
   .exact .inr ⟨rfl,h⟩
   exact .inl h1
  rintro (h1|⟨rfl,_⟩)
  .exact .inr h1
  exact .inl rfl
 rename_i h;constructor
 .exact .inl
 rintro (h1|⟨_,h1⟩)
 .exact h1
 exact absurd h1 h
theorem oH{fl c:Nat}:∀{ks:List Key} {ws:List Nat},c∈jU fl ks ws↔c∈ws∨(Key.h c∈ks∧c<fl)
 | [],ws=>by simp[jU]
 |.h b::ks,ws=>by
  rw[jU,oH,a4X];simp only[a2y,Key.h.injEq];constructor
  .rintro ((h|⟨rfl,h⟩)|⟨h1,h2⟩)
   .exact .inl h
   .exact .inr ⟨.inl rfl,h⟩
   exact .inr ⟨.inr h1,h2⟩
  rintro (h|⟨rfl|h1,h2⟩)
  .exact .inl (.inl h)
  .exact .inl (.inr ⟨rfl,h2⟩)
  exact .inr ⟨h1,h2⟩
 |.l b::ks,ws=>by
  rw[jU,oH];simp
theorem yU{t:Nat}{s:St}{d:Option Nat}{v:EV}:dM t (s.put d v).env=if d=some t then some v else dM t s.env:=by
 cases d with
 |none=>simp[St.put]
 |some d=>simp[St.put,dM]
theorem yV{a:Act}{d:Option Nat}{x:Value}{t:Nat}:(a.put d x).tmps.getD t Go.undef=if d=some t∧t<a.tmps.size then x else a.tmps.getD t Go.undef:=by
 cases d with
 |none=>simp[Act.put]
 |some d=>
  simp only[Act.put,a05];simp only[<-adF,a8q,a8R];by_cases h:d=t
  .subst h;by_cases h1:d<a.tmps.size
   .simp[h1]
   simp[h1]
  simp[h]
theorem Gz{a:Act}{d:Option Nat}{x:Value}:(a.put d x).tmps.size=a.tmps.size:=by
 cases d<;>simp[Act.put]
theorem jJ{a:Act}{d:Option Nat}{x:Value}:(a.put d x).defers=a.defers:=by
 cases d<;>rfl
section
variable {P:Program} {call:aY} {site:Nat->Bool} {fl nt:Nat} {ops:Array Oper} {o:Oper} {s s':St} {i:mg}
theorem uo.a0y(h:uo P call site fl nt ops o s i s'):s'.ws=jU fl i.ws s.ws:=by
 obtain⟨_,⟨_,v,s1,_,rfl⟩|⟨_,rfl,rfl⟩⟩:=h
 .cases o.dst<;>rfl
 cases o.dst<;>rfl
theorem uo.dst(h:uo P call site fl nt ops o s i s'){d:Nat}(hd:o.dst=some d):d<nt:=by
 have:=h.1;simp only[Nb,hd]at this;simpa using this
variable {M0:Mp} {h0:List HB} {w0:World} {M:Mp} {a:Act} {w:World}
theorem Rel.loc(hR:Rel M0 h0 w0 nt M s a w):∀j l,M (.l j)=some l->∀k' l',Key.l j≠k'->M k'=some l'->∀c∈aI l,c∉aI l':=by
 intro j l hj k' l' iC oD;obtain⟨b,h1,_⟩:=hR.val.ok _ _ hj trivial;refine hR.val.own _ _ _ _ b iC hj oD trivial h1 ?_;simp only[St.get,a0e]at h1;obtain⟨_,_,rfl⟩:=h1;rfl
theorem Rel.nh(hR:Rel M0 h0 w0 nt M s a w):M (.h s.heap.length)=none:=by
 cases h:M (.h s.heap.length)with
 |none=>rfl
 |some l=>have:=hR.val.has h;simp[St.get]at this
theorem Rel.nl(hR:Rel M0 h0 w0 nt M s a w):M (.l s.loc.length)=none:=by
 cases h:M (.l s.loc.length)with
 |none=>rfl
 |some l=>have:=hR.val.has h;simp[St.get]at this
theorem Cm{h:List HB}{k:Key}(hk:(kX h k).isSome=true):∃b,k=.h b∧b<h.length:=by
 cases k with
 |h b=>exact⟨b,rfl,by simpa[kX,St.get]using hk⟩
 |l j=>simp[kX,St.get]at hk
theorem YP{h:List HB}{b:Nat}(hb:b<h.length):(kX h (.h b)).isSome=true:=by simp[kX,St.get,hb]
theorem Rf(hR:Rel M0 h0 w0 nt M s a w){M':Mp}{C':Ct}{w':World}{ws:List Key}(hX:Ext M s.get w M' C' w' ws) :
  ∀d∈a.defers,∃k r,d=⟨.collected r,#[]⟩∧kX h0 (.h k)=none∧(∃o,M' (.h k)=some (.obj r o))∧C' (.h k)=some .mark∧w'.heap[r]? = some (.deferred (some [])):=by
 intro d hd;obtain⟨k,r,h1,h2,⟨o,h3⟩,h4,h5⟩:=hR.marks d hd;have hn:Key.h k∉ws:=fun EK=>by
  have:=(hX.wrote _ EK).2 _ h4;cases this
 obtain⟨l',g1,g2⟩:=hX.Iu _ _ h3;obtain⟨o',hl⟩:∃o',l'=.obj r o':=by
  cases l' with
  |cells ls=>exact g2.elim
  |obj r' o'=>cases g2.1;exact⟨o',rfl⟩
 refine⟨k,r,h1,h2,⟨o',by rw[g1,hl]⟩,by rw[hX.nH _ (by simp[h4]) hn,h4],?_⟩;rw[hX.frame r (a2p.1 h5).1 fun k' oD l0 qL hc=>?_,h5];obtain⟨b,hb,_⟩:=hR.val.ok _ _ qL trivial;exact hR.val.own k' (.h k) l0 (.obj r o) b (fun e=>hn (e▸oD)) qL h3 trivial hb ((hX.wrote _ oD).2 b hb) r hc (by simp[aI])
theorem NQ(hB:wI M0 h0 w0)(hR:Rel M0 h0 w0 nt M s a w)(hS:uo P call site h0.length nt ops o s i s'){x:Value}{w':World}(vT:Kr M uM s w o i s' x w') :
  ∃M',Rel M0 h0 w0 nt M' s' (a.put o.dst x) w':=by
 obtain⟨v,M',he,hp⟩:=vT;refine⟨M',hp.val.sub fun k _=>.inl trivial,?_,?_,by rw[Gz];exact hR.size,by rw[jJ];exact Rf hR hp.ext,by rw[jJ];exact hR.apart⟩
 .refine hR.ext.trans hp.ext (fun k l hk=>hB.val.has hk) (fun k hk EK=>?_) (fun k hk=>?_)
  .obtain⟨b,rfl,hb⟩:=Cm hk;rw[hS.a0y];refine a1l.2 ⟨b,oH.2 ?_,rfl⟩;rcases EK with h1|h1
   .obtain⟨b',h2,h3⟩:=a1l.1 h1;cases h3;exact .inl h2
   .exact .inr ⟨h1,hb⟩
  .rw[hS.a0y]at hk;obtain⟨b,hb,rfl⟩:=a1l.1 hk;rcases oH.1 hb with h1|⟨h1,h2⟩
   .have:Key.h b∈s.ws.map .h:=a1l.2 ⟨b,h1,rfl⟩;exact⟨hR.ext.wsub _ this,.inl this⟩
   .exact⟨YP h2,.inr h1⟩
 .intro t e hl;rw[he,yU]at hl;rw[yV];by_cases hd:o.dst=some t
  .rw[a0p hd]at hl;have:=hS.dst hd;have:=hR.size;rw[a0p ⟨hd,by omega⟩];cases hl;exact hp.er
  .rw[a0o hd]at hl;rw[a0o (fun h=>hd h.1)];exact(hR.env t e hl).mono hp.ext.Iu hp.loc
theorem Rel.guard(hR:Rel M0 h0 w0 nt M s a w):LH M s.env a.tmps ops o:=fun _ _ d _ _ e he=>hR.env d e he
theorem GH(hC:iD P call)(hR:Rel M0 h0 w0 nt M s a w)(hS:uo P call site h0.length nt ops o s i s') :
  (∃x w',Kr M uM s w o i s' x w') ∧
   ∀(r:Option Nat) (n:Nat) (Q:Exit->Act->World->Prop) (idx:Nat) (K:Act->World->Prop),ops[idx]? = some o ->
    (∀x w',Kr M uM s w o i s' x w'->K (a.put o.dst x) w')->wpOpIn (nN r) n P ops Q idx K a w:=
 a0w hC hS hR.val hR.nh hR.nl hR.loc (hR.env.on _) hR.guard fun _ _ _=>trivial
theorem CB{o:Oper}{os:List Oper}{s s':St}{is:List mg}(h:l7 P call site fl nt ops (o::os) s=some (s',is)) :
  ∃i s1 is',uo P call site fl nt ops o s i s1∧l7 P call site fl nt ops os s1=some (s',is')∧is=i::is':=by
 simp only[l7]at h;split at h
 .simp at h
 .rename_i hd;have hd:Nb nt o=true:=by simpa using hd
  split at h
  .rename_i hw;split at h
   .rename_i v s1 i jf;split at h
    .rename_i s2 is2 hr;simp only[a05,a0t]at h;obtain⟨rfl,rfl⟩:=h;exact⟨i,_,_,⟨hd,.inl ⟨hw,v,s1,jf,rfl⟩⟩,hr,rfl⟩
    .simp at h
   .simp at h
  .rename_i hw;split at h
   .rename_i s2 is2 hr;simp only[a05,a0t]at h;obtain⟨rfl,rfl⟩:=h;exact⟨_,_,_,⟨hd,.inr ⟨hw,rfl,rfl⟩⟩,hr,rfl⟩
   .simp at h
  .simp at h
theorem a4Y(hC:iD P call)(hB:wI M0 h0 w0){r:Option Nat}{n:Nat}{Q:Exit->Act->World->Prop}:∀(os:List Oper) (k:Nat) (s s':St) (is:List mg) (M:Mp) (a:Act) (w:World),ops.toList.drop k=os ->
  l7 P call site h0.length nt ops os s=some (s',is)->Rel M0 h0 w0 nt M s a w ->
  (∀M' a' w',Rel M0 h0 w0 nt M' s' a' w'->a'.defers=a.defers->Q .normal a' w')->wpOpsIn (nN r) n P ops Q (List.range' k os.length) a w
 | [],k,s,s',is,M,a,w,_,h,hR,hQ=>by
  simp only[l7,a05,a0t]at h;obtain⟨rfl,rfl⟩:=h;exact hQ M a w hR rfl
 |o::os,k,s,s',is,M,a,w,hd,h,hR,hQ=>by
  obtain⟨i,s1,is',hS,hr,rfl⟩:=CB h;have ho:ops[k]? = some o:=by
   have:=congrArg (fun l=>l[0]?) hd;simpa using this
  have YM:ops.toList.drop (k+1)=os:=by
   rw[<-afK,hd];rfl
  simp only[a4i,List.range'_succ];rw[wpOpsIn_cons];refine(GH hC hR hS).2 r n Q k _ ho fun x w' vT=>?_;obtain⟨M',Fz⟩:=NQ hB hR hS vT;exact a4Y hC hB os (k+1) s1 s' is' M' _ w' YM hr Fz fun M2 a2 w2 h2 hdf=>hQ M2 a2 w2 h2 (hdf.trans jJ)
theorem a2t(hC:iD P call)(hB:wI M0 h0 w0){r:Option Nat}{n:Nat}{Q:Exit->Act->World->Prop}{id:Nat}{s s':St}{is:List mg}{M:Mp}{a:Act}{w:World}
  (h:l7 P call site h0.length nt ops ops.toList s=some (s',is)) (hR:Rel M0 h0 w0 nt M s a w)
  (hQ:∀M' a' w',Rel M0 h0 w0 nt M' s' a' w'->a'.defers=a.defers->Q .normal a' w'):(Code.region id ops false).wpIn (nN r) n P Q a w:=by
 refine wpIn_region ?_;have:=a4Y (r:=r) (n:=n) (Q:=Q) hC hB ops.toList 0 s s' is M a w rfl h hR hQ;simpa[List.range_eq_range']using this
end
theorem NR{i:Nat}:∀{xs l:List Nat},i∈Nc xs l->i∈xs∨i∈l
 | [],l,h=>.inr h
 |x::xs,l,h=>by
  simp only[Nc]at h;rcases NR h with h1|h1
  .exact .inl (a3n _ h1)
  split at h1
  .exact .inr h1
  rcases a2y.1 h1 with rfl|h2
  .exact .inl a3m
  exact .inr h2
theorem GI{acc:List (List Nat)}{i:Nat}:∀{es:List Edge} {l:List Nat},
  i∈es.foldl (fun l e=>if Region.binds .any e then Nc (e.on::acc.getD e.on []) l else l) l->i∈l∨∃e∈es,Region.binds .any e=true∧(i=e.on∨i∈acc.getD e.on [])
 | [],l,h=>.inl h
 |e::es,l,h=>by
  simp only[adr]at h;rcases GI h with h1|⟨e',h2,h3⟩
  .split at h1
   .rename_i hb;rcases NR h1 with h2|h2
    .refine .inr ⟨e,a3m,hb,?_⟩;exact a2y.1 h2
    .exact .inl h2
   .exact .inl h1
  .exact .inr ⟨e',a3n _ h2,h3⟩
theorem YQ{acc:List (List Nat)}{o:Oper}{i:Nat}(h:i∈F8 acc o):∃e∈o.after,Region.binds .any e=true∧(i=e.on∨i∈acc.getD e.on []):=by
 rcases GI h with h1|⟨e,h2,h3⟩
 .cases h1
 exact⟨e,by simpa using h2,h3⟩
theorem GK:∀(os:List Oper) (acc:List (List Nat)),∃t,EG os acc=acc++t
 | [],acc=>⟨[],by simp[EG]⟩
 |o::os,acc=>by
  obtain⟨t,ht⟩:=GK os (acc++[F8 acc o]);exact⟨F8 acc o::t,by simp[EG,ht]⟩
theorem Rh:∀(os:List Oper) (acc:List (List Nat)) (k:Nat) (o:Oper),os[k]? = some o ->
  (EG os acc)[acc.length+k]? = some (F8 ((EG os acc).take (acc.length+k)) o)
 | [],acc,k,o,h=>by simp at h
 |o'::os,acc,0,o,h=>by
  simp at h;subst h;obtain⟨t,ht⟩:=GK os (acc++[F8 acc o']);simp[EG,ht]
 |o'::os,acc,k+1,o,h=>by
  have:=Rh os (acc++[F8 acc o']) k o (by simpa using h);simp only[EG];simp only[a2j,a4i,a4R]at this
  rwa [show acc.length+(0+1)+k=acc.length+(k+1) by omega]at this
def VT(ops:List Oper)(j:Nat):List Nat:=(EG ops []).getD j []
theorem a4Z{ops:List Oper}{j i:Nat}{o:Oper}(hj:ops[j]? = some o)(h:i∈VT ops j):∃e∈o.after,Region.binds .any e=true∧(i=e.on∨(e.on<j∧i∈VT ops e.on)):=by
 have:=Rh ops [] j o hj;simp only[a4R,a4e]at this;unfold VT at h;rw[a3l,this]at h;simp only[a5e]at h;obtain⟨e,h1,h2,h3⟩:=YQ h;refine⟨e,h1,h2,h3.imp id fun h4=>?_⟩;rw[a3l,a4p]at h4;split at h4
 .rename_i aQ;exact⟨aQ,by unfold VT;rw[a3l];exact h4⟩
 simp at h4
def uq(D:Nat->Prop)(o:Oper):Prop:=∀e∈o.after,Region.binds .any e=true->D e.on
theorem U6{ops:List Oper}{D:Nat->Prop}(hc:∀j o,ops[j]? = some o->D j->uq D o):∀(j:Nat) (o:Oper),ops[j]? = some o->uq D o->∀i∈VT ops j,D i:=by
 intro j
 induction j using Nat.strongRecOn with
 |_ j ih=>
  intro o ho hw i hi;obtain⟨e,h1,h2,h3⟩:=a4Z ho hi;rcases h3 with rfl|⟨aQ,h4⟩
  .exact hw e h1 h2
  have hd:=hw e h1 h2;have hl:j<ops.length:=(a0c.1 ho).1;have hoe:ops[e.on]? = some ops[e.on]:=a0f (by omega);exact ih e.on aQ _ hoe (hc _ _ hoe hd) i h4
theorem yG{ops:List Oper}{i j:Nat}(zZ:i<j)(hj:j<ops.length)(hn:i∉VT ops j):(i,j)∈oz ops:=by
 simp only[oz,adJ,a4s,a1l,a8J];exact⟨j,hj,i,⟨zZ,by simpa[VT]using hn⟩,rfl⟩
theorem VU{ops:List Oper}(h:nK ops=true){i:Nat}{o:Oper}(ho:ops[i]? = some o){e:Edge}(he:e∈o.after)(hb:Region.binds .any e=true):e.on<i:=by
 simp only[nK,a2o,a4A]at h;have:=h.1 (o,i) (by
  rw[a9u];simpa using ho)
 simp only[acW]at this;have:=this e he;simpa[hb]using this
theorem A8{ops:List Oper}(h:nK ops=true){i j:Nat}{a b:Oper}(hp:(i,j)∈oz ops)(ha:ops[i]? = some a)(hb:ops[j]? = some b):a.apart ops.toArray b=true∧b.apart ops.toArray a=true:=by
 simp only[nK,a2o,a4A]at h;have:=h.2 (i,j) hp;simpa[ha,hb]using this
theorem Ri{xC:List mg}:∀{ps:List (Nat×Nat)},Bf xC ps=true->∀{i j:Nat} {a b:mg},(i,j)∈ps->xC[i]? = some a->xC[j]? = some b->calm a b=true
 | [],_,i,j,a,b,h,_,_=>by cases h
 |(x,y)::r,hd,i,j,a,b,h,ha,hb=>by
  simp only[Bf,a2o]at hd;rcases a2y.1 h with h1|h1
  .cases h1;simpa[ha,hb]using hd.1
  exact Ri hd.2 h1 ha hb
section
variable {P:Program} {call:aY} {site:Nat->Bool} {s s1:St} {o:Oper} {v:EV} {i:mg}
theorem a5a{t:TypeId}{a:EV}{r:TV×mg}(h:loadT P t s a=some r):r.2.ws=[]:=by
 unfold loadT at h;split at h
 .split at h
  .simp only[a0e]at h;obtain⟨_,_,rfl⟩:=h;rfl
  simp at h
 .split at h
  .split at h
   .simp only[a0e]at h;obtain⟨_,_,rfl⟩:=h;rfl
   simp at h
  simp at h
 simp at h
theorem a9a{at_:Array TypeId}{h0:List HB}{x:TV}{r:TV×mg}(h:Yx P at_ h0 x=some r):r.2.ws=[]:=by
 unfold Yx at h
 repeat' (split at h)
 all_goals first
  |(simp at h;done)
  |(simp only[a05]at h;subst h;rfl)
theorem aht(h:pF P call site s o=some (v,s1,i))(hm:IB o.op=false):i.ws=[]:=by
 unfold pF at h;split at h
 all_goals first
  |(simp at h;done)
  |(rename_i ho;rw[ho]at hm;simp[IB]at hm;done)
  |(simp only[a0e,a0t]at h;obtain⟨_,_,_,_,rfl⟩:=h;rfl)
  |(split at h<;>first|(simp at h;done)|(simp only[a0e,a0t,a05]at h;first|(obtain⟨_,_,_,_,rfl⟩:=h;rfl)|(obtain⟨_,_,rfl⟩:=h;rfl)))
  |skip
 .split at h
  .split at h
   .simp only[a05,a0t]at h;obtain⟨_,_,rfl⟩:=h;rfl
   simp at h
  simp at h
 .split at h
  .simp only[a0e,a0t]at h;obtain⟨r,hr,_,_,rfl⟩:=h;exact a5a hr
  simp at h
 .split at h
  .split at h
   .simp only[a0e,a0t]at h;obtain⟨_,_,_,_,rfl⟩:=h;rfl
   .simp only[a0e,a0t]at h;obtain⟨_,_,_,_,rfl⟩:=h;rfl
   simp at h
  simp at h
 .rename_i c ho;rw[ho]at hm;obtain⟨callee,args,ats⟩:=c;unfold Na at h;simp only at h;split at h
  .rename_i b az;simp only[a0e,a0t]at h;obtain⟨⟨v0,s0,i0⟩,hb,_,_,rfl⟩:=h;simp only[IB]at hm;unfold qQ at hb;split at hb
   .simp only[a0e,a0t]at hb;obtain⟨r,hr,_,_,rfl⟩:=hb;exact a9a hr
   .simp at hm
   .simp at hm
   .simp only[a0e,a0t]at hb;obtain⟨r,hr,_,_,rfl⟩:=hb;rfl
   .simp only[a0e,a0t]at hb;obtain⟨r,hr,_,_,rfl⟩:=hb;rfl
   simp at hb
  .simp[IB]at hm
  simp at h
 .split at h
  .split at h
   .simp only[a05,a0t]at h;obtain⟨_,_,rfl⟩:=h;rfl
   simp at h
  simp at h
 split at h
 .split at h
  .split at h
   .split at h
    .simp only[a0e,a0t]at h;obtain⟨_,_,_,_,rfl⟩:=h;rfl
    simp at h
   simp at h
  simp at h
 simp at h
theorem ahu(h:pF P call site s o=some (v,s1,i))(hm:Nh o.op=false):i.ts=[]∧i.ws=[]∧i.all=false:=by
 unfold pF at h;split at h
 all_goals first
  |(simp at h;done)
  |(rename_i ho;rw[ho]at hm;simp[Nh]at hm;done)
  |(simp only[a0e,a0t]at h;obtain⟨_,_,_,_,rfl⟩:=h;exact⟨rfl,rfl,rfl⟩)
  |(split at h<;>first|(simp at h;done)|(simp only[a0e,a0t,a05]at h;first|(obtain⟨_,_,_,_,rfl⟩:=h;exact⟨rfl,rfl,rfl⟩)|(obtain⟨_,_,rfl⟩:=h;exact⟨rfl,rfl,rfl⟩)))
  |skip
 .split at h
  .split at h
   .simp only[a05,a0t]at h;obtain⟨_,_,rfl⟩:=h;exact⟨rfl,rfl,rfl⟩
   simp at h
  simp at h
 .split at h
  .split at h
   .simp only[a0e,a0t]at h;obtain⟨_,_,_,_,rfl⟩:=h;exact⟨rfl,rfl,rfl⟩
   .simp only[a0e,a0t]at h;obtain⟨_,_,_,_,rfl⟩:=h;exact⟨rfl,rfl,rfl⟩
   simp at h
  simp at h
 rename_i c ho;rw[ho]at hm;obtain⟨callee,args,ats⟩:=c;unfold Na at h;simp only at h;split at h
 .rename_i b az;simp only[a0e,a0t]at h;obtain⟨⟨v0,s0,i0⟩,hb,_,_,rfl⟩:=h;simp only[Nh]at hm;unfold qQ at hb;split at hb
  .simp at hm
  .simp at hm
  .simp at hm
  .simp only[a0e,a0t]at hb;obtain⟨r,hr,_,_,rfl⟩:=hb;exact⟨rfl,rfl,rfl⟩
  .simp only[a0e,a0t]at hb;obtain⟨r,hr,_,_,rfl⟩:=hb;exact⟨rfl,rfl,rfl⟩
  simp at hb
 .simp[Nh]at hm
 simp at h
variable {fl nt:Nat} {ops:Array Oper} {s':St}
theorem uo.w(h:uo P call site fl nt ops o s i s')(hm:IB o.op=false):i.ws=[]:=by
 obtain⟨_,⟨_,v,s1,h1,_⟩|⟨_,rfl,_⟩⟩:=h
 .exact aht h1 hm
 rfl
theorem uo.t(h:uo P call site fl nt ops o s i s')(hm:Nh o.op=false):i.ts=[]∧i.ws=[]∧i.all=false:=by
 obtain⟨_,⟨_,v,s1,h1,_⟩|⟨_,rfl,_⟩⟩:=h
 .exact ahu h1 hm
 exact⟨rfl,rfl,rfl⟩
theorem NS{ws:List Key}{b:mg}(h:Nj ws b=true){k:Key}(hk:k∈ws):¬oG b k:=by
 simp only[Nj,a4A]at h;have:=h k hk;simp only[a2o,a8t,agD]at this;obtain⟨⟨h1,h2⟩,h3⟩:=this;rintro (h4|h4|⟨h4,h5⟩)
 .simp[h4]at h2
 .simp[h4]at h3
 simp[h4,h5]at h1
theorem a2u{xC:List mg}{ol:List Oper}(hd:Bf xC (mW ol)=true){x y:Nat}{a b:Oper}{ia ib:mg}{sa sa' sb sb':St}(hp:(x,y)∈oz ol)(ha:ol[x]? = some a)(hb:ol[y]? = some b)
  (hia:xC[x]? = some ia) (hib:xC[y]? = some ib) (sta:uo P call site fl nt ops a sa ia sa') (stb:uo P call site fl nt ops b sb ib sb') :
  Bd a b=true∨((∀k∈ia.ws,¬oG ib k)∧(∀k∈ib.ws,¬oG ia k)):=by
 cases hsp:Bd a b
 case true=>exact .inl rfl
 right;by_cases hh:((IB a.op&&Nh b.op)||(Nh a.op&&IB b.op))=true
 .have hm:(x,y)∈mW ol:=by
   simp only[mW,a8J];refine⟨hp,?_⟩;simp only[ha,hb,hsp,abw,agV];exact hh
  have:=Ri hd hm hia hib;simp only[calm,a2o]at this;exact⟨fun k hk=>NS this.1 hk,fun k hk=>NS this.2 hk⟩
 .simp only[a8X,a2o,adw,not_and,adH]at hh;constructor
  .intro k hk ht;have h1:IB a.op=true:=by
    cases h2:IB a.op with
    |true=>rfl
    |false=>rw[sta.w h2]at hk;cases hk
   obtain⟨t1,t2,t3⟩:=stb.t (hh.1 h1);rcases ht with h|h|⟨h,_⟩
   .rw[t1]at h;cases h
   .rw[t2]at h;cases h
   .rw[t3]at h;cases h
  .intro k hk ht;have h1:IB b.op=true:=by
    cases h2:IB b.op with
    |true=>rfl
    |false=>rw[stb.w h2]at hk;cases hk
   have h2:Nh a.op=false:=by
    cases h3:Nh a.op with
    |false=>rfl
    |true=>have:=hh.2 h3;rw[h1]at this;cases this
   obtain⟨t1,t2,t3⟩:=sta.t h2;rcases ht with h|h|⟨h,_⟩
   .rw[t1]at h;cases h
   .rw[t2]at h;cases h
   .rw[t3]at h;cases h
end
end Tw
