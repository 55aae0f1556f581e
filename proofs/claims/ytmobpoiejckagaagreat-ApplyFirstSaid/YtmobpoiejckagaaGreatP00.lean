/- Part 1 of a proof: At the first place the diagram has the cell, and at no place before it; for all diagrams, and a cell of theirs by a number. -/
import Derived.RangeFuncLeaves
import Derived.OrdersIn
import Derived.Laws.CopyRow
import Derived.Laws.Rows
import Derived.Laws.Entries
set_option linter.unusedVariables false
set_option linter.unusedSimpArgs false
set_option linter.unusedSectionVars false
open Go.IntKind (i64)
noncomputable section
abbrev a01:=@Option.some.injEq
abbrev a02:=@List.getElem?_eq_some_iff
abbrev a06:=@Option.map_eq_some_iff
abbrev a0b:=@List.getElem?_eq_getElem
abbrev a0c:=@List.getElem?_append_left
abbrev a0g:=@if_neg
abbrev a0i:=@if_pos
abbrev a0j:=@Prod.mk.injEq
abbrev a0U:=@Option.map_some
abbrev a0V:=@Nat.le_refl
abbrev a19:=@List.getElem?_append_right
abbrev a1d:=@List.mem_map
abbrev a1g:=@List.getElem?_set_ne
abbrev a1E:=@decide_eq_true_eq
abbrev a1V:=@List.getElem?_set_self
abbrev a1X:=@List.length_append
abbrev a2a:=@Bool.and_eq_true
abbrev a2b:=@Array.getElem?_eq_some_iff
abbrev a2e:=@List.mem_cons
abbrev a2j:=@if_true
abbrev a2l:=@Bool.false_eq_true
abbrev a2C:=@List.getElem?_cons_zero
abbrev a2H:=@decide_eq_false_iff_not
abbrev a2I:=@List.getD_eq_getElem?_getD
abbrev a2J:=@List.mem_singleton
abbrev a2T:=@List.mem_cons_self
abbrev a2X:=@List.mem_append
abbrev a2Y:=@List.mem_cons_of_mem
abbrev a2Z:=@Nat.add_mul
abbrev a3a:=@if_false
abbrev a3r:=@Nat.mul_le_mul_right
abbrev a3H:=@List.length_drop
abbrev a3I:=@Array.getElem?_eq_getElem
abbrev a3N:=@List.length_take
abbrev a3O:=@Nat.zero_add
abbrev a3P:=@List.length_singleton
abbrev a3Q:=@List.eq_nil_of_length_eq_zero
abbrev a3R:=@List.getElem?_eq_none
abbrev a3S:=@List.length_cons
abbrev a3T:=@List.map_append
abbrev a3U:=@List.map_cons
abbrev a3V:=@Nat.lt_or_ge
abbrev a3W:=@List.getElem?_take
abbrev a3X:=@List.getElem?_drop
abbrev a3Y:=@List.getElem?_set_self'
abbrev a3Z:=@List.nodup_cons
abbrev a4a:=@List.length_map
abbrev a4b:=@List.mem_range
abbrev a4c:=@Option.bind_some
abbrev a4d:=@List.getElem?_map
abbrev a4e:=@List.length_set
abbrev a4f:=@List.mem_of_getElem?
abbrev a4g:=@List.idxOf_lt_length_iff
abbrev a4h:=@List.getElem_mem
abbrev a4i:=@Bool.eq_iff_iff
abbrev a4l:=@List.all_eq_true
abbrev a4m:=@List.mem_iff_getElem
abbrev a4r:=@List.prefix_rfl
abbrev a4t:=@Nat.zero_le
abbrev a4v:=@Int.toNat_natCast
abbrev a4w:=@Option.isSome_iff_exists
abbrev a4x:=@List.length_nil
abbrev a4B:=@List.contains_eq_mem
abbrev a4E:=@Nat.le_trans
abbrev a4F:=@Option.getD_some
abbrev a4H:=@not_false_eq_true
abbrev a4P:=@List.mem_of_mem_drop
abbrev a5d:=@List.mem_append_left
abbrev a5j:=@List.take_succ_eq_append_getElem
abbrev a5B:=@List.append_assoc
abbrev a5F:=@List.nodup_nil
abbrev a5H:=@List.map_congr_left
abbrev a5J:=@List.append_nil
abbrev a5X:=@List.mem_filterMap
abbrev a6q:=@List.drop_eq_getElem_cons
abbrev a6r:=@List.map_map
abbrev a6v:=@beq_iff_eq
abbrev a6V:=@List.eq_nil_iff_forall_not_mem
abbrev a7c:=@List.perm_ext_iff_of_nodup
abbrev a7o:=@List.length_eq_zero_iff
abbrev a7p:=@of_decide_eq_true
abbrev a7A:=@Nat.min_eq_left
abbrev a7L:=@List.mem_filter
abbrev a7X:=@not_true
abbrev a8c:=@Array.getD_eq_getD_getElem?
abbrev a8e:=@Int.emod_eq_of_lt
abbrev a8f:=@List.getElem?_of_mem
abbrev a8s:=@List.idxOf_eq_length
abbrev a8t:=@List.getElem_idxOf
abbrev a8u:=@List.prefix_append
abbrev a8v:=@Int.mul_le_mul_of_nonneg_left
abbrev a8w:=@List.nodup_append
abbrev a8x:=@Bool.not_eq_true'
abbrev a8y:=@List.mem_iff_getElem?
abbrev a8z:=@Array.getElem?_setIfInBounds
abbrev a8A:=@Nat.eq_of_beq_eq_true
abbrev a8B:=@List.mem_of_mem_take
abbrev a8C:=@Bool.not_true
abbrev a8D:=@List.take_of_length_le
abbrev a8E:=@List.length_range
abbrev a8F:=@List.filterMap_cons
abbrev a8G:=@Bool.or_eq_true
abbrev a8H:=@Option.some.inj
abbrev a8I:=@Int.mul_le_mul_of_nonneg_right
abbrev a8M:=@Classical.choose_spec
abbrev a8O:=@List.length_replicate
abbrev a8Q:=@List.length_filter_le
abbrev a8R:=@Nat.lt_of_lt_of_le
abbrev a8S:=@Nat.le_of_lt
abbrev a8Y:=@List.getElem_map
abbrev a96:=@Int.le_refl
abbrev a9e:=@List.mem_zipIdx_iff_getElem?
abbrev a9f:=@Bool.or_eq_false_iff
abbrev a9g:=@List.getElem?_cons_succ
abbrev a9j:=@List.getElem?_set
abbrev a9n:=@List.ext_getElem?
abbrev a9o:=@List.idxOf_append
abbrev a9p:=@Array.length_toList
abbrev a9t:=@List.findIdx?_eq_some_iff_getElem
abbrev a9v:=@Nat.add_assoc
abbrev a9C:=@Array.getElem?_append_left
abbrev a9E:=@forall_congr'
abbrev a9G:=@List.getElem_inj
abbrev aa0:=@List.ext_getElem
abbrev aa1:=@List.length_mergeSort
abbrev aa2:=@List.length_pos_iff
abbrev aar:=@List.getElem_of_mem
abbrev aaw:=@Bool.not_false
abbrev aaE:=@List.drop_zero
abbrev abk:=@List.take_length
abbrev abl:=@Nat.one_mul
abbrev abm:=@Nat.eq_zero_or_pos
abbrev abp:=@Bool.not_eq_false'
abbrev abq:=@List.map_nil
abbrev abr:=@Array.getElem?_modify
abbrev abu:=@List.mem_append_right
abbrev abw:=@List.nil_append
abbrev abx:=@List.all_cons
abbrev abD:=@Int.add_mul_emod_self_left
abbrev abE:=@List.nodup_iff_pairwise_ne
abbrev abI:=@Classical.byContradiction
abbrev abJ:=@List.pairwise_iff_getElem
abbrev abL:=@Int.mul_one
abbrev abM:=@Nat.zero_mul
abbrev abN:=@Array.all_eq_true_iff_forall_mem
abbrev acy:=@Nat.le_of_not_lt
abbrev acG:=@and_self
abbrev acM:=@Prod.ext
abbrev acS:=@List.filter_cons_of_neg
abbrev acY:=@List.filter_cons_of_pos
abbrev acZ:=@List.getElem?_replicate
abbrev ad5:=@Bool.true_and
abbrev ad6:=@List.any_cons
abbrev ad9:=@List.foldl_cons
abbrev ada:=@not_or
abbrev adi:=@List.range_succ
abbrev adk:=@List.Nodup.length_le_of_subset
abbrev adl:=@List.find?_eq_none
abbrev ado:=@List.idxOf_cons
abbrev adp:=@Nat.le_mul_of_pos_left
abbrev adr:=@Nat.add_zero
abbrev ads:=@List.getElem?_toArray
abbrev adt:=@Array.getElem?_toList
abbrev adu:=@Int.mul_nonneg
abbrev adv:=@Array.ext'
abbrev adx:=@List.mem_flatMap
abbrev ady:=@List.getElem?_modify
abbrev adA:=@List.nodup_range
abbrev adC:=@Int.add_mul
abbrev adI:=@List.replicate_succ
abbrev adL:=@List.mergeSort_perm
abbrev adN:=@Int.natCast_mul
abbrev ae0:=@List.cons.injEq
abbrev ae1:=@Int.emod_nonneg
abbrev ael:=@decide_eq_false
abbrev aeT:=@List.mem_of_find?_eq_some
abbrev aeU:=@Bool.true_eq_false
abbrev afe:=@Int.le_of_lt
abbrev afo:=@List.count_pos_iff
abbrev afz:=@List.take_take
abbrev afF:=@List.drop_drop
abbrev afP:=@Option.map_map
abbrev ag2:=@List.pairwise_map
abbrev ag5:=@List.drop_of_length_le
abbrev agp:=@Bool.false_or
abbrev agq:=@List.prefix_refl
abbrev agr:=@Bool.not_eq_true
abbrev ags:=@List.any_eq_true
abbrev agt:=@Bool.and_eq_false_iff
abbrev agu:=@Nat.le_of_ble_eq_true
abbrev agv:=@Nat.le_of_eq
abbrev agw:=@Nat.sub_self
abbrev agx:=@List.find?_cons
abbrev agy:=@Int.ediv_nonneg
abbrev agz:=@Int.add_comm
abbrev agA:=@List.getElem?_mapIdx
abbrev agB:=@Int.toNat_of_nonneg
abbrev agC:=@Nat.succ_eq_add_one
abbrev agD:=@beq_eq_false_iff_ne
abbrev agE:=@List.getElem?_range
abbrev agF:=@List.filter_eq_self
abbrev agG:=@List.drop_take
abbrev agH:=@Int.mul_le_mul
abbrev agI:=@Nat.mul_le_mul
abbrev agJ:=@Nat.mul_one
abbrev agK:=@List.contains_cons
abbrev agL:=@Int.emod_lt_of_pos
abbrev agM:=@Bool.and_true
abbrev agN:=@Int.mul_assoc
namespace Tw
open Go
inductive NK where
 |ptr|slc|map|fn|ifc
 deriving DecidableEq
inductive TV where
 |bool (b:Bool)
 |int (k:IntKind) (n:Int)
 |str (s:ByteArray)
 |nil (k:NK)
 |ptr (b off lim:Nat)
 |slc (b off len cap sz:Nat) (ex:Bool)
 |map (r:Nat)
 |fn (f:FuncId) (first cap:List TV)
 |kF (l:Nat)
 |agg (cs:List TV)
 |dI (cs:List TV)
 |iter (b:Nat)
inductive EV where
 |val (v:TV)
 |loc (k off:Nat)
 |undef
 |ent (r j:Nat) (v:TV)
 |E8 (r j:Nat)
inductive BK where
 |ro|own|grow|last
 deriving DecidableEq
inductive HB where
 |cells (k:BK) (cs:List TV)
 |map (es:List (TV×TV))
 |mM (cs:List TV)
 |mark
 |cZ (r n:Nat) (seen:List Nat)
 |loop (ready:Bool) (f:FuncId) (nt:Nat) (env:List (Nat×EV)) (ps:List Nat) (assign body:Code) (jD:Option Code)
structure St where
 env:List (Nat×EV)
 loc:List (List TV)
 heap:List HB
 ws:List Nat
inductive Key where
 |h (b:Nat)
 |l (k:Nat)
 deriving DecidableEq
def St.get(s:St):Key->Option HB
 |.h b=>s.heap[b]?
 |.l k=>(s.loc[k]?).map (.cells .own)
def TV.toC:TV->Option Value
 |.bool b=>some (.bool b)
 |.int k n=>some (.int k n)
 |.str s=>some (.string s)
 |.nil .ptr=>some (.pointer none)
 |.nil .slc=>some (.slice none 0 0)
 |.nil .map=>some (.map none)
 |.nil .fn=>some .nilFunc
 |.nil .ifc=>some .nilIface
 |_=>none
def TV.Tc:List TV->Option (List Value)
 | []=>some []
 |c::cs=>match c.toC,TV.Tc cs with
  |some v,some vs=>some (v::vs)
  |_,_=>none
def TV.yw:TV->Option Value
 |.agg cs=>(TV.Tc cs).map fun vs=>.agg vs.toArray
 |v=>v.toC
def TV.ZY:Value->Option TV
 |.bool b=>some (.bool b)
 |.int k n=>some (.int k n)
 |.string s=>some (.str s)
 |.pointer none=>some (.nil .ptr)
 |.slice none 0 0=>some (.nil .slc)
 |.map none=>some (.nil .map)
 |.nilFunc=>some (.nil .fn)
 |.nilIface=>some (.nil .ifc)
 |_=>none
def TV.BJ:List Value->Option (List TV)
 | []=>some []
 |c::cs=>match TV.ZY c,TV.BJ cs with
  |some v,some vs=>some (v::vs)
  |_,_=>none
def TV.Vd:Value->Option TV
 |.agg cs=>(TV.BJ cs.toList).map .agg
 |v=>TV.ZY v
def TV.abh:TV->Bool
 |.bool _|.int _ _|.str _|.nil _=>true
 |_=>false
def TV.abj:TV->Bool
 |.agg cs=>cs.all TV.abh
 |v=>v.abh
def TV.flat:TV->Bool
 |.dI vs=>vs.all TV.abj
 |v=>v.abj
def TV.cells:TV->List TV
 |.agg cs=>cs
 |v=>[v]
def iR:TV->Bool
 |.agg _|.dI _=>false
 |_=>true
def aB{α:Type}(P:Program):Sem α->Option α
 |.pure a=>some a
 |.program k=>aB P (k P)
 |.mark _ k=>aB P k
 |_=>none
def dM(t:Nat):List (Nat×EV)->Option EV
 | []=>none
 |(k,v)::r=>if k=t then some v else dM t r
def St.put(s:St)(dst:Option Nat)(v:EV):St:=
 match dst with
 |some d=>{ s with env:=(d,v)::s.env }
 |none=>s
def pick(live:List Nat)(env:List (Nat×EV)):List (Nat×EV):=
 match live with
 | []=>[]
 |t::r=>match dM t env with
  |some v=>(t,v)::pick r env
  |none=>pick r env
def Ib(env:List (Nat×EV)):Operand->Option EV
 |.tmp t=>dM t env
 |.const v=>(TV.Vd v).map .val
 |.func f=>some (.val (.fn f [] []))
 |.global _=>none
def qH(env:List (Nat×EV))(x:Operand):Option TV:=
 match Ib env x with
 |some (.val v)=>some v
 |_=>none
def Td(env:List (Nat×EV)):List Operand->Option (List TV)
 | []=>some []
 |x::xs=>match qH env x,Td env xs with
  |some v,some vs=>some (v::vs)
  |_,_=>none
def Vj(env:List (Nat×EV)):List (Nat×Operand)->Option (List (Nat×TV))
 | []=>some []
 |(i,x)::xs=>match qH env x,Vj env xs with
  |some v,some vs=>some ((i,v)::vs)
  |_,_=>none
structure lK where
 all:Bool
 ts:List Key
 ws:List Key
def bY:lK:=⟨false,[],[]⟩
def xg(k:Key):lK:=⟨false,[k],[]⟩
def gY(k:List Key):lK:=⟨false,k,[]⟩
def oO(k:Key):lK:=⟨false,[k],[k]⟩
def sub(cs:List TV)(off n:Nat):Option (List TV):=
 if off+n<=cs.length then some ((cs.drop off).take n)else none
def vV(cs:List TV)(off:Nat)(new:List TV):Option (List TV):=
 if off+new.length<=cs.length then some (cs.take off++new++cs.drop (off+new.length))else none
def uK(P:Program)(t:TypeId):Option Bool:=
 match P.underlying t with
 |some (.struct _)|some (.array _ _)=>some true
 |some _=>some false
 |none=>none
def dB(P:Program)(t:TypeId):Option Nat:=(P.info? t).map (·.size)
def uj(P:Program)(t:TypeId)(cs:List TV)(off:Nat):Option TV:=
 match uK P t,dB P t with
 |some true,some n=>(sub cs off n).map .agg
 |some false,some n=>if n=1 then cs[off]? else none
 |_,_=>none
def Jy(P:Program)(t:TypeId):Option (List TV):=
 match P.info? t with
 |some i=>match i.zero with
  |some z=>(TV.Vd z).map TV.cells
  |none=>none
 |none=>none
def aV(h:List HB)(b:Nat):Option (List TV):=
 match h[b]? with
 |some (.cells _ cs)=>some cs
 |_=>none
def lM(h:List HB)(b lim:Nat):Option (List TV):=
 match h[b]? with
 |some (.cells k cs)=>if k=.last∧lim≠cs.length then none else some cs
 |_=>none
def Ea(floor:Nat)(b:Nat)(ws:List Nat):List Nat:=
 if b<floor then(if ws.contains b then ws else b::ws)else ws
def jO(floor:Nat):List Key->List Nat->List Nat
 | [],ws=>ws
 |.h b::r,ws=>jO floor r (Ea floor b ws)
 |.l _::r,ws=>jO floor r ws
def zQ(k:BK)(whole:Bool):Option BK:=
 match k,whole with
 |.own,_=>some .own
 |.grow,true=>some .last
 |.last,true=>some .last
 |_,_=>none
def Tf(h:List HB)(b off lim:Nat)(new:List TV):Option (List HB):=
 match h[b]? with
 |some (.cells k cs)=>match zQ k (lim==cs.length)with
  |some k'=>(vV cs off new).map fun cs'=>h.set b (.cells k' cs')
  |none=>none
 |_=>none
def BK.more:BK->BK
 |.last=>.last
 |_=>.grow
def rY(place:Nat->Option (Nat×Nat)):List TV->List (Nat×TV)->Option (List TV)
 |cs,[]=>some cs
 |cs,(i,v)::r=>match place i with
  |some (off,size)=>if v.cells.length=size then(match vV cs off v.cells with|some cs'=>rY place cs' r|none=>none)else none
  |none=>none
def Ti(P:Program)(fs:Array Field)(i:Nat):Option (Nat×Nat):=
 match fs[i]? with
 |some f=>(dB P f.type).map fun n=>(f.offset,n)
 |none=>none
def BL(P:Program)(fs:List Field):Bool:=fs.all fun f=>(dB P f.type).isSome
def MP(P:Program)(t:TypeId)(parts:List (Nat×TV)):Option TV:=
 match Jy P t,P.underlying t with
 |some z,some (.struct fs)=>if BL P fs.toList then(rY (Ti P fs) z parts).map .agg else none
 |some z,some (.array _ e)=>match dB P e with
  |some n=>(rY (fun i=>some (i*n,n)) z parts).map .agg
  |none=>none
 |_,_=>none
def times(z:List TV):Nat->List TV
 | 0=>[]
 |n+1=>z++times z n
def jy(P:Program)(t:TypeId):Option (TypeId×Nat):=
 match P.underlying t with
 |some (.slice e)=>match dB P e with
  |some n=>if n=0 then none else some (e,n)
  |none=>none
 |_=>none
def qI(site:Bool)(s:St)(cs:List TV):EV×St:=
 if site then(.val (.ptr s.heap.length 0 cs.length),{ s with heap:=s.heap++[.cells .own cs] })
 else(.loc s.loc.length 0,{ s with loc:=s.loc++[cs] })
def loadT(P:Program)(t:TypeId)(s:St):EV->Option (TV×lK)
 |.loc k off=>match s.loc[k]? with
  |some cs=>(uj P t cs off).map fun v=>(v,xg (.l k))
  |none=>none
 |.val (.ptr b off lim)=>match lM s.heap b lim,dB P t with
  |some cs,some n=>if off+n<=lim then(uj P t cs off).map fun v=>(v,xg (.h b))else none
  |_,_=>none
 |_=>none
def storeT(P:Program)(t:TypeId)(s:St)(a:EV)(v:TV):Option (St×lK):=
 match dB P t with
 |some n=>
  if v.cells.length=n∧v.cells.all iR=true then
   match a with
   |.loc k off=>match s.loc[k]? with
    |some cs=>(vV cs off v.cells).map fun cs'=>({ s with loc:=s.loc.set k cs' },oO (.l k))
    |none=>none
   |.val (.ptr b off lim)=>if off+n<=lim then(Tf s.heap b off lim v.cells).map fun h=>({ s with heap:=h },oO (.h b))else none
   |_=>none
  else none
 |none=>none
def PW(o:Nat):EV->Option EV
 |.loc k off=>some (.loc k (off+o))
 |.val (.ptr b off lim)=>if off+o<=lim then some (.val (.ptr b (off+o) lim))else none
 |_=>none
def FV(P:Program)(t:TypeId)(i:Nat):Option Nat:=
 match P.underlying t with
 |some (.struct fs)=>match fs[i]? with
  |some f=>match dB P f.type with
   |some n=>if n=0 then none else some f.offset
   |none=>none
  |none=>none
 |_=>none
def idx(n:Nat):TV->Option Nat
 |.int _ i=>if 0<=i∧i<n then some i.toNat else none
 |_=>none
def lN(P:Program)(t:TypeId)(x:EV)(i:TV):Option EV:=
 match P.underlying t with
 |some (.slice e)=>match dB P e,x with
  |some n,.val (.slc b off len cap sz _)=>if n=sz then(idx len i).map fun j=>.val (.ptr b (off+j*n) (off+cap*n))else none
  |_,_=>none
 |some (.array len e)=>match dB P e with
  |some n=>match idx len i with
   |some j=>PW (j*n) x
   |none=>none
  |none=>none
 |_=>none
def Ii(P:Program)(t:TypeId)(x i:TV):Option TV:=
 match P.underlying t,x with
 |some (.array len e),.agg cs=>match dB P e,idx len i with
  |some n,some j=>uj P e cs (j*n)
  |_,_=>none
 |some .string,.str s=>match idx s.size i with
  |some j=>(s[j]?).map fun b=>.int .u8 b.toNat
  |none=>none
 |_,_=>none
def qJ(n:Nat):TV->Option Nat
 |.int _ i=>if 0<=i∧i<=n then some i.toNat else none
 |_=>none
def jk(n d:Nat):Option TV->Option Nat
 |none=>some d
 |some v=>qJ n v
def qK(P:Program)(t:TypeId)(x:TV)(lo hi mx:Option TV):Option TV:=
 match P.underlying t,x with
 |some .string,.str s=>match mx with
  |some _=>none
  |none=>match jk s.size s.size hi with
   |some h=>match jk h 0 lo with
    |some l=>some (.str (s.extract l h))
    |none=>none
   |none=>none
 |some (.slice e),.slc b off len cap sz ex=>match dB P e with
  |some n=>
   if n=sz then
    match mx with
    |some m=>match qJ cap m,hi with
     |some m,some h=>match qJ (min m len) h with
      |some h=>match jk h 0 lo with
       |some l=>some (.slc b (off+l*n) (h-l) (m-l) sz true)
       |none=>none
      |none=>none
     |_,_=>none
    |none=>match jk len len hi with
     |some h=>match jk h 0 lo with
      |some l=>some (.slc b (off+l*n) (h-l) (cap-l) sz ex)
      |none=>none
     |none=>none
   else none
  |none=>none
 |some (.slice e),.nil .slc=>match dB P e,jk 0 0 mx,jk 0 0 hi,jk 0 0 lo with
  |some _,some _,some _,some _=>if mx.isSome&&hi.isNone then none else some (.nil .slc)
  |_,_,_,_=>none
 |_,_=>none
def qo(P:Program)(t:TypeId)(x:EV)(lo hi mx:Option TV):Option TV:=
 match P.underlying t,x with
 |some (.array n e),.val (.ptr b off lim)=>match dB P e with
  |some size=>
   if size=0∨lim<off+n*size∨2^24<n then none else
   match jk n n mx with
   |some m=>match jk m n hi with
    |some h=>match jk h 0 lo with
     |some l=>if mx.isSome&&hi.isNone then none else some (.slc b (off+l*size) (h-l) (m-l) size true)
     |none=>none
    |none=>none
   |none=>none
  |none=>none
 |_,_=>none
def fD(size:Nat)(h:List HB):TV->Option (Nat×List TV)
 |.nil .slc=>some (0,[])
 |.slc b off len cap sz _=>if sz=size then(if len=0 then some (0,[])else match lM h b (off+cap*sz)with|some cs=>(sub cs off (len*size)).map fun l=>(len,l)|none=>none)else none
 |.str s=>if size=1 then some (s.size,s.data.toList.map fun b=>.int .u8 b.toNat)else none
 |_=>none
def dH:TV->List Key
 |.slc b _ _ _ _ _=>[.h b]
 |_=>[]
def Tj(P:Program)(t:TypeId):Bool:=
 match P.underlying t with
 |some (.int _)=>true
 |_=>false
def a4j(i:TypeInfo):Bool:=
 match i.zero with
 |some z=>z.cells.size==i.size
 |none=>false
def tY(P:Program)(e:TypeId)(n:Nat):Bool:=
 match P.info? e with
 |some i=>decide (n*i.bytes<=2^40)&&decide (n<=2^40)&&decide (i.bytes<=2^20)&&decide (0<i.bytes)&&a4j i
 |none=>false
def jV(P:Program)(at_:Array TypeId)(s:St)(d x:TV):Option (TV×St×lK):=
 match at_[0]?,at_[1]? with
 |some st,some xt=>
  if Tj P xt||(P.underlying xt).isNone then none else
  match jy P st with
  |some (e,size)=>match fD size s.heap x with
   |some (n,new)=>
    if n=0 then(match d with
     |.nil .slc=>some (d,s,gY (dH x))
     |.slc _ _ _ _ sz _=>if sz=size then some (d,s,gY (dH x))else none
     |_=>none)
    else if new.length=n*size then
     match d with
     |.nil .slc=>if tY P e n then some (.slc s.heap.length 0 n n size false,{ s with heap:=s.heap++[.cells .own new] },gY (dH x))else none
     |.slc b off len cap sz ex=>
      if sz=size then
       if len+n<=cap then
        (Tf s.heap b (off+len*size) (off+cap*size) new).map fun h=>(.slc b off (len+n) cap sz ex,{ s with heap:=h },⟨false,.h b::dH x,[.h b]⟩)
       else if tY P e (len+n)then
        if ex then
         (fD size s.heap (.slc b off len cap sz ex)).map fun r=>(.slc s.heap.length 0 (len+n) (len+n) size false,{ s with heap:=s.heap++[.cells .own (r.2++new)] },gY (.h b::dH x))
        else match s.heap[b]? with
         |some (.cells k cs)=>
          if k=.ro∨off≠0∨len≠cap∨cs.length≠len*size∨len=0 then none
          else some (.slc b 0 (len+n) (len+n) size false,{ s with heap:=s.heap.set b (.cells k.more (cs++new))},⟨false,.h b::dH x,[.h b]⟩)
         |_=>none
       else none
      else none
     |_=>none
    else none
   |none=>none
  |none=>none
 |_,_=>none
def isStr:TV->Bool
 |.str _=>true
 |_=>false
def FW(P:Program)(at_:Array TypeId)(s:St)(d x:TV):Option (TV×St×lK):=
 match at_[0]? with
 |some st=>match jy P st with
  |some (_,size)=>match fD size s.heap x with
   |some (n,new)=>
    if new.length=n*size∧isStr x=false then
     match d with
     |.nil .slc=>some (.int .i64 0,s,gY (dH x))
     |.slc b off len cap sz _=>
      if sz=size then
       if min n len=0 then some (.int .i64 0,s,gY (dH x))
       else(Tf s.heap b off (off+cap*size) (new.take (min n len*size))).map fun h=>(.int .i64 (min n len:Nat),{ s with heap:=h },⟨false,.h b::dH x,[.h b]⟩)
      else none
     |_=>none
    else none
   |none=>none
  |none=>none
 |none=>none
def Yh(P:Program)(at_:Array TypeId)(h:List HB)(x:TV):Option (TV×lK):=
 match at_[0]? with
 |some t=>match P.underlying t,x with
  |some .string,.str s=>some (.int .i64 s.size,bY)
  |some (.array n _),_=>some (.int .i64 n,bY)
  |some (.slice _),.slc _ _ len _ _ _=>some (.int .i64 len,bY)
  |some (.slice _),.nil .slc=>some (.int .i64 0,bY)
  |some (.map _ _),.nil .map=>some (.int .i64 0,bY)
  |some (.map _ _),.map r=>match h[r]? with
   |some (.map es)=>some (.int .i64 es.length,xg (.h r))
   |_=>none
  |_,_=>none
 |none=>none
def Bv:List TV->Option (List Value)
 | []=>some []
 |c::cs=>match c.yw,Bv cs with
  |some v,some vs=>some (v::vs)
  |_,_=>none
def Vk(P:Program)(kt:TypeId)(k:Value)(ks:List Value)(r:Option Nat):Bool:=
 match aB P (underlying kt)with
 |some kind=>(match r with|some j=>decide (j<ks.length)|none=>true)&&((ks.zipIdx.all fun(x,i)=>Instr.sameNow kind k x==some (some i==r)) ||
   (ks.zipIdx.all fun(x,i)=>Instr.sameNow kind k x==none&&aB P (Op.equal kt k x)==some (some i==r)))
 |none=>false
def Ei(P:Program)(kt:TypeId)(k:Value)(es:List (TV×TV)):Option (Option Nat):=
 match Bv (es.map (·.1))with
 |some ks=>match aB P (do Instr.checkKey es.isEmpty 10000 kt k;Instr.findKey kt k (ks.map fun x=>⟨x,.bool false,0⟩))with
  |some r=>if Vk P kt k ks (r.map (·.1))then some (r.map (·.1))else none
  |none=>none
 |none=>none
def Jz:TV->Option NK
 |.ptr _ _ _=>some .ptr
 |.slc _ _ _ _ _ _=>some .slc
 |.map _=>some .map
 |.fn _ _ _|.kF _=>some .fn
 |_=>none
def Yi:TV->Option NK
 |.nil k=>some k
 |_=>none
def JA(P:Program)(t:TypeId):Option NK:=
 match P.underlying t with
 |some (.pointer _)=>some .ptr
 |some (.slice _)=>some .slc
 |some (.map _ _)=>some .map
 |some (.func _ _ _)=>some .fn
 |_=>none
def BM(P:Program)(t:TypeId)(x y:TV):Bool:=
 match JA P t with
 |some k=>(Yi x==some k&&Jz y==some k)||(Jz x==some k&&Yi y==some k)
 |none=>false
def sD(P:Program)(op:BinOp)(t:TypeId)(x y:Operand)(a b:TV):Option TV:=
 match a.yw,b.yw with
 |some u,some v=>match aB P (do eqGuard op t x y u v;binOp op t u v)with
  |some r=>TV.Vd r
  |none=>none
 |_,_=>if BM P t a b then(match op with
  |.eql=>some (.bool false)
  |.neq=>some (.bool true)
  |_=>none)else none
def unT(P:Program)(op:UnOp)(a:TV):Option TV:=
 match a.yw with
 |some u=>match aB P (Op.unary op u)with
  |some r=>TV.Vd r
  |none=>none
 |none=>none
def Qo(P:Program)(src dst:TypeId)(a:TV):Option TV:=
 match a.yw with
 |some u=>match aB P (convert src dst u)with
  |some r=>TV.Vd r
  |none=>none
 |none=>none
def Du(P:Program)(mx:Bool)(at_:Array TypeId)(t:TypeId)(az:List TV):Option TV:=
 match Bv az with
 |some vs=>match aB P (if mx then Builtin.max_ at_ t vs.toArray else Builtin.min_ at_ t vs.toArray)with
  |some r=>TV.Vd r
  |none=>none
 |none=>none
def MQ(P:Program)(t:TypeId)(x:TV)(i:Nat):Option TV:=
 match P.underlying t,x with
 |some (.struct fs),.agg cs=>match fs[i]? with
  |some f=>uj P f.type cs f.offset
  |none=>none
 |_,_=>none
def qp(P:Program)(t:TypeId)(len:Nat)(s:St)(ps:List (Nat×TV)):Option (TV×St):=
 match jy P t with
 |some (e,n)=>if len*n<=2^24∧ps.all (fun p=>p.2.cells.all iR)=true then
   match Jy P e with
   |some z=>if z.length=n then
     match rY (fun i=>some (i*n,n)) (times z len) ps with
     |some cs=>some (.slc s.heap.length 0 len len n true,{ s with heap:=s.heap++[.cells .own cs] })
     |none=>none
    else none
   |none=>none
  else none
 |none=>none
def a1R:TV->Option Nat
 |.int _ i=>if 0<=i∧i<=2^40 then some i.toNat else none
 |_=>none
def sF(P:Program)(t:TypeId)(s:St)(l c:TV):Option (TV×St):=
 match jy P t,a1R l,a1R c with
 |some (e,n),some l,some c=>
  if l<=c∧tY P e c then
   match Jy P e with
   |some z=>if z.length=n then some (.slc s.heap.length 0 l c n true,{ s with heap:=s.heap++[.cells .own (times z c)] })else none
   |none=>none
  else none
 |_,_,_=>none
def gX(P:Program)(t:TypeId)(h:List HB)(m k:TV)(ok:Bool):Option TV:=
 match P.underlying t,k.yw with
 |some (.map kt e),some kv=>
  let es:=match m with
   |.nil .map=>some []
   |.map r=>match h[r]? with
    |some (.map es)=>some es
    |_=>none
   |_=>none
  match es with
  |some es=>match Ei P kt kv es with
   |some (some i)=>match es[i]? with
    |some (_,v)=>some (if ok then .dI [v,.bool true]else v)
    |none=>none
   |some none=>match P.info? e with
    |some i=>match i.zero with
     |some z=>(TV.Vd z).map fun z=>if ok then .dI [z,.bool false]else z
     |none=>none
    |none=>none
   |none=>none
  |none=>none
 |_,_=>none
def xH(P:Program)(t:TypeId)(s:St)(m k v:TV):Option (St×lK):=
 match P.underlying t,k.yw,m with
 |some (.map kt _),some kv,.map r=>match s.heap[r]?,aB P (Instr.checkKey false 10000 kt kv)with
  |some (.map es),some ()=>match Ei P kt kv es with
   |some (some i)=>match es[i]? with
    |some (old,_)=>match old.yw with
     |some ov=>if Instr.sameBits 10000 ov kv then some ({ s with heap:=s.heap.set r (.map (es.set i (k,v))) },oO (.h r))else none
     |none=>none
    |none=>none
   |some none=>some ({ s with heap:=s.heap.set r (.map (es++[(k,v)])) },oO (.h r))
   |none=>none
  |_,_=>none
 |_,_,_=>none
def zS(P:Program)(t:TypeId)(s:St)(m k:TV):Option (EV×St×lK):=
 match P.underlying t,k.yw,m with
 |some (.map kt e),some kv,.map r=>match s.heap[r]?,aB P (Instr.checkKey false 10000 kt kv)with
  |some (.map es),some ()=>match Ei P kt kv es with
   |some (some i)=>match es[i]? with
    |some (old,v)=>match old.yw with
     |some ov=>if Instr.sameBits 10000 ov kv then some (.ent r i v,{ s with heap:=s.heap.set r (.map (es.set i (k,v))) },oO (.h r))else none
     |none=>none
    |none=>none
   |some none=>match P.info? e with
    |some i=>match i.zero with
     |some z=>match TV.Vd z with
      |some z=>some (.ent r es.length z,{ s with heap:=s.heap.set r (.map (es++[(k,z)])) },oO (.h r))
      |none=>none
     |none=>none
    |none=>none
   |none=>none
  |_,_=>none
 |_,_,_=>none
def a00(P:Program)(t:TypeId)(h h':List HB)(m k:TV):Bool:=
 match gX P t h m k false,gX P t h' m k false with
 |some (.int a x),some (.int b y)=>decide (a=b)&&x==y
 |_,_=>false
def BN(P:Program)(t:TypeId)(s:St)(m k:TV):Option (EV×St×lK):=
 match zS P t s m k with
 |some (e,s1,i)=>if a00 P t s.heap s1.heap m k then some (e,s1,i)else none
 |none=>none
def FX(s:St)(m:TV)(e:EV)(v:TV):Option (St×lK):=
 match m,e with
 |.map r,.E8 r' j=>if r=r' then match s.heap[r]? with
  |some (.map es)=>match es[j]? with
   |some (k,_)=>some ({ s with heap:=s.heap.set r (.map (es.set j (k,v))) },oO (.h r))
   |none=>none
  |_=>none
  else none
 |_,_=>none
def yJ(e:EV)(i:Nat):Option EV:=
 match e with
 |.val (.dI vs)=>(vs[i]?).map .val
 |.ent r j v=>match i with
  | 0=>some (.val v)
  | 1=>some (.E8 r j)
  |_=>none
 |_=>none
abbrev bf:=TV->List TV->List HB->Option (TV×List HB×List Nat)
def qL(P:Program)(b:Builtin)(at_:Array TypeId)(t:TypeId)(s:St)(az:List TV):Option (TV×St×lK):=
 match b,az with
 |.len,[x]=>(Yh P at_ s.heap x).map fun(v,i)=>(v,s,i)
 |.append,[d,x]=>jV P at_ s d x
 |.copy,[d,x]=>FW P at_ s d x
 |.min,az=>(Du P false at_ t az).map fun v=>(v,s,bY)
 |.max,az=>(Du P true at_ t az).map fun v=>(v,s,bY)
 |_,_=>none
def Vl(env:List (Nat×EV)):Option Operand->Option (Option TV)
 |none=>some none
 |some x=>match qH env x with
  |some v=>some (some v)
  |none=>none
def MR(P:Program)(call:bf)(s:St)(c:Call)(t:TypeId):Option (EV×St×lK):=
 match c.callee,Td s.env c.args.toList with
 |.builtin b,some az=>(qL P b c.argTypes t s az).map fun(v,s,i)=>(.val v,s,i)
 |.value f,some az=>match qH s.env f with
  |some fv=>match call fv az s.heap with
   |some (v,h,ws)=>some (.val v,{ s with heap:=h },⟨true,[],ws.map .h⟩)
   |none=>none
  |none=>none
 |_,_=>none
def oP(P:Program)(call:bf)(site:Nat->Bool)(s:St)(o:Oper):Option (EV×St×lK):=
 match o.op with
 |.move x|.assign x=>(Ib s.env x).map fun v=>(v,s,bY)
 |.pick c a b=>match qH s.env c with
  |some (.bool t)=>(Ib s.env (if t then a else b)).map fun v=>(v,s,bY)
  |_=>none
 |.alloc e=>(Jy P e).map fun z=>let (v,s):=qI (site (o.dst.getD 0)) s z;(v,s,bY)
 |.box _ x=>match qH s.env x with
  |some v=>if v.cells.all iR then let (v,s):=qI (site (o.dst.getD 0)) s v.cells;some (v,s,bY)else none
  |none=>none
 |.build t ps=>match Vj s.env ps.toList with
  |some ps=>(MP P t ps).map fun v=>(.val v,s,bY)
  |none=>none
 |.buildSlice t len ps=>match Vj s.env ps.toList with
  |some ps=>(qp P t len s ps).map fun(v,s)=>(.val v,s,bY)
  |none=>none
 |.load t a=>match Ib s.env a with
  |some a=>(loadT P t s a).map fun(v,i)=>(.val v,s,i)
  |none=>none
 |.store t a x=>match Ib s.env a,qH s.env x with
  |some a,some v=>(storeT P t s a v).map fun(s,i)=>(.undef,s,i)
  |_,_=>none
 |.nilCheck x=>match Ib s.env x with
  |some (.loc k o)=>some (.loc k o,s,bY)
  |some (.val (.ptr b o lim))=>some (.val (.ptr b o lim),s,bY)
  |some (.val (.fn f a b))=>some (.val (.fn f a b),s,bY)
  |some (.val (.kF l))=>some (.val (.kF l),s,bY)
  |_=>none
 |.binOp op t x y _=>match qH s.env x,qH s.env y with
  |some a,some b=>(sD P op t x y a b).map fun v=>(.val v,s,bY)
  |_,_=>none
 |.unOp op _ x=>match qH s.env x with
  |some a=>(unT P op a).map fun v=>(.val v,s,bY)
  |none=>none
 |.convert src dst x=>match qH s.env x with
  |some a=>(Qo P src dst a).map fun v=>(.val v,s,bY)
  |none=>none
 |.makeFunc (.func f) first cap=>match Td s.env first.toList,Td s.env cap.toList with
  |some a,some b=>some (.val (.fn f a b),s,bY)
  |_,_=>none
 |.makeMap t r=>match Vl s.env r,P.underlying t with
  |some none,_=>some (.val (.map s.heap.length),{ s with heap:=s.heap++[.map []] },bY)
  |some (some (.int _ _)),some (.map _ _)=>some (.val (.map s.heap.length),{ s with heap:=s.heap++[.map []] },bY)
  |_,_=>none
 |.makeSlice t l c=>match qH s.env l,qH s.env c with
  |some l,some c=>(sF P t s l c).map fun(v,s)=>(.val v,s,bY)
  |_,_=>none
 |.slice t x lo hi mx=>match Ib s.env x,Vl s.env lo,Vl s.env hi,Vl s.env mx with
  |some x,some lo,some hi,some mx=>match P.underlying t,x with
   |some (.array _ _),x=>(qo P t x lo hi mx).map fun v=>(.val v,s,bY)
   |_,.val x=>(qK P t x lo hi mx).map fun v=>(.val v,s,bY)
   |_,_=>none
  |_,_,_,_=>none
 |.fieldAddr t x f=>match Ib s.env x,FV P t f with
  |some a,some n=>(PW n a).map fun v=>(v,s,bY)
  |_,_=>none
 |.field t x f=>match qH s.env x with
  |some a=>(MQ P t a f).map fun v=>(.val v,s,bY)
  |none=>none
 |.indexAddr t x i=>match Ib s.env x,qH s.env i with
  |some a,some i=>(lN P t a i).map fun v=>(v,s,bY)
  |_,_=>none
 |.index t x i=>match qH s.env x,qH s.env i with
  |some a,some i=>(Ii P t a i).map fun v=>(.val v,s,bY)
  |_,_=>none
 |.lookup t m k ok=>match qH s.env m,qH s.env k with
  |some m,some k=>(gX P t s.heap m k ok).map fun v=>(.val v,s,gY (match m with|.map r=>[.h r] |_=>[]))
  |_,_=>none
 |.mapUpdate t m k x|.insert t m k x=>match qH s.env m,qH s.env k,qH s.env x with
  |some m,some k,some v=>(xH P t s m k v).map fun(s,i)=>(.undef,s,i)
  |_,_,_=>none
 |.mapEntry t m k=>match qH s.env m,qH s.env k with
  |some m,some k=>BN P t s m k
  |_,_=>none
 |.entryStore _ m e x=>match qH s.env m,Ib s.env e,qH s.env x with
  |some m,some e,some v=>(FX s m e v).map fun(s,i)=>(.undef,s,i)
  |_,_,_=>none
 |.extract t i=>match Ib s.env t with
  |some e=>(yJ e i).map fun v=>(v,s,bY)
  |none=>none
 |.call c=>MR P call s c o.type
 |.range t x=>match qH s.env x,P.underlying t with
  |some (.map r),some (.map _ _)=>match s.heap[r]? with
   |some (.map es)=>some (.val (.iter s.heap.length),{ s with heap:=s.heap++[.cZ r es.length []] },xg (.h r))
   |_=>none
  |_,_=>none
 |.entry x=>match qH s.env x with
  |some (.iter b)=>match s.heap[b]? with
   |some (.cZ r n (i::_))=>match s.heap[r]? with
    |some (.map es)=>if es.length=n then(es[i]?).map fun e=>(.val (.dI [e.1,e.2]),s,gY [.h b,.h r])else none
    |_=>none
   |_=>none
  |_=>none
 |_=>none
def BO(ops:Array Oper)(env:List (Nat×EV))(o:Oper):Option Bool:=
 match o.guard with
 |none=>some true
 |some (j,want)=>match(ops[j]?).bind (·.dst)with
  |some d=>match dM d env with
   |some (.val (.bool b))=>some (b==want)
   |some .undef=>some false
   |_=>none
  |none=>none
def MS(nt:Nat)(o:Oper):Bool:=
 match o.dst with
 |some d=>decide (d<nt)
 |none=>true
def kU(P:Program)(call:bf)(site:Nat->Bool)(fl nt:Nat)(ops:Array Oper):List Oper->St->Option (St×List lK)
 | [],s=>some (s,[])
 |o::os,s=>if !MS nt o then none else match BO ops s.env o with
  |some true=>match oP P call site s o with
   |some (v,s1,i)=>match kU P call site fl nt ops os ({ s1 with ws:=jO fl i.ws s.ws }.put o.dst v)with
    |some (s,is)=>some (s,i::is)
    |none=>none
   |none=>none
  |some false=>match kU P call site fl nt ops os (s.put o.dst .undef)with
   |some (s,is)=>some (s,bY::is)
   |none=>none
  |none=>none
def MV:List Nat->List Nat->List Nat
 | [],l=>l
 |x::xs,l=>MV xs (if l.contains x then l else x::l)
def EL(acc:List (List Nat))(o:Oper):List Nat:=
 o.after.toList.foldl (fun l e=>if Region.binds .any e then MV (e.on::acc.getD e.on []) l else l) []
def Ej:List Oper->List (List Nat)->List (List Nat)
 | [],acc=>acc
 |o::os,acc=>Ej os (acc++[EL acc o])
def Ij:Op->Bool
 |.store .. |.mapUpdate .. |.insert .. |.mapEntry .. |.entryStore ..=>true
 |.call { callee:=.builtin b,.. }=>match b with
  |.len|.min|.max=>false
  |_=>true
 |.call _=>true
 |_=>false
def MW:Op->Bool
 |.store .. |.mapUpdate .. |.insert .. |.mapEntry .. |.entryStore .. |.load .. |.lookup .. |.range .. |.entry ..=>true
 |.call { callee:=.builtin b,.. }=>match b with
  |.min|.max=>false
  |_=>true
 |.call _=>true
 |_=>false
def nS(ops:List Oper):List (Nat×Nat):=
 let pr:=Ej ops []
 (List.range ops.length).flatMap fun j=>((List.range j).filter fun i=>!(pr.getD j []).contains i).map fun i=>(i,j)
def ng(ops:List Oper):Bool:=
 (ops.zipIdx.all fun(o,i)=>o.after.all fun e=>!Region.binds .any e||decide (e.on<i)) &&
 (nS ops).all fun(i,j)=>match ops[i]?,ops[j]? with
  |some a,some b=>a.apart ops.toArray b&&b.apart ops.toArray a
  |_,_=>false
def AZ(a b:Oper):Bool:=match a.op,b.op,a.guard,b.guard with
 |.lookup t (.tmp m) (.tmp k) false,.mapEntry t' (.tmp m') (.tmp k'),none,none=>t==t'&&m==m'&&k==k'
 |_,_,_,_=>false
def mg(ops:List Oper):List (Nat×Nat):=
 (nS ops).filter fun(i,j)=>match ops[i]?,ops[j]? with
  |some a,some b=>((Ij a.op&&MW b.op)||(MW a.op&&Ij b.op))&&!AZ a b
  |_,_=>false
def Key.isH:Key->Bool
 |.h _=>true
 |.l _=>false
def MX(ws:List Key)(b:lK):Bool:=
 ws.all fun k=>!(b.all&&k.isH)&&!b.ts.contains k&&!b.ws.contains k
def calm(a b:lK):Bool:=MX a.ws b&&MX b.ws a
def Ba(xk:List lK):List (Nat×Nat)->Bool
 | []=>true
 |(i,j)::r=>(match xk[i]?,xk[j]? with
  |some a,some b=>calm a b
  |_,_=>false)&&Ba xk r
inductive Ex where
 |norm|exit (id:Nat)|ret
structure FnT where
 nt:Nat
 body:Code
 results:List ResultVar
def Tn(P:Program)(f:Nat):Option FnT:=
 match P.funcs[f]? with
 | some fn => if fn.name == "runtime.NumGoroutine" then none else match fn.body with
  |some b=>some ⟨fn.ntmps,b,fn.results.toList⟩
  |none=>none
 |none=>none
structure qC where
 live:List (Nat×List (Nat×List Nat))
 head:List (Nat×List (Nat×List Nat))
 site:List (Nat×List Nat)
 exts:List Nat:=[]
 ext:TV->List TV->List HB->Option (TV×List HB×List Nat):=fun _ _ _=>none
 dem:List Nat:=[]
 din:List Nat:=[]
 a8J:List Nat:=[]
def Qq{α:Type}(k:Nat):List (Nat×List α)->List α
 | []=>[]
 |(j,l)::r=>if j=k then l else Qq k r
def qC.iy(T:qC)(f id:Nat):List Nat:=Qq id (Qq f T.live)
def qC.eH(T:qC)(f id:Nat):List Nat:=Qq id (Qq f T.head)
def qC.Tq(T:qC)(f d:Nat):Bool:=(Qq f T.site).contains d
def BP:List (Nat×EV)->Nat
 | []=>0
 |(_,.loc k _)::r=>max (k+1) (BP r)
 |_::r=>BP r
def jS(live:List Nat)(s:St):St:=
 let env:=pick live s.env
 { s with env:=env,loc:=s.loc.take (BP env) }
def dU:Code->Nat
 |.region id _ _=>id
 |.seq a _=>dU a
 |.block _ b=>dU b
 |.loop b=>dU b
 |.scope b=>dU b
 |_=>0
def iter(g:St->Option (Ex×St)):Nat->St->Option (Ex×St)
 | 0,_=>none
 |n+1,s=>match g s with
  |some (.norm,s)=>iter g n s
  |r=>r
def isVal:Nat×EV->Bool
 |(_,.loc _ _)|(_,.ent _ _ _)|(_,.E8 _ _)=>false
 |_=>true
def Qr:Bool->Option Code->Option Ex
 |true,none=>some .norm
 |false,some .ret=>some .ret
 |false,some (.exit id)=>some (.exit id)
 |_,_=>none
def exec(P:Program)(T:qC)(call:bf)(L:Nat)(f:Nat)(gW:Bool)(fl nt:Nat):Code->St->Option (Ex×St)
 |.skip,s=>some (.norm,s)
 |.label _,s=>some (.norm,s)
 |.region id ops draw,s=>match kU P call (fun d=>gW||T.Tq f d) fl nt ops ops.toList s with
  |some (s,xk)=>if !draw||(ng ops.toList&&Ba xk (mg ops.toList))then some (.norm,{ s with env:=pick (T.iy f id) s.env })else none
  |none=>none
 |.seq a b,s=>match exec P T call L f gW fl nt a s with
  |some (.norm,s)=>exec P T call L f gW fl nt b s
  |r=>r
 |.cond c a b,s=>match qH s.env c with
  |some (.bool true)=>exec P T call L f gW fl nt a s
  |some (.bool false)=>exec P T call L f gW fl nt b s
  |_=>none
 |.block id b,s=>match exec P T call L f gW fl nt b s with
  |some (.exit i,s)=>some (if i=id then .norm else .exit i,s)
  |r=>r
 |.scope b,s=>exec P T call L f gW fl nt b s
 |.loop b,s=>iter (fun s=>exec P T call L f gW fl nt b (jS (T.eH f (dU b)) s)) L s
 |.exit id,s=>some (.exit id,s)
 |.ret,s=>some (.ret,s)
 |.rangeFunc g ps assign body,s=>match qH s.env g with
  |some (.fn f1 a1 b1)=>
   if s.env.all isVal&&!gW then
    match call (.fn f1 a1 b1) [.kF (s.heap.length+1)] (s.heap++[.mark,.loop true f nt s.env ps.toList assign body none])with
    |some (_,h,ws)=>match h[s.heap.length+1]? with
     |some (.loop rd f2 PX e2 BQ a2 b2 jD)=>match Qr rd jD with
      |some e=>some (e,{ s with heap:=h.set (s.heap.length+1) (.loop false f2 PX e2 BQ a2 b2 (some .skip)),ws:=jO fl (ws.map .h) s.ws })
      |none=>none
     |_=>none
    |none=>none
   else none
  |_=>none
 |_,_=>none
def a4k(P:Program)(s:St):ResultVar->Option TV
 |.tmp t=>match dM t s.env with
  |some (.val v)=>some v
  |_=>none
 |.cell a t=>match dM a s.env with
  |some a=>(loadT P t s a).map (·.1)
  |none=>none
def xI(P:Program)(s:St):List ResultVar->Option (List TV)
 | []=>some []
 |r::rs=>match a4k P s r,xI P s rs with
  |some v,some vs=>some (v::vs)
  |_,_=>none
def one:List TV->TV
 | [v]=>v
 |vs=>.dI vs
def ni:Nat->List TV->List (Nat×EV)
 |_,[]=>[]
 |k,v::vs=>(k,.val v)::ni (k+1) vs
def sG(env:List (Nat×EV)):List Nat->List TV->List (Nat×EV)
 |p::ps,v::vs=>sG ((p,.val v)::env) ps vs
 |_,_=>env
def amu(P:Program)(T:qC)(call:bf)(L:Nat)(f:Nat)(args:List TV)(h:List HB):Option (TV×List HB×List Nat):=
 match Tn P f with
 |some t=>match exec P T call L f false h.length t.nt t.body ⟨ni 0 args,[],h,[]⟩with
  |some (.norm,s)|some (.ret,s)=>match xI P s t.results with
   |some vs=>if s.ws.isEmpty&&(one vs).flat then some (one vs,h,[])else some (one vs,s.heap,s.ws)
   |none=>none
  |_=>none
 |none=>none
def sJ:Ex->Option Code
 |.norm=>none
 |.ret=>some .ret
 |.exit id=>some (.exit id)
def oQ:Ex->Bool
 |.norm=>true
 |_=>false
def MZ(P:Program)(T:qC)(call:bf)(L:Nat)(l:Nat)(args:List TV)(h:List HB):Option (TV×List HB×List Nat):=
 match h[l]? with
 |some (.loop true f nt env ps assign body _)=>
  if args.length=ps.length∧ps.all (fun p=>decide (p<nt))then
   match exec P T call L f true h.length nt assign ⟨sG env ps args,[],h,[]⟩with
   |some (.norm,s)=>match s.heap[l]? with
    |some (.loop true f' nt' env' ps' a' b' _)=>
     match exec P T call L f true h.length nt body { s with heap:=s.heap.set l (.loop false f' nt' env' ps' a' b' none),ws:=Ea h.length l s.ws }with
     |some (e,s)=>match s.heap[l]? with
      |some (.loop false f' nt' env' ps' a' b' none)=>some (.bool (oQ e),s.heap.set l (.loop (oQ e) f' nt' env' ps' a' b' (sJ e)),Ea h.length l s.ws)
      |_=>none
     |none=>none
    |_=>none
   |_=>none
  else none
 |_=>none
def ap(P:Program)(T:qC)(L:Nat):Nat->bf
 | 0,_,_,_=>none
 |n+1,.fn f first cap,args,h=>amu P T (ap P T L n) L f (first++args++cap) h
 |n+1,.kF l,args,h=>MZ P T (ap P T L n) L l args h
 |_,_,_,_=>none
def run(P:Program)(T:qC)(L n f:Nat)(args:List TV)(h:List HB):Option (TV×List HB×List Nat):=ap P T L n (.fn f [] []) args h
structure Pl where
 c:Nat
 base:Nat
 ext:Nat
 tot:Nat
inductive Lc where
 |cells (ls:List Pl)
 |obj (r:Nat) (o:List Nat)
abbrev Mp:=Key->Option Lc
abbrev Np:=Nat->Option Lc
def Mp.h(M:Mp):Np:=fun b=>M (.h b)
inductive VR(M:Np):TV->Value->Prop
 |bool (b:Bool):VR M (.bool b) (.bool b)
 |int (k:IntKind) (n:Int):VR M (.int k n) (.int k n)
 |str (s:ByteArray):VR M (.str s) (.string s)
 |a1S:VR M (.nil .ptr) (.pointer none)
 |Tt:VR M (.nil .slc) (.slice none 0 0)
 |Yj:VR M (.nil .map) (.map none)
 |nfn:VR M (.nil .fn) .nilFunc
 |a1T:VR M (.nil .ifc) .nilIface
 |ptr {b off lim:Nat} {ls:List Pl} {p:Pl} (hb:M b=some (.cells ls)) (hp:p∈ls) (h:lim<=p.ext) (ht:p.base+lim<=p.tot) :
   VR M (.ptr b off lim) (.pointer (some ⟨p.c,p.base+off,none⟩))
 |slc {b off len cap sz:Nat} {ex:Bool} {ls:List Pl} {p:Pl} {a:Addr} {cap':Nat} (hb:M b=some (.cells ls)) (hp:cap'=0∨p∈ls)
   (h:off+cap*sz<=p.ext) (hl:len<=cap) (hc:cap<=cap') (hx:ex=true->cap'=cap)
   (ha:cap'=0∨(a=⟨p.c,p.base+off,none⟩∧p.base+off+cap'*sz<=p.tot)) (hk:cap'<2^63) :
   VR M (.slc b off len cap sz ex) (.slice (some a) len cap')
 |map {r r':Nat} {o:List Nat} (h:M r=some (.obj r' o)):VR M (.map r) (.map (some r'))
 |kF {l l':Nat} {o:List Nat} (h:M l=some (.obj l' o)):VR M (.kF l) (.func (.yield l') #[] #[])
 |iter {l l':Nat} {o:List Nat} (h:M l=some (.obj l' o)):VR M (.iter l) (.pointer (some ⟨l',0,none⟩))
 |fn {f:FuncId} {az bs:List TV} {xs ys:List Value} (h1:az.length=xs.length) (h2:∀(i:Nat) (c:TV) (v:Value),az[i]? = some c->xs[i]? = some v->VR M c v)
   (h3:bs.length=ys.length) (h4:∀(i:Nat) (c:TV) (v:Value),bs[i]? = some c->ys[i]? = some v->VR M c v):VR M (.fn f az bs) (.func (.func f) xs.toArray ys.toArray)
 |agg {az:List TV} {xs:List Value} (h1:az.length=xs.length) (h2:∀(i:Nat) (c:TV) (v:Value),az[i]? = some c->xs[i]? = some v->VR M c v):VR M (.agg az) (.agg xs.toArray)
 |dI {az:List TV} {xs:List Value} (h1:az.length=xs.length) (h2:∀(i:Nat) (c:TV) (v:Value),az[i]? = some c->xs[i]? = some v->VR M c v):VR M (.dI az) (.tuple xs.toArray)
structure bV(M:Np)(az:List TV)(xs:List Value):Prop where
 len:az.length=xs.length
 at_:∀(i:Nat) (c:TV) (v:Value),az[i]? = some c->xs[i]? = some v->VR M c v
theorem VR.agg'{M:Np}{az:List TV}{xs:List Value}(h:bV M az xs):VR M (.agg az) (.agg xs.toArray):=.agg h.len h.at_
theorem VR.PY{M:Np}{az:List TV}{xs:List Value}(h:bV M az xs):VR M (.dI az) (.tuple xs.toArray):=.dI h.len h.at_
theorem bV.nil{M:Np}:bV M [] []:=⟨rfl,fun i c v h=>by simp at h⟩
theorem bV.cons{M:Np}{c:TV}{v:Value}{az:List TV}{xs:List Value}(h:VR M c v)(hs:bV M az xs):bV M (c::az) (v::xs):=
 ⟨by simp[hs.len],fun i c' v' h1 h2=>by
  cases i with
  |zero=>simp at h1 h2;subst h1;subst h2;exact h
  |succ i=>simp at h1 h2;exact hs.at_ i _ _ h1 h2⟩
theorem bV.pO{M:Np}{xs:List Value}(h:bV M [] xs):xs=[]:=by
 have:=h.len;simp at this;exact a3Q this.symm
theorem bV.iK{M:Np}{c:TV}{az:List TV}{xs:List Value}(h:bV M (c::az) xs):∃v vs,xs=v::vs∧VR M c v∧bV M az vs:=by
 cases xs with
 |nil=>have:=h.len;simp at this
 |cons v vs=>exact⟨v,vs,rfl,h.at_ 0 c v rfl rfl,⟨by have:=h.len;simpa using this,fun i c' v' h1 h2=>h.at_ (i+1) c' v' (by simpa using h1) (by simpa using h2)⟩⟩
theorem bV.append{M:Np}{az bs:List TV}{xs ys:List Value}(h:bV M az xs)(h':bV M bs ys):bV M (az++bs) (xs++ys):=by
 induction az generalizing xs with
 |nil=>have:=h.pO;subst this;simpa using h'
 |cons c az ih=>
  obtain⟨v,vs,rfl,hv,hvs⟩:=h.iK;exact .cons hv (ih hvs)
theorem bV.take{M:Np}{az:List TV}{xs:List Value}(h:bV M az xs)(n:Nat):bV M (az.take n) (xs.take n):=
 ⟨by simp[h.len],fun i c v h1 h2=>by
  rw[a3W]at h1 h2;split at h1
  .rename_i hi;rw[a0i hi]at h2;exact h.at_ i c v h1 h2
  .simp at h1⟩
theorem bV.drop{M:Np}{az:List TV}{xs:List Value}(h:bV M az xs)(n:Nat):bV M (az.drop n) (xs.drop n):=
 ⟨by simp[h.len],fun i c v h1 h2=>by
  rw[a3X]at h1 h2;exact h.at_ _ c v h1 h2⟩
theorem bV.get{M:Np}{az:List TV}{xs:List Value}(h:bV M az xs){i:Nat}{c:TV}(hc:az[i]? = some c):∃v,xs[i]? = some v∧VR M c v:=by
 have hi:i<az.length:=(a02.1 hc).1;have vW:i<xs.length:=by rw[<-h.len];exact hi
 exact⟨xs[i],by simp[vW],h.at_ i c _ hc (by simp[vW])⟩
def KC:Lc->Lc->Prop
 |.cells ls,.cells xJ=>∀p∈ls,∃q∈xJ,q.c=p.c∧q.base=p.base∧p.ext<=q.ext∧q.tot=p.tot
 |.obj r o,.obj r' o'=>r=r'∧o <+: o'
 |_,_=>False
def rZ{α:Type}(M M':α->Option Lc):Prop:=∀k l,M k=some l->∃l',M' k=some l'∧KC l l'
theorem KC.refl(l:Lc):KC l l:=by
 cases l with
 |cells ls=>exact fun p hp=>⟨p,hp,rfl,rfl,a0V _,rfl⟩
 |obj r o=>exact⟨rfl,agq o⟩
theorem KC.trans{a b c:Lc}(h:KC a b)(h':KC b c):KC a c:=by
 cases a<;>cases b<;>cases c<;>simp only[KC]at *
 .intro p hp;obtain⟨q,hq,h1,h2,h3,h4⟩:=h p hp;obtain⟨r,hr,g1,g2,g3,g4⟩:=h' q hq;exact⟨r,hr,g1.trans h1,g2.trans h2,a4E h3 g3,g4.trans h4⟩
 exact⟨h.1.trans h'.1,h.2.trans h'.2⟩
theorem rZ.refl{α:Type}(M:α->Option Lc):rZ M M:=fun _ l h=>⟨l,h,.refl l⟩
theorem rZ.trans{α:Type}{a b c:α->Option Lc}(h:rZ a b)(h':rZ b c):rZ a c:=fun k l hl=>
 let ⟨l',h1,h2⟩:=h k l hl
 let ⟨l'',g1,g2⟩:=h' k l' h1
 ⟨l'',g1,h2.trans g2⟩
theorem rZ.h{M M':Mp}(hm:rZ M M'):rZ M.h M'.h:=fun b l hl=>hm (.h b) l hl
theorem VR.mono{M M':Np}(hm:rZ M M'){v:TV}{x:Value}(h:VR M v x):VR M' v x:=by
 induction h with
 |bool b=>exact .bool b
 |int k n=>exact .int k n
 |str s=>exact .str s
 |a1S=>exact .a1S
 |Tt=>exact .Tt
 |Yj=>exact .Yj
 |nfn=>exact .nfn
 |a1T=>exact .a1T
 |ptr hb hp h ht=>
  obtain⟨l',h1,h2⟩:=hm _ _ hb;cases l' with
  |obj r _=>exact h2.elim
  |cells xJ=>
   obtain⟨q,hq,e1,e2,e3,e4⟩:=h2 _ hp;rw[<-e1,<-e2];exact .ptr h1 hq (a4E h e3) (by rw[e2,e4];exact ht)
 |slc hb hp h hl hc hx ha hk=>
  obtain⟨l',h1,h2⟩:=hm _ _ hb;cases l' with
  |obj r _=>exact h2.elim
  |cells xJ=>
   rcases hp with hp|hp
   .exact .slc h1 (.inl hp) h hl hc hx (.inl hp) hk
   obtain⟨q,hq,e1,e2,e3,e4⟩:=h2 _ hp;exact .slc h1 (.inr hq) (a4E h e3) hl hc hx (by rw[e1,e2,e4];exact ha) hk
 |map h=>
  obtain⟨l',h1,h2⟩:=hm _ _ h;cases l' with
  |obj r _=>cases h2.1;exact .map h1
  |cells xJ=>exact h2.elim
 |kF h=>
  obtain⟨l',h1,h2⟩:=hm _ _ h;cases l' with
  |obj r _=>cases h2.1;exact .kF h1
  |cells xJ=>exact h2.elim
 |iter h=>
  obtain⟨l',h1,h2⟩:=hm _ _ h;cases l' with
  |obj r _=>cases h2.1;exact .iter h1
  |cells xJ=>exact h2.elim
 |fn h1 _ h3 _ ih2 ih4=>exact .fn h1 ih2 h3 ih4
 |agg h1 _ ih=>exact .agg h1 ih
 |dI h1 _ ih=>exact .dI h1 ih
theorem bV.mono{M M':Np}(hm:rZ M M'){az:List TV}{xs:List Value}(h:bV M az xs):bV M' az xs:=
 ⟨h.len,fun i c v h1 h2=>(h.at_ i c v h1 h2).mono hm⟩
theorem a4n{M:Np}{v:TV}{x y:Value}(h:v.toC=some x)(hy:VR M v y):y=x:=by
 cases hy<;>simp[TV.toC]at h<;>first|exact h|exact h.symm|skip
theorem a03{M:Np}:∀{az:List TV} {xs ys:List Value},TV.Tc az=some xs->bV M az ys->ys=xs
 | [],xs,ys,h,hy=>by simp[TV.Tc]at h;subst h;exact hy.pO
 |c::az,xs,ys,h,hy=>by
  simp only[TV.Tc]at h;split at h
  .rename_i v vs h1 h2;simp at h;subst h;obtain⟨w,ws,rfl,hw,Yk⟩:=hy.iK;rw[a4n h1 hw,a03 h2 Yk]
  simp at h
theorem vX{M:Np}{v:TV}{x y:Value}(h:v.yw=some x)(hy:VR M v y):y=x:=by
 unfold TV.yw at h;split at h
 .simp only[a06]at h;obtain⟨vs,h1,rfl⟩:=h;cases hy with
  |agg g1 g2=>rw[a03 h1 ⟨g1,g2⟩]
 exact a4n h hy
theorem VR.a4o{M:Np}{v:TV}{x:Value}(h:TV.ZY x=some v):VR M v x:=by
 unfold TV.ZY at h;split at h<;>simp at h<;>subst h<;>constructor
theorem bV.a04{M:Np}:∀{xs:List Value} {az:List TV},TV.BJ xs=some az->bV M az xs
 | [],az,h=>by simp[TV.BJ]at h;subst h;exact .nil
 |x::xs,az,h=>by
  simp only[TV.BJ]at h;split at h
  .rename_i v vs h1 h2;simp at h;subst h;exact .cons (.a4o h1) (bV.a04 h2)
  simp at h
theorem VR.yx{M:Np}{v:TV}{x:Value}(h:TV.Vd x=some v):VR M v x:=by
 unfold TV.Vd at h;split at h
 .rename_i cs;simp only[a06]at h;obtain⟨vs,h1,rfl⟩:=h;have:=VR.agg' (bV.a04 (M:=M) h1);simpa using this
 exact .a4o h
theorem VR.cells{M:Np}{v:TV}{x:Value}(h:VR M v x):bV M v.cells x.cells.toList:=by
 cases h with
 |agg h1 h2=>exact⟨by simpa[TV.cells,Value.cells]using h1,by simpa[TV.cells,Value.cells]using h2⟩
 |_=>exact .cons (by first|assumption|constructor<;>assumption) .nil
theorem iV{α:Type}{P:Program}:∀{s:Sem α} {a:α},aB P s=some a->∀w,s.run P w=.ok a w
 |.pure b,a,h,w=>by simp[aB]at h;simp[Sem.run,h]
 |.program k,a,h,w=>by simp only[aB]at h;simp only[Sem.run];exact iV h w
 |.mark _ k,a,h,w=>by simp only[aB]at h;simp only[Sem.run];exact iV h w
 |.load ..,a,h,w=>by simp[aB]at h
 |.store ..,a,h,w=>by simp[aB]at h
 |.new ..,a,h,w=>by simp[aB]at h
 |.shape ..,a,h,w=>by simp[aB]at h
 |.freeze ..,a,h,w=>by simp[aB]at h
 |.frozen ..,a,h,w=>by simp[aB]at h
 |.getObj ..,a,h,w=>by simp[aB]at h
 |.setObj ..,a,h,w=>by simp[aB]at h
 |.choose ..,a,h,w=>by simp[aB]at h
 |.sys ..,a,h,w=>by simp[aB]at h
 |.halt ..,a,h,w=>by simp[aB]at h
def wr:HB->Bool
 |.cells .ro _=>false
 |.mark=>false
 |_=>true
def aJ:Lc->List Nat
 |.cells ls=>ls.map (·.c)
 |.obj r _=>[r]
structure N7(N:Np)(w:World)(k:BK)(cs:List TV)(p:Pl):Prop where
 row:∃(arr:Array Value) (ty:TypeId) (fz:Nat×Nat),w.heap[p.c]? = some (.cells arr ty fz)∧arr.size=p.tot∧(k≠.ro->fz=(0,0)) ∧
  ((k=.last->p.ext=cs.length)->∀(i:Nat) (c:TV) (v:Value),i<p.ext->cs[i]? = some c->arr[p.base+i]? = some v->VR N c v)
 fit:p.base+p.ext<=p.tot
 ext:p.ext<=cs.length
 base:k≠.ro->p.base=0
inductive ER(M:Mp):EV->Value->Prop
 |val {v:TV} {x:Value} (h:VR M.h v x):ER M (.val v) x
 |loc {k off:Nat} {p:Pl} (h:M (.l k)=some (.cells [p])) (hb:p.base=0):ER M (.loc k off) (.pointer (some ⟨p.c,off,none⟩))
 |undef:ER M .undef Go.undef
 |ent {r j:Nat} {v:TV} {r1 i:Nat} {o:List Nat} {x:Value} (h:M (.h r)=some (.obj r1 o)) (hi:o[i]? = some j) (hv:VR M.h v x):ER M (.ent r j v) (.tuple #[x,Go.goInt i])
 |E8 {r j r1 i:Nat} {o:List Nat} (h:M (.h r)=some (.obj r1 o)) (hi:o[i]? = some j):ER M (.E8 r j) (Go.goInt i)
theorem ER.vw{M:Mp}{v:TV}{x:Value}(h:ER M (.val v) x):VR M.h v x:=by cases h;assumption
def jM(M:Mp)(env:List (Nat×EV))(tmps:Array Value):Prop:=∀t e,dM t env=some e->ER M e (tmps.getD t Go.undef)
structure a8K(N:Np)(rd:Bool)(f nt:Nat)(env:List (Nat×EV))(ps:List Nat)(a b:Code)(jD:Option Code)(lp:Loop):Prop where
 ps:lp.params.toList=ps
 uJ:lp.assign=a
 body:lp.body=b
 size:nt<=lp.tmps.size
 KD:∀t v,dM t env=some (.val v)->VR N v (lp.tmps.getD t Go.undef)
 Tv:∀t,dM t env=some .undef->lp.tmps.getD t Go.undef=Go.undef
 nol:∀t e,dM t env=some e->isVal (t,e)=true
 ready:rd=true->lp.state=.ready∧lp.pending=none
 busy:rd=false->jD=none->lp.state=.busy
 done:rd=false->∀j,jD=some j->j≠.skip->lp.state=.done∧lp.pending=some j
structure vY(N:Np)(o:List Nat)(es:List (TV×TV))(xs:Array MapEntry):Prop where
 len:es.length=xs.size
 ord:o.length=xs.size
 nod:o.Nodup
 sur:∀j,j<es.length->j∈o
 at_:∀(i:Nat) (x:MapEntry),xs[i]? = some x->x.born=i∧∃j e,o[i]? = some j∧es[j]? = some e∧VR N e.1 x.key∧VR N e.2 x.val
def ah0(N:Np)(w:World)(es:List (TV×TV))(r:Nat)(o:List Nat):Prop:=
 ∃xs:Array MapEntry,w.heap[r]? = some (.map xs xs.size)∧vY N o es xs
theorem vY.mono{N N':Np}{o:List Nat}{es:List (TV×TV)}{xs:Array MapEntry}(hm:rZ N N')(h:vY N o es xs):vY N' o es xs:=
 ⟨h.len,h.ord,h.nod,h.sur,fun i x hx=>let ⟨b,j,e,h1,h2,h3,h4⟩:=h.at_ i x hx;⟨b,j,e,h1,h2,h3.mono hm,h4.mono hm⟩⟩
def lQ(N:Np)(w:World)(k:BK)(cs:List TV)(ls:List Pl):Prop:=
 (∀c∈cs,iR c=true)∧(∀p∈ls,N7 N w k cs p)∧(k=.own->∃p,ls=[p]∧p.ext=cs.length) ∧
   ((k=.grow∨k=.last)->(ls.map (·.c)).Nodup∧∀p∈ls,∀q∈ls,p.ext=cs.length->q.ext=cs.length->p=q)
def oZ(N:Np)(w:World):HB->Lc->Prop
 |.cells k cs,.cells ls=>lQ N w k cs ls
 |.mM cs,.cells ls=>∃cs',cs'.Perm cs∧lQ N w .last cs' ls
 |.map es,.obj r o=>ah0 N w es r o
 |.mark,.obj r _=>r<w.heap.size
 |.cZ m n seen,.obj r _=>∃(b:Nat) (o:List Nat) (sa:Array Nat),N m=some (.obj b o)∧w.heap[r]? = some (.mapIter (some b) n sa n)∧n<=o.length∧sa.toList.map (fun i=>o[i]?)=seen.reverse.map some
 |.loop rd f nt env ps a b jD,.obj r _=>∃lp,w.heap[r]? = some (.loop lp)∧a8K N rd f nt env ps a b jD lp
 |_,_=>False
theorem N7.mono{N N':Np}{w w':World}{k:BK}{cs:List TV}{p:Pl}(hm:rZ N N')(hw:w'.heap[p.c]? = w.heap[p.c]?)(h:N7 N w k cs p):N7 N' w' k cs p:=
 ⟨let ⟨arr,ty,fz,h1,h2,h3,h4⟩:=h.row;⟨arr,ty,fz,hw.trans h1,h2,h3,fun z i c v a b d=>(h4 z i c v a b d).mono hm⟩,h.fit,h.ext,h.base⟩
theorem a8K.mono{N N':Np}{rd:Bool}{f nt:Nat}{env:List (Nat×EV)}{ps:List Nat}{a b:Code}{jD:Option Code}{lp:Loop}(hm:rZ N N')(h:a8K N rd f nt env ps a b jD lp):a8K N' rd f nt env ps a b jD lp:=
 { h with KD:=fun t v e=>(h.KD t v e).mono hm }
theorem lQ.mono{N N':Np}{w w':World}{k:BK}{cs:List TV}{ls:List Pl}(hm:rZ N N')(hw:∀p∈ls,w'.heap[p.c]? = w.heap[p.c]?)(h:lQ N w k cs ls):lQ N' w' k cs ls:=
 ⟨h.1,fun p hp=>(h.2.1 p hp).mono hm (hw p hp),h.2.2⟩
theorem oZ.mono{N N':Np}{w w':World}{b:HB}{l:Lc}(hm:rZ N N')(hw:∀c∈aJ l,w'.heap[c]? = w.heap[c]?)(h:oZ N w b l):oZ N' w' b l:=by
 cases b with
 |cells k cs=>
  cases l with
  |obj r _=>exact h.elim
  |cells ls=>exact lQ.mono hm (fun p hp=>hw p.c (a1d.2 ⟨p,hp,rfl⟩)) h
 |mM cs=>
  cases l with
  |obj r _=>exact h.elim
  |cells ls=>
   obtain⟨cs',h1,h2⟩:=h;exact⟨cs',h1,h2.mono hm fun p hp=>hw p.c (a1d.2 ⟨p,hp,rfl⟩)⟩
 |map es=>
  cases l with
  |cells ls=>exact h.elim
  |obj r _=>
   obtain⟨xs,h1,h2⟩:=h;exact⟨xs,(hw r (by simp[aJ])).trans h1,h2.mono hm⟩
 |mark=>
  cases l with
  |cells ls=>exact h.elim
  |obj r _=>
   have h':r<w.heap.size:=h;have:=hw r (by simp[aJ]);rw[a3I h']at this;exact(a2b.1 this).1
 |cZ m n seen=>
  cases l with
  |cells ls=>exact h.elim
  |obj r _=>
   obtain⟨b,o,sa,h1,h2,h3,h4⟩:=h;obtain⟨l',g1,g2⟩:=hm _ _ h1;cases l' with
   |cells xJ=>exact g2.elim
   |obj b' o'=>
    obtain⟨rfl,g3⟩:=g2;refine⟨b,o',sa,g1,(hw r (by simp[aJ])).trans h2,a4E h3 g3.length_le,?_⟩;rw[<-h4];refine a5H fun i hi=>?_;have:o[i]?∈sa.toList.map (fun i=>o[i]?):=a1d.2 ⟨i,hi,rfl⟩;rw[h4]at this;obtain⟨j,_,hj⟩:=a1d.1 this;have aQ:=(a02.1 hj.symm).1;obtain⟨t,rfl⟩:=g3;rw[a0c aQ]
 |loop rd f nt env ps a b jD=>
  cases l with
  |cells ls=>exact h.elim
  |obj r _=>
   obtain⟨lp,h1,h2⟩:=h;exact⟨lp,(hw r (by simp[aJ])).trans h1,h2.mono hm⟩
theorem oZ.inb{N:Np}{w:World}{b:HB}{l:Lc}(h:oZ N w b l):∀c∈aJ l,c<w.heap.size:=by
 intro c hc;cases b with
 |cells k cs=>
  cases l with
  |obj r _=>exact h.elim
  |cells ls=>
   obtain⟨p,hp,rfl⟩:=a1d.1 hc;obtain⟨arr,ty,fz,h1,_⟩:=(h.2.1 p hp).row;exact(a2b.1 h1).1
 |mM cs=>
  cases l with
  |obj r _=>exact h.elim
  |cells ls=>
   obtain⟨p,hp,rfl⟩:=a1d.1 hc;obtain⟨cs',_,h⟩:=h;obtain⟨arr,ty,fz,h1,_⟩:=(h.2.1 p hp).row;exact(a2b.1 h1).1
 |map es=>
  cases l with
  |cells ls=>exact h.elim
  |obj r _=>
   obtain⟨xs,h1,_⟩:=h;simp[aJ]at hc;subst hc;exact(a2b.1 h1).1
 |mark=>
  cases l with
  |cells ls=>exact h.elim
  |obj r _=>
   simp[aJ]at hc;subst hc;exact h
 |cZ m n seen=>
  cases l with
  |cells ls=>exact h.elim
  |obj r _=>
   obtain⟨b,o,sa,_,h1,_⟩:=h;simp[aJ]at hc;subst hc;exact(a2b.1 h1).1
 |loop rd f nt env ps a b jD=>
  cases l with
  |cells ls=>exact h.elim
  |obj r _=>
   obtain⟨lp,h1,_⟩:=h;simp[aJ]at hc;subst hc;exact(a2b.1 h1).1
abbrev Ct:=Key->Option HB
structure Valid(M:Mp)(D:Key->Prop)(C:Ct)(w:World):Prop where
 ok:∀k l,M k=some l->D k->∃b,C k=some b∧oZ M.h w b l
 own:∀k k' l l' b,k≠k'->M k=some l->M k'=some l'->D k->C k=some b->wr b=true->∀c∈aJ l,c∉aJ l'
 inb:∀k l,M k=some l->∀c∈aJ l,c<w.heap.size
def uM:Key->Prop:=fun _=>True
theorem Valid.has{M:Mp}{C:Ct}{w:World}(h:Valid M uM C w){k:Key}{l:Lc}(hk:M k=some l):(C k).isSome=true:=
 let ⟨_,h1,_⟩:=h.ok k l hk trivial;by simp[h1]
theorem Valid.of_heap{M:Mp}{D:Key->Prop}{C:Ct}{w w':World}(h:Valid M D C w)(hw:w'.heap=w.heap):Valid M D C w':=
 ⟨fun k l hk hd=>let ⟨b,h1,h2⟩:=h.ok k l hk hd;⟨b,h1,h2.mono (.refl _) (fun c _=>by rw[hw])⟩,h.own,by rw[hw];exact h.inb⟩
def dK(M:Mp)(k:Key)(l:Lc):Mp:=fun j=>if j=k then some l else M j
def lF(C:Ct)(k:Key)(b:HB):Ct:=fun j=>if j=k then some b else C j
theorem lS{M:Mp}{k:Key}{l:Lc}(h:∀l0,M k=some l0->KC l0 l):rZ M (dK M k l):=by
 intro j l0 hj;by_cases hjk:j=k
 .subst hjk;exact⟨l,by simp[dK],h l0 hj⟩
 exact⟨l0,by simp[dK,hjk,hj],.refl _⟩
theorem Valid.upd{M:Mp}{D D':Key->Prop}{C:Ct}{w w':World}(h:Valid M D C w)(k:Key)(b:HB)(l:Lc)
  (hD:∀j,D' j->D j∨j=k)
  (hold:∀l0,M k=some l0->D k∧KC l0 l∧∀b0,C k=some b0->wr b0=true)
  (gq:∀c,c<w.heap.size->c∉aJ l->w'.heap[c]? = w.heap[c]?)
  (fQ:∀c∈aJ l,(∃l0,M k=some l0∧c∈aJ l0)∨w.heap.size<=c)
  (Em:w.heap.size<=w'.heap.size)
  (Qs:oZ (dK M k l).h w' b l):Valid (dK M k l) D' (lF C k b) w':=by
 have hle:rZ M (dK M k l):=lS fun l0 h0=>(hold l0 h0).2.1;refine⟨?_,?_,?_⟩
 .intro j l0 hj hd;by_cases hjk:j=k
  .subst hjk;simp only[dK,a2j,a01]at hj;subst hj;exact⟨b,by simp[lF],Qs⟩
  .simp only[dK,hjk,a3a]at hj;obtain⟨b0,h1,h2⟩:=h.ok j l0 hj ((hD j hd).resolve_right hjk);refine⟨b0,by simp[lF,hjk,h1],h2.mono hle.h fun c hc=>?_⟩;have aQ:=h.inb j l0 hj c hc;refine gq c aQ fun qg=>?_;rcases fQ c qg with⟨l1,Vm,hc1⟩|En
   .obtain⟨hDk,_,hw⟩:=hold l1 Vm;obtain⟨b1,BU,_⟩:=h.ok k l1 Vm hDk;exact h.own k j l1 l0 b1 (fun e=>hjk e.symm) Vm hj hDk BU (hw b1 BU) c hc1 hc
   .omega
 .intro j j' l0 l0' b0 iC hj Eb hd hb hw c hc Ve;by_cases hjk:j=k
  .subst hjk;have a8L:j'≠j:=fun e=>iC e.symm;simp only[dK,a2j,a01]at hj;subst hj;simp only[dK,a8L,a3a]at Eb;have aQ:=h.inb j' l0' Eb c Ve;rcases fQ c hc with⟨l1,Vm,hc1⟩|En
   .obtain⟨hDk,_,hw⟩:=hold l1 Vm;obtain⟨b1,BU,_⟩:=h.ok j l1 Vm hDk;exact h.own j j' l1 l0' b1 iC Vm Eb hDk BU (hw b1 BU) c hc1 Ve
   .omega
  .simp only[dK,hjk,a3a]at hj;simp only[lF,hjk,a3a]at hb;have hdj:=(hD j hd).resolve_right hjk;have aQ:=h.inb j l0 hj c hc;by_cases a8L:j'=k
   .subst a8L;simp only[dK,a2j,a01]at Eb;subst Eb;rcases fQ c Ve with⟨l1,Vm,hc1⟩|En
    .exact h.own j j' l0 l1 b0 iC hj Vm hdj hb hw c hc hc1
    .omega
   .simp only[dK,a8L,a3a]at Eb;exact h.own j j' l0 l0' b0 iC hj Eb hdj hb hw c hc Ve
 .intro j l0 hj c hc;by_cases hjk:j=k
  .subst hjk;simp only[dK,a2j,a01]at hj;subst hj;exact Qs.inb c hc
  .simp only[dK,hjk,a3a]at hj;exact a8R (h.inb j l0 hj c hc) Em
structure Ext(M0:Mp)(C0:Ct)(w0:World)(M:Mp)(C:Ct)(w:World)(ws:List Key):Prop where
 Ic:rZ M0 M
 frame:∀c,c<w0.heap.size->(∀k∈ws,∀l,M0 k=some l->c∉aJ l)->w.heap[c]? = w0.heap[c]?
 mY:∀k,(C0 k).isSome=true->k∉ws->C k=C0 k
 kW:∀k,((C0 k).isSome=true∨C k=none)->k∉ws->M k=M0 k
 fresh:∀k l,M k=some l->∀c∈aJ l,c<w0.heap.size->∃l0,M0 k=some l0∧c∈aJ l0
 size:w0.heap.size<=w.heap.size
 has:∀k,(C0 k).isSome=true->(C k).isSome=true
 wsub:∀k∈ws,(C0 k).isSome=true
 wrote:∀k∈ws,(M0 k).isSome=true∧∀b,C0 k=some b->wr b=true
 os:w.os=w0.os
 output:w.output=w0.output
 tape:w.tape=w0.tape
theorem Ext.refl(M:Mp)(C:Ct)(w:World):Ext M C w M C w []:=
 ⟨.refl _,fun _ _ _=>rfl,fun _ _ _=>rfl,fun _ _ _=>rfl,fun _ l h c hc _=>⟨l,h,hc⟩,a0V _,fun _ h=>h,(by simp),(by simp),rfl,rfl,rfl⟩
theorem Ext.drew{M0:Mp}{C0:Ct}{w0:World}{M:Mp}{C:Ct}{w w':World}{ws:List Key}(h:Ext M0 C0 w0 M C w ws)
  (hh:w'.heap=w.heap) (ho:w'.os=w.os) (hu:w'.output=w.output) (ht:w'.tape=w.tape):Ext M0 C0 w0 M C w' ws:=
 { h with frame:=(by rw[hh];exact h.frame),size:=(by rw[hh];exact h.size),os:=ho.trans h.os,output:=hu.trans h.output,tape:=ht.trans h.tape }
theorem Ext.trans{M0 M M':Mp}{C0 C C':Ct}{w0 w w':World}{ws Tz adw:List Key}(h:Ext M0 C0 w0 M C w ws)(h':Ext M C w M' C' w' Tz)
  (hd:∀k l,M0 k=some l->(C0 k).isSome=true) (hs:∀k,(C0 k).isSome=true->(k∈ws∨k∈Tz)->k∈adw) (hb:∀k∈adw,(C0 k).isSome=true∧(k∈ws∨k∈Tz)) :
  Ext M0 C0 w0 M' C' w' adw where
 Ic:=h.Ic.trans h'.Ic
 frame:=by
  intro c hc hf;have h1:w.heap[c]? = w0.heap[c]?:=h.frame c hc fun k hk l hl=>hf k (hs k (h.wsub k hk) (.inl hk)) l hl;rw[<-h1];refine h'.frame c (a8R hc h.size) fun k hk l hl qg=>?_;obtain⟨l0,h2,h3⟩:=h.fresh k l hl c qg hc;exact hf k (hs k (hd k l0 h2) (.inr hk)) l0 h2 h3
 mY:=fun k hk hn=>by
  have hn1:k∉ws:=fun e=>hn (hs k hk (.inl e));have Dv:k∉Tz:=fun e=>hn (hs k hk (.inr e));rw[h'.mY k (h.has k hk) Dv,h.mY k hk hn1]
 kW:=fun k hk hn=>by
  rcases hk with hk|hk
  .have hn1:k∉ws:=fun e=>hn (hs k hk (.inl e));have Dv:k∉Tz:=fun e=>hn (hs k hk (.inr e));rw[h'.kW k (.inl (h.has k hk)) Dv,h.kW k (.inl hk) hn1]
  .have hC:C k=none:=by
    cases hc:C k with
    |none=>rfl
    |some b=>have:=h'.has k (by simp[hc]);simp[hk]at this
   have Dv:k∉Tz:=fun e=>by have:=h'.wsub k e;simp[hC]at this
   have hn1:k∉ws:=fun e=>by have:=h.has k (h.wsub k e);simp[hC]at this
   rw[h'.kW k (.inr hk) Dv,h.kW k (.inr hC) hn1]
 fresh:=fun k l hl c hc aQ=>by
  obtain⟨l1,h1,h2⟩:=h'.fresh k l hl c hc (a8R aQ h.size);exact h.fresh k l1 h1 c h2 aQ
 size:=a4E h.size h'.size
 has:=fun k hk=>h'.has k (h.has k hk)
 wsub:=fun k hk=>(hb k hk).1
 wrote:=fun k hk=>by
  by_cases h1:k∈ws
  .exact h.wrote k h1
  .have h2:=h'.wrote k ((hb k hk).2.resolve_left h1);rw[h.kW k (.inl (hb k hk).1) h1,h.mY k (hb k hk).1 h1]at h2;exact h2
 os:=h'.os.trans h.os
 output:=h'.output.trans h.output
 tape:=h'.tape.trans h.tape
theorem Ext.upd{M:Mp}{C:Ct}{w w':World}(k:Key)(b:HB)(l:Lc)(ws:List Key)
  (Yk:((C k).isSome=true∧ws=[k]∧(M k).isSome=true∧∀b,C k=some b->wr b=true)∨(C k=none∧M k=none∧ws=[]))
  (hle:rZ M (dK M k l))
  (gq:∀c,c<w.heap.size->c∉aJ l->w'.heap[c]? = w.heap[c]?)
  (fQ:∀c∈aJ l,(∃l0,M k=some l0∧c∈aJ l0)∨w.heap.size<=c)
  (Em:w.heap.size<=w'.heap.size) (ho:w'.os=w.os) (hou:w'.output=w.output) (ht:w'.tape=w.tape) :
  Ext M C w (dK M k l) (lF C k b) w' ws where
 Ic:=hle
 frame:=by
  intro c hc hf;refine gq c hc fun qg=>?_;rcases fQ c qg with⟨l0,h1,h2⟩|En
  .rcases Yk with⟨_,rfl,_⟩|⟨_,hn,_⟩
   .exact hf k (by simp) l0 h1 h2
   .rw[hn]at h1;cases h1
  .omega
 mY:=fun j hj hn=>by
  have:j≠k:=by
   rintro rfl;rcases Yk with⟨_,rfl,_⟩|⟨h1,_⟩
   .simp at hn
   .simp[h1]at hj
  simp[lF,this]
 kW:=fun j hj hn=>by
  have:j≠k:=by
   rintro rfl;rcases Yk with⟨_,rfl,_⟩|⟨h1,_⟩
   .simp at hn
   .rcases hj with hj|hj
    .simp[h1]at hj
    .simp[lF]at hj
  simp[dK,this]
 fresh:=fun j l0 hj c hc aQ=>by
  by_cases hjk:j=k
  .subst hjk;simp only[dK,a2j,a01]at hj;subst hj;rcases fQ c hc with h1|En
   .exact h1
   .omega
  .simp only[dK,hjk,a3a]at hj;exact⟨l0,hj,hc⟩
 size:=Em
 has:=fun j hj=>by
  by_cases hjk:j=k
  .simp[lF,hjk]
  .simpa[lF,hjk]using hj
 wsub:=by
  rcases Yk with⟨h1,rfl,_⟩|⟨_,_,rfl⟩
  .intro j hj;simp at hj;subst hj;exact h1
  .simp
 wrote:=by
  rcases Yk with⟨_,rfl,h1⟩|⟨_,_,rfl⟩
  .intro j hj;simp at hj;subst hj;exact h1
  .simp
 os:=ho
 output:=hou
 tape:=ht
theorem ER.mono{M M':Mp}(hm:rZ M M')(hl:∀k l,M (.l k)=some l->M' (.l k)=some l){e:EV}{x:Value}(h:ER M e x):ER M' e x:=by
 cases h with
 |val h=>exact .val (h.mono hm.h)
 |loc h hb=>exact .loc (hl _ _ h) hb
 |undef=>exact .undef
 |ent h hi hv=>
  obtain⟨l',h1,h2⟩:=hm _ _ h;cases l' with
  |cells _=>exact h2.elim
  |obj r1 o'=>
   obtain⟨rfl,t,rfl⟩:=h2;exact .ent h1 (by rw[a0c (a02.1 hi).1];exact hi) (hv.mono hm.h)
 |E8 h hi=>
  obtain⟨l',h1,h2⟩:=hm _ _ h;cases l' with
  |cells _=>exact h2.elim
  |obj r1 o'=>
   obtain⟨rfl,t,rfl⟩:=h2;exact .E8 h1 (by rw[a0c (a02.1 hi).1];exact hi)
structure N8(M:Mp)(D:Key->Prop)(C:Ct)(w:World)(v:EV)(C1:Ct)(ws:List Key)(x:Value)(w':World)(M':Mp):Prop where
 val:Valid M' (fun k=>D k∨(C k=none∧(C1 k).isSome=true)) C1 w'
 ext:Ext M C w M' C1 w' ws
 er:ER M' v x
 loc:∀k l,M (.l k)=some l->M' (.l k)=some l
theorem N8.same{M:Mp}{D:Key->Prop}{C:Ct}{w:World}{v:EV}{x:Value}(h:Valid M D C w)(he:ER M v x):N8 M D C w v C [] x w M:=
 ⟨⟨fun k l hk hd=>h.ok k l hk (hd.elim id fun⟨a,b⟩=>by simp[a]at b),fun k k' l l' b a1 a2 a3 hd=>h.own k k' l l' b a1 a2 a3 (hd.elim id fun⟨a,b⟩=>by simp[a]at b),h.inb⟩,.refl M C w,he,fun _ _ h=>h⟩
theorem vZ(w:World)(o:Obj)(i:Nat)(h:i<w.heap.size):(w.alloc o).heap[i]? = w.heap[i]?:=by
 show(w.heap.push o)[i]? = w.heap[i]?;rw[Array.getElem?_push,a0g (Nat.ne_of_lt h)]
section
variable {P:Program} {w:World}
theorem iT{t:TypeId}{i:TypeInfo}(h:P.info? t=some i):(typeInfo t).run P w=.ok i w:=by simp[typeInfo,h]
theorem EM{t:TypeId}{n:Nat}(h:dB P t=some n):∃i,P.info? t=some i∧i.size=n:=by
 simpa[dB]using h
theorem bZ{t:TypeId}{n:Nat}(h:dB P t=some n):(Go.sizeOf t).run P w=.ok n w:=by
 obtain⟨i,h1,h2⟩:=EM h;simp[Go.sizeOf,iT h1,h2]
theorem zT{t:TypeId}{b:Bool}(h:uK P t=some b):(isAgg t).run P w=.ok b w:=by
 unfold uK at h;split at h<;>simp at h<;>subst h
 .simp[isAgg,run_underlying ‹_›]
 .simp[isAgg,run_underlying ‹_›]
 rename_i d _ _ hu;simp only[isAgg,Sem.run_bind,run_underlying hu,Result.andThen_ok];cases d<;>simp_all
theorem um(c o n:Nat):(⟨c,o,none⟩:Addr).add n=⟨c,o+n,none⟩:=by
 unfold Addr.add;split<;>simp_all
theorem Ik{N:Np}{c:TV}{v:Value}(h:VR N c v)(ho:iR c=true):v.oneCell'=true:=by
 cases h<;>first|rfl|simp[iR]at ho
theorem uo{cs:List TV}{off n:Nat}{r:List TV}(h:sub cs off n=some r):off+n<=cs.length∧r=(cs.drop off).take n∧r.length=n:=by
 unfold sub at h;split at h
 .rename_i hl;simp at h;subst h;exact⟨hl,rfl,by simp;omega⟩
 simp at h
theorem vN{cs:List TV}{off:Nat}{new r:List TV}(h:vV cs off new=some r) :
  off+new.length<=cs.length∧r=cs.take off++new++cs.drop (off+new.length)∧r.length=cs.length:=by
 unfold vV at h;split at h
 .rename_i hl;simp at h;subst h;exact⟨hl,by simp,by simp;omega⟩
 .simp at h
theorem N7.slice{N:Np}{k:BK}{cs:List TV}{p:Pl}(h:N7 N w k cs p){off n:Nat}{r:List TV}(hr:sub cs off n=some r)(he:off+n<=p.ext)(hz:k=.last->p.ext=cs.length) :
  ∃xs:List Value,bV N r xs∧∀(j:Nat) (v:Value),xs[j]? = some v->w.cell? ⟨p.c,p.base+off+j,none⟩=some v:=by
 obtain⟨arr,ty,fz,h1,h2,_,h4⟩:=h.row;obtain⟨s1,s2,s3⟩:=uo hr;have hf:=h.fit;refine⟨(arr.toList.drop (p.base+off)).take n,⟨by rw[s3];simp;omega,fun i c v a b=>?_⟩,fun j v hj=>?_⟩
 .rw[s2,a3W]at a;rw[a3W]at b;split at a
  .rename_i hi;rw[a0i hi,a3X]at b;rw[a3X]at a;exact h4 hz (off+i) c v (by omega) a (by simpa[a9v]using b)
  .simp at a
 .rw[a3W]at hj;split at hj
  .rw[a3X]at hj;simp only[World.cell?,h1];simpa using hj
  .simp at hj
theorem yA{N:Np}{k:BK}{cs:List TV}{p:Pl}(h:N7 N w k cs p){off n:Nat}{r:List TV}(hr:sub cs off n=some r)(he:off+n<=p.ext)(hz:k=.last->p.ext=cs.length) :
  ∃xs:List Value,bV N r xs∧∀w':World,w'.heap=w.heap->(loadCells ⟨p.c,p.base+off,none⟩ n).run P w'=.ok xs.toArray w':=by
 obtain⟨xs,h1,h2⟩:=h.slice hr he hz;refine⟨xs,h1,fun w' hw'=>?_⟩;have hl:xs.length=n:=by rw[<-h1.len];exact(uo hr).2.2
 have:=run_loadCells_list (P:=P) w' ⟨p.c,p.base+off,none⟩ xs (fun j v hj=>by
  rw[um];have e:=h2 j v hj;simp only[World.cell?,hw']at e ⊢;exact e)
 rwa [hl]at this
theorem JB{N:Np}{k:BK}{cs:List TV}{p:Pl}(h:N7 N w k cs p){t:TypeId}{off n:Nat}{v:TV}(hs:dB P t=some n)
  (hv:uj P t cs off=some v) (he:off+n<=p.ext) (hz:k=.last->p.ext=cs.length) :
  ∃x,VR N v x∧(loadVar t ⟨p.c,p.base+off,none⟩).run P w=.ok x w:=by
 unfold uj at hv;rw[hs]at hv;cases ha:uK P t with
 |none=>simp[ha]at hv
 |some b=>
  cases b with
  |true=>
   simp only[ha,a06]at hv;obtain⟨r,hr,rfl⟩:=hv;obtain⟨xs,g1,g2⟩:=yA (P:=P) h hr he hz;exact⟨_,.agg' g1,by simp[loadVar,zT ha,bZ hs,g2 w rfl]⟩
  |false=>
   simp only[ha]at hv;split at hv
   case isFalse=>simp at hv
   rename_i hn1;have he1:off+1<=p.ext:=(by omega);have aQ:=(a02.1 hv).1;have hr:sub cs off 1=some [v]:=by
    unfold sub;rw[a0i (by omega)];congr 1;rw[a6q aQ];have:=(a02.1 hv).2;simp[this]
   obtain⟨xs,g1,g2⟩:=h.slice hr he1 hz;obtain⟨x,xs',rfl,gx,_⟩:=g1.iK;have:=g2 0 x rfl;simp only[adr]at this;exact⟨x,gx,by simp[loadVar,zT ha,this]⟩
end
theorem Il{M:Mp}{k:Key}{l:Lc}(h:M k=some l):dK M k l=M:=by
 funext j;unfold dK;split
 .rename_i e;rw[e,h]
 rfl
theorem jW(s:St)(b:HB)(e:List (Nat×EV))(ws:List Nat):St.get { s with heap:=s.heap++[b],env:=e,ws:=ws }=lF s.get (.h s.heap.length) b:=by
 funext k
 cases k with
 |h j=>
  simp only[St.get,lF,Key.h.injEq];split
  .rename_i e;subst e;simp
  rename_i e;by_cases hj:j<s.heap.length
  .rw[a0c hj]
  rw[a3R (by simp;omega),a3R (by omega)]
 |l j=>simp[St.get,lF]
theorem jl(s:St)(i:Nat)(b:HB)(h:i<s.heap.length)(e:List (Nat×EV))(ws:List Nat):St.get { s with heap:=s.heap.set i b,env:=e,ws:=ws }=lF s.get (.h i) b:=by
 funext k
 cases k with
 |h j=>
  simp only[St.get,lF,Key.h.injEq];rw[a9j];by_cases hj:i=j
  .subst hj;simp[h]
  rw[a0g hj,a0g (fun e=>hj e.symm)]
 |l j=>simp[St.get,lF]
theorem Qu(s:St)(cs:List TV)(e:List (Nat×EV))(ws:List Nat):St.get { s with loc:=s.loc++[cs],env:=e,ws:=ws }=lF s.get (.l s.loc.length) (.cells .own cs):=by
 funext k
 cases k with
 |l j=>
  simp only[St.get,lF,Key.l.injEq];split
  .rename_i e;subst e;simp
  rename_i e;by_cases hj:j<s.loc.length
  .rw[a0c hj]
  rw[a3R (by simp;omega),a3R (by omega)]
 |h j=>simp[St.get,lF]
theorem N9(s:St)(i:Nat)(cs:List TV)(h:i<s.loc.length)(e:List (Nat×EV))(ws:List Nat):St.get { s with loc:=s.loc.set i cs,env:=e,ws:=ws }=lF s.get (.l i) (.cells .own cs):=by
 funext k
 cases k with
 |l j=>
  simp only[St.get,lF,Key.l.injEq];rw[a9j];by_cases hj:i=j
  .subst hj;simp[h]
  rw[a0g hj,a0g (fun e=>hj e.symm)]
 |h j=>simp[St.get,lF]
theorem xK{h:List HB}{b lim:Nat}{cs:List TV}(e:lM h b lim=some cs):∃k,h[b]? = some (.cells k cs)∧(k=.last->lim=cs.length):=by
 unfold lM at e;split at e
 .rename_i k cs' hb;split at e
  .cases e
  rename_i hn;simp at e;subst e;exact⟨k,hb,fun hk=>Decidable.not_not.1 fun hl=>hn ⟨hk,hl⟩⟩
 simp at e
theorem JC{k k':BK}{b:Bool}(e:zQ k b=some k'):(k=.own∧k'=.own)∨((k=.grow∨k=.last)∧k'=.last∧b=true):=by
 unfold zQ at e;split at e<;>simp_all
theorem Io{h h':List HB}{b off lim:Nat}{new:List TV}(e:Tf h b off lim new=some h') :
  ∃k k' cs cs',h[b]? = some (.cells k cs)∧((k=.own∧k'=.own)∨((k=.grow∨k=.last)∧k'=.last∧lim=cs.length))∧vV cs off new=some cs'∧h'=h.set b (.cells k' cs'):=by
 unfold Tf at e;split at e
 .rename_i k cs hb;split at e
  .rename_i k' hk;simp only[a06]at e;obtain⟨cs',h1,h2⟩:=e;refine⟨k,k',cs,cs',hb,?_,h1,h2.symm⟩;rcases JC hk with h|⟨a,b,c⟩
   .exact .inl h
   .exact .inr ⟨a,b,by simpa using c⟩
  .cases e
 .simp at e
theorem Vo{arr:Array Value}{off:Nat}{xs:List Value}(i:Nat)(h:off+xs.length<=arr.size) :
  (arr.toList.take off++xs++arr.toList.drop (off+xs.length)).toArray[i]? = if i<off then arr[i]? else if i<off+xs.length then xs[i-off]? else arr[i]?:=by
 have hl:(arr.toList.take off).length=off:=by simp;omega
 simp only[ads];by_cases h1:i<off
 .rw[a0i h1,a5B,a0c (by omega),a3W,a0i h1];simp
 .rw[a0g h1];by_cases h2:i<off+xs.length
  .rw[a0i h2,a5B,a19 (by omega),hl,a0c (by omega)]
  .rw[a0g h2,a19 (by simp;omega),a3X];have:off+xs.length+(i-(List.take off arr.toList++xs).length)=i:=by simp;omega
   rw[this];simp
theorem a1U{cs new r:List TV}{off:Nat}(h:vV cs off new=some r)(i:Nat) :
  r[i]? = if i<off then cs[i]? else if i<off+new.length then new[i-off]? else cs[i]?:=by
 obtain⟨h1,h2,_⟩:=vN h;have hl:(cs.take off).length=off:=by simp;omega
 rw[h2];by_cases h1:i<off
 .rw[a0i h1,a5B,a0c (by omega),a3W,a0i h1]
 .rw[a0g h1];by_cases h2:i<off+new.length
  .rw[a0i h2,a5B,a19 (by omega),hl,a0c (by omega)]
  .rw[a0g h2,a19 (by simp;omega),a3X];congr 1;simp;omega
theorem Vp{cs new r:List TV}{off:Nat}(h:vV cs off new=some r)(hc:∀c∈cs,iR c=true)(hn:∀c∈new,iR c=true):∀c∈r,iR c=true:=by
 obtain⟨_,h2,_⟩:=vN h;intro c hcr;rw[h2]at hcr;simp only[a2X]at hcr;rcases hcr with(h|h)|h
 .exact hc c (a8B h)
 .exact hn c h
 exact hc c (a4P h)
theorem vC(w:World)(g:Nat)(arr:Array Value)(c:Nat)(h:c≠g):(w.setRow g arr).heap[c]? = w.heap[c]?:=by
 simp only[World.setRow,abr];rw[a0g (fun e=>h e.symm)]
theorem Na(w:World)(g:Nat)(arr cur:Array Value)(ty:TypeId)(fz:Nat×Nat)(h:w.heap[g]? = some (.cells cur ty fz)):(w.setRow g arr).heap[g]? = some (.cells arr ty fz):=by
 simp[World.setRow,abr,h]
theorem Valid.widen{M:Mp}{D:Key->Prop}{C C1:Ct}{w':World}(h:Valid M D C1 w')(hn:∀k,C k=none->C1 k=none):Valid M (fun j=>D j∨(C j=none∧(C1 j).isSome=true)) C1 w':=
 have aux:∀j,(D j∨(C j=none∧(C1 j).isSome=true))->D j:=fun j hj=>hj.elim id fun⟨a,b⟩=>by rw[hn j a]at b;cases b
 ⟨fun k l hk hd=>h.ok k l hk (aux k hd),fun k k' l l' b a1 a2 a3 hd=>h.own k k' l l' b a1 a2 a3 (aux k hd),h.inb⟩
theorem Dw{C:Ct}{k:Key}{b:HB}(hk:(C k).isSome=true):∀j,C j=none->lF C k b j=none:=by
 intro j hj;unfold lF;split
 .rename_i e;subst e;rw[hj]at hk;cases hk
 exact hj
theorem Valid.wrB{M:Mp}{D:Key->Prop}{C:Ct}{w:World}(h:Valid M D C w){k:Key}{ls:List Pl}{p:Pl}{cs:List TV}{kk Bc:BK}(hk:M k=some (.cells ls))(hd:D k)
  (hc:C k=some (.cells kk cs)) (hp:p∈ls) (xM:(kk=.own∧Bc=.own)∨((kk=.grow∨kk=.last)∧Bc=.last∧p.ext=cs.length)) :
  p.base=0∧p.ext=cs.length∧(∀c∈cs,iR c=true)∧(∀q∈ls,N7 M.h w kk cs q)∧(ls.map (·.c)).Nodup∧(∀q∈ls,q.ext=cs.length->q=p) ∧
  ∃(arr:Array Value) (ty:TypeId),w.heap[p.c]? = some (.cells arr ty (0,0))∧arr.size=p.tot∧cs.length<=p.tot ∧
   ∀(i:Nat) (c:TV) (v:Value),cs[i]? = some c->arr[i]? = some v->VR M.h c v:=by
 obtain⟨b,h1,h2⟩:=h.ok k _ hk hd;rw[hc]at h1;cases h1;obtain⟨g1,g2,g3,g4⟩:=h2;have iC:kk≠.ro:=by rcases xM with⟨e,_⟩|⟨e|e,_⟩<;>rw[e]<;>simp
 have Eo:=g2 p hp;have hb:=Eo.base iC;have hx:p.ext=cs.length∧(ls.map (·.c)).Nodup∧∀q∈ls,q.ext=cs.length->q=p:=by
  rcases xM with⟨e,_⟩|⟨e,_,he⟩
  .obtain⟨q,rfl,hq⟩:=g3 e;simp at hp;subst hp;exact⟨hq,by simp,fun q' hq' _=>by simpa using hq'⟩
  .obtain⟨n1,n2⟩:=g4 e;exact⟨he,n1,fun q hq hqe=>n2 q hq p hp hqe he⟩
 obtain⟨arr,ty,fz,r1,r2,r3,r4⟩:=Eo.row;have:=r3 iC;subst this;have hf:=Eo.fit;refine⟨hb,hx.1,g1,g2,hx.2.1,hx.2.2,arr,ty,r1,r2,by omega,fun i c v a b=>?_⟩;have hi:=(a02.1 a).1;exact r4 (fun _=>hx.1) i c v (by omega) a (by simpa[hb]using b)
theorem Valid.Yl{M:Mp}{D:Key->Prop}{C:Ct}{w:World}(h:Valid M D C w){k:Key}{ls:List Pl}{p:Pl}{cs:List TV}{kk Bc:BK}{lim:Nat}(hk:M k=some (.cells ls))(hd:D k)
  (hc:C k=some (.cells kk cs)) (hp:p∈ls) (hl:lim<=p.ext) (xM:(kk=.own∧Bc=.own)∨((kk=.grow∨kk=.last)∧Bc=.last∧lim=cs.length)) :
  (kk=.own∧Bc=.own)∨((kk=.grow∨kk=.last)∧Bc=.last∧p.ext=cs.length):=by
 rcases xM with e|⟨e1,e2,e3⟩
 .exact .inl e
 .obtain⟨b,h1,h2⟩:=h.ok k _ hk hd;rw[hc]at h1;cases h1;have:=(h2.2.1 p hp).ext;exact .inr ⟨e1,e2,by omega⟩
theorem Nb:∀{ls:List Pl},(ls.map (·.c)).Nodup->∀{p q:Pl},p∈ls->q∈ls->q.c=p.c->q=p
 | [],_,p,q,hp,_,_=>by simp at hp
 |a::ls,h,p,q,hp,hq,e=>by
  simp only[a3U,a3Z]at h;rcases a2e.1 hp with h1|h1<;>rcases a2e.1 hq with h2|h2
  .rw[h1,h2]
  .exact(h.1 (a1d.2 ⟨q,h2,by rw[e,h1]⟩)).elim
  .exact(h.1 (a1d.2 ⟨p,h1,by rw[<-e,h2]⟩)).elim
  exact Nb h.2 h1 h2 e
theorem yK{P:Program}{M:Mp}{D:Key->Prop}{C:Ct}{w:World}(h:Valid M D C w){k:Key}{ls:List Pl}{p:Pl}{cs cs' new:List TV}{off:Nat}{xs:List Value}{kk Bc:BK}
  (hk:M k=some (.cells ls)) (hd:D k) (hc:C k=some (.cells kk cs)) (hp:p∈ls) (xM:(kk=.own∧Bc=.own)∨((kk=.grow∨kk=.last)∧Bc=.last∧p.ext=cs.length))
  (ho:vV cs off new=some cs') (hx:bV M.h new xs) (hn:∀c∈new,iR c=true) :
  ∃w',(storeCells ⟨p.c,p.base+off,none⟩ xs).run P w=.ok () w'∧Valid M D (lF C k (.cells Bc cs')) w'∧Ext M C w M (lF C k (.cells Bc cs')) w' [k]:=by
 obtain⟨hb,he,h1,Eo,jm,huq,arr,ty,hr,hs,hle,hv⟩:=h.wrB hk hd hc hp xM;obtain⟨o1,o2,o3⟩:=vN ho;have hlen:=hx.len;have iC:kk≠.ro:=by rcases xM with⟨e,_⟩|⟨e|e,_⟩<;>rw[e]<;>simp
 have ah2:Bc≠.ro:=by rcases xM with⟨_,e⟩|⟨_,e,_⟩<;>rw[e]<;>simp
 have Yb:∀b0,C k=some b0->wr b0=true:=fun b0 zL=>by rw[hc]at zL;cases zL;cases kk<;>simp_all [wr]
 have EO:∀v∈xs,v.oneCell'=true:=by
  intro v hv;obtain⟨i,hi,rfl⟩:=a4m.1 hv;have vW:i<new.length:=by omega
  exact Ik (hx.at_ i new[i] xs[i] (by simp[vW]) (by simp[hi])) (hn _ (a4h vW))
 have vG:=run_storeCells_at (P:=P) p.c (p.base+off) ty xs 0 arr w hr (by omega) EO;simp only[adr,hb,a3O]at vG
 let w':World:=w.setRow p.c (arr.toList.take off++xs++arr.toList.drop (off+xs.length)).toArray
 have qw:dK M k (.cells ls)=M:=Il hk;have gq:∀c,c<w.heap.size->c∉aJ (.cells ls)->w'.heap[c]? = w.heap[c]?:=fun c _ hc=>vC w p.c _ c (fun e=>hc (by rw[e];exact a1d.2 ⟨p,hp,rfl⟩));have fQ:∀c∈aJ (.cells ls),(∃l0,M k=some l0∧c∈aJ l0)∨w.heap.size<=c:=fun c hc=>.inl ⟨_,hk,hc⟩;have uU:w.heap.size<=w'.heap.size:=by simp[w']
 have Ip:rZ M (dK M k (.cells ls)):=by rw[qw];exact .refl _
 refine⟨w',by rw[hb,a3O];exact vG,?_,?_⟩
 .have:=h.upd (D':=D) (w':=w') k (.cells Bc cs') (.cells ls) (fun j hj=>.inl hj) (fun l0 h0=>by
   rw[hk]at h0;cases h0;exact⟨hd,.refl _,Yb⟩) gq fQ uU (by
   rw[qw];refine⟨Vp ho h1 hn,fun q hq=>?_,fun e=>?_,fun e=>⟨jm,fun q1 JD q2 FY e1 e2=>by rw[huq q1 JD (by omega),huq q2 FY (by omega)]⟩⟩
   .have hq0:=Eo q hq;by_cases Ym:q.c=p.c
    .have:=Nb jm hp hq Ym;subst this;refine⟨⟨_,ty,(0,0),Na w q.c _ arr ty (0,0) hr,by simp;omega,fun _=>rfl,fun _ i c v hi a b=>?_⟩,by omega,by omega,fun _=>hb⟩;rw[hb,a3O,Vo i (by omega)]at b;rw[a1U ho i,hlen]at a;split at a
     .rename_i hi1;rw[a0i hi1]at b;exact hv i c v a b
     .rename_i hi1;rw[a0g hi1]at b;split at a
      .rename_i KE;rw[a0i KE]at b;exact hx.at_ _ c v a b
      .rename_i KE;rw[a0g KE]at b;exact hv i c v a b
    .obtain⟨uN,ty',fz',t1,t2,t3,t4⟩:=hq0.row;refine⟨⟨uN,ty',fz',(vC w p.c _ q.c Ym).trans t1,t2,fun _=>t3 iC,fun hz i c v hi a b=>?_⟩,hq0.fit,by have:=hq0.ext;omega,fun _=>hq0.base iC⟩;exfalso;apply Ym;rcases xM with⟨e,_⟩|⟨_,e,_⟩
     .obtain⟨b',g1,g2⟩:=h.ok k _ hk hd;rw[hc]at g1;cases g1;obtain⟨q',g3,_⟩:=g2.2.2.1 e;rw[g3]at hq hp;simp at hq hp;rw[hq,hp]
     .rw[huq q hq (by rw[hz e];omega)]
   .rcases xM with⟨e0,_⟩|⟨_,e1,_⟩
    .obtain⟨b',g1,g2⟩:=h.ok k _ hk hd;rw[hc]at g1;cases g1;obtain⟨q',g3,g4⟩:=g2.2.2.1 e0;exact⟨q',g3,by omega⟩
    .rw[e1]at e;cases e)
  rwa [qw]at this
 .have:=Ext.upd (M:=M) (C:=C) (w:=w) (w':=w') k (.cells Bc cs') (.cells ls) [k] (.inl ⟨by simp[hc],rfl,by simp[hk],Yb⟩) Ip gq fQ uU rfl rfl rfl
  rwa [qw]at this
theorem Nc{M:Mp}{D:Key->Prop}{C:Ct}{w:World}(h:Valid M D C w){k:Key}{cs:List TV}{arr:Array Value}(ty:TypeId)
  (hk:M k=none) (hc:C k=none) (hl:cs.length<=arr.size) (hx:∀(i:Nat) (c:TV) (v:Value),cs[i]? = some c->arr[i]? = some v->VR M.h c v) (hn:∀c∈cs,iR c=true) :
  Valid (dK M k (.cells [⟨w.heap.size,0,cs.length,arr.size⟩])) (fun j=>D j∨(C j=none∧(lF C k (.cells .own cs) j).isSome=true)) (lF C k (.cells .own cs)) (w.alloc (.cells arr ty)) ∧
  Ext M C w (dK M k (.cells [⟨w.heap.size,0,cs.length,arr.size⟩])) (lF C k (.cells .own cs)) (w.alloc (.cells arr ty)) []:=by
 have hle:rZ M (dK M k (.cells [⟨w.heap.size,0,cs.length,arr.size⟩])):=lS fun l0 h0=>by rw[hk]at h0;cases h0
 have gq:∀c,c<w.heap.size->c∉aJ (.cells [⟨w.heap.size,0,cs.length,arr.size⟩])->(w.alloc (.cells arr ty)).heap[c]? = w.heap[c]?:=fun c hc _=>vZ w _ c hc;have fQ:∀c∈aJ (.cells [⟨w.heap.size,0,cs.length,arr.size⟩]),(∃l0,M k=some l0∧c∈aJ l0)∨w.heap.size<=c:=fun c hc=>.inr (by simp[aJ]at hc;omega);refine⟨h.upd k _ _ (fun j hj=>?_) (fun l0 h0=>by rw[hk]at h0;cases h0) gq fQ (by simp) ?_,Ext.upd k _ _ [] (.inr ⟨hc,hk,rfl⟩) hle gq fQ (by simp) rfl rfl rfl⟩
 .rcases hj with hj|⟨a,b⟩
  .exact .inl hj
  .right;unfold lF at b;split at b
   .assumption
   .simp[a]at b
 .refine⟨hn,fun q hq=>?_,fun _=>⟨_,rfl,rfl⟩,by simp⟩;simp at hq;subst hq;exact⟨⟨arr,ty,(0,0),heap_alloc_new w _,rfl,fun _=>rfl,fun _ i c v _ a b=>(hx i c v a (by simpa using b)).mono hle.h⟩,by simpa using hl,a0V _,fun _=>rfl⟩
theorem a4p{M:Mp}{env:List (Nat×EV)}{a:Act}(hE:jM M env a.tmps){x:Operand}{e:EV}(h:Ib env x=some e):ER M e (a.eval x):=by
 cases x with
 |tmp t=>exact hE t e h
 |const v=>
  simp only[Ib,a06]at h;obtain⟨t,h1,rfl⟩:=h;exact .val (.yx h1)
 |func f=>
  simp only[Ib,a01]at h;subst h;exact .val (VR.fn (xs:=[]) (ys:=[]) rfl (by simp) rfl (by simp))
 |global g=>simp[Ib]at h
theorem Yn{M:Mp}{env:List (Nat×EV)}{a:Act}(hE:jM M env a.tmps){x:Operand}{v:TV}(h:qH env x=some v):VR M.h v (a.eval x):=by
 unfold qH at h;split at h
 .rename_i v' he;simp at h;subst h;exact(a4p hE he).vw
 simp at h
structure PR(N:Np)(ps:List (Nat×TV))(qs:List (Nat×Value)):Prop where
 len:ps.length=qs.length
 at_:∀(i:Nat) (p:Nat×TV) (q:Nat×Value),ps[i]? = some p->qs[i]? = some q->p.1=q.1∧VR N p.2 q.2
theorem PR.nil{N:Np}:PR N [] []:=⟨rfl,by simp⟩
theorem PR.cons{N:Np}{i:Nat}{v:TV}{x:Value}{ps:List (Nat×TV)}{qs:List (Nat×Value)}(h:VR N v x)(hs:PR N ps qs):PR N ((i,v)::ps) ((i,x)::qs):=
 ⟨by simp[hs.len],fun j p q a b=>by
  cases j with
  |zero=>simp at a b;subst a;subst b;exact⟨rfl,h⟩
  |succ j=>simp at a b;exact hs.at_ j p q a b⟩
theorem PR.iK{N:Np}{i:Nat}{v:TV}{ps:List (Nat×TV)}{qs:List (Nat×Value)}(h:PR N ((i,v)::ps) qs):∃x qs',qs=(i,x)::qs'∧VR N v x∧PR N ps qs':=by
 cases qs with
 |nil=>have:=h.len;simp at this
 |cons q qs'=>
  have h0:=h.at_ 0 (i,v) q rfl rfl;obtain⟨j,x⟩:=q;obtain⟨h1,h2⟩:=h0;simp only at h1;subst h1;exact⟨x,qs',rfl,h2,⟨by have:=h.len;simpa using this,fun j p q a b=>h.at_ (j+1) p q (by simpa using a) (by simpa using b)⟩⟩
theorem PR.pO{N:Np}{qs:List (Nat×Value)}(h:PR N [] qs):qs=[]:=by
 have:=h.len;simp at this;exact a3Q this.symm
def ah5(P:Program)(c:Sem Next)(w:World)(x:Value)(w':World):Prop:=
 c.run P w=.ok (.value x) w'∨(x=Go.undef∧c.run P w=.ok .skip w')
def FZ(P:Program)(M:Mp)(D:Key->Prop)(C:Ct)(w:World)(c:Sem Next)(v:EV)(C1:Ct)(ws:List Key):Prop:=
 ∃x w' M',ah5 P c w x w'∧N8 M D C w v C1 ws x w' M'
section
variable {P:Program} {M:Mp} {D:Key->Prop} {w:World} {s:St}
theorem FZ.same{C:Ct}{c:Sem Next}{v:EV}{x:Value}(hV:Valid M D C w)(hr:c.run P w=.ok (.value x) w)(he:ER M v x):FZ P M D C w c v C []:=
 ⟨x,w,M,.inl hr,.same hV he⟩
theorem qM{k:Key}{l:Lc}(hk:M k=none):∀j l',M (.l j)=some l'->dK M k l (.l j)=some l':=by
 intro j l' h;unfold dK;rw[a0g (fun e=>by rw[<-e,h]at hk;cases hk)];exact h
theorem a4q(hV:Valid M D s.get w)(yL:M (.h s.heap.length)=none)(hnl:M (.l s.loc.length)=none)(site:Bool){cs:List TV}{xs:Array Value}(ty:TypeId)
  (hx:bV M.h cs xs.toList) (hn:∀c∈cs,iR c=true) {v:EV} {s1:St} (h:qI site s cs=(v,s1)) :
  ∃M',N8 M D s.get w v s1.get [] (.pointer (some ⟨w.heap.size,0,none⟩)) (w.alloc (.cells xs ty)) M':=by
 have hlen:cs.length<=xs.size:=by have:=hx.len;simpa using agv this
 have JE:∀(i:Nat) (c:TV) (v:Value),cs[i]? = some c->xs[i]? = some v->VR M.h c v:=fun i c v a b=>hx.at_ i c v a (by simpa using b);unfold qI at h;cases site with
 |true=>
  simp only[a2j,a0j]at h;obtain⟨rfl,rfl⟩:=h;have hc:s.get (.h s.heap.length)=none:=by simp[St.get]
  have:=Nc hV ty yL hc hlen JE hn;refine⟨dK M (.h s.heap.length) (.cells [⟨w.heap.size,0,cs.length,xs.size⟩]),⟨?_,?_,?_,qM yL⟩⟩
  .rw[jW];exact this.1
  .rw[jW];exact this.2
  .exact .val (VR.ptr (p:=⟨w.heap.size,0,cs.length,xs.size⟩) (ls:=[⟨w.heap.size,0,cs.length,xs.size⟩]) (by simp[Mp.h,dK]) (by simp) (a0V _) (by simpa using hlen))
 |false=>
  simp only[a2l,a3a,a0j]at h;obtain⟨rfl,rfl⟩:=h;have hc:s.get (.l s.loc.length)=none:=by simp[St.get]
  have:=Nc hV ty hnl hc hlen JE hn;refine⟨dK M (.l s.loc.length) (.cells [⟨w.heap.size,0,cs.length,xs.size⟩]),⟨?_,?_,?_,qM hnl⟩⟩
  .rw[Qu];exact this.1
  .rw[Qu];exact this.2
  .exact ER.loc (p:=⟨w.heap.size,0,cs.length,xs.size⟩) (by simp[dK]) rfl
theorem a05{x:Value}{c:TV}(h:TV.ZY x=some c):iR c=true:=by
 unfold TV.ZY at h;split at h<;>simp at h<;>subst h<;>rfl
theorem Vq:∀{xs:List Value} {cs:List TV},TV.BJ xs=some cs->∀c∈cs,iR c=true
 | [],cs,h=>by simp[TV.BJ]at h;subst h;simp
 |x::xs,cs,h=>by
  simp only[TV.BJ]at h;split at h
  .rename_i v vs h1 h2;simp at h;subst h;intro c hc;rcases a2e.1 hc with rfl|hc
   .exact a05 h1
   exact Vq h2 c hc
  simp at h
theorem a1W{x:Value}{v:TV}(h:TV.Vd x=some v):∀c∈v.cells,iR c=true:=by
 unfold TV.Vd at h;split at h
 .simp only[a06]at h;obtain⟨vs,h1,rfl⟩:=h;exact Vq h1
 have h1:=a05 h;cases v<;>simp[iR]at h1<;>simp[TV.cells,iR]
theorem wo{t:TypeId}{z:List TV}(h:Jy P t=some z):∃i x v,P.info? t=some i∧i.zero=some x∧TV.Vd x=some v∧z=v.cells∧(∀c∈z,iR c=true) ∧
  (∀N:Np,bV N z x.cells.toList)∧∀w,(zeroValue t).run P w=.ok x w:=by
 unfold Jy at h;split at h
 .rename_i i hi;split at h
  .rename_i x hx;simp only[a06]at h;obtain⟨v,h1,rfl⟩:=h;exact⟨i,x,v,hi,hx,h1,rfl,a1W h1,fun N=>(VR.yx h1).cells,fun w=>by simp[zeroValue,iT hi,hx]⟩
  .simp at h
 .simp at h
theorem Yo(vs:List Value):∀(k off:Nat) (arr:Array Value),off+k+vs.length<=arr.size ->
  ((vs.zipIdx k).foldl (fun(cs:Array Value) (c:Value×Nat)=>cs.setIfInBounds (off+c.2) c.1) arr).toList=arr.toList.take (off+k)++vs++arr.toList.drop (off+k+vs.length):=by
 induction vs with
 |nil=>intro k off arr h;simp
 |cons v vs ih=>
  intro k off arr h;simp only[a3S]at h;simp only[List.zipIdx_cons,ad9];rw[ih (k+1) off _ (by simp;omega)];have e:=list_seg_step arr.toList (off+k) v vs (by simp;omega);simpa[Array.toList_setIfInBounds,a9v]using e
theorem L6{N:Np}{place place':Nat->Option (Nat×Nat)}(hp:∀i x,place i=some x->place' i=some x):∀{ps:List (Nat×TV)} {qs:List (Nat×Value)} {cs r:List TV} {arr:Array Value},rY place cs ps=some r->PR N ps qs ->
  bV N cs arr.toList->∃uN,Instr.fill place' arr qs=some uN∧bV N r uN.toList
 | [],qs,cs,r,arr,h,hq,hc=>by
  have:=hq.pO;subst this;simp[rY]at h;subst h;exact⟨arr,rfl,hc⟩
 |(i,v)::ps,qs,cs,r,arr,h,hq,hc=>by
  obtain⟨x,qs',rfl,hx,hq'⟩:=hq.iK;simp only[rY]at h;split at h
  .rename_i off size Eo;split at h
   .rename_i uU;split at h
    .rename_i cs' ho;obtain⟨o1,o2,o3⟩:=vN ho;have hxc:=hx.cells;have hl1:=hxc.len;have TA:=hc.len;simp only[a9p]at hl1 TA;have e:(x.cells.zipIdx.foldl (fun(cs:Array Value) (c:Value×Nat)=>cs.setIfInBounds (off+c.2) c.1) arr).toList=arr.toList.take off++x.cells.toList++arr.toList.drop (off+x.cells.toList.length):=by
      rw[<-Array.foldl_toList,Array.toList_zipIdx];have:=Yo x.cells.toList 0 off arr (by simp;omega);simpa using this
     have Ve:bV N cs' (x.cells.zipIdx.foldl (fun(cs:Array Value) (c:Value×Nat)=>cs.setIfInBounds (off+c.2) c.1) arr).toList:=by
      have hlx:x.cells.toList.length=v.cells.length:=(by simp[hl1]);rw[e,o2,hlx];exact((hc.take off).append hxc).append (hc.drop _)
     obtain⟨uN,g1,g2⟩:=L6 hp h hq' Ve;refine⟨uN,?_,g2⟩;simp only[Instr.fill,hp i _ Eo];rw[a0g (by simp;omega)];exact g1
    .simp at h
   .simp at h
  .simp at h
theorem Nh{w:World}:∀(fs:List Field),BL P fs=true->(fs.mapM (fun f=>Functor.map (Prod.mk f.offset) (Go.sizeOf f.type):Field->Sem (Nat×Nat))).run P w=.ok (fs.map fun f=>(f.offset,(dB P f.type).getD 0)) w
 | [],_=>by simp
 |f::fs,h=>by
  simp only[BL,abx,a2a]at h;obtain⟨n,hn⟩:=a4w.1 h.1;have ih:=Nh (w:=w) fs (by simpa[BL]using h.2);simp only[List.mapM_cons,Sem.run_bind,Sem.run_map,bZ hn,Result.andThen_ok,Sem.run_pure,ih,a3U,hn,a4F]
theorem a4s{N:Np}{t:TypeId}{ps:List (Nat×TV)}{qs:List (Nat×Value)}{v:TV}(h:MP P t ps=some v)(hq:PR N ps qs) :
  ∃x,VR N v x∧∀w,(Instr.build t qs.toArray).run P w=.ok x w:=by
 unfold MP at h;split at h
 .rename_i z fs hz hu;split at h
  .rename_i ha;simp only[a06]at h;obtain⟨r,hr,rfl⟩:=h;obtain⟨i,x,v,_,_,_,_,_,hvr,hzr⟩:=wo hz;obtain⟨uN,g1,g2⟩:=L6 (place':=fun i=>(fs.map fun f=>(f.offset,(dB P f.type).getD 0))[i]?) (fun i x hx=>by
    unfold Ti at hx;split at hx
    .rename_i f hf;simp only[a06]at hx;obtain⟨n,hn,rfl⟩:=hx;simp[hf,hn]
    .simp at hx) hr hq (hvr N)
   refine⟨_,.agg' g2,fun w=>?_⟩;have hm:(fs.mapM (fun f=>Functor.map (Prod.mk f.offset) (Go.sizeOf f.type):Field->Sem (Nat×Nat))).run P w=.ok (fs.map fun f=>(f.offset,(dB P f.type).getD 0)) w:=by
    rw[Array.mapM_eq_mapM_toList,Sem.run_map,Nh fs.toList ha];simp only[Result.andThen_ok];congr 1;apply adv;simp
   simp only[Array.getElem?_map]at g1;simp[Instr.build,hzr w,run_underlying hu,hm,g1]
  .simp at h
 .rename_i z n e hz hu;split at h
  .rename_i n hn;simp only[a06]at h;obtain⟨r,hr,rfl⟩:=h;obtain⟨i,x,v,_,_,_,_,_,hvr,hzr⟩:=wo hz;obtain⟨uN,g1,g2⟩:=L6 (place':=fun i=>some (i*n,n)) (fun i x hx=>hx) hr hq (hvr N);exact⟨_,.agg' g2,fun w=>by simp[Instr.build,hzr w,run_underlying hu,bZ hn,g1]⟩
  .simp at h
 .simp at h
end
section
variable {P:Program} {M:Mp} {D:Key->Prop} {w:World} {s:St}
theorem Vr{t:TypeId}{cs:List TV}{off:Nat}{v:TV}(h:uj P t cs off=some v):∃n,dB P t=some n∧off+n<=cs.length:=by
 unfold uj at h;split at h
 .rename_i n _ hn;simp only[a06]at h;obtain⟨r,hr,_⟩:=h;exact⟨n,hn,(uo hr).1⟩
 .rename_i n _ hn;split at h
  .rename_i h1;subst h1;exact⟨1,hn,(a02.1 h).1⟩
  simp at h
 simp at h
theorem a07{N:Np}{t:TypeId}{cs:List TV}{off:Nat}{v:TV}{xs:List Value}(h:uj P t cs off=some v)(hx:bV N cs xs) :
  ∃x,VR N v x∧(Go.part t xs.toArray off).run P w=.ok x w:=by
 unfold uj at h;split at h
 .rename_i n ha hn;simp only[a06]at h;obtain⟨r,hr,rfl⟩:=h;obtain⟨s1,s2,s3⟩:=uo hr;have hl:=hx.len;refine⟨.agg ((xs.drop off).take n).toArray,.agg' (by rw[s2];exact(hx.drop off).take n),?_⟩;simp[Go.part,zT ha,bZ hn]
 .rename_i n ha hn;split at h
  .obtain⟨x,h1,h2⟩:=hx.get h;exact⟨x,h2,by simp[Go.part,zT ha,h1]⟩
  .simp at h
 .simp at h
theorem G5{t:TypeId}{e:EV}{v:TV}{i:lK}{x:Value}(hV:Valid M D s.get w)(h:loadT P t s e=some (v,i))(hx:ER M e x)(hD:∀k∈i.ts,D k) :
  i.ws=[]∧∃y,VR M.h v y∧(Instr.loadAt t x).run P w=.ok y w:=by
 unfold loadT at h;split at h
 .rename_i k off;split at h
  .rename_i cs hk;simp only[a06,a0j]at h;obtain⟨v',hv,rfl,rfl⟩:=h;cases hx with
   |loc hm hb=>
    rename_i p;have hg:s.get (.l k)=some (.cells .own cs):=(by simp[St.get,hk]);have hd:=hD (.l k) (by simp[xg]);obtain⟨b,h1,h2⟩:=hV.ok _ _ hm hd;rw[hg]at h1;cases h1;obtain⟨_,h3,h4,_⟩:=h2;obtain⟨q,hq,he⟩:=h4 rfl;simp at hq;subst hq;obtain⟨n,hn,hle⟩:=Vr hv;obtain⟨y,g1,g2⟩:=JB (P:=P) (h3 p (by simp)) hn hv (by omega) (fun e=>by cases e);rw[hb,a3O]at g2;exact⟨rfl,y,g1,by simp[Instr.loadAt,Instr.sureAddr,g2]⟩
  .simp at h
 .rename_i b off lim;split at h
  .rename_i cs n hb hn;split at h
   .rename_i KF;simp only[a06,a0j]at h;obtain⟨v',hv,rfl,rfl⟩:=h;cases hx with
    |val hx=>
     cases hx with
     |ptr hm hp hl ht=>
      rename_i ls p;obtain⟨k,hk,Vt⟩:=xK hb;have hd:=hD (.h b) (by simp[xg]);obtain⟨fV,h1,h2⟩:=hV.ok _ _ hm hd;simp only[St.get,hk,a01]at h1;subst h1;obtain⟨_,h3,_⟩:=h2;obtain⟨y,g1,g2⟩:=JB (P:=P) (h3 p hp) hn hv (by omega) (fun e=>by have:=Vt e;have:=(h3 p hp).ext;omega);exact⟨rfl,y,g1,by simp[Instr.loadAt,Instr.sureAddr,g2]⟩
   .simp at h
  .simp at h
 .simp at h
theorem L8{l:List TV}(h:l.all iR=true):∀c∈l,iR c=true:=by simpa using h
theorem Yp{t:TypeId}{e:EV}{v:TV}{i:lK}{x y:Value}{s1:St}(hV:Valid M D s.get w)(h:storeT P t s e v=some (s1,i))(hx:ER M e x)(hy:VR M.h v y)(hD:∀k∈i.ts,D k) :
  s1.env=s.env∧∃w',(Instr.storeAt t x y).run P w=.ok () w'∧Valid M D s1.get w'∧Ext M s.get w M s1.get w' i.ws∧∀k,s.get k=none->s1.get k=none:=by
 unfold storeT at h;split at h
 case h_2=>simp at h
 rename_i n hn;split at h
 case isFalse=>simp at h
 rename_i hc;obtain⟨hlen,EO⟩:=hc;have hyc:=hy.cells;have hyl:y.cells.size=n:=by have:=hyc.len;simp at this;omega
 split at h
 .rename_i k off;split at h
  .rename_i cs hk;simp only[a06,a0j]at h;obtain⟨cs',ho,rfl,rfl⟩:=h;cases hx with
   |loc hm hb=>
    rename_i p;have hg:s.get (.l k)=some (.cells .own cs):=(by simp[St.get,hk]);obtain⟨w',r1,r2,r3⟩:=yK (P:=P) hV hm (hD _ (by simp[oO])) hg (a2J.2 rfl) (.inl ⟨rfl,rfl⟩) ho hyc (L8 EO);have JF:=(a02.1 hk).1;refine⟨rfl,w',?_,?_,?_,?_⟩
    .rw[hb,a3O]at r1;simp[Instr.storeAt,Instr.sureAddr,storeVar,bZ hn,hyl,r1]
    .rw[N9 s k cs' JF];exact r2
    .rw[N9 s k cs' JF];exact r3
    .rw[N9 s k cs' JF];exact Dw (by simp[hg])
  .simp at h
 .rename_i b off lim;split at h
  .rename_i KF;simp only[a06,a0j]at h;obtain⟨h',hs,rfl,rfl⟩:=h;cases hx with
   |val hx=>
    cases hx with
    |ptr hm hp hl ht=>
     rename_i ls p;obtain⟨kk,Bc,cs,cs',hb,xM,ho,rfl⟩:=Io hs;have hg:s.get (.h b)=some (.cells kk cs):=(by simp[St.get,hb]);obtain⟨w',r1,r2,r3⟩:=yK (P:=P) hV hm (hD _ (by simp[oO])) hg hp (hV.Yl hm (hD _ (by simp[oO])) hg hp hl xM) ho hyc (L8 EO);have JF:=(a02.1 hb).1;refine⟨rfl,w',?_,?_,?_,?_⟩
     .simp[Instr.storeAt,Instr.sureAddr,storeVar,bZ hn,hyl,r1]
     .rw[jl s b _ JF];exact r2
     .rw[jl s b _ JF];exact r3
     .rw[jl s b _ JF];exact Dw (by simp[hg])
  .simp at h
 .simp at h
theorem G6{n:Nat}{v:TV}{j:Nat}{N:Np}{x:Value}(h:idx n v=some j)(hx:VR N v x):∃k i,x=.int k i∧0<=i∧i<n∧j=i.toNat∧j<n:=by
 unfold idx at h;split at h
 .rename_i k i;split at h
  .rename_i hc;simp at h;subst h;cases hx;exact⟨k,i,rfl,hc.1,hc.2,rfl,by omega⟩
  simp at h
 simp at h
theorem Nj{o:Nat}{e e':EV}{x:Value}(h:PW o e=some e')(hx:ER M e x):∃a,x=.pointer (some a)∧ER M e' (.pointer (some (a.add o))):=by
 unfold PW at h;split at h
 .simp at h;subst h;cases hx with
  |loc hm hb=>exact⟨_,rfl,by rw[um];exact .loc hm hb⟩
 .rename_i b off lim;split at h
  .rename_i hl;simp at h;subst h;cases hx with
   |val hx=>
    cases hx with
    |ptr hm hp hl ht=>exact⟨_,rfl,by rw[um,a9v];exact .val (.ptr hm hp hl ht)⟩
  simp at h
 simp at h
theorem TB{t:TypeId}{f n:Nat}{e e':EV}{x:Value}(h1:FV P t f=some n)(h:PW n e=some e')(hx:ER M e x) :
  ∃y,ER M e' y∧(Instr.fieldAt t x f).run P w=.ok y w:=by
 obtain⟨a,rfl,he⟩:=Nj h hx;unfold FV at h1;split at h1
 .rename_i fs hu;split at h1
  .rename_i fd hf;split at h1
   .rename_i m hm;split at h1
    .simp at h1
    .rename_i hz;simp at h1;subst h1;refine⟨_,he,?_⟩;simp[Instr.fieldAt,run_underlying hu,hf,Instr.sureAddr,fieldPlace,bZ hm,hz]
   .simp at h1
  .simp at h1
 .simp at h1
theorem Nk{N:Np}{t:TypeId}{f:Nat}{v v':TV}{x:Value}(h:MQ P t v f=some v')(hx:VR N v x) :
  ∃y,VR N v' y∧(Instr.field t x f).run P w=.ok y w:=by
 unfold MQ at h;split at h
 .rename_i fs cs hu;split at h
  .rename_i fd hf;cases hx with
   |agg g1 g2=>
    obtain⟨y,r1,r2⟩:=a07 (P:=P) (w:=w) h ⟨g1,g2⟩;exact⟨y,r1,by simp[Instr.field,run_underlying hu,hf,asAgg,r2]⟩
  .simp at h
 .simp at h
theorem zU{t:TypeId}{e e':EV}{v:TV}{x y:Value}(h:lN P t e v=some e')(hx:ER M e x)(hy:VR M.h v y) :
  ∃z,ER M e' z∧(Instr.indexAt t x y).run P w=.ok z w:=by
 unfold lN at h;split at h
 .rename_i el hu;split at h
  .rename_i n b off len cap sz ex hn;split at h
   .rename_i uU;simp only[a06]at h;obtain⟨j,hj,rfl⟩:=h;subst uU;obtain⟨k,i,rfl,h0,h1,rfl,h2⟩:=G6 hj hy;cases hx with
    |val hx=>
     cases hx with
     |slc hb hp hl hle hc hex ha hk=>
      rename_i ls p a cap';rcases ha with ha|⟨rfl,ha⟩
      .omega
      .have hmul:i.toNat*n+n<=len*n:=by
        have:=a3r n (show i.toNat+1<=len by omega)
        rwa [a2Z,abl]at this
       have abn:cap*n<=cap'*n:=a3r n (by omega);have hp:=hp.resolve_left (by omega);refine⟨_,.val (.ptr hb hp (lim:=off+cap*n) (off:=off+i.toNat*n) (by omega) (by omega)),?_⟩;simp[Instr.indexAt,asIntOf,run_underlying hu,h0,h1,bZ hn,um,a9v]
   .simp at h
  .simp at h
 .rename_i len el hu;split at h
  .rename_i n hn;split at h
   .rename_i j hj;obtain⟨k,i,rfl,h0,h1,rfl,h2⟩:=G6 hj hy;obtain⟨a,rfl,he⟩:=Nj h hx;refine⟨_,he,?_⟩;simp[Instr.indexAt,asIntOf,run_underlying hu,Instr.sureAddr,h0,h1,bZ hn]
   .simp at h
  .simp at h
 .simp at h
theorem Nl{N:Np}{t:TypeId}{v u r:TV}{x y:Value}(h:Ii P t v u=some r)(hx:VR N v x)(hy:VR N u y) :
  ∃z,VR N r z∧(Instr.index t x y).run P w=.ok z w:=by
 unfold Ii at h;split at h
 .rename_i len el cs hu;split at h
  .rename_i n j hn hj;obtain⟨k,i,rfl,h0,h1,rfl,h2⟩:=G6 hj hy;cases hx with
   |agg g1 g2=>
    obtain⟨z,r1,r2⟩:=a07 (P:=P) (w:=w) h ⟨g1,g2⟩;exact⟨z,r1,by simp[Instr.index,asIntOf,run_underlying hu,h0,h1,bZ hn,r2]⟩
  .simp at h
 .rename_i bs hu;split at h
  .rename_i j hj;obtain⟨k,i,rfl,h0,h1,rfl,h2⟩:=G6 hj hy;simp only[a06]at h;obtain⟨b,hb,rfl⟩:=h;cases hx;exact⟨_,.int _ _,by simp[Instr.index,asIntOf,run_underlying hu,h0,hb]⟩
  .simp at h
 .simp at h
end
section
variable {P:Program} {M:Mp} {D:Key->Prop} {w:World} {s:St}
theorem a08{N:Np}:∀{az:List TV} {xs ys:List Value},Bv az=some xs->bV N az ys->ys=xs
 | [],xs,ys,h,hy=>by simp[Bv]at h;subst h;exact hy.pO
 |c::az,xs,ys,h,hy=>by
  simp only[Bv]at h;split at h
  .rename_i v vs h1 h2;simp at h;subst h;obtain⟨u,us,rfl,hu,hus⟩:=hy.iK;rw[vX h1 hu,a08 h2 hus]
  simp at h
def G7:NK->Value->Prop
 |.ptr,x=>x=.pointer none
 |.slc,x=>x=.slice none 0 0
 |.map,x=>x=.map none
 |.fn,x=>x=.nilFunc
 |.ifc,x=>x=.nilIface
def yB:NK->Value->Prop
 |.ptr,x=>∃a,x=.pointer (some a)
 |.slc,x=>∃a l c,x=.slice (some a) l c
 |.map,x=>∃r,x=.map (some r)
 |.fn,x=>∃f a c,x=.func f a c
 |.ifc,_=>False
theorem a09{N:Np}{v:TV}{k:NK}{x:Value}(h:Yi v=some k)(hx:VR N v x):G7 k x:=by
 cases hx<;>simp[Yi]at h<;>subst h<;>rfl
theorem Vu{N:Np}{v:TV}{k:NK}{x:Value}(h:Jz v=some k)(hx:VR N v x):yB k x:=by
 cases hx<;>simp[Jz]at h<;>subst h<;>simp[yB]
theorem a4u{t:TypeId}{k:NK}(h:JA P t=some k):match k with
  |.ptr=>∃e,P.underlying t=some (.pointer e)
  |.slc=>∃e,P.underlying t=some (.slice e)
  |.map=>∃e f,P.underlying t=some (.map e f)
  |.fn=>∃e f g,P.underlying t=some (.func e f g)
  |.ifc=>False:=by
 unfold JA at h;split at h<;>simp at h<;>subst h<;>simp_all
theorem a1Y{t:TypeId}{k:NK}{x y:Value}(h:JA P t=some k)(hxy:(G7 k x∧yB k y)∨(yB k x∧G7 k y))(d:Nat) :
  (Op.equalIn (d+1) t x y).run P w=.ok false w:=by
 have hk:=a4u h;cases k with
 |ptr=>
  obtain⟨e,hu⟩:=hk;rcases hxy with⟨hx,a,rfl⟩|⟨⟨a,rfl⟩,hy⟩
  .cases hx;simp[Op.equalIn,run_underlying hu]
  .cases hy;simp[Op.equalIn,run_underlying hu]
 |slc=>
  obtain⟨e,hu⟩:=hk;rcases hxy with⟨hx,a,l,c,rfl⟩|⟨⟨a,l,c,rfl⟩,hy⟩
  .cases hx;simp[Op.equalIn,run_underlying hu]
  .cases hy;simp[Op.equalIn,run_underlying hu]
 |map=>
  obtain⟨e,f,hu⟩:=hk;rcases hxy with⟨hx,a,rfl⟩|⟨⟨a,rfl⟩,hy⟩
  .cases hx;simp[Op.equalIn,run_underlying hu]
  .cases hy;simp[Op.equalIn,run_underlying hu]
 |fn=>
  obtain⟨e,f,g,hu⟩:=hk;rcases hxy with⟨hx,a,b,c,rfl⟩|⟨⟨a,b,c,rfl⟩,hy⟩
  .cases hx;simp[Op.equalIn,run_underlying hu]
  .cases hy;simp[Op.equalIn,run_underlying hu]
 |ifc=>exact hk.elim
theorem a0a{t:TypeId}{k:NK}{ox oy:Operand}{x y:Value}(h:JA P t=some k)(hxy:(G7 k x∧yB k y)∨(yB k x∧G7 k y))(b:Bool)(op:BinOp)(hb:(op=.eql∧b=false)∨(op=.neq∧b=true)) :
  (do eqGuard op t ox oy x y;binOp op t x y:Sem Value).run P w=.ok (.bool b) w:=by
 have he:(Op.equal t x y).run P w=.ok false w:=a1Y h hxy 9999;have hg:(eqGuard op t ox oy x y).run P w=.ok () w:=by
  cases k<;>rcases hxy with⟨hx,hy⟩|⟨hx,hy⟩<;>simp only[G7,yB]at hx hy <;>
   (first|(exact hy.elim)|(exact hx.elim)|skip)<;>(try obtain⟨_,rfl⟩:=hx)<;>(try obtain⟨_,rfl⟩:=hy)<;>(try obtain⟨_,_,rfl⟩:=hx)<;>(try obtain⟨_,_,rfl⟩:=hy)<;>(try subst hx)<;>(try subst hy) <;>
   (try obtain⟨_,_,_,rfl⟩:=hx)<;>(try obtain⟨_,_,_,rfl⟩:=hy)<;>rcases hb with⟨rfl,rfl⟩|⟨rfl,rfl⟩<;>simp[eqGuard]
 have PZ:(binOp op t x y).run P w=.ok (.bool b) w:=by
  cases k<;>rcases hxy with⟨hx,hy⟩|⟨hx,hy⟩<;>simp only[G7,yB]at hx hy <;>
   (first|(exact hy.elim)|(exact hx.elim)|skip)<;>(try obtain⟨_,rfl⟩:=hx)<;>(try obtain⟨_,rfl⟩:=hy)<;>(try obtain⟨_,_,rfl⟩:=hx)<;>(try obtain⟨_,_,rfl⟩:=hy)<;>(try subst hx)<;>(try subst hy) <;>
   (try obtain⟨_,_,_,rfl⟩:=hx)<;>(try obtain⟨_,_,_,rfl⟩:=hy)<;>rcases hb with⟨rfl,rfl⟩|⟨rfl,rfl⟩<;>simp only[binOp,Sem.run_bind,he,Result.andThen_ok,Sem.run_pure,aaw]
 simp only[Sem.run_bind,hg,Result.andThen_ok,PZ]
theorem Yq{N:Np}{op:BinOp}{t:TypeId}{ox oy:Operand}{a b r:TV}{x y:Value}(h:sD P op t ox oy a b=some r)(hx:VR N a x)(hy:VR N b y) :
  ∃z,VR N r z∧(do eqGuard op t ox oy x y;binOp op t x y:Sem Value).run P w=.ok z w:=by
 unfold sD at h;split at h
 .rename_i u v hu hv;split at h
  .rename_i z hz;have e1:=vX hu hx;have e2:=vX hv hy;subst e1;subst e2;exact⟨z,.yx h,iV hz w⟩
  .simp at h
 .split at h
  .rename_i hn;unfold BM at hn;split at hn
   case h_2=>simp at hn
   rename_i k hk;have hxy:(G7 k x∧yB k y)∨(yB k x∧G7 k y):=by
    simp only[a8G,a2a,a6v]at hn;rcases hn with⟨h1,h2⟩|⟨h1,h2⟩
    .exact .inl ⟨a09 h1 hx,Vu h2 hy⟩
    .exact .inr ⟨Vu h1 hx,a09 h2 hy⟩
   split at h
   .simp at h;subst h;exact⟨_,.bool false,a0a hk hxy false _ (.inl ⟨rfl,rfl⟩)⟩
   .simp at h;subst h;exact⟨_,.bool true,a0a hk hxy true _ (.inr ⟨rfl,rfl⟩)⟩
   .simp at h
  .simp at h
theorem iQ{N:Np}{op:UnOp}{a r:TV}{x:Value}(h:unT P op a=some r)(hx:VR N a x):∃z,VR N r z∧(Op.unary op x).run P w=.ok z w:=by
 unfold unT at h;split at h
 .rename_i u hu;split at h
  .rename_i z hz;have e1:=vX hu hx;subst e1;exact⟨z,.yx h,iV hz w⟩
  simp at h
 simp at h
theorem TD{N:Np}{t u:TypeId}{a r:TV}{x:Value}(h:Qo P t u a=some r)(hx:VR N a x):∃z,VR N r z∧(convert t u x).run P w=.ok z w:=by
 unfold Qo at h;split at h
 .rename_i u hu;split at h
  .rename_i z hz;have e1:=vX hu hx;subst e1;exact⟨z,.yx h,iV hz w⟩
  simp at h
 simp at h
theorem yM{N:Np}{mx:Bool}{at_:Array TypeId}{t:TypeId}{az:List TV}{r:TV}{xs:List Value}(h:Du P mx at_ t az=some r)(hx:bV N az xs) :
  ∃z,VR N r z∧(if mx then Builtin.max_ at_ t xs.toArray else Builtin.min_ at_ t xs.toArray).run P w=.ok z w:=by
 unfold Du at h;split at h
 .rename_i us hu;split at h
  .rename_i z hz;have e1:=a08 hu hx;subst e1;exact⟨z,.yx h,iV hz w⟩
  .simp at h
 .simp at h
theorem kX{n j:Nat}{v:TV}(h:qJ n v=some j):j<=n:=by
 unfold qJ at h;split at h
 .split at h
  .simp at h;omega
  simp at h
 simp at h
theorem sK{N:Np}{n j m:Nat}{v:TV}{x:Value}{code:BoundsCode}(h:qJ n v=some j)(hx:VR N v x)(hm:j<=m) :
  (Instr.sliceBound x m code).run P w=.ok j w:=by
 unfold qJ at h;split at h
 .rename_i k i;split at h
  .rename_i hc;simp at h;subst h;cases hx;have:i<=(m:Int):=(by omega);simp[Instr.sliceBound,asIntOf,hc.1,this]
  .simp at h
 .simp at h
inductive OR(N:Np):Option TV->Option Value->Prop
 |none:OR N none none
 |some {v:TV} {x:Value} (h:VR N v x):OR N (some v) (some x)
theorem xO{N:Np}{is:Bool}{len cap' n l0 hg:Nat}{lo hi:Option TV}{Yr vW:Option Value}(hl:OR N lo Yr)(hh:OR N hi vW)
  (h1:jk n len hi=some hg) (h2:jk hg 0 lo=some l0) (h3:hg<=cap'):(Instr.sliceBounds is len cap' Yr vW none).run P w=.ok (l0,hg,cap') w:=by
 cases hh with
 |none=>
  simp only[jk,a01]at h1;subst h1;cases hl with
  |none=>simp only[jk,a01]at h2;subst h2;simp[Instr.sliceBounds]
  |some hv=>simp only[jk]at h2;simp[Instr.sliceBounds,sK (P:=P) (w:=w) h2 hv (kX h2)]
 |some hv'=>
  simp only[jk]at h1;cases hl with
  |none=>simp only[jk,a01]at h2;subst h2;simp[Instr.sliceBounds,sK (P:=P) (w:=w) h1 hv' h3]
  |some hv=>simp only[jk]at h2;simp[Instr.sliceBounds,sK (P:=P) (w:=w) h1 hv' h3,sK (P:=P) (w:=w) h2 hv (kX h2)]
theorem EP{N:Np}{is:Bool}{len cap' n k l0 hg m:Nat}{lo:Option TV}{hi mx:TV}{Yr:Option Value}{vW mx':Value}(hl:OR N lo Yr)(hh:VR N hi vW)(hm:VR N mx mx')
  (h0:qJ k mx=some m) (h1:qJ n hi=some hg) (h2:jk hg 0 lo=some l0) (h3:hg<=m) (h4:m<=cap'):(Instr.sliceBounds is len cap' Yr (some vW) (some mx')).run P w=.ok (l0,hg,m) w:=by
 have r1:=fun code=>sK (P:=P) (w:=w) (code:=code) h0 hm h4;have r2:=fun code=>sK (P:=P) (w:=w) (code:=code) h1 hh h3;cases hl with
 |none=>simp only[jk,a01]at h2;subst h2;simp[Instr.sliceBounds,r1,r2]
 |some hv=>simp only[jk]at h2;simp[Instr.sliceBounds,r1,r2,sK (P:=P) (w:=w) h2 hv (kX h2)]
theorem Nq{N:Np}{t:TypeId}{v r:TV}{lo hi mx:Option TV}{x:Value}{Yr vW mx':Option Value}(h:qK P t v lo hi mx=some r)(hx:VR N v x)
  (hl:OR N lo Yr) (hh:OR N hi vW) (hm:OR N mx mx'):∃z,VR N r z∧(Instr.sliceAt t x Yr vW mx').run P w=.ok z w:=by
 unfold qK at h;split at h
 .-- strings
  rename_i bs hu;split at h
  .simp at h
  .cases hm;split at h
   .rename_i h0 Qv;split at h
    .rename_i l0 qF;simp at h;subst h;cases hx;refine⟨_,.str _,?_⟩;have hle:h0<=bs.size:=by
      cases hi with
      |none=>simp only[jk,a01]at Qv;omega
      |some v=>simp only[jk]at Qv;exact kX Qv
     have e1:=xO (P:=P) (w:=w) (is:=false) (cap':=bs.size) hl hh Qv qF hle;simp[Instr.sliceAt,Instr.slice,run_underlying hu,e1]
    .simp at h
   .simp at h
 .-- slices
  rename_i e b off len cap sz ex hu;split at h
  .rename_i n hn;split at h
   case isFalse=>simp at h
   rename_i uU;subst uU;cases hx with
   |slc hb hp ES hle wu hex ha hk=>
    rename_i ls p a cap';have fin:∀(l hgh m:Nat) (ex':Bool),l<=hgh->hgh<=len->hgh<=m->m<=cap'->(m':Nat)->m'<=m->m'<=cap->hgh<=m'->(ex'=true->m=m') ->
      VR N (.slc b (off+l*n) (hgh-l) (m'-l) n ex') (.slice (if m=l then some a else(some a).map (·.add (l*n))) (hgh-l) (m-l)):=by
     intro l hgh m ex' h1 h2 h3 h4 m' h5 h5' h6 h7;have hmul:l*n+(hgh-l)*n=hgh*n:=by rw[<-a2Z];congr 1;omega
     have abn:m'*n<=cap*n:=a3r n h5';have aqD:l*n+(m'-l)*n=m'*n:=by rw[<-a2Z];congr 1;omega
     have Bd:(if m=l then some a else(some a).map (·.add (l*n)))=some (if m=l then a else a.add (l*n)):=by split<;>rfl
     rw[Bd];refine .slc hb (hp.imp (fun e=>by omega) id) (by omega) (by omega) (by omega) (fun e=>by have:=h7 e;omega) ?_ (by omega);by_cases hml:m=l
     .left;omega
     .right;rcases ha with ha|⟨rfl,ha⟩
      .omega
      .rw[a0g hml,um];have aqE:l*n+(m-l)*n=m*n:=by rw[<-a2Z];congr 1;omega
       have aqF:m*n<=cap'*n:=a3r n h4;exact⟨by rw[a9v],by omega⟩
    split at h
    .rename_i m0;cases hm with
     |some Q5=>
      split at h
      .rename_i m h0 hm1;split at h
       .rename_i hg hh1;split at h
        .rename_i l0 qF;simp at h;subst h;cases hh with
         |some hhv=>
          have b1:=kX hm1;have b2:=kX hh1;have b3:l0<=hg:=by
           cases lo with
           |none=>simp only[jk,a01]at qF;omega
           |some v=>simp only[jk]at qF;exact kX qF
          have e1:=EP (P:=P) (w:=w) (is:=true) (len:=len) (cap':=cap') hl hhv Q5 hm1 hh1 qF (by omega) (by omega);exact⟨_,fin l0 hg m true b3 (by omega) (by omega) (by omega) m (by omega) (by omega) (by omega) (fun _=>rfl),by simp[Instr.sliceAt,Instr.slice,run_underlying hu,e1,bZ hn]⟩
        .simp at h
       .simp at h
      .simp at h
    .cases hm;split at h
     .rename_i hg Qv;split at h
      .rename_i l0 qF;simp at h;subst h;have hgl:hg<=len:=by
        cases hi with
        |none=>simp only[jk,a01]at Qv;omega
        |some v=>simp only[jk]at Qv;exact kX Qv
       have hlg:l0<=hg:=by
        cases lo with
        |none=>simp only[jk,a01]at qF;omega
        |some v=>simp only[jk]at qF;exact kX qF
       refine⟨_,fin l0 hg cap' ex hlg hgl (by omega) (by omega) cap wu (by omega) (by omega) hex,?_⟩;have e1:=xO (P:=P) (w:=w) (is:=true) (cap':=cap') hl hh Qv qF (by omega);simp[Instr.sliceAt,Instr.slice,run_underlying hu,e1,bZ hn]
      .simp at h
     .simp at h
  .simp at h
 .-- nil
  rename_i e hu;split at h
  .rename_i x0 x1 x2 x3 hn Qw Qv qF;split at h
   .simp at h
   .rename_i hg;simp at h;subst h;cases hx;refine⟨_,.Tt,?_⟩;have z1:∀{o:Option TV} {k:Nat},jk 0 0 o=some k->k=0:=fun{o k} e=>by
     cases o with
     |none=>simp only[jk,a01]at e;omega
     |some v=>simp only[jk]at e;have:=kX e;omega
    have e2:=z1 Qv;subst e2;have e3:=z1 qF;subst e3;have e1:(Instr.sliceBounds true 0 0 Yr vW mx').run P w=.ok (0,0,0) w:=by
     cases hm with
     |none=>exact xO hl hh Qv qF (by omega)
     |some Q5=>
      have e4:=z1 Qw;subst e4;cases hh with
      |none=>simp at hg
      |some hhv=>exact EP hl hhv Q5 Qw Qv qF (by omega) (by omega)
    simp[Instr.sliceAt,Instr.slice,run_underlying hu,e1,bZ hn]
  .simp at h
 .simp at h
theorem BX{t:TypeId}{e:EV}{r:TV}{lo hi mx:Option TV}{x:Value}{Yr vW mx':Option Value}(h:qo P t e lo hi mx=some r)(hx:ER M e x)
  (hl:OR M.h lo Yr) (hh:OR M.h hi vW) (hm:OR M.h mx mx'):∃z,VR M.h r z∧(Instr.sliceAt t x Yr vW mx').run P w=.ok z w:=by
 unfold qo at h;split at h
 .rename_i n el b off lim hu;split at h
  .rename_i size hn;split at h
   .simp at h
   .rename_i hc;cases hx with
    |val hx=>
    cases hx with
    |ptr hb hp ES amA=>
    rename_i ls p;split at h
    .rename_i m Qw;split at h
     .rename_i hg Qv;split at h
      .rename_i l0 qF;split at h
       .simp at h
       .rename_i hs;simp at h;subst h;have hmn:m<=n:=by
         cases mx with
         |none=>simp only[jk,a01]at Qw;omega
         |some v=>simp only[jk]at Qw;exact kX Qw
        have hgm:hg<=m:=by
         cases hi with
         |none=>
          cases mx with
          |some v=>simp at hs
          |none=>simp only[jk,a01]at Qv Qw;omega
         |some v=>simp only[jk]at Qv;exact kX Qv
        have hlg:l0<=hg:=by
         cases lo with
         |none=>simp only[jk,a01]at qF;omega
         |some v=>simp only[jk]at qF;exact kX qF
        have e1:(Instr.sliceBounds false n n Yr vW mx').run P w=.ok (l0,hg,m) w:=by
         cases hm with
         |none=>
          simp only[jk,a01]at Qw;subst Qw;exact xO hl hh Qv qF (by omega)
         |some Q5=>
          cases hh with
          |none=>simp at hs
          |some hhv=>
           simp only[jk]at Qw Qv;exact EP hl hhv Q5 Qw Qv qF (by omega) hmn
        have m1:l0*size+(hg-l0)*size=hg*size:=by rw[<-a2Z];congr 1;omega
        have m2:l0*size+(m-l0)*size=m*size:=by rw[<-a2Z];congr 1;omega
        have m3:hg*size<=n*size:=a3r size (by omega);have m4:m*size<=n*size:=a3r size (by omega);refine⟨.slice (some (if m=l0 then(⟨p.c,p.base+off,none⟩:Addr)else(⟨p.c,p.base+off,none⟩:Addr).add (l0*size))) (hg-l0) (m-l0),?_,?_⟩
        .refine .slc hb (.inr hp) (by omega) (by omega) (by omega) (fun _=>rfl) ?_ (by omega);by_cases hml:m=l0
         .left;omega
         .right;rw[a0g hml,um];exact⟨by rw[a9v],by omega⟩
        .simp[Instr.sliceAt,run_underlying hu,Instr.sureAddr,e1,bZ hn]
      .simp at h
     .simp at h
    .simp at h
  .simp at h
 .simp at h
theorem nT(z:List TV):∀n,(times z n).length=n*z.length
 | 0=>by simp[times]
 |n+1=>by simp[times,nT z n,a2Z,Nat.add_comm]
theorem Qx(z:List TV)(hz:0<z.length):∀(n i:Nat),i<n*z.length->(times z n)[i]? = z[i%z.length]?
 | 0,i,h=>by simp at h
 |n+1,i,h=>by
  simp only[times];by_cases hi:i<z.length
  .rw[a0c hi,Nat.mod_eq_of_lt hi]
  rw[a19 (by omega),Qx z hz n (i-z.length) (by rw[a2Z]at h;omega)];congr 1;rw[Nat.mod_eq_sub_mod (a:=i) (by omega)]
theorem Iq{z:List TV}(h:∀c∈z,iR c=true):∀n,∀c∈times z n,iR c=true
 | 0=>by simp[times]
 |n+1=>by
  intro c hc;simp only[times,a2X]at hc;rcases hc with hc|hc
  .exact h c hc
  exact Iq h n c hc
theorem Vw{N:Np}{z:List TV}{x:Array Value}(h:bV N z x.toList)(n m:Nat)(hm:m=n*z.length) :
  bV N (times z n) ((Array.range m).map (x[·%x.size]!)).toList:=by
 have hl:=h.len;simp only[a9p]at hl;refine⟨by simp[nT,hm],fun i c v a b=>?_⟩;have hi:i<n*z.length:=by have:=(a02.1 a).1;rwa [nT]at this
 have hz:0<z.length:=by
  rcases abm z.length with e|e
  .rw[e]at hi;simp at hi
  .exact e
 rw[Qx z hz n i hi]at a;have ah8:i%x.size<x.size:=Nat.mod_lt _ (by omega);have hb:v=x[i%x.size]:=by
  rw[adt,Array.getElem?_map]at b;simp only[Array.getElem?_range]at b;rw[a0i (by omega)]at b;simp only[a0U,a01]at b;rw[<-b,getElem!_pos x _ ah8]
 rw[hl]at a;exact h.at_ (i%x.size) c v a (by simp[hb,ah8])
theorem qN{t e:TypeId}{n:Nat}(h:jy P t=some (e,n)):P.underlying t=some (.slice e)∧dB P e=some n∧0<n:=by
 unfold jy at h;split at h
 .rename_i e' hu;split at h
  .rename_i n' hn;split at h
   .simp at h
   simp at h;obtain⟨rfl,rfl⟩:=h;exact⟨hu,hn,by omega⟩
  simp at h
 simp at h
theorem Qy{place:Nat->Option (Nat×Nat)}:∀{ps:List (Nat×TV)} {cs r:List TV},rY place cs ps=some r->r.length=cs.length
 | [],cs,r,h=>by simp[rY]at h;rw[h]
 |(i,v)::ps,cs,r,h=>by
  simp only[rY]at h;split at h
  .split at h
   .split at h
    .rename_i cs' ho;rw[Qy h,(vN ho).2.2]
    simp at h
   simp at h
  simp at h
theorem Qz{place:Nat->Option (Nat×Nat)}:∀{ps:List (Nat×TV)} {cs r:List TV},rY place cs ps=some r->(∀c∈cs,iR c=true) ->
  (∀p∈ps,∀c∈p.2.cells,iR c=true)->∀c∈r,iR c=true
 | [],cs,r,h,h1,_=>by simp[rY]at h;subst h;exact h1
 |(i,v)::ps,cs,r,h,h1,h2=>by
  simp only[rY]at h;split at h
  .split at h
   .split at h
    .rename_i cs' ho;exact Qz h (Vp ho h1 (h2 (i,v) (by simp))) (fun p hp=>h2 p (by simp[hp]))
    .simp at h
   .simp at h
  .simp at h
theorem tZ{t:TypeId}{len:Nat}{ps:List (Nat×TV)}{qs:List (Nat×Value)}{r:TV}{s1:St}(hV:Valid M D s.get w)(yL:M (.h s.heap.length)=none)
  (h:qp P t len s ps=some (r,s1)) (hq:PR M.h ps qs) :
  s1.env=s.env∧∃x w' M',(Instr.buildSlice t len qs.toArray).run P w=.ok x w'∧N8 M D s.get w (.val r) s1.get [] x w' M':=by
 unfold qp at h;split at h
 case h_2=>simp at h
 rename_i e n zM;obtain⟨hu,hn,hn0⟩:=qN zM;split at h
 case isFalse=>simp at h
 rename_i hc;obtain⟨hc1,Ie⟩:=hc;split at h
 case h_2=>simp at h
 rename_i z hz;split at h
 case isFalse=>simp at h
 rename_i Yc;split at h
 case h_2=>simp at h
 rename_i cs hf;simp at h;obtain⟨rfl,rfl⟩:=h;obtain⟨i,x,v,_,_,_,_,hz1,hvr,hzr⟩:=wo hz;have hx0:=(hvr M.h).len;simp only[a9p]at hx0;have ht:=Vw (hvr M.h) len (len*n) (by rw[Yc]);obtain⟨uN,g1,g2⟩:=L6 (place':=fun i=>some (i*n,n)) (fun i x hx=>hx) hf hq ht;have EO:∀c∈cs,iR c=true:=Qz hf (Iq hz1 len) (fun p hp=>by
  have:=a4l.1 Ie p hp;exact L8 this)
 have hlen:cs.length=uN.size:=by have:=g2.len;simpa using this
 have qg:cs.length=len*n:=by rw[Qy hf,nT,Yc]
 have yC:s.get (.h s.heap.length)=none:=by simp[St.get]
 have JE:∀(i:Nat) (c:TV) (v:Value),cs[i]? = some c->uN[i]? = some v->VR M.h c v:=fun i c v a b=>g2.at_ i c v a (by simpa using b);have fQ:=Nc hV e yL yC (agv hlen) JE EO;refine⟨rfl,.slice (some ⟨w.heap.size,0,none⟩) len len,w.alloc (.cells uN e),dK M (.h s.heap.length) (.cells [⟨w.heap.size,0,cs.length,uN.size⟩]),?_,⟨?_,?_,?_,qM yL⟩⟩
 .have hle:¬(len*n>2^24):=by omega
  by_cases h0:len*n=0
  .have amC:cs=[]:=a3Q (by omega);have g1':Instr.fill (fun i=>some (i*n,n)) ((Array.range (len*n)).map ((#[]:Array Value)[·%(#[]:Array Value).size]!)) qs=some uN:=by
    rw[h0]at g1 ⊢;have e0:Array.range 0=#[]:=rfl;rw[e0]at g1 ⊢;simpa using g1
   simp only[Instr.buildSlice,Sem.run_bind,run_underlying hu,Result.andThen_ok,bZ hn];rw[a0g hle,a0i h0];simp only[Sem.run_pure,Sem.run_bind,Result.andThen_ok,g1',newRow,run_newObj,World.alloc]
  .simp only[Instr.buildSlice,Sem.run_bind,run_underlying hu,Result.andThen_ok,bZ hn];rw[a0g hle,a0g h0];simp only[Sem.run_pure,Sem.run_bind,Result.andThen_ok,hzr w,g1,newRow,run_newObj,World.alloc]
 .rw[jW];exact fQ.1
 .rw[jW];exact fQ.2
 .have hlb:len<2^63:=by
   have:=Nat.le_mul_of_pos_right len (show 0<n by omega);omega
  refine .val (.slc (ls:=[⟨w.heap.size,0,cs.length,uN.size⟩]) (p:=⟨w.heap.size,0,cs.length,uN.size⟩) (by simp[Mp.h,dK]) (by simp) (by simp[qg]) (a0V _) (a0V _) (fun _=>rfl) (.inr ⟨by simp,by simp;omega⟩) hlb)
end
section
variable {P:Program} {M:Mp} {D:Key->Prop} {w:World} {s:St}
theorem a0d{i:Int}(h0:0<=i)(h1:i<=2^40):i64.wrap i=i:=by
 have h2:i%(2^64:Int)=i:=a8e h0 (by omega);simp only[IntKind.wrap,IntKind.bits,IntKind.signed,h2];rw[a0g];simp only[ad5,a1E,ge_iff_le];omega
theorem QA{N:Np}{v:TV}{n:Nat}{x:Value}(h:a1R v=some n)(hx:VR N v x):∃k i,x=.int k i∧0<=i∧i<=2^40∧n=i.toNat:=by
 unfold a1R at h;split at h
 .split at h
  .rename_i k i hc;simp at h;subst h;cases hx;exact⟨k,i,rfl,hc.1,hc.2,rfl⟩
  simp at h
 simp at h
theorem zV{e:TypeId}{n:Nat}(h:tY P e n=true):∃i x,P.info? e=some i∧i.zero=some x∧x.cells.size=i.size∧n*i.bytes<=2^40∧n<=2^40∧i.bytes<=2^20∧0<i.bytes:=by
 unfold tY at h;split at h
 .rename_i i hi;simp only[a2a,a1E]at h;obtain⟨⟨⟨⟨h1,h2⟩,h3⟩,h4⟩,h5⟩:=h;unfold a4j at h5;split at h5
  .rename_i x hx;exact⟨i,x,hi,hx,by simpa using h5,h1,h2,h3,h4⟩
  simp at h5
 simp at h
theorem zW{t:TypeId}{a b r:TV}{x y:Value}{s1:St}(hV:Valid M D s.get w)(yL:M (.h s.heap.length)=none)
  (h:sF P t s a b=some (r,s1)) (hx:VR M.h a x) (hy:VR M.h b y) :
  s1.env=s.env∧∃z w' M',(Instr.makeSlice t x y).run P w=.ok z w'∧N8 M D s.get w (.val r) s1.get [] z w' M':=by
 unfold sF at h;split at h
 case h_2=>simp at h
 rename_i e n l c zM hl hc;obtain⟨hu,hn,hn0⟩:=qN zM;obtain⟨_,li,rfl,l0,l1,rfl⟩:=QA hl hx;obtain⟨_,ci,rfl,c0,c1,rfl⟩:=QA hc hy;split at h
 case isFalse=>simp at h
 rename_i QB;obtain⟨hlc,JG⟩:=QB;obtain⟨i,zx,hi,hzx,hzs,BU,xP,hb3,hb4⟩:=zV JG;split at h
 case h_2=>simp at h
 rename_i z hz;split at h
 case isFalse=>simp at h
 rename_i Yc;simp at h;obtain⟨rfl,rfl⟩:=h;obtain⟨i',x,v,vW,ET,_,_,hz1,hvr,hzr⟩:=wo hz;rw[hi]at vW;cases vW;have ht:=Vw (hvr M.h) ci.toNat (ci.toNat*n) (by rw[Yc])
 let arr:Array Value:=(Array.range (ci.toNat*n)).map (x.cells[·%x.cells.size]!)
 have hlen:(times z ci.toNat).length=arr.size:=by have:=ht.len;simpa[arr]using this
 have qg:(times z ci.toNat).length=ci.toNat*n:=by rw[nT,Yc]
 have yC:s.get (.h s.heap.length)=none:=by simp[St.get]
 have JE:∀(i:Nat) (c:TV) (v:Value),(times z ci.toNat)[i]? = some c->arr[i]? = some v->VR M.h c v:=fun i c v a b=>ht.at_ i c v a (by rw[adt];exact b);have fQ:=Nc hV e yL yC (agv hlen) JE (Iq hz1 _);have hmul:(li.toNat)*n<=ci.toNat*n:=a3r n hlc;refine⟨rfl,.slice (some ⟨w.heap.size,0,none⟩) li.toNat ci.toNat,w.alloc (.cells arr e),dK M (.h s.heap.length) (.cells [⟨w.heap.size,0,(times z ci.toNat).length,arr.size⟩]),?_,⟨?_,?_,?_,qM yL⟩⟩
 .have hwl:=a0d l0 l1;have hwc:=a0d c0 c1;have KG:¬((i.bytes:Int)*ci>2^48):=by
   have e1:(ci.toNat*i.bytes:Nat)<=2^40:=BU;have e2:((i.bytes:Int)*ci)=((ci.toNat*i.bytes:Nat):Int):=by
    rw[Nat.mul_comm,adN,agB c0]
   omega
  simp only[Instr.makeSlice,Sem.run_bind,run_underlying hu,Result.andThen_ok,asInt,asIntOf,Sem.run_pure,iT hi,hwl,hwc];rw[a0g (by simp;exact⟨⟨⟨c0,by omega⟩,l0⟩,by omega⟩)];simp only[Sem.run_bind,run_askRoom,Result.andThen_ok,bZ hn];by_cases h0:ci.toNat*n=0
  .rw[a0i h0];have e0:arr=#[]:=Array.eq_empty_of_size_eq_zero (by omega);have e1:(Array.range (ci.toNat*n)).map ((#[]:Array Value)[·%(#[]:Array Value).size]!)=#[]:=by
    rw[h0];have e0:Array.range 0=#[]:=rfl;rw[e0];simp
   simp only[Sem.run_pure,Result.andThen_ok,e1,newRow,Sem.run_bind,run_newObj,World.alloc,e0]
  .rw[a0g h0];simp only[Sem.run_bind,hzr w,Sem.run_pure,Result.andThen_ok,newRow,run_newObj,World.alloc,arr]
 .rw[jW];exact fQ.1
 .rw[jW];exact fQ.2
 .refine .val (.slc (ls:=[⟨w.heap.size,0,(times z ci.toNat).length,arr.size⟩]) (p:=⟨w.heap.size,0,(times z ci.toNat).length,arr.size⟩) (by simp[Mp.h,dK]) (by simp) (by simp[qg]) hlc (a0V _) (fun _=>rfl) (.inr ⟨by simp,by simp;omega⟩) (by omega))
theorem Yt{at_:Array TypeId}{t:TypeId}{v r:TV}{i:lK}{x:Value}(hV:Valid M D s.get w)(h:Yh P at_ s.heap v=some (r,i))(hx:VR M.h v x)(hD:∀k∈i.ts,D k) :
  i.ws=[]∧∃z,VR M.h r z∧(Builtin.len_ at_ t #[x]).run P w=.ok z w:=by
 unfold Yh at h;split at h
 case h_2=>simp at h
 rename_i t0 ht0;split at h
 .rename_i b hu;simp at h;obtain⟨rfl,rfl⟩:=h;cases hx;exact⟨rfl,_,.int _ _,by simp[Builtin.len_,ht0,run_underlying hu,goInt]⟩
 .rename_i n el _ hu;simp at h;obtain⟨rfl,rfl⟩:=h;exact⟨rfl,_,.int _ _,by simp[Builtin.len_,ht0,run_underlying hu,goInt]⟩
 .rename_i el b off len cap sz ex hu;simp at h;obtain⟨rfl,rfl⟩:=h;cases hx;exact⟨rfl,_,.int _ _,by simp[Builtin.len_,ht0,run_underlying hu,goInt]⟩
 .rename_i el hu;simp at h;obtain⟨rfl,rfl⟩:=h;cases hx;exact⟨rfl,_,.int _ _,by simp[Builtin.len_,ht0,run_underlying hu,goInt]⟩
 .rename_i k el hu;simp at h;obtain⟨rfl,rfl⟩:=h;cases hx;exact⟨rfl,_,.int _ _,by simp[Builtin.len_,ht0,run_underlying hu,goInt]⟩
 .rename_i k el r0 hu;split at h
  .rename_i es he;simp at h;obtain⟨rfl,rfl⟩:=h;cases hx with
   |map hm=>
    obtain⟨fV,h1,h2⟩:=hV.ok _ _ hm (hD _ (by simp[xg]));simp only[St.get,he,a01]at h1;subst h1;obtain⟨xs,g1,g2⟩:=h2;have g2:=g2.len;refine⟨rfl,_,.int _ _,?_⟩;simp[Builtin.len_,ht0,run_underlying hu,goInt,getObj,Sem.run,g1,g2]
  .simp at h
 .simp at h
end
section
variable {P:Program} {M:Mp} {D:Key->Prop} {w:World} {s:St}
theorem BZ{C:Ct}{size n:Nat}{v:TV}{l:List TV}{x:Value}{h:List HB}(hh:∀b,C (.h b)=h[b]?)(hV:Valid M D C w)(hs:fD size h v=some (n,l))(hx:VR M.h v x)(hD:∀k∈dH v,D k) :
  (Builtin.lenOf x).run P w=.ok n w∧(∀c∈l,iR c=true)∧∃arr,(∀w':World,w'.heap=w.heap->(Builtin.firstCells size n x).run P w'=.ok arr w')∧bV M.h l arr.toList:=by
 unfold fD at hs;split at hs
 .simp at hs;obtain⟨rfl,rfl⟩:=hs;cases hx;exact⟨by simp[Builtin.lenOf],by simp,#[],fun w' _=>by simp[Builtin.firstCells],.nil⟩
 .rename_i b off len cap sz ex;split at hs
  .rename_i uU;subst uU;split at hs
   .rename_i hz;subst hz;simp at hs;obtain⟨rfl,rfl⟩:=hs;cases hx with
    |slc hm hp ES hle wu hex ha hk=>
     exact⟨by simp[Builtin.lenOf],by simp,#[],fun w' _=>by simp[Builtin.firstCells,loadCells,loadCellsFrom],.nil⟩
   split at hs
   .rename_i cs hb;simp only[a06,a0j]at hs;obtain⟨r,hr,rfl,rfl⟩:=hs;cases hx with
    |slc hm hp ES hle wu hex ha hk=>
     rename_i ls p a cap';obtain⟨k,hk,Vt⟩:=xK hb;obtain⟨fV,h1,h2⟩:=hV.ok _ _ hm (hD _ (by simp[dH]));rw[hh,hk]at h1;cases h1;obtain⟨g1,g2,_⟩:=h2;obtain⟨s1,s2,s3⟩:=uo hr;refine⟨by simp[Builtin.lenOf],fun c hc=>g1 c (by rw[s2]at hc;exact a4P (a8B hc)),?_⟩;by_cases h0:cap'=0
     .have qF:len=0:=(by omega);subst qF;have:r=[]:=a3Q (by rw[s3];simp);subst this;exact⟨#[],fun w' _=>by simp[Builtin.firstCells,loadCells,loadCellsFrom],.nil⟩
     .rcases ha with ha|⟨rfl,ha⟩
      .exact absurd ha h0
      .obtain⟨xs,x1,x2⟩:=yA (P:=P) (g2 p (hp.resolve_left h0)) hr (by have:=a3r sz hle;omega) (fun e=>by have:=Vt e;have:=(g2 p (hp.resolve_left h0)).ext;omega);exact⟨xs.toArray,fun w' hw'=>by simp[Builtin.firstCells,x2 w' hw'],x1⟩
   .simp at hs
  .simp at hs
 .rename_i bs;split at hs
  .rename_i uU;simp at hs;obtain⟨rfl,rfl⟩:=hs;cases hx;refine⟨by simp[Builtin.lenOf],by simp[iR],(bs.extract 0 bs.size).data.map fun b=>.int .u8 b.toNat,fun w' _=>rfl,?_⟩;refine⟨by simp,fun i c v a b=>?_⟩;simp only[a4d,a06]at a;obtain⟨y,hy,rfl⟩:=a;rw[show bs.extract 0 bs.size=bs from by simp]at b;simp only[Array.toList_map,a4d,hy,a0U,a01]at b;rw[<-b];exact .int _ _
  .simp at hs
 .simp at hs
theorem TF{size n b off len cap sz:Nat}{ex:Bool}{l:List TV}{h:List HB}(hs:fD size h (.slc b off len cap sz ex)=some (n,l)):sz=size∧n=len∧l.length=len*size:=by
 simp only[fD]at hs;split at hs
 .rename_i hz;split at hs
  .rename_i h0;cases hs;exact⟨hz,h0.symm,by simp[h0]⟩
  split at hs
  .simp only[a06,a0j]at hs;obtain⟨r,hr,rfl,rfl⟩:=hs;exact⟨hz,rfl,(uo hr).2.2⟩
  cases hs
 cases hs
theorem QC(N:Nat):∀(r c:Nat),c<=2*N+192->Builtin.growBy N r c<=2*N+192
 | 0,c,h=>by simpa[Builtin.growBy]using h
 |r+1,c,h=>by
  simp only[Builtin.growBy];split
  .exact h
  exact QC N r _ (by omega)
theorem Yu{KH c:Nat}(h:c<KH):Builtin.nextslicecap KH c<=2*KH+192:=by
 unfold Builtin.nextslicecap;split
 .omega
 split
 .omega
 exact QC KH 4 c (by omega)
theorem a8N{KH c b:Nat}(h:c<KH)(h1:KH*b<=2^40)(h2:b<=2^20):¬(Builtin.nextslicecap KH c*b>2^48):=by
 have e1:=Yu h;have e2:Builtin.nextslicecap KH c*b<=(2*KH+192)*b:=a3r b e1;have e3:(2*KH+192)*b=2*(KH*b)+192*b:=by rw[a2Z,Nat.mul_assoc]
 omega
theorem wz(z:Array Value)(n:Nat):(Builtin.zeroCells z n).size=n*z.size:=by simp[Builtin.zeroCells]
def wB:TypeDesc->Bool
 |.int _=>true
 |_=>false
theorem Yv{t:TypeId}(h:¬(Tj P t||(P.underlying t).isNone)=true):∃d,P.underlying t=some d∧wB d=false:=by
 simp only[a8G,ada,agr]at h;obtain⟨h1,h2⟩:=h;cases hu:P.underlying t with
 |none=>simp[hu]at h2
 |some d=>
  refine⟨d,rfl,?_⟩;unfold Tj at h1;rw[hu]at h1;cases d<;>simp_all [wB]
theorem EU{at_:Array TypeId}{st xt e:TypeId}{size n sLen sCap:Nat}{i:TypeInfo}{z sv xv:Value}{base:Option Addr}{d:TypeDesc}{old new:Array Value}{ty:TypeId}
  (h0:at_[0]? = some st) (h1:at_[1]? = some xt) (hu:P.underlying st=some (.slice e)) (hn:dB P e=some size) (JH:P.underlying xt=some d) (hd:wB d=false)
  (hi:P.info? e=some i) (hz:i.zero=some z) (hsv:sv=.slice base sLen sCap)
  (hl:(Builtin.lenOf xv).run P w=.ok n w) (wu:sCap<sLen+n) (BU:(sLen+n)*i.bytes<=2^40) (xP:sLen+n<=2^40) (hb3:i.bytes<=2^20)
  (hold:∀w':World,w'.heap=w.heap->(Builtin.firstCells size sLen sv).run P w'=.ok old w') (fQ:∀w':World,w'.heap=w.heap->(Builtin.firstCells size n xv).run P w'=.ok new w') :
  ∃kD,sLen+n<=kD∧kD<2^63∧(Builtin.append_ at_ ty #[sv,xv]).run P w=.ok (.slice (some ⟨w.heap.size,0,none⟩) (sLen+n) kD) (w.drew.alloc (.cells (old++new++Builtin.zeroCells z.cells (kD-(sLen+n))) e)):=by
 subst hsv;refine⟨(Question.appendCap (sLen+n) sCap e).cut (w.tape w.drawn (.appendCap (sLen+n) sCap e)),by simp[Question.cut],?_,?_⟩
 .have:=Nat.mod_lt (w.tape w.drawn (.appendCap (sLen+n) sCap e)) (show 0<2^63-(sLen+n) by omega);simp only[Question.cut];omega
 have hz':∀w,(zeroValue e).run P w=.ok z w:=fun w=>by simp[zeroValue,iT hi,hz]
 have hq:(Question.appendCap (sLen+n) sCap e).forced=false:=rfl;have hle:¬(sLen+n<=sCap):=by omega
 have KG:¬(((sLen+n:Nat):Int)>i64.max):=by
  have:i64.max=2^63-1:=rfl;rw[this];omega
 have JG:=a8N wu BU hb3;have e1:=hold w.drew rfl;have e2:=fQ w.drew rfl;unfold Builtin.append_;simp only[ads,a2C,a9g,h0,h1];simp only[Sem.run_bind,run_underlying hu,Result.andThen_ok,bZ hn,run_underlying JH,Sem.run_pure];rw[a0g (by cases d<;>simp_all [wB])];simp only[Sem.run_bind,hl,Result.andThen_ok];rw[a0g hle];simp only[Sem.run_bind,iT hi,Result.andThen_ok];rw[a0g (fun h=>KG h.1)];simp only[Sem.run_bind,iT hi,Result.andThen_ok];rw[a0g JG];simp only[Sem.run_bind,Sem.run_pure,run_choose,hq,a2l,a3a,Result.andThen_ok,iT hi,run_askRoom,World.drew_eq,e1];rw[a0i (by cases d<;>simp_all [wB])];simp only[Sem.run_bind,Sem.run_pure,Result.andThen_ok,e2,hz',newRow,run_newObj,World.size_drew,World.alloc_eq]
theorem QD{at_:Array TypeId}{st xt e:TypeId}{size n sLen sCap:Nat}{a:Addr}{sv xv:Value}{d:TypeDesc}{new:Array Value}{ty:TypeId}{w':World}
  (h0:at_[0]? = some st) (h1:at_[1]? = some xt) (hu:P.underlying st=some (.slice e)) (hn:dB P e=some size) (JH:P.underlying xt=some d) (hd:wB d=false)
  (hsv:sv=.slice (some a) sLen sCap) (hl:(Builtin.lenOf xv).run P w=.ok n w) (wu:sLen+n<=sCap)
  (fQ:(Builtin.firstCells size n xv).run P w=.ok new w) (vO:(storeCells (a.add (sLen*size)) new.toList).run P w=.ok () w') :
  (Builtin.append_ at_ ty #[sv,xv]).run P w=.ok (.slice (some a) (sLen+n) sCap) w':=by
 subst hsv;unfold Builtin.append_;simp only[ads,a2C,a9g,h0,h1];simp only[Sem.run_bind,run_underlying hu,Result.andThen_ok,bZ hn,run_underlying JH,Sem.run_pure];rw[a0g (by cases d<;>simp_all [wB])];simp only[Sem.run_bind,hl,Result.andThen_ok];rw[a0i wu];rw[a0i (by cases d<;>simp_all [wB])];simp only[Sem.run_bind,fQ,Result.andThen_ok,vO,Sem.run_pure]
theorem Vx{at_:Array TypeId}{st xt e:TypeId}{size sLen sCap:Nat}{base:Option Addr}{sv xv:Value}{d:TypeDesc}{new:Array Value}{ty:TypeId}
  (h0:at_[0]? = some st) (h1:at_[1]? = some xt) (hu:P.underlying st=some (.slice e)) (hn:dB P e=some size) (JH:P.underlying xt=some d) (hd:wB d=false)
  (hsv:sv=.slice base sLen sCap) (hl:(Builtin.lenOf xv).run P w=.ok 0 w) (wu:sLen<=sCap)
  (fQ:(Builtin.firstCells size 0 xv).run P w=.ok new w) (iC:new.toList=[]) :
  (Builtin.append_ at_ ty #[sv,xv]).run P w=.ok sv w:=by
 subst hsv;unfold Builtin.append_;simp only[ads,a2C,a9g,h0,h1];simp only[Sem.run_bind,run_underlying hu,Result.andThen_ok,bZ hn,run_underlying JH,Sem.run_pure];rw[a0g (by cases d<;>simp_all [wB])];simp only[Sem.run_bind,hl,Result.andThen_ok];rw[a0i (by omega)];rw[a0i (by cases d<;>simp_all [wB])];simp only[Sem.run_bind,fQ,Result.andThen_ok];cases base<;>simp[iC,storeCells]
end
section
variable {P:Program} {M:Mp} {D:Key->Prop} {w:World} {s:St}
def BOk(P:Program)(M:Mp)(D:Key->Prop)(C:Ct)(w:World)(c:Sem Value)(v:TV)(C1:Ct)(ws:List Key):Prop:=
 ∃x w' M',c.run P w=.ok x w'∧N8 M D C w (.val v) C1 ws x w' M'
theorem Ext.drew'{M0:Mp}{C0:Ct}{w0:World}{M:Mp}{C:Ct}{w:World}{ws:List Key}(h:Ext M0 C0 w0.drew M C w ws):Ext M0 C0 w0 M C w ws:=
 ⟨h.Ic,h.frame,h.mY,h.kW,h.fresh,h.size,h.has,h.wsub,h.wrote,h.os,h.output,h.tape⟩
theorem bV.TG{N:Np}{l:List TV}{arr:Array Value}(h:bV N l arr.toList){i:Nat}{c:TV}{v:Value}(a:l[i]? = some c)(b:arr[i]? = some v):VR N c v:=
 h.at_ i c v a (by rw[adt];exact b)
theorem Vy(hV:Valid M D s.get w)(yL:M (.h s.heap.length)=none){cs:List TV}{pre rest:Array Value}{e:TypeId}(hx:bV M.h cs pre.toList)(hn:∀c∈cs,iR c=true)
  {len kD size:Nat} (QE:cs.length=len*size) (hle:len<=kD) (hk:kD<2^63) (Nr:rest.size=(kD-len)*size) :
  ∃M',N8 M D s.get w (.val (.slc s.heap.length 0 len len size false)) (St.get { s with heap:=s.heap++[.cells .own cs] }) [] (.slice (some ⟨w.heap.size,0,none⟩) len kD) (w.drew.alloc (.cells (pre++rest) e)) M':=by
 have yC:s.get (.h s.heap.length)=none:=by simp[St.get]
 have Eo:pre.size=cs.length:=by have:=hx.len;simp at this;omega
 have amA:(pre++rest).size=kD*size:=by
  have:len*size+(kD-len)*size=kD*size:=by rw[<-a2Z];congr 1;omega
  simp;omega
 have hmul:len*size<=kD*size:=a3r size hle;have Yw:Valid M D s.get w.drew:=hV.of_heap rfl;have fQ:=Nc Yw (cs:=cs) (arr:=pre++rest) e yL yC (by omega) (fun i c v a b=>by
  have hi:=(a02.1 a).1;rw[a9C (by omega)]at b;exact hx.TG a b) hn
 refine⟨dK M (.h s.heap.length) (.cells [⟨w.heap.size,0,cs.length,(pre++rest).size⟩]),⟨?_,?_,?_,qM yL⟩⟩
 .rw[jW];exact fQ.1
 .rw[jW];exact fQ.2.drew'
 .exact .val (.slc (ls:=[⟨w.heap.size,0,cs.length,(pre++rest).size⟩]) (p:=⟨w.heap.size,0,cs.length,(pre++rest).size⟩) (by simp[Mp.h,dK]) (by simp) (by simp[QE]) (a0V _) hle (fun h=>by simp at h) (.inr ⟨by simp,by simp only[a3O];omega⟩) hk)
theorem Ep:∀{ls:List Pl},(ls.map (·.c)).Nodup->∀{p q:Pl},p∈ls->q∈ls->q.c=p.c->q=p
 | [],_,p,q,hp,_,_=>by simp at hp
 |a::ls,h,p,q,hp,hq,e=>by
  simp only[a3U,a3Z]at h;rcases a2e.1 hp with h1|h1<;>rcases a2e.1 hq with h2|h2
  .rw[h1,h2]
  .exact(h.1 (a1d.2 ⟨q,h2,by rw[e,h1]⟩)).elim
  .exact(h.1 (a1d.2 ⟨p,h1,by rw[<-e,h2]⟩)).elim
  exact Ep h.2 h1 h2 e
theorem a0e(hV:Valid M D s.get w){b:Nat}{k:BK}{cs new:List TV}{ls:List Pl}{p:Pl}{x:Array Value}(hm:M (.h b)=some (.cells ls))(hd:D (.h b))(hb:s.heap[b]? = some (.cells k cs))
  (hk:k≠.ro) (hp:p∈ls) (ES:cs.length<=p.ext) (hx:bV M.h new x.toList) (hn:∀c∈new,iR c=true) (iC:new≠[]) {w':World}
  (fl:Bool) (old rest:Array Value) (ty0:TypeId)
  (hw:(fl=true∧cs.length+new.length<=p.tot∧(storeCells ⟨p.c,cs.length,none⟩ x.toList).run P w=.ok () w') ∨
   (fl=false∧bV M.h cs old.toList∧w'=w.drew.alloc (.cells (old++x++rest) ty0))) :
  ∃M' q,Valid M' D (St.get { s with heap:=s.heap.set b (.cells k.more (cs++new)) }) w'∧Ext M s.get w M' (St.get { s with heap:=s.heap.set b (.cells k.more (cs++new)) }) w' [.h b] ∧
   (∀j l,M (.l j)=some l->M' (.l j)=some l)∧(∃xJ,M' (.h b)=some (.cells xJ)∧q∈xJ)∧cs.length+new.length<=q.ext∧q.base=0 ∧
   ((fl=true∧q.c=p.c∧q.tot=p.tot)∨(fl=false∧q.c=w.heap.size∧q.tot=(old++x++rest).size)):=by
 have hg:s.get (.h b)=some (.cells k cs):=by simp[St.get,hb]
 have yN:=(a02.1 hb).1;obtain⟨fV,h1,h2⟩:=hV.ok _ _ hm hd;rw[hg]at h1;cases h1;obtain⟨ho,Eo,aha,a0f⟩:=h2;have hxl:=hx.len;simp only[a9p]at hxl;have jm:(ls.map (·.c)).Nodup:=by
  cases k with
  |ro=>exact absurd rfl hk
  |own=>obtain⟨q,rfl,_⟩:=aha rfl;simp
  |grow=>exact(a0f (.inl rfl)).1
  |last=>exact(a0f (.inr rfl)).1
 have aqJ:∀q∈ls,q.ext=cs.length->q=p:=by
  intro q hq he;cases k with
  |ro=>exact absurd rfl hk
  |own=>
   obtain⟨q',e',_⟩:=aha rfl;rw[e']at hp hq;simp at hp hq;rw[hq,hp]
  |grow=>
   have:=(Eo p hp).ext;exact(a0f (.inl rfl)).2 q hq p hp he (by omega)
  |last=>
   have:=(Eo p hp).ext;exact(a0f (.inr rfl)).2 q hq p hp he (by omega)
 have hpe:p.ext=cs.length:=by have:=(Eo p hp).ext;omega
 have hpb:p.base=0:=(Eo p hp).base hk;have hmr:k.more≠.own:=by cases k<;>simp[BK.more]
 have hml:k.more=.last->k=.last:=by cases k<;>simp[BK.more]
 have EO:∀c∈cs++new,iR c=true:=by
  intro c hc;rcases a2X.1 hc with h|h
  .exact ho c h
  .exact hn c h
 rcases hw with⟨hfl,JG,vO⟩|⟨hfl,hold,rfl⟩
 .-- in place
  let p':Pl:={ p with ext:=cs.length+new.length }
  let xJ:List Pl:=ls.map fun q=>if q.c=p.c then p' else q
  have hqp:∀q∈ls,q.c=p.c->q=p:=by
   intro q hq he;exact Ep jm hp hq he
  have hp':p'∈xJ:=a1d.2 ⟨p,hp,by simp⟩;have a4y:xJ.map (·.c)=ls.map (·.c):=by
   simp only[xJ,a6r];apply a5H;intro q hq;simp only[Function.comp];split
   .rename_i he;exact he.symm
   .rfl
  have hlc:KC (.cells ls) (.cells xJ):=by
   intro q hq;by_cases he:q.c=p.c
   .have:=hqp q hq he;subst this;exact⟨p',hp',rfl,rfl,by simp[p'];omega,rfl⟩
   .exact⟨q,a1d.2 ⟨q,hq,by simp[he]⟩,rfl,rfl,a0V _,rfl⟩
  obtain⟨arr,ty,fz,r1,r2,r3,r4⟩:=(Eo p hp).row;have:=r3 hk;subst this;have ahd:∀v∈x.toList,v.oneCell'=true:=by
   intro v hv;obtain⟨i,hi,rfl⟩:=a4m.1 hv;have vW:i<new.length:=by simp at hi;omega
   exact Ik (hx.at_ i new[i] x.toList[i] (by simp[vW]) (by simp)) (hn _ (a4h vW))
  have vG:=run_storeCells_at (P:=P) p.c cs.length ty x.toList 0 arr w r1 (by simp;omega) ahd;simp only[adr,a9p]at vG;rw[vG]at vO;have amH:=Result.ok.inj vO;obtain⟨_,rfl⟩:=amH
  let w':World:=w.setRow p.c (arr.toList.take cs.length++x.toList++arr.toList.drop (cs.length+x.size)).toArray
  have gq:∀c,c<w.heap.size->c∉aJ (.cells xJ)->w'.heap[c]? = w.heap[c]?:=fun c _ hc=>vC w p.c _ c (fun e=>hc (by rw[e];exact a1d.2 ⟨p',hp',rfl⟩));have fQ:∀c∈aJ (.cells xJ),(∃l0,M (.h b)=some l0∧c∈aJ l0)∨w.heap.size<=c:=fun c hc=>.inl ⟨_,hm,by simp only[aJ]at hc ⊢;rwa [a4y]at hc⟩;have Ip:rZ M (dK M (.h b) (.cells xJ)):=lS fun l0 h0=>by rw[hm]at h0;cases h0;exact hlc
  have Vz:∀i,(arr.toList.take cs.length++x.toList++arr.toList.drop (cs.length+x.size)).toArray[i]? = if i<cs.length then arr[i]? else if i<cs.length+x.size then x[i-cs.length]? else arr[i]?:=by
   intro i;have:=Vo (arr:=arr) (off:=cs.length) (xs:=x.toList) i (by simp;omega);simpa using this
  have Qs:oZ (dK M (.h b) (.cells xJ)).h w' (.cells k.more (cs++new)) (.cells xJ):=by
   refine⟨EO,fun q hq=>?_,fun e=>absurd e hmr,fun _=>⟨by rw[a4y];exact jm,fun q1 JD q2 FY e1 e2=>?_⟩⟩
   .obtain⟨q0,hq0,rfl⟩:=a1d.1 hq;by_cases he:q0.c=p.c
    .simp only[he,a2j];refine⟨⟨_,ty,(0,0),Na w p.c _ arr ty (0,0) r1,by simp[p'];omega,fun _=>rfl,fun _ i c v hi a b=>?_⟩,by simp[p',hpb];omega,by simp[p'],fun _=>hpb⟩;simp only[p',hpb,a3O]at b hi;rw[Vz i]at b;by_cases h1:i<cs.length
     .rw[a0i h1]at b;rw[a0c h1]at a;exact(r4 (fun _=>hpe) i c v (by omega) a (by simpa[hpb]using b)).mono Ip.h
     .rw[a0g h1,a0i (by omega)]at b;rw[a19 (by omega)]at a;exact(hx.TG a b).mono Ip.h
    .simp only[he,a3a];have JD:=Eo q0 hq0;obtain⟨uN,ty',fz',t1,t2,t3,t4⟩:=JD.row;refine⟨⟨uN,ty',fz',(vC w p.c _ q0.c he).trans t1,t2,fun _=>t3 hk,fun hz i c v hi a b=>?_⟩,JD.fit,by have:=JD.ext;simp;omega,fun _=>JD.base hk⟩;have:=JD.ext;rw[a0c (by omega)]at a;exact(t4 (fun e=>by have:=hz (by rw[e];rfl);have:0<new.length:=aa2.2 iC;simp at *;omega) i c v hi a b).mono Ip.h
   .have aux:∀q∈xJ,q.ext=(cs++new).length->new≠[]->q=p':=by
     intro q hq e iC;obtain⟨q0,hq0,rfl⟩:=a1d.1 hq;by_cases he:q0.c=p.c
     .simp[he]
     .simp only[he,a3a]at e;have:=(Eo q0 hq0).ext;have:0<new.length:=aa2.2 iC;simp at e;omega
    rw[aux q1 JD e1 iC,aux q2 FY e2 iC]
  refine⟨dK M (.h b) (.cells xJ),p',?_,?_,?_,⟨xJ,by simp[dK],hp'⟩,a0V _,hpb,.inl ⟨hfl,rfl,rfl⟩⟩
  .rw[jl s b _ yN];exact hV.upd (.h b) _ _ (fun j hj=>.inl hj) (fun l0 h0=>by
    rw[hm]at h0;cases h0;exact⟨hd,hlc,fun b0 zL=>by rw[hg]at zL;cases zL;cases k<;>simp_all [wr]⟩) gq fQ (by simp) Qs
  .rw[jl s b _ yN];exact Ext.upd (.h b) _ _ [.h b] (.inl ⟨by simp[hg],rfl,by simp[hm],fun b0 zL=>by rw[hg]at zL;cases zL;cases k<;>simp_all [wr]⟩) Ip gq fQ (by simp) rfl rfl rfl
  .intro j l hj;simp[dK,hj]
 .-- a new row
  let p':Pl:=⟨w.heap.size,0,cs.length+new.length,(old++x++rest).size⟩
  let xJ:List Pl:=p'::ls
  let w':World:=w.drew.alloc (.cells (old++x++rest) ty0)
  have QF:=hold.len;simp only[a9p]at QF;have aQ:∀q∈ls,q.c<w.heap.size:=fun q hq=>hV.inb _ _ hm q.c (a1d.2 ⟨q,hq,rfl⟩);have hlc:KC (.cells ls) (.cells xJ):=fun q hq=>⟨q,a2Y _ hq,rfl,rfl,a0V _,rfl⟩;have gq:∀c,c<w.heap.size->c∉aJ (.cells xJ)->w'.heap[c]? = w.heap[c]?:=fun c hc _=>vZ w.drew _ c hc;have fQ:∀c∈aJ (.cells xJ),(∃l0,M (.h b)=some l0∧c∈aJ l0)∨w.heap.size<=c:=by
   intro c hc;simp only[aJ,xJ,a3U,a2e]at hc;rcases hc with rfl|hc
   .exact .inr (a0V _)
   .exact .inl ⟨_,hm,hc⟩
  have Ip:rZ M (dK M (.h b) (.cells xJ)):=lS fun l0 h0=>by rw[hm]at h0;cases h0;exact hlc
  have Qs:oZ (dK M (.h b) (.cells xJ)).h w' (.cells k.more (cs++new)) (.cells xJ):=by
   refine⟨EO,fun q hq=>?_,fun e=>absurd e hmr,fun _=>⟨?_,fun q1 JD q2 FY e1 e2=>?_⟩⟩
   .rcases a2e.1 hq with rfl|hq
    .refine⟨⟨_,ty0,(0,0),heap_alloc_new w.drew _,rfl,fun _=>rfl,fun _ i c v hi a b=>?_⟩,by simp[p'];omega,by simp[p'],fun _=>rfl⟩;simp only[p',a3O]at b hi;by_cases h1:i<cs.length
     .rw[a0c h1]at a;rw[Array.append_assoc,a9C (by omega)]at b;exact(hold.TG a b).mono Ip.h
     .rw[a19 (by omega)]at a;rw[Array.append_assoc,Array.getElem?_append_right (by omega),a9C (by omega),<-QF]at b;exact(hx.TG a b).mono Ip.h
    .have JD:=Eo q hq;obtain⟨uN,ty',fz',t1,t2,t3,t4⟩:=JD.row;refine⟨⟨uN,ty',fz',(vZ w.drew _ q.c (aQ q hq)).trans t1,t2,fun _=>t3 hk,fun hz i c v hi a b=>?_⟩,JD.fit,by have:=JD.ext;simp;omega,fun _=>JD.base hk⟩;have:=JD.ext;rw[a0c (by omega)]at a;exact(t4 (fun e=>by have:=hz (by rw[e];rfl);have:0<new.length:=aa2.2 iC;simp at *;omega) i c v hi a b).mono Ip.h
   .simp only[xJ,a3U,a3Z];refine⟨fun a1Z=>?_,jm⟩;obtain⟨q,hq,he⟩:=a1d.1 a1Z;have:=aQ q hq;simp only[p']at he;omega
   .have ahe:0<new.length:=aa2.2 iC;have aux:∀q∈xJ,q.ext=(cs++new).length->q=p':=by
     intro q hq e;rcases a2e.1 hq with rfl|hq
     .rfl
     .have:=(Eo q hq).ext;simp at e;omega
    rw[aux q1 JD e1,aux q2 FY e2]
  refine⟨dK M (.h b) (.cells xJ),p',?_,?_,?_,⟨xJ,by simp[dK],a2T⟩,a0V _,rfl,.inr ⟨hfl,rfl,rfl⟩⟩
  .rw[jl s b _ yN];exact hV.upd (.h b) _ _ (fun j hj=>.inl hj) (fun l0 h0=>by
    rw[hm]at h0;cases h0;exact⟨hd,hlc,fun b0 zL=>by rw[hg]at zL;cases zL;cases k<;>simp_all [wr]⟩) gq fQ (by simp) Qs
  .rw[jl s b _ yN];exact Ext.upd (.h b) _ _ [.h b] (.inl ⟨by simp[hg],rfl,by simp[hm],fun b0 zL=>by rw[hg]at zL;cases zL;cases k<;>simp_all [wr]⟩) Ip gq fQ (by simp) rfl rfl rfl
  .intro j l hj;simp[dK,hj]
end
section
variable {P:Program} {M:Mp} {D:Key->Prop} {w:World} {s:St}
theorem Ir{at_:Array TypeId}{ty:TypeId}{d x r:TV}{s1:St}{i:lK}{dv xv:Value}(hV:Valid M D s.get w)(yL:M (.h s.heap.length)=none)
  (h:jV P at_ s d x=some (r,s1,i)) (hd:VR M.h d dv) (hx:VR M.h x xv) (hD:∀k∈i.ts,D k) :
  s1.env=s.env∧BOk P M D s.get w (Builtin.append_ at_ ty #[dv,xv]) r s1.get i.ws:=by
 unfold jV at h;split at h
 case h_2=>simp at h
 rename_i st xt h0 h1;split at h
 .simp at h
 rename_i hint;obtain⟨dd,JH,hdd⟩:=Yv hint;split at h
 case h_2=>simp at h
 rename_i e size zM;obtain⟨hu,hn,hn0⟩:=qN zM;split at h
 case h_2=>simp at h
 rename_i n new lT;split at h
 .-- nothing
  rename_i hz;subst hz;have key:∀(base:Option Addr) (l c:Nat),dv=.slice base l c->l<=c->(∀k∈dH x,D k)->(Builtin.append_ at_ ty #[dv,xv]).run P w=.ok dv w:=by
   intro base l c e hlc hDk;obtain⟨s1',s2',arr,TI,s4'⟩:=BZ (P:=P) (fun b=>rfl) hV lT hx hDk;refine Vx h0 h1 hu hn JH hdd e s1' hlc (TI w rfl) ?_;have a4z:new=[]:=by
    unfold fD at lT;split at lT
    .simp at lT;exact lT
    .split at lT
     .split at lT
      .simpa using lT
      split at lT
      .simp only[a06,a0j]at lT;obtain⟨r',hr',e1,e2⟩:=lT;subst e2;exact a3Q (by rw[(uo hr').2.2,e1];simp)
      .simp at lT
     .simp at lT
    .split at lT
     .simp at lT;obtain⟨e1,e2⟩:=lT;rw[<-e2];rename_i bs _;have:bs.data.toList=[]:=a3Q (by simpa using e1);simp[this]
     .simp at lT
    .simp at lT
   rw[a4z]at s4';exact s4'.pO
  split at h
  .simp at h;obtain⟨rfl,rfl,rfl⟩:=h;have Yx:=hd;cases hd;exact⟨rfl,_,w,M,key none 0 0 rfl (a0V _) hD,.same hV (.val Yx)⟩
  .split at h
   .simp at h;obtain⟨rfl,rfl,rfl⟩:=h;have Yx:=hd;cases hd with
    |slc hb hp ES hle wu hex ha hk=>
     exact⟨rfl,_,w,M,key _ _ _ rfl (by omega) hD,.same hV (.val Yx)⟩
   .simp at h
  .simp at h
 rename_i hz;split at h
 case isFalse=>simp at h
 rename_i hlen;have abo:new≠[]:=by
  intro e;have:0<n*size:=Nat.mul_pos (by omega) hn0;rw[e]at hlen;simp only[a4x]at hlen;omega
 split at h
 .-- nil
  split at h
  case isFalse=>simp at h
  rename_i JG;simp at h;obtain⟨rfl,rfl,rfl⟩:=h;obtain⟨inf,z,hi,hiz,hzs,BU,xP,hb3,hb4⟩:=zV JG;obtain⟨s1',s2',arr,TI,s4'⟩:=BZ (P:=P) (fun b=>rfl) hV lT hx hD;have uU:inf.size=size:=by obtain⟨i',e1,e2⟩:=EM hn;rw[hi]at e1;cases e1;exact e2
  cases hd;obtain⟨kD,c1,c1',c2⟩:=EU (P:=P) (w:=w) (ty:=ty) (base:=none) (sLen:=0) (sCap:=0) (old:=#[]) (new:=arr) h0 h1 hu hn JH hdd hi hiz rfl s1' (by omega) (by simpa using BU) (by omega) hb3
   (fun w' hw'=>by simp[Builtin.firstCells]) TI
  simp only[a3O]at c1 c2;obtain⟨M',hp⟩:=Vy (size:=size) (len:=n) (rest:=Builtin.zeroCells z.cells (kD-n)) (e:=e) (pre:=#[]++arr) hV yL (by simpa using s4') s2' hlen c1 c1' (by rw[wz,hzs,uU]);exact⟨rfl,_,_,M',c2,hp⟩
 .-- a slice
  rename_i b off len cap sz ex;split at h
  case isFalse=>simp at h
  rename_i adz;subst adz;have hd0:=hd;cases hd with
  |slc hb hp ES hle wu hex ha hk=>
  rename_i ls p a cap';split at h
  .-- room
   rename_i amK;simp only[a06,a0j]at h;obtain⟨hp',EW,rfl,rfl,rfl⟩:=h;obtain⟨kk,Bc,cs,cs',hbc,xM,ho,rfl⟩:=Io EW;have hDs:∀k∈dH x,D k:=fun k hk=>hD k (a2Y _ hk);obtain⟨s1',s2',arr,TI,s4'⟩:=BZ (P:=P) (fun b=>rfl) hV lT hx hDs;have hg:s.get (.h b)=some (.cells kk cs):=(by simp[St.get,hbc]);have yN:=(a02.1 hbc).1;rcases ha with ha|⟨rfl,ha⟩
   .omega
   have hDb:=hD (.h b) (by simp);have hp:=hp.resolve_left (by omega);obtain⟨w',r1,r2,r3⟩:=yK (P:=P) hV hb hDb hg hp (hV.Yl hb hDb hg hp ES xM) ho s4' s2';obtain⟨o1,o2,o3⟩:=vN ho;have hmul:len*sz+n*sz=(len+n)*sz:=(by rw[a2Z]);refine⟨rfl,_,w',M,QD (P:=P) (w:=w) (ty:=ty) (a:=⟨p.c,p.base+off,none⟩) h0 h1 hu hn JH hdd rfl s1' (by omega) (TI w rfl) (by rw[um,a9v];exact r1),⟨?_,?_,?_,fun _ _ h=>h⟩⟩
   .rw[jl s b _ yN];exact⟨fun k l hk hd=>r2.ok k l hk (hd.elim id fun⟨x1,x2⟩=>by
      simp only[lF]at x2;split at x2
      .rename_i e;subst e;rw[hg]at x1;cases x1
      .simp[x1]at x2),fun k k' l l' b' a1 a2 a3 hd=>r2.own k k' l l' b' a1 a2 a3 (hd.elim id fun⟨x1,x2⟩=>by
      simp only[lF]at x2;split at x2
      .rename_i e;subst e;rw[hg]at x1;cases x1
      .simp[x1]at x2),r2.inb⟩
   .rw[jl s b _ yN];exact r3
   .exact .val (.slc hb (.inr hp) (by omega) (by omega) wu hex (.inr ⟨rfl,ha⟩) hk)
  .rename_i amK;split at h
   case isFalse=>simp at h
   rename_i JG;obtain⟨inf,z,hi,hiz,hzs,BU,xP,hb3,hb4⟩:=zV JG;have uU:inf.size=sz:=by obtain⟨i',e1,e2⟩:=EM hn;rw[hi]at e1;cases e1;exact e2
   have hmul:len*sz+n*sz=(len+n)*sz:=(by rw[a2Z]);split at h
   .-- exact: always a new row
    rename_i ahg;have Ns:=hex ahg;simp only[a06,a0j]at h;obtain⟨⟨l0,old⟩,qw,rfl,rfl,rfl⟩:=h;obtain⟨_,qF,hold⟩:=TF qw;rw[qF]at qw;have hDs:∀k∈dH x,D k:=fun k hk=>hD k (a2Y _ hk);obtain⟨s1',s2',arr,TI,s4'⟩:=BZ (P:=P) (fun b=>rfl) hV lT hx hDs;obtain⟨t1',t2',a4A,t3',t4'⟩:=BZ (P:=P) (fun b=>rfl) hV qw hd0 (fun k hk=>hD k (by simp[dH]at hk;simp[hk,gY]));obtain⟨kD,c1,c1',c2⟩:=EU (P:=P) (w:=w) (ty:=ty) (base:=some a) (sLen:=len) (sCap:=cap') (old:=a4A) (new:=arr) h0 h1 hu hn JH hdd hi hiz rfl s1' (by omega) BU xP hb3 t3' TI;obtain⟨M',ahh⟩:=Vy (size:=sz) (len:=len+n) (rest:=Builtin.zeroCells z.cells (kD-(len+n))) (e:=e) (pre:=a4A++arr) hV yL (by simpa using t4'.append s4') (fun c hc=>(a2X.1 hc).elim (t2' c) (s2' c)) (by simp[hold,hlen,hmul]) c1 c1' (by rw[wz,hzs,uU]);exact⟨rfl,_,_,M',c2,ahh⟩
   .-- it grows
    split at h
    case h_2=>simp at h
    rename_i ahg _ k cs hbc;split at h
    .simp at h
    .rename_i QB;simp only[ada,ne_eq,Decidable.not_not]at QB;have hkc:=hk;obtain⟨hk,rfl,rfl,qg,qF⟩:=QB;have hp:=hp.resolve_left (by omega);simp only[a01,a0j]at h;obtain⟨rfl,rfl,rfl⟩:=h;have hDs:∀k∈dH x,D k:=fun k hk=>hD k (a2Y _ hk);have hDb:=hD (.h b) (by simp);obtain⟨s1',s2',arr,TI,s4'⟩:=BZ (P:=P) (fun b=>rfl) hV lT hx hDs;have hg:s.get (.h b)=some (.cells k cs):=(by simp[St.get,hbc]);have hnb:∀(M':Mp) (w':World),Valid M' D (St.get { s with heap:=s.heap.set b (.cells k.more (cs++new)) }) w' ->
       Valid M' (fun j=>D j∨(s.get j=none∧(St.get { s with heap:=s.heap.set b (.cells k.more (cs++new)) } j).isSome=true)) (St.get { s with heap:=s.heap.set b (.cells k.more (cs++new)) }) w':=by
      intro M' w' hv;have aux:∀j,(D j∨(s.get j=none∧(St.get { s with heap:=s.heap.set b (.cells k.more (cs++new)) } j).isSome=true))->D j:=by
       intro j hj;rcases hj with hj|⟨x1,x2⟩
       .exact hj
       .rw[jl s b _ (a02.1 hbc).1]at x2;simp only[lF]at x2;split at x2
        .rename_i e;subst e;exact hDb
        .simp[x1]at x2
      exact⟨fun k l hk hd=>hv.ok k l hk (aux k hd),fun k k' l l' b' a1 a2 a3 hd=>hv.own k k' l l' b' a1 a2 a3 (aux k hd),hv.inb⟩
     have aqM:arr.size=n*sz:=by have:=s4'.len;simp at this;omega
     have ahi:p.base=0∧p.ext<=cs.length:=by
      obtain⟨fV,q1,q2⟩:=hV.ok _ _ hb hDb;rw[hg]at q1;cases q1;exact⟨(q2.2.1 p hp).base hk,(q2.2.1 p hp).ext⟩
     by_cases Es:len+n<=cap'
     .-- in place
      rcases ha with ha|⟨rfl,ha⟩
      .omega
      have abn:(len+n)*sz<=cap'*sz:=a3r sz Es;have EO:∀v∈arr.toList,v.oneCell'=true:=by
       intro v hv;obtain⟨i,hi,rfl⟩:=a4m.1 hv;have vW:i<new.length:=by simp at hi;omega
       exact Ik (s4'.at_ i new[i] arr.toList[i] (by simp[vW]) (by simp)) (s2' _ (a4h vW))
      obtain⟨fV,q1,q2⟩:=hV.ok _ _ hb hDb;rw[hg]at q1;cases q1;obtain⟨row,rty,rfz,z1,z2,z3,z4⟩:=(q2.2.1 p hp).row;have:=z3 hk;subst this;have vG:=run_storeCells_at (P:=P) p.c cs.length rty arr.toList 0 row w z1 (by simp;omega) EO;obtain⟨M',q,v1,v2,v3,⟨xJ,v4,v5⟩,v6,v7,v8⟩:=a0e (P:=P) hV hb hDb hbc hk hp (by omega) s4' s2' abo true #[] #[] 0 (.inl ⟨rfl,by omega,vG⟩);rcases v8 with⟨_,v9,v10⟩|⟨v9,_⟩
      .refine⟨rfl,_,_,M',QD (P:=P) (w:=w) (ty:=ty) (a:=⟨p.c,p.base+0,none⟩) h0 h1 hu hn JH hdd rfl s1' Es (TI w rfl) (by rw[um,ahi.1];simp only[a3O,adr];rw[<-qg];exact vG),⟨hnb _ _ v1,v2,?_,v3⟩⟩;refine .val (.slc v4 (.inr v5) (by omega) (a0V _) Es (fun h=>by simp at h) (.inr ⟨by rw[v9,v7,ahi.1],by rw[v7,v10];omega⟩) hkc)
      .cases v9
     .-- a new row
      have qw:fD sz s.heap (.slc b 0 len len sz ex)=some (len,cs):=by
       have:sub cs 0 (len*sz)=some cs:=by
        unfold sub;rw[a0i (by omega)];simp[<-qg]
       simp[fD,lM,hbc,this,qg,qF]
      obtain⟨t1',t2',a4A,t3',t4'⟩:=BZ (P:=P) (fun b=>rfl) hV qw hd0 (fun k hk=>by simp[dH]at hk;rw[hk];exact hDb);obtain⟨kD,c1,c1',c2⟩:=EU (P:=P) (w:=w) (ty:=ty) (base:=some a) (sLen:=len) (sCap:=cap') (old:=a4A) (new:=arr) h0 h1 hu hn JH hdd hi hiz rfl s1' (by omega) BU xP hb3 t3' TI;obtain⟨M',q,v1,v2,v3,⟨xJ,v4,v5⟩,v6,v7,v8⟩:=a0e (P:=P) hV hb hDb hbc hk hp (by omega) s4' s2' abo false a4A (Builtin.zeroCells z.cells (kD-(len+n))) e (.inr ⟨rfl,t4',rfl⟩);rcases v8 with⟨v9,_⟩|⟨_,v10,v11⟩
      .cases v9
      .refine⟨rfl,_,_,M',c2,⟨hnb _ _ v1,v2,?_,v3⟩⟩;refine .val (.slc v4 (.inr v5) (by omega) (a0V _) c1 (fun h=>by simp at h) (.inr ⟨by rw[v10,v7],?_⟩) c1');rw[v11,v7];have QF:=t4'.len;simp only[a9p]at QF;have hm3:(len+n)*sz+(kD-(len+n))*sz=kD*sz:=by rw[<-a2Z];congr 1;omega
       simp only[Array.size_append,wz,hzs,uU];omega
 .simp at h
end
section
variable {P:Program} {M:Mp} {D:Key->Prop} {w:World} {s:St}
theorem a4C{cs l:List TV}{off n m:Nat}(h:sub cs off n=some l)(hm:m<=n):sub cs off m=some (l.take m):=by
 obtain⟨h1,h2,h3⟩:=uo h;unfold sub;rw[a0i (by omega),h2,afz,a7A hm]
theorem TJ{at_:Array TypeId}{ty:TypeId}{d x r:TV}{s1:St}{i:lK}{dv xv:Value}(hV:Valid M D s.get w)
  (h:FW P at_ s d x=some (r,s1,i)) (hd:VR M.h d dv) (hx:VR M.h x xv) (hD:∀k∈i.ts,D k) :
  s1.env=s.env∧BOk P M D s.get w (Builtin.copy_ at_ ty #[dv,xv]) r s1.get i.ws:=by
 unfold FW at h;split at h
 case h_2=>simp at h
 rename_i st h0;split at h
 case h_2=>simp at h
 rename_i e size zM;obtain⟨hu,hn,hn0⟩:=qN zM;split at h
 case h_2=>simp at h
 rename_i n new lT;split at h
 case isFalse=>simp at h
 rename_i hlen;obtain⟨hlen,Nu⟩:=hlen;have first:∀(m:Nat),m<=n->(∀k∈dH x,D k)->(Builtin.lenOf xv).run P w=.ok n w∧(∀c∈new.take (m*size),iR c=true) ∧
   ∃arr,(Builtin.firstCells size m xv).run P w=.ok arr w∧bV M.h (new.take (m*size)) arr.toList:=by
  intro m hm hDs;obtain⟨s1',s2',arr,TI,s4'⟩:=BZ (P:=P) (fun b=>rfl) hV lT hx hDs;refine⟨s1',fun c hc=>s2' c (a8B hc),?_⟩;have hmul:m*size<=n*size:=a3r size hm;cases hx with
  |Tt=>
   unfold fD at lT;simp at lT;obtain⟨rfl,rfl⟩:=lT;exact⟨#[],by simp[Builtin.firstCells],by simpa using bV.nil⟩
  |slc hb hp ES hle wu hex ha hk=>
   rename_i b off len cap sz ex ls p a cap';unfold fD at lT;simp only at lT;split at lT
   case isFalse=>simp at lT
   rename_i uU;subst uU;split at lT
   .rename_i hz;simp at lT;obtain⟨rfl,rfl⟩:=lT;have:m=0:=(by omega);subst this;exact⟨#[],by simp[Builtin.firstCells,loadCells,loadCellsFrom],by simpa using bV.nil⟩
   split at lT
   case h_2=>simp at lT
   rename_i cs hbc;simp only[a06,a0j]at lT;obtain⟨r',hr,rfl,rfl⟩:=lT;obtain⟨k,hk,Vt⟩:=xK hbc;obtain⟨fV,h1,h2⟩:=hV.ok _ _ hb (hDs _ (by simp[dH]));simp only[St.get,hk,a01]at h1;subst h1;by_cases h00:cap'=0
   .have qF:len=0:=(by omega);subst qF;have:m=0:=(by omega);subst this;exact⟨#[],by simp[Builtin.firstCells,loadCells,loadCellsFrom],by simpa using bV.nil⟩
   .rcases ha with ha|⟨rfl,ha⟩
    .exact absurd ha h00
    .obtain⟨xs,x1,x2⟩:=yA (P:=P) (h2.2.1 p (hp.resolve_left h00)) (a4C hr hmul) (by have:=a3r sz hle;omega) (fun e=>by have:=Vt e;have:=(h2.2.1 p (hp.resolve_left h00)).ext;omega);exact⟨xs.toArray,by simp[Builtin.firstCells,x2 w rfl],x1⟩
  |str bs=>simp[isStr]at Nu
  |_=>simp[fD]at lT
 split at h
 .simp at h;obtain⟨rfl,rfl,rfl⟩:=h;cases hd;obtain⟨f1,f2,arr,f3,f4⟩:=first 0 (a4t _) hD
  have f5:=f4.len;simp at f5;exact⟨rfl,.int .i64 0,w,M,by simp[Builtin.copy_,h0,run_underlying hu,f1,bZ hn,f3,goInt],.same hV (.val (.int _ _))⟩
 .rename_i b off len cap sz ex;split at h
  case isFalse=>simp at h
  rename_i uU;subst uU;have hd0:=hd;cases hd with
  |slc hb hp ES hle wu hex ha hk=>
  rename_i ls p a cap';split at h
  .rename_i hm;simp at h;obtain⟨rfl,rfl,rfl⟩:=h;obtain⟨f1,f2,arr,f3,f4⟩:=first 0 (a4t _) hD
   have f5:arr.toList=[]:=by
    have:=f4.len;simp only[abM,List.take_zero,a4x]at this;exact a3Q this.symm
   refine⟨rfl,.int .i64 0,w,M,?_,.same hV (.val (.int _ _))⟩;have e1:Nat.min n len=0:=hm;simp[Builtin.copy_,h0,run_underlying hu,f1,bZ hn,e1,f3,goInt,f5,storeCells]
  .rename_i hm;simp only[a06,a0j]at h;obtain⟨hp',EW,rfl,rfl,rfl⟩:=h;obtain⟨kk,Bc,cs,cs',hbc,xM,ho,rfl⟩:=Io EW;obtain⟨f1,f2,arr,f3,f4⟩:=first (min n len) (Nat.min_le_left _ _) (fun k hk=>hD k (a2Y _ hk))
   have hg:s.get (.h b)=some (.cells kk cs):=(by simp[St.get,hbc]);have yN:=(a02.1 hbc).1;rcases ha with ha|⟨rfl,ha⟩
   .omega
   obtain⟨w',r1,r2,r3⟩:=yK (P:=P) hV hb (hD (.h b) (by simp)) hg (hp.resolve_left (by omega)) (hV.Yl hb (hD (.h b) (by simp)) hg (hp.resolve_left (by omega)) ES xM) ho f4 f2;refine⟨rfl,.int .i64 (min n len:Nat),w',M,?_,⟨?_,?_,.val (.int _ _),fun _ _ h=>h⟩⟩
   .have e1:Nat.min n len=min n len:=rfl;simp[Builtin.copy_,h0,run_underlying hu,f1,bZ hn,e1,f3,goInt,r1]
   .rw[jl s b _ yN];exact r2.widen (Dw (by simp[hg]))
   .rw[jl s b _ yN];exact r3
 .simp at h
end
section
variable {P:Program} {M:Mp} {D:Key->Prop} {w:World} {s:St} {N:Np}
theorem bI{α β:Type}(x:Sem α)(f:α->Sem β):aB P (x >>= f)=(aB P x).bind fun a=>aB P (f a):=by
 show aB P (x.bind f)=_
 induction x with
 |pure a=>rfl
 |program k ih=>exact ih P
 |mark m k ih=>exact ih
 |_=>rfl
def Iu(b:Nat->Bool)(L:List MapEntry)(i0:Nat):Option (Nat×Value)->Prop
 |none=>∀i,i<L.length->b i=false
 |some (i,v)=>i0<=i∧b (i-i0)=true∧∃x,L[i-i0]? = some x∧v=x.val
theorem Iu.succ{b:Nat->Bool}{e:MapEntry}{L:List MapEntry}{i0:Nat}{r:Option (Nat×Value)}(hb:b 0=false)(h:Iu (fun i=>b (i+1)) L (i0+1) r):Iu b (e::L) i0 r:=by
 cases r with
 |none=>
  intro i hi;cases i with
  |zero=>exact hb
  |succ i=>exact h i (by simpa using hi)
 |some r=>
  obtain⟨h1,h2,x,h3,h4⟩:=h;have e1:r.1-i0=(r.1-(i0+1))+1:=by omega
  refine⟨by omega,by rw[e1];exact h2,x,by rw[e1];simpa using h3,h4⟩
theorem JI(kind:TypeDesc)(k:Value):∀(L:List MapEntry) (i0:Nat) (b:Nat->Bool),(∀i x,L[i]? = some x->Instr.sameNow kind k x.key=some (b i)) ->
  ∃r,Instr.findNow kind k L i0=some r∧Iu b L i0 r
 | [],i0,b,_=>⟨none,rfl,fun i hi=>absurd hi (by simp)⟩
 |e::L,i0,b,h=>by
  have h0:=h 0 e rfl;obtain⟨r,g1,g2⟩:=JI kind k L (i0+1) (fun i=>b (i+1)) fun i x hx=>h (i+1) x (by simpa using hx);simp only[Instr.findNow,h0];cases hb:b 0 with
  |true=>exact⟨_,rfl,a0V _,by simpa using hb,e,by simp,rfl⟩
  |false=>exact⟨r,g1,g2.succ hb⟩
theorem C9(kt:TypeId)(k:Value):∀(L:List MapEntry) (i0:Nat) (b:Nat->Bool),(∀i x,L[i]? = some x->aB P (Op.equal kt k x.key)=some (b i)) ->
  ∃r,(∀w,(Instr.findAsking kt k L i0).run P w=.ok r w)∧Iu b L i0 r
 | [],i0,b,_=>⟨none,fun w=>rfl,fun i hi=>absurd hi (by simp)⟩
 |e::L,i0,b,h=>by
  have h0:=fun w=>iV (h 0 e rfl) w;obtain⟨r,g1,g2⟩:=C9 kt k L (i0+1) (fun i=>b (i+1)) fun i x hx=>h (i+1) x (by simpa using hx);cases hb:b 0 with
  |true=>exact⟨some (i0,e.val),fun w=>by simp[Instr.findAsking,h0 w,hb],a0V _,by simpa using hb,e,by simp,rfl⟩
  |false=>exact⟨r,fun w=>by simp[Instr.findAsking,h0 w,hb,g1 w],g2.succ hb⟩
theorem a0h:∀{l:List TV} {vs:List Value},Bv l=some vs->∀(i:Nat) (c:TV),l[i]? = some c->∃v,vs[i]? = some v∧c.yw=some v
 | [],vs,h,i,c,hc=>by simp at hc
 |a::l,vs,h,i,c,hc=>by
  simp only[Bv]at h;split at h
  .rename_i v ws h1 h2;cases h;cases i with
   |zero=>simp at hc;subst hc;exact⟨v,rfl,h1⟩
   |succ i=>simpa using a0h h2 i c (by simpa using hc)
  cases h
def FR(N:Np)(o:List Nat)(es:List (TV×TV))(xs:Array MapEntry):Option Nat->Option (Nat×Value)->Prop
 |none,none=>True
 |some j,some (i,v)=>o[i]? = some j∧∃e x,es[j]? = some e∧xs[i]? = some x∧v=x.val∧VR N e.1 x.key∧VR N e.2 x.val
 |_,_=>False
theorem G8{o:List Nat}{kt:TypeId}{k:Value}{es:List (TV×TV)}{r:Option Nat}{xs:Array MapEntry}(h:Ei P kt k es=some r)(hx:vY N o es xs) :
  (∀w,(Instr.checkKey xs.isEmpty 10000 kt k).run P w=.ok () w)∧∃r',(∀w,(Instr.findKey kt k xs.toList).run P w=.ok r' w) ∧
   FR N o es xs r r':=by
 unfold Ei at h;split at h
 case h_2=>simp at h
 rename_i ks Et;split at h
 case h_2=>simp at h
 rename_i r0 hr;split at h
 case isFalse=>simp at h
 rename_i QG;cases h;generalize r0.map (·.1)=r at QG ⊢;have hl:es.isEmpty=xs.isEmpty:=by
  rw[a4i];simp[List.isEmpty_iff,<-a7o,hx.len]
 have JF:ks.length=es.length:=by
  have:∀{l:List TV} {vs:List Value},Bv l=some vs->vs.length=l.length:=by
   intro l
   induction l with
   |nil=>intro vs h;simp[Bv]at h;subst h;rfl
   |cons a l ih=>
    intro vs h;simp only[Bv]at h;split at h
    .rename_i v ws h1 h2;cases h;simp[ih h2]
    .cases h
  simpa using this Et
 rw[bI]at hr;cases hc:aB P (Instr.checkKey es.isEmpty 10000 kt k)with
 |none=>simp[hc]at hr
 |some u=>
  refine⟨fun w=>by rw[<-hl];exact iV hc w,?_⟩;unfold Vk at QG;split at QG
  case h_2=>simp at QG
  rename_i kind hd;have hdr:=fun w=>iV hd w;simp only[a2a]at QG;obtain⟨hj,hs⟩:=QG;have a8P:∀(i:Nat) (x:MapEntry),xs.toList[i]? = some x->∃(j:Nat) (e:TV×TV),o[i]? = some j∧es[j]? = some e∧VR N e.1 x.key∧VR N e.2 x.val∧ks[j]? = some x.key:=by
   intro i x hi;obtain⟨_,j,e,h1,h2,h3,h4⟩:=hx.at_ i x (by simpa using hi);obtain⟨v,g1,g2⟩:=a0h Et j e.1 (by simp[h2]);exact⟨j,e,h1,h2,h3,h4,by rw[g1,vX g2 h3]⟩
  let b:Nat->Bool:=fun i=>o[i]? == r
  have hb:∀i j,o[i]? = some j->b i=(some j==r):=fun i j h=>by simp only[b,h]
  have fin:∀r',Iu b xs.toList 0 r'->FR N o es xs r r':=by
   intro r' hf;cases r' with
   |none=>
    cases r with
    |none=>trivial
    |some j=>
     simp only[a1E]at hj;obtain⟨i,hi⟩:=a8y.1 (hx.sur j (by omega));have h1:=hf i (by have:=(a02.1 hi).1;have:=hx.ord;simp;omega);rw[hb i j hi]at h1;simp at h1
   |some q=>
    obtain⟨i,v⟩:=q;obtain⟨_,h1,x,h2,h3⟩:=hf;simp only[Nat.sub_zero]at h1 h2;obtain⟨j,e,g1,g2,g3,g4,_⟩:=a8P i x h2;rw[hb i j g1]at h1;simp only[a6v]at h1;subst h1;exact⟨g1,e,x,g2,by simpa using h2,h3,g3,g4⟩
  have EX:∀{p:Value×Nat->Bool},ks.zipIdx.all p=true->∀j x,ks[j]? = some x->p (x,j)=true:=by
   intro p hp j x hjx;exact a4l.1 hp (x,j) (a9e.2 (by simpa using hjx))
  unfold Instr.findKey;rcases a8G _ _▸hs with hs|hs
  .obtain⟨r',g1,g2⟩:=JI kind k xs.toList 0 b fun i x hi=>by
    obtain⟨j,e,h1,_,_,_,h5⟩:=a8P i x hi;have:=EX hs j _ h5;simp only[a6v]at this;rw[this,hb i j h1]
   exact⟨r',fun w=>by simp[hdr w,g1],fin r' g2⟩
  .by_cases h0:xs.toList=[]
   .refine⟨none,fun w=>by simp[hdr w,h0,Instr.findNow],fin none (by rw[h0];intro i hi;simp at hi)⟩
   .have hno:Instr.findNow kind k xs.toList 0=none:=by
     cases hL:xs.toList with
     |nil=>exact absurd hL h0
     |cons x L=>
      obtain⟨j,e,h1,_,_,_,h5⟩:=a8P 0 x (by rw[hL];rfl);have:=EX hs j _ h5;simp only[a2a,a6v]at this;simp only[Instr.findNow,this.1]
    obtain⟨r',g1,g2⟩:=C9 (P:=P) kt k xs.toList 0 b fun i x hi=>by
     obtain⟨j,e,h1,_,_,_,h5⟩:=a8P i x hi;have:=EX hs j _ h5;simp only[a2a,a6v]at this;rw[this.2,hb i j h1]
    exact⟨r',fun w=>by simp[hdr w,hno,g1 w],fin r' g2⟩
theorem Dx{t:TypeId}{m k r:TV}{ok:Bool}{mv kv:Value}(hV:Valid M D s.get w)(h:gX P t s.heap m k ok=some r)(hm:VR M.h m mv)(hk:VR M.h k kv)
  (hD:∀j∈(match m with|.map r=>[Key.h r] |_=>[]),D j):∃z,VR M.h r z∧(Instr.lookup t mv kv ok).run P w=.ok z w:=by
 unfold gX at h;split at h
 case h_2=>simp at h
 rename_i kt e kx hu hkx;have:=vX hkx hk;subst this;simp only at h;have main:∀(o:List Nat) (es:List (TV×TV)) (xs:Array MapEntry),vY M.h o es xs->((mv=.map none∧xs=#[])∨∃r1 ck,mv=.map (some r1)∧w.heap[r1]? = some (.map xs ck)) ->
   (match Ei P kt kv es with
   |some (some i)=>match es[i]? with
    |some (_,v)=>some (if ok then .dI [v,.bool true]else v)
    |none=>none
   |some none=>match P.info? e with
    |some i=>match i.zero with
     |some z=>(TV.Vd z).map fun z=>if ok then .dI [z,.bool false]else z
     |none=>none
    |none=>none
   |none=>none)=some r->∃z,VR M.h r z∧(Instr.lookup t mv kv ok).run P w=.ok z w:=by
  intro o es xs hx vG h;cases hf:Ei P kt kv es with
  |none=>simp[hf]at h
  |some r0=>
   rw[hf]at h;obtain⟨c1,r',c2,c3⟩:=G8 hf hx;cases r0 with
   |some j=>
    cases r' with
    |none=>exact c3.elim
    |some jv=>
     obtain⟨j',v⟩:=jv;obtain⟨_,e',x',e1,e2,rfl,_,hv⟩:=c3;simp only[e1,a01]at h;subst h;refine⟨if ok then .tuple #[x'.val,.bool true]else x'.val,?_,?_⟩
     .cases ok
      .exact hv
      .exact .PY (.cons hv (.cons (.bool true) .nil))
     .rcases vG with⟨rfl,rfl⟩|⟨r1,ck,rfl,hmp⟩
      .simp only[Instr.lookup,Sem.run_bind,run_underlying hu,Result.andThen_ok,c1 w,c2 w,Sem.run_pure]
      .simp only[Instr.lookup,Sem.run_bind,run_underlying hu,Result.andThen_ok,getObj,Sem.run,hmp,c1 w,c2 w,Sem.run_pure]
   |none=>
    cases r' with
    |some jv=>exact c3.elim
    |none=>
     simp only at h;split at h
     case h_2=>simp at h
     rename_i inf hi;split at h
     case h_2=>simp at h
     rename_i z hz;simp only[a06]at h;obtain⟨zt,hzt,rfl⟩:=h;have hv:VR M.h zt z:=.yx hzt;refine⟨if ok then .tuple #[z,.bool false]else z,?_,?_⟩
     .cases ok
      .exact hv
      .exact .PY (.cons hv (.cons (.bool false) .nil))
     .have hzr:(zeroValue e).run P w=.ok z w:=(by simp[zeroValue,iT hi,hz]);rcases vG with⟨rfl,rfl⟩|⟨r1,ck,rfl,hmp⟩
      .simp only[Instr.lookup,Sem.run_bind,run_underlying hu,Result.andThen_ok,c1 w,c2 w,Sem.run_pure,hzr]
      .simp only[Instr.lookup,Sem.run_bind,run_underlying hu,Result.andThen_ok,getObj,Sem.run,hmp,c1 w,c2 w,Sem.run_pure,hzr]
 cases hm with
 |Yj=>exact main [] [] #[] ⟨rfl,rfl,.nil,by simp,by simp⟩ (.inl ⟨rfl,rfl⟩) h
 |map hmm=>
  rename_i r0 r1 o1;obtain⟨fV,b1,b2⟩:=hV.ok _ _ hmm (hD _ (by simp));simp only[St.get]at b1;simp only[b1]at h;cases fV with
  |map es=>
   obtain⟨xs,g1,g2⟩:=b2;exact main o1 es xs g2 (.inr ⟨r1,xs.size,rfl,g1⟩) h
  |cells k cs=>exact b2.elim
  |loop=>simp at h
  |mark=>simp at h
  |mM=>simp at h
  |cZ=>simp at h
 |_=>simp at h
end
section
variable {P:Program} {M:Mp} {D:Key->Prop} {w:World} {s:St}
theorem yO(hV:Valid M D s.get w){r r1:Nat}{o o':List Nat}{es fU:List (TV×TV)}{xs xs':Array MapEntry}(hm:M (.h r)=some (.obj r1 o))(hd:D (.h r))(hb:s.heap[r]? = some (.map es))
  (hr:w.heap[r1]? = some (.map xs xs.size)) (ho:o <+: o') (hx:vY (dK M (.h r) (.obj r1 o')).h o' fU xs') :
  Valid (dK M (.h r) (.obj r1 o')) (fun j=>D j∨(s.get j=none∧(St.get { s with heap:=s.heap.set r (.map fU) } j).isSome=true)) (St.get { s with heap:=s.heap.set r (.map fU) }) { w with heap:=w.heap.setIfInBounds r1 (.map xs' xs'.size) } ∧
  Ext M s.get w (dK M (.h r) (.obj r1 o')) (St.get { s with heap:=s.heap.set r (.map fU) }) { w with heap:=w.heap.setIfInBounds r1 (.map xs' xs'.size) } [.h r]:=by
 have hg:s.get (.h r)=some (.map es):=by simp[St.get,hb]
 have yN:=(a02.1 hb).1;have hle:rZ M (dK M (.h r) (.obj r1 o')):=lS fun l0 h0=>by rw[hm]at h0;cases h0;exact⟨rfl,ho⟩
 have aQ:r1<w.heap.size:=(a2b.1 hr).1;have gq:∀c,c<w.heap.size->c∉aJ (.obj r1 o')->(w.heap.setIfInBounds r1 (Obj.map xs' xs'.size))[c]? = w.heap[c]?:=fun c _ hc=>by
  rw[a8z,a0g (by simp[aJ]at hc;omega)]
 have fQ:∀c∈aJ (.obj r1 o'),(∃l0,M (.h r)=some l0∧c∈aJ l0)∨w.heap.size<=c:=fun c hc=>.inl ⟨_,hm,hc⟩;constructor
 .rw[jl s r _ yN];refine Valid.widen ?_ (Dw (by simp[hg]));exact hV.upd (D':=D) (w':={ w with heap:=w.heap.setIfInBounds r1 (.map xs' xs'.size) }) (.h r) (.map fU) (.obj r1 o') (fun j hj=>.inl hj) (fun l0 h0=>by
   rw[hm]at h0;cases h0;exact⟨hd,⟨rfl,ho⟩,fun b0 zL=>by rw[hg]at zL;cases zL;rfl⟩) gq fQ (by simp) ⟨xs',by simp[aQ],hx⟩
 .rw[jl s r _ yN];exact Ext.upd (M:=M) (C:=s.get) (w:=w) (w':={ w with heap:=w.heap.setIfInBounds r1 (.map xs' xs'.size) }) (.h r) (.map fU) (.obj r1 o') [.h r] (.inl ⟨by simp[hg],rfl,by simp[hm],fun b0 zL=>by rw[hg]at zL;cases zL;rfl⟩) hle gq fQ (by simp) rfl rfl rfl
theorem vY.lt{N:Np}{o:List Nat}{es:List (TV×TV)}{xs:Array MapEntry}(g2:vY N o es xs):∀j∈o,j<es.length:=fun j hj=>by
 obtain⟨i,hi⟩:=a8y.1 hj;have:i<xs.size:=by rw[<-g2.ord];exact(a02.1 hi).1
 obtain⟨_,j',e,z1,z2,_⟩:=g2.at_ i _ (a3I this);rw[hi]at z1;cases z1;exact(a02.1 z2).1
theorem vY.upd{N N':Np}{o:List Nat}{es:List (TV×TV)}{xs:Array MapEntry}(g2:vY N o es xs)(hle:rZ N N'){i j:Nat}{x':MapEntry}{f:MapEntry->MapEntry}{k v:TV}
  (q1:o[i]? = some j) (e2:xs[i]? = some x') (hb:(f x').born=x'.born) (hk:VR N' k (f x').key) (hv:VR N' v (f x').val):vY N' o (es.set j (k,v)) (xs.modify i f):=by
 have g3:=g2.mono hle;refine⟨by simp[g2.len],by simp[g2.ord],g2.nod,fun j' Eb=>g2.sur j' (by simpa using Eb),fun a x h2=>?_⟩;rw[abr]at h2;by_cases ha:i=a
 .subst ha;rw[a0i rfl,e2]at h2;simp only[a0U,a01]at h2;subst h2;obtain⟨z1,j2,e2',z2,z3,_⟩:=g2.at_ i x' e2;rw[q1]at z2;cases z2;exact⟨hb.trans z1,j,(k,v),q1,by rw[a9j];simp[(a02.1 z3).1],hk,hv⟩
 .rw[a0g ha]at h2;obtain⟨z1,j2,e2',z2,z3,z4,z5⟩:=g3.at_ a x h2;refine⟨z1,j2,e2',z2,?_,z4,z5⟩;have iC:j≠j2:=fun e=>by
   subst e;have i1:=a02.1 q1;have i2:=a02.1 z2;exact ha ((a9G g2.nod (h₀:=i1.1) (h₁:=i2.1)).1 (i1.2.trans i2.2.symm))
  rw[a9j,a0g iC];exact z3
theorem vY.push{N N':Np}{o:List Nat}{es:List (TV×TV)}{xs:Array MapEntry}(g2:vY N o es xs)(hle:rZ N N'){k v:TV}{kv vv:Value}
  (hk:VR N' k kv) (hv:VR N' v vv):vY N' (o++[es.length]) (es++[(k,v)]) (xs.push { key:=kv,val:=vv,born:=xs.size }):=by
 have aQ:=g2.lt;have g3:=g2.mono hle;refine⟨by simp[g2.len],by simp[g2.ord],?_,fun j hj=>?_,fun a x h2=>?_⟩
 .rw[a8w];exact⟨g2.nod,by simp,fun x hx y hy=>by simp at hy;subst hy;have:=aQ x hx;omega⟩
 .simp only[a1X,a3S,a4x]at hj;rcases a3V j es.length with h1|h1
  .exact a5d _ (g2.sur j h1)
  .exact abu _ (by simp;omega)
 .rw[Array.getElem?_push]at h2;by_cases ha:a=xs.size
  .rw[a0i ha]at h2;simp only[a01]at h2;subst h2;exact⟨ha.symm,es.length,(k,v),by rw[a19 (by rw[g2.ord];omega),g2.ord,ha];simp,by simp,hk,hv⟩
  .rw[a0g ha]at h2;obtain⟨z1,j2,e2',z2,z3,z4,z5⟩:=g3.at_ a x h2;exact⟨z1,j2,e2',by rw[a0c (a02.1 z2).1];exact z2,by rw[a0c (a02.1 z3).1];exact z3,z4,z5⟩
theorem QH{t:TypeId}{m k v:TV}{s1:St}{i:lK}{mv kv vv:Value}(hV:Valid M D s.get w)(h:xH P t s m k v=some (s1,i))(hm:VR M.h m mv)(hk:VR M.h k kv)(hv:VR M.h v vv)
  (hD:∀j∈i.ts,D j):s1.env=s.env∧∃w' M',(Instr.mapUpdate t mv kv vv).run P w=.ok () w' ∧
   Valid M' (fun j=>D j∨(s.get j=none∧(s1.get j).isSome=true)) s1.get w'∧Ext M s.get w M' s1.get w' i.ws∧(∀k l,M (.l k)=some l->M' (.l k)=some l):=by
 unfold xH at h;split at h
 case h_2=>simp at h
 rename_i kt et kx r hu hkx;have:=vX hkx hk;subst this;split at h
 case h_2=>simp at h
 rename_i es L9 hck;have c0:=iV hck w;cases hm with
 |map hmm=>
 rename_i r1 o1;have yP:∀o',∀k l,M (.l k)=some l->dK M (.h r) (.obj r1 o') (.l k)=some l:=fun o' k l h=>by simp[dK,h]
 have go:D (.h r)->∃xs,w.heap[r1]? = some (.map xs xs.size)∧vY M.h o1 es xs:=by
  intro hd;obtain⟨fV,b1,b2⟩:=hV.ok _ _ hmm hd;simp only[St.get,L9,a01]at b1;subst b1;exact b2
 split at h
 .-- an entry that is there
  rename_i j hf;split at h
  case h_2=>simp at h
  rename_i old ov0 hj;split at h
  case h_2=>simp at h
  rename_i ov hov;split at h
  case isFalse=>simp at h
  rename_i VA;simp only[a01,a0j]at h;obtain⟨rfl,rfl⟩:=h;have hd:=hD (.h r) (by simp[oO]);obtain⟨xs,g1,g2⟩:=go hd;obtain⟨c1,r',c2,c3⟩:=G8 hf g2;cases r' with
  |none=>exact c3.elim
  |some jv=>
   obtain⟨i,v'⟩:=jv;obtain⟨q1,e',x',e1,e2,rfl,q2,_⟩:=c3;rw[hj]at e1;cases e1;have hold:x'.key=ov:=vX hov q2;have hle:rZ M (dK M (.h r) (.obj r1 o1)):=lS fun l0 h0=>by
    have h0':M (.h r)=some l0:=h0;have Q7:M (.h r)=some (.obj r1 o1):=hmm;rw[Q7]at h0';cases h0';exact .refl _
   have ET:=g2.upd (f:=fun e=>{ e with key:=kv,val:=vv }) hle.h q1 e2 rfl (hk.mono hle.h) (hv.mono hle.h);obtain⟨v1,v2⟩:=yO hV hmm hd L9 g1 (agq _) ET;refine⟨rfl,_,_,?_,v1,v2,yP _⟩;simp only[Instr.mapUpdate,Sem.run_bind,run_underlying hu,Result.andThen_ok,getObj,Sem.run,g1];simp only[c0,c2 w,Result.andThen_ok,e2,a0U,a4F,Instr.keyThatStays,hold,VA,a2j,setObj];simp only[Sem.run_bind,Sem.run_pure,Result.andThen_ok,Sem.run,g1,Array.size_modify]
 .-- a new entry
  rename_i hf;simp only[a01,a0j]at h;obtain⟨rfl,rfl⟩:=h;have hd:=hD (.h r) (by simp[oO]);obtain⟨xs,g1,g2⟩:=go hd;obtain⟨c1,r',c2,c3⟩:=G8 hf g2;cases r' with
  |some jv=>exact c3.elim
  |none=>
   have Iw:o1 <+: o1++[es.length]:=⟨_,rfl⟩;have hle:rZ M (dK M (.h r) (.obj r1 (o1++[es.length]))):=lS fun l0 h0=>by
    have h0':M (.h r)=some l0:=h0;have Q7:M (.h r)=some (.obj r1 o1):=hmm;rw[Q7]at h0';cases h0';exact⟨rfl,Iw⟩
   have ET:=g2.push hle.h (hk.mono hle.h) (hv.mono hle.h);obtain⟨v1,v2⟩:=yO hV hmm hd L9 g1 Iw ET;refine⟨rfl,_,_,?_,v1,v2,yP _⟩;simp only[Instr.mapUpdate,Sem.run_bind,run_underlying hu,Result.andThen_ok,getObj,Sem.run,g1];simp only[c0,c2 w,Result.andThen_ok,setObj,Sem.run,g1,Array.size_push]
 .simp at h
theorem a2c{t:TypeId}{m k:TV}{e:EV}{s1:St}{i:lK}{mv kv:Value}(hV:Valid M D s.get w)(h:zS P t s m k=some (e,s1,i))(hm:VR M.h m mv)(hk:VR M.h k kv)
  (hD:∀j∈i.ts,D j):s1.env=s.env∧∃x w' M',(Instr.mapEntry t mv kv).run P w=.ok x w'∧ER M' e x ∧
   Valid M' (fun j=>D j∨(s.get j=none∧(s1.get j).isSome=true)) s1.get w'∧Ext M s.get w M' s1.get w' i.ws∧(∀k l,M (.l k)=some l->M' (.l k)=some l):=by
 unfold zS at h;split at h
 case h_2=>simp at h
 rename_i kt et kx r hu hkx;have:=vX hkx hk;subst this;split at h
 case h_2=>simp at h
 rename_i es L9 hck;have c0:=iV hck w;cases hm with
 |map hmm=>
 rename_i r1 o1;have yP:∀o',∀k l,M (.l k)=some l->dK M (.h r) (.obj r1 o') (.l k)=some l:=fun o' k l h=>by simp[dK,h]
 have go:D (.h r)->∃xs,w.heap[r1]? = some (.map xs xs.size)∧vY M.h o1 es xs:=by
  intro hd;obtain⟨fV,b1,b2⟩:=hV.ok _ _ hmm hd;simp only[St.get,L9,a01]at b1;subst b1;exact b2
 have Ig:∀o',dK M (.h r) (.obj r1 o') (.h r)=some (.obj r1 o'):=fun o'=>by simp[dK]
 split at h
 .rename_i j hf;split at h
  case h_2=>simp at h
  rename_i old v0 hj;split at h
  case h_2=>simp at h
  rename_i ov hov;split at h
  case isFalse=>simp at h
  rename_i VA;simp only[a01,a0j]at h;obtain⟨rfl,rfl,rfl⟩:=h;have hd:=hD (.h r) (by simp[oO]);obtain⟨xs,g1,g2⟩:=go hd;obtain⟨c1,r',c2,c3⟩:=G8 hf g2;cases r' with
  |none=>exact c3.elim
  |some jv=>
   obtain⟨i,v'⟩:=jv;obtain⟨q1,e',x',e1,e2,rfl,q2,q3⟩:=c3;rw[hj]at e1;cases e1;have hold:x'.key=ov:=vX hov q2;have hle:rZ M (dK M (.h r) (.obj r1 o1)):=lS fun l0 h0=>by
    have h0':M (.h r)=some l0:=h0;have Q7:M (.h r)=some (.obj r1 o1):=hmm;rw[Q7]at h0';cases h0';exact .refl _
   have ET:=g2.upd (f:=fun e=>{ e with key:=kv }) hle.h q1 e2 rfl (hk.mono hle.h) (q3.mono hle.h);obtain⟨v1,v2⟩:=yO hV hmm hd L9 g1 (agq _) ET;refine⟨rfl,.tuple #[x'.val,Go.goInt i],_,_,?_,.ent (Ig _) q1 (q3.mono hle.h),v1,v2,yP _⟩;simp only[Instr.mapEntry,Sem.run_bind,run_underlying hu,Result.andThen_ok,getObj,Sem.run,g1];simp only[c0,c2 w,Result.andThen_ok,e2,a0U,a4F,Instr.keyThatStays,hold,VA,a2j,setObj,(g2.at_ i x' e2).1];simp only[Sem.run_bind,Sem.run_pure,Result.andThen_ok,Sem.run,g1,Array.size_modify]
 .rename_i hf;split at h
  case h_2=>simp at h
  rename_i inf hi;split at h
  case h_2=>simp at h
  rename_i z hz;split at h
  case h_2=>simp at h
  rename_i zt hzt;simp only[a01,a0j]at h;obtain⟨rfl,rfl,rfl⟩:=h;have hd:=hD (.h r) (by simp[oO]);obtain⟨xs,g1,g2⟩:=go hd;obtain⟨c1,r',c2,c3⟩:=G8 hf g2;have hzr:(zeroValue et).run P w=.ok z w:=by simp[zeroValue,iT hi,hz]
  cases r' with
  |some jv=>exact c3.elim
  |none=>
   have Iw:o1 <+: o1++[es.length]:=⟨_,rfl⟩;have hle:rZ M (dK M (.h r) (.obj r1 (o1++[es.length]))):=lS fun l0 h0=>by
    have h0':M (.h r)=some l0:=h0;have Q7:M (.h r)=some (.obj r1 o1):=hmm;rw[Q7]at h0';cases h0';exact⟨rfl,Iw⟩
   have ET:=g2.push hle.h (hk.mono hle.h) (.yx hzt);obtain⟨v1,v2⟩:=yO hV hmm hd L9 g1 Iw ET;refine⟨rfl,.tuple #[z,Go.goInt xs.size],_,_,?_,.ent (Ig _) (by rw[a19 (by rw[g2.ord];omega),g2.ord];simp) (.yx hzt),v1,v2,yP _⟩;simp only[Instr.mapEntry,Sem.run_bind,run_underlying hu,Result.andThen_ok,getObj,Sem.run,g1];simp only[c0,c2 w,hzr,Result.andThen_ok,setObj,Sem.run,g1,Array.size_push,Sem.run_bind,Sem.run_pure]
 .simp at h
theorem a4D{t:TypeId}{m k:TV}{e:EV}{s1:St}{i:lK}{mv kv:Value}(hV:Valid M D s.get w)(h:BN P t s m k=some (e,s1,i))(hm:VR M.h m mv)(hk:VR M.h k kv)
  (hD:∀j∈i.ts,D j):s1.env=s.env∧∃x w' M',(Instr.mapEntry t mv kv).run P w=.ok x w'∧ER M' e x ∧
   Valid M' (fun j=>D j∨(s.get j=none∧(s1.get j).isSome=true)) s1.get w'∧Ext M s.get w M' s1.get w' i.ws∧(∀k l,M (.l k)=some l->M' (.l k)=some l):=by
 unfold BN at h;split at h
 .rename_i h0;split at h
  .cases h;exact a2c hV h0 hm hk hD
  .cases h
 .cases h
theorem TK{xs:Array MapEntry}{i:Nat}(h:∀(a:Nat) (x:MapEntry),xs[a]? = some x->x.born=a)(hi:i<xs.size):xs.findIdx? (fun e=>(e.born:Int)==(i:Int))=some i:=by
 rw[Array.findIdx?_eq_some_iff_getElem];refine⟨hi,?_,fun j hj=>?_⟩
 .have:=h i _ (a3I hi);simp[this]
 have:=h j _ (a3I (Nat.lt_trans hj hi));simp[this];omega
theorem a2d{t:TypeId}{m v:TV}{e:EV}{s1:St}{i:lK}{mv ev vv:Value}(hV:Valid M D s.get w)(h:FX s m e v=some (s1,i))(hm:VR M.h m mv)(he:ER M e ev)(hv:VR M.h v vv)
  (hD:∀j∈i.ts,D j):s1.env=s.env∧∃w' M',(Instr.entryStore t mv ev vv).run P w=.ok () w' ∧
   Valid M' (fun j=>D j∨(s.get j=none∧(s1.get j).isSome=true)) s1.get w'∧Ext M s.get w M' s1.get w' i.ws∧(∀k l,M (.l k)=some l->M' (.l k)=some l):=by
 unfold FX at h;split at h
 case h_2=>simp at h
 rename_i r r' j;split at h
 case isFalse=>simp at h
 rename_i hrr;subst hrr;split at h
 case h_2=>simp at h
 rename_i es L9;split at h
 case h_2=>simp at h
 rename_i k v0 hj;simp only[a01,a0j]at h;obtain⟨rfl,rfl⟩:=h;cases hm with
 |map hmm=>
 rename_i r1 o1;cases he with
 |E8 h1 q1=>
 rename_i r2 i o2;have Q7:M (.h r)=some (.obj r1 o1):=hmm;rw[Q7]at h1;cases h1;have hd:=hD (.h r) (by simp[oO]);obtain⟨fV,b1,b2⟩:=hV.ok _ _ hmm hd;simp only[St.get,L9,a01]at b1;subst b1;obtain⟨xs,g1,g2⟩:=b2;have aQ:i<xs.size:=by rw[<-g2.ord];exact(a02.1 q1).1
 obtain⟨z1,j2,e2',z2,z3,z4,z5⟩:=g2.at_ i _ (a3I aQ);rw[q1]at z2;cases z2;rw[hj]at z3;cases z3;have hle:rZ M (dK M (.h r) (.obj r1 o1)):=lS fun l0 h0=>by
  have h0':M (.h r)=some l0:=h0;rw[Q7]at h0';cases h0';exact .refl _
 have ET:=g2.upd (f:=fun e=>{ e with val:=vv }) hle.h q1 (a3I aQ) rfl (z4.mono hle.h) (hv.mono hle.h);obtain⟨v1,v2⟩:=yO hV hmm hd L9 g1 (agq _) ET;refine⟨rfl,_,_,?_,v1,v2,fun k l h=>by simp[dK,h]⟩;have hf:=TK (fun a x hx=>(g2.at_ a x hx).1) aQ;simp only[Instr.entryStore,Sem.run_bind,Result.andThen_ok,getObj,Sem.run,g1,asInt,asIntOf,Go.goInt,hf,setObj];simp only[Sem.run_bind,Sem.run_pure,Result.andThen_ok,Sem.run,hf,g1,Array.size_modify]
end
def G9(M:Mp)(env:List (Nat×EV))(a:Act)(X:Array Operand):Prop:=∀x∈X,∀e,Ib env x=some e->ER M e (a.eval x)
theorem jM.on{M:Mp}{env:List (Nat×EV)}{a:Act}(hE:jM M env a.tmps)(X:Array Operand):G9 M env a X:=fun _ _ _ he=>a4p hE he
section
variable {M:Mp} {env:List (Nat×EV)} {a:Act} {X:Array Operand}
theorem oU(hE:G9 M env a X){x:Operand}(hx:x∈X){e:EV}(h:Ib env x=some e):ER M e (a.eval x):=hE x hx e h
theorem gZ(hE:G9 M env a X){x:Operand}(hx:x∈X){v:TV}(h:qH env x=some v):VR M.h v (a.eval x):=by
 unfold qH at h;split at h
 .rename_i v' he;simp at h;subst h;exact(oU hE hx he).vw
 simp at h
theorem Gf(hE:G9 M env a X):∀{xs:List Operand} {vs:List TV},(∀x∈xs,x∈X)->Td env xs=some vs->bV M.h vs (xs.map a.eval)
 | [],vs,_,h=>by simp[Td]at h;subst h;exact .nil
 |x::xs,vs,hx,h=>by
  simp only[Td]at h;split at h
  .rename_i v vs' h1 h2;simp at h;subst h;exact .cons (gZ hE (hx x (by simp)) h1) (Gf hE (fun y hy=>hx y (by simp[hy])) h2)
  simp at h
theorem TL(hE:G9 M env a X):∀{xs:List (Nat×Operand)} {vs:List (Nat×TV)},(∀p∈xs,p.2∈X)->Vj env xs=some vs ->
  PR M.h vs (xs.map fun(i,x)=>(i,a.eval x))
 | [],vs,_,h=>by simp[Vj]at h;subst h;exact .nil
 |(i,x)::xs,vs,hx,h=>by
  simp only[Vj]at h;split at h
  .rename_i v vs' h1 h2;simp at h;subst h;exact .cons (gZ hE (hx (i,x) (by simp)) h1) (TL hE (fun y hy=>hx y (by simp[hy])) h2)
  .simp at h
theorem Gg(hE:G9 M env a X){o:Option Operand}(hx:∀x,o=some x->x∈X){v:Option TV}(h:Vl env o=some v):OR M.h v (o.map a.eval):=by
 unfold Vl at h;split at h
 .simp at h;subst h;exact .none
 rename_i x;split at h
 .rename_i v' hv;simp at h;subst h;exact .some (gZ hE (hx x rfl) hv)
 simp at h
end
section
variable {P:Program} {M:Mp} {D:Key->Prop} {w:World} {s:St}
def Gh:Op->Bool
 |.call { callee:=.value _,.. }=>true
 |_=>false
theorem FZ.lU{C:Ct}{c:Sem Next}{v:TV}{S:Sem Value}(hV:Valid M D C w)(hc:c=(do pure (.value (<-S))))(h:∃z,VR M.h v z∧S.run P w=.ok z w):FZ P M D C w c (.val v) C []:=by
 obtain⟨z,h1,h2⟩:=h;exact .same hV (by rw[hc];simp[h2]) (.val h1)
theorem FZ.Nv{C:Ct}{c:Sem Next}{v:EV}{S:Sem Value}(hV:Valid M D C w)(hc:c=(do pure (.value (<-S))))(h:∃z,ER M v z∧S.run P w=.ok z w):FZ P M D C w c v C []:=by
 obtain⟨z,h1,h2⟩:=h;exact .same hV (by rw[hc];simp[h2]) h1
theorem FZ.ahj{C:Ct}{c:Sem Next}{v:TV}{S:Sem Value}{C1:Ct}{ws:List Key}(hc:c=(do pure (.value (<-S))))(h:BOk P M D C w S v C1 ws):FZ P M D C w c (.val v) C1 ws:=by
 obtain⟨x,w',M',h1,h2⟩:=h;exact⟨x,w',M',.inl (by rw[hc];simp[h1]),h2⟩
theorem FZ.adB{C:Ct}{c:Sem Next}{S:Sem Unit}{C1:Ct}{ws:List Key}(hc:c=(do S;pure .skip))(h:∃w' M',S.run P w=.ok () w'∧Valid M' (fun j=>D j∨(C j=none∧(C1 j).isSome=true)) C1 w'∧Ext M C w M' C1 w' ws∧(∀k l,M (.l k)=some l->M' (.l k)=some l)):FZ P M D C w c .undef C1 ws:=by
 obtain⟨w',M',h1,h2,h3,h4⟩:=h;exact⟨Go.undef,w',M',.inr ⟨rfl,by rw[hc];simp[h1]⟩,⟨h2,h3,.undef,h4⟩⟩
theorem FZ.amP{C:Ct}{c:Sem Next}{S:Sem Unit}{C1:Ct}{ws:List Key}(hc:c=(do S;pure .skip))(h:∃w',S.run P w=.ok () w'∧Valid M (fun j=>D j∨(C j=none∧(C1 j).isSome=true)) C1 w'∧Ext M C w M C1 w' ws):FZ P M D C w c .undef C1 ws:=by
 obtain⟨w',h1,h2,h3⟩:=h;exact⟨Go.undef,w',M,.inr ⟨rfl,by rw[hc];simp[h1]⟩,⟨h2,h3,.undef,fun _ _ h=>h⟩⟩
theorem Yy{b:Builtin}{at_:Array TypeId}{t:TypeId}{cs:Array Bool}{az:List TV}{xs:List Value}{v:TV}{s1:St}{i:lK}(hV:Valid M D s.get w)(yL:M (.h s.heap.length)=none)
  (h:qL P b at_ t s az=some (v,s1,i)) (hx:bV M.h az xs) (hD:∀k∈i.ts,D k):s1.env=s.env∧FZ P M D s.get w (builtin b at_ t cs xs.toArray) (.val v) s1.get i.ws:=by
 unfold qL at h;split at h
 .simp only[a06,a0j]at h;obtain⟨⟨v',i'⟩,h1,rfl,rfl,rfl⟩:=h;obtain⟨x,xs',rfl,hx1,hx2⟩:=hx.iK;have:=hx2.pO;subst this;obtain⟨e1,e2⟩:=Yt (t:=t) hV h1 hx1 hD;refine⟨rfl,?_⟩;simp only;rw[e1];exact .lU hV rfl e2
 .obtain⟨x,xs',rfl,hx1,hx2⟩:=hx.iK;obtain⟨y,ys',rfl,hy1,hy2⟩:=hx2.iK;have:=hy2.pO;subst this;obtain⟨e1,e2⟩:=Ir (ty:=t) hV yL h hx1 hy1 hD;exact⟨e1,.ahj rfl e2⟩
 .obtain⟨x,xs',rfl,hx1,hx2⟩:=hx.iK;obtain⟨y,ys',rfl,hy1,hy2⟩:=hx2.iK;have:=hy2.pO;subst this;obtain⟨e1,e2⟩:=TJ (ty:=t) hV h hx1 hy1 hD;exact⟨e1,.ahj rfl e2⟩
 .simp only[a06,a0j]at h;obtain⟨v',h1,rfl,rfl,rfl⟩:=h;exact⟨rfl,.lU hV rfl (yM h1 hx)⟩
 .simp only[a06,a0j]at h;obtain⟨v',h1,rfl,rfl,rfl⟩:=h;exact⟨rfl,.lU hV rfl (yM h1 hx)⟩
 .simp at h
theorem ahk{call:bf}{site:Nat->Bool}{o:Oper}{a:Act}{v:EV}{s1:St}{i:lK}(hV:Valid M D s.get w)(hE:G9 M s.env a o.op.operands)(yL:M (.h s.heap.length)=none)(hnl:M (.l s.loc.length)=none)
  (h:oP P call site s o=some (v,s1,i)) (hc:Gh o.op=false) (hD:∀k∈i.ts,D k):s1.env=s.env∧FZ P M D s.get w (execOp a.eval o) v s1.get i.ws:=by
 unfold oP at h;unfold execOp;split at h
 .-- move
  rename_i x ho;rw[ho];simp only[a06,a0j]at h;obtain⟨e,he,rfl,rfl,rfl⟩:=h;exact⟨rfl,.same hV rfl (oU hE (by simp[ho,Op.operands]) he)⟩
 .rename_i x ho;rw[ho];simp only[a06,a0j]at h;obtain⟨e,he,rfl,rfl,rfl⟩:=h;exact⟨rfl,.same hV rfl (oU hE (by simp[ho,Op.operands]) he)⟩
 .-- pick
  rename_i c x y ho;rw[ho];split at h
  .rename_i t ht;simp only[a06,a0j]at h;obtain⟨e,he,rfl,rfl,rfl⟩:=h;have hb:=gZ hE (by simp[ho,Op.operands]) ht;have qE:a.eval c=.bool t:=by cases qE:a.eval c<;>rw[qE]at hb<;>cases hb;rfl
   have:=oU hE (by cases t<;>simp[ho,Op.operands]) he;refine⟨rfl,.same hV (x:=a.eval (if t then x else y)) ?_ this⟩;simp only[Sem.run_bind,qE,asBool,Sem.run_pure,Result.andThen_ok];cases t<;>rfl
  .simp at h
 .-- alloc
  rename_i e ho;rw[ho];simp only[a06]at h;obtain⟨z,hz,h⟩:=h;obtain⟨i',x,v',_,_,_,_,hz1,hvr,hzr⟩:=wo hz;simp only[a0j]at h;obtain⟨rfl,rfl,rfl⟩:=h;obtain⟨M',hp⟩:=a4q hV yL hnl (site (o.dst.getD 0)) e (hvr M.h) hz1 rfl;refine⟨by unfold qI;split<;>rfl,_,_,M',.inl ?_,hp⟩;simp[Instr.alloc,hzr w,newVar,newRow]
 .-- box
  rename_i t x ho;rw[ho];split at h
  .rename_i v0 hv0;split at h
   .rename_i EO;simp only[a01,a0j]at h;obtain⟨rfl,rfl,rfl⟩:=h;obtain⟨M',hp⟩:=a4q hV yL hnl (site (o.dst.getD 0)) t (gZ hE (by simp[ho,Op.operands]) hv0).cells (L8 EO) rfl;refine⟨by unfold qI;split<;>rfl,_,_,M',.inl ?_,hp⟩;simp[Instr.box,newVar,newRow]
   .simp at h
  .simp at h
 .-- build
  rename_i t ps ho;rw[ho];split at h
  .rename_i qs hq;simp only[a06,a0j]at h;obtain⟨v0,hb,rfl,rfl,rfl⟩:=h;obtain⟨x,h1,h2⟩:=a4s hb (TL hE (fun p hp=>by simp[ho,Op.operands];exact⟨p.1,by simpa using hp⟩) hq);refine⟨rfl,.lU hV rfl ⟨x,h1,?_⟩⟩;have:=h2 w
   rwa [show(List.map (fun x=>(x.1,a.eval x.2)) ps.toList).toArray=ps.map (fun x=>(x.1,a.eval x.2))from by apply adv;simp]at this
  .simp at h
 .-- buildSlice
  rename_i t len ps ho;rw[ho];split at h
  .rename_i qs hq;simp only[a06,a0j]at h;obtain⟨⟨v0,s0⟩,hb,rfl,rfl,rfl⟩:=h;obtain⟨e1,x,w',M',h1,h2⟩:=tZ hV yL hb (TL hE (fun p hp=>by simp[ho,Op.operands];exact⟨p.1,by simpa using hp⟩) hq);refine⟨e1,x,w',M',.inl ?_,h2⟩;rw[show(List.map (fun x=>(x.1,a.eval x.2)) ps.toList).toArray=ps.map (fun x=>(x.1,a.eval x.2))from by apply adv;simp]at h1;simp[h1]
  .simp at h
 .-- load
  rename_i t x ho;rw[ho];split at h
  .rename_i e he;simp only[a06,a0j]at h;obtain⟨⟨v0,i0⟩,hl,rfl,rfl,rfl⟩:=h;obtain⟨e1,e2⟩:=G5 hV hl (oU hE (by simp[ho,Op.operands]) he) hD;refine⟨rfl,?_⟩;simp only;rw[e1];exact .lU hV rfl e2
  .simp at h
 .-- store
  rename_i t x y ho;rw[ho];split at h
  .rename_i e v0 he hv0;simp only[a06,a0j]at h;obtain⟨⟨s0,i0⟩,hl,rfl,rfl,rfl⟩:=h;obtain⟨e1,w',e2,e3,e4,e5⟩:=Yp hV hl (oU hE (by simp[ho,Op.operands]) he) (gZ hE (by simp[ho,Op.operands]) hv0) hD;exact⟨e1,.amP rfl ⟨w',e2,e3.widen e5,e4⟩⟩
  .simp at h
 .-- nilCheck
  rename_i x ho;rw[ho];split at h
  .rename_i k off he;simp only[a01,a0j]at h;obtain⟨rfl,rfl,rfl⟩:=h;have hx:=oU hE (by simp[ho,Op.operands]) he;refine⟨rfl,.same hV (x:=a.eval x) ?_ hx⟩;cases hxe:a.eval x<;>rw[hxe]at hx<;>cases hx
   simp[hxe]
  .rename_i b off lim he;simp only[a01,a0j]at h;obtain⟨rfl,rfl,rfl⟩:=h;have hx:=oU hE (by simp[ho,Op.operands]) he;refine⟨rfl,.same hV (x:=a.eval x) ?_ hx⟩;have ET:=hx.vw;cases hxe:a.eval x<;>rw[hxe]at ET<;>cases ET
   simp[hxe]
  .rename_i f b c he;simp only[a01,a0j]at h;obtain⟨rfl,rfl,rfl⟩:=h;have hx:=oU hE (by simp[ho,Op.operands]) he;refine⟨rfl,.same hV (x:=a.eval x) ?_ hx⟩;have ET:=hx.vw;cases hxe:a.eval x<;>rw[hxe]at ET<;>cases ET
   simp[hxe]
  .rename_i l he;simp only[a01,a0j]at h;obtain⟨rfl,rfl,rfl⟩:=h;have hx:=oU hE (by simp[ho,Op.operands]) he;refine⟨rfl,.same hV (x:=a.eval x) ?_ hx⟩;have ET:=hx.vw;cases hxe:a.eval x<;>rw[hxe]at ET<;>cases ET
   simp[hxe]
  .simp at h
 .-- binOp
  rename_i op t x y t' ho;rw[ho];split at h
  .rename_i u v0 hu hv;simp only[a06,a0j]at h;obtain⟨r,hb,rfl,rfl,rfl⟩:=h;exact⟨rfl,.lU hV rfl (Yq hb (gZ hE (by simp[ho,Op.operands]) hu) (gZ hE (by simp[ho,Op.operands]) hv))⟩
  .simp at h
 .-- unOp
  rename_i op t x ho;rw[ho];split at h
  .rename_i u hu;simp only[a06,a0j]at h;obtain⟨r,hb,rfl,rfl,rfl⟩:=h;exact⟨rfl,.lU hV rfl (iQ hb (gZ hE (by simp[ho,Op.operands]) hu))⟩
  .simp at h
 .-- convert
  rename_i t t' x ho;rw[ho];split at h
  .rename_i u hu;simp only[a06,a0j]at h;obtain⟨r,hb,rfl,rfl,rfl⟩:=h;exact⟨rfl,.lU hV rfl (TD hb (gZ hE (by simp[ho,Op.operands]) hu))⟩
  .simp at h
 .-- makeFunc
  rename_i f az bs ho;rw[ho];split at h
  .rename_i us vs hu hv;simp only[a01,a0j]at h;obtain⟨rfl,rfl,rfl⟩:=h;have h1:=Gf hE (fun x hx=>by simp[ho,Op.operands];exact .inl (by simpa using hx)) hu;have h2:=Gf hE (fun x hx=>by simp[ho,Op.operands];exact .inr (by simpa using hx)) hv;refine⟨rfl,.lU hV rfl ⟨.func (.func f) (az.map a.eval) (bs.map a.eval),?_,rfl⟩⟩;have:=VR.fn (f:=f) h1.len h1.at_ h2.len h2.at_
   rwa [show(List.map a.eval az.toList).toArray=az.map a.eval from by apply adv;simp,show(List.map a.eval bs.toList).toArray=bs.map a.eval from by apply adv;simp]at this
  .simp at h
 .-- makeMap
  rename_i t r ho;rw[ho];have yC:s.get (.h s.heap.length)=none:=by simp[St.get]
  have hle:rZ M (dK M (.h s.heap.length) (.obj w.heap.size [])):=lS fun l0 h0=>by rw[yL]at h0;cases h0
  have gq:∀c,c<w.heap.size->c∉aJ (.obj w.heap.size [])->(w.alloc (.map #[] 0)).heap[c]? = w.heap[c]?:=fun c hc _=>vZ w _ c hc;have fQ:∀c∈aJ (.obj w.heap.size []),(∃l0,M (.h s.heap.length)=some l0∧c∈aJ l0)∨w.heap.size<=c:=fun c hc=>.inr (by simp[aJ]at hc;omega);have key:N8 M D s.get w (.val (.map s.heap.length)) (St.get { s with heap:=s.heap++[.map []] }) [] (.map (some w.heap.size)) (w.alloc (.map #[] 0)) (dK M (.h s.heap.length) (.obj w.heap.size [])):=by
   refine⟨?_,?_,.val (.map (o:=[]) (by simp[Mp.h,dK])),qM yL⟩
   .rw[jW];refine hV.upd _ _ _ (fun j hj=>?_) (fun l0 h0=>by rw[yL]at h0;cases h0) gq fQ (by simp) ⟨#[],heap_alloc_new w _,rfl,rfl,.nil,by simp,by simp⟩;rcases hj with hj|⟨x1,x2⟩
    .exact .inl hj
    .right;unfold lF at x2;split at x2
     .assumption
     .simp[x1]at x2
   .rw[jW];exact Ext.upd _ _ _ [] (.inr ⟨yC,yL,rfl⟩) hle gq fQ (by simp) rfl rfl rfl
  split at h
  .rename_i _ hr;simp only[a01,a0j]at h;obtain⟨rfl,rfl,rfl⟩:=h;have:=Gg hE (fun x hx=>by simp[ho,Op.operands,hx]) hr;refine⟨rfl,_,_,_,.inl ?_,key⟩;cases hrr:r.map a.eval with
   |none=>simp[hrr,Instr.makeMap]
   |some y=>rw[hrr]at this;cases this
  .rename_i k n _ _ hr hu;simp only[a01,a0j]at h;obtain⟨rfl,rfl,rfl⟩:=h;have:=Gg hE (fun x hx=>by simp[ho,Op.operands,hx]) hr;refine⟨rfl,_,_,_,.inl ?_,key⟩;cases hrr:r.map a.eval with
   |none=>rw[hrr]at this;cases this
   |some y=>
    rw[hrr]at this;cases this with
    |some hy=>
     cases hy;simp[hrr,Instr.makeMap,run_underlying hu,asInt,asIntOf]
  .simp at h
 .-- makeSlice
  rename_i t l c ho;rw[ho];split at h
  .rename_i u v0 hu hv;simp only[a06,a0j]at h;obtain⟨⟨r,s0⟩,hb,rfl,rfl,rfl⟩:=h;obtain⟨e1,z,w',M',e2,e3⟩:=zW hV yL hb (gZ hE (by simp[ho,Op.operands]) hu) (gZ hE (by simp[ho,Op.operands]) hv);exact⟨e1,z,w',M',.inl (by simp[e2]),e3⟩
  .simp at h
 .-- slice
  rename_i t x lo hi mx ho;rw[ho];split at h
  .rename_i e Yr vW mx' he Gi hhi hmx;have h1:=Gg hE (fun x hx=>by simp[ho,Op.operands,hx]) Gi;have h2:=Gg hE (fun x hx=>by simp[ho,Op.operands,hx]) hhi;have h3:=Gg hE (fun x hx=>by simp[ho,Op.operands,hx]) hmx;split at h
   .simp only[a06,a0j]at h;obtain⟨r,hb,rfl,rfl,rfl⟩:=h;exact⟨rfl,.lU hV rfl (BX hb (oU hE (by simp[ho,Op.operands]) he) h1 h2 h3)⟩
   .simp only[a06,a0j]at h;obtain⟨r,hb,rfl,rfl,rfl⟩:=h;exact⟨rfl,.lU hV rfl (Nq hb (oU hE (by simp[ho,Op.operands]) he).vw h1 h2 h3)⟩
   .simp at h
  .simp at h
 .-- fieldAddr
  rename_i t x f ho;rw[ho];split at h
  .rename_i e n he hn;simp only[a06,a0j]at h;obtain⟨r,hb,rfl,rfl,rfl⟩:=h;exact⟨rfl,.Nv hV rfl (TB hn hb (oU hE (by simp[ho,Op.operands]) he))⟩
  .simp at h
 .-- field
  rename_i t x f ho;rw[ho];split at h
  .rename_i u hu;simp only[a06,a0j]at h;obtain⟨r,hb,rfl,rfl,rfl⟩:=h;exact⟨rfl,.lU hV rfl (Nk hb (gZ hE (by simp[ho,Op.operands]) hu))⟩
  .simp at h
 .-- indexAddr
  rename_i t x y ho;rw[ho];split at h
  .rename_i e u he hu;simp only[a06,a0j]at h;obtain⟨r,hb,rfl,rfl,rfl⟩:=h;exact⟨rfl,.Nv hV rfl (zU hb (oU hE (by simp[ho,Op.operands]) he) (gZ hE (by simp[ho,Op.operands]) hu))⟩
  .simp at h
 .-- index
  rename_i t x y ho;rw[ho];split at h
  .rename_i u v0 hu hv;simp only[a06,a0j]at h;obtain⟨r,hb,rfl,rfl,rfl⟩:=h;exact⟨rfl,.lU hV rfl (Nl hb (gZ hE (by simp[ho,Op.operands]) hu) (gZ hE (by simp[ho,Op.operands]) hv))⟩
  .simp at h
 .-- lookup
  rename_i t m k ok ho;rw[ho];split at h
  .rename_i u v0 hu hv;simp only[a06,a0j]at h;obtain⟨r,hb,rfl,rfl,rfl⟩:=h;exact⟨rfl,.lU hV rfl (Dx hV hb (gZ hE (by simp[ho,Op.operands]) hu) (gZ hE (by simp[ho,Op.operands]) hv) hD)⟩
  .simp at h
 .-- mapUpdate
  rename_i t m k x ho;rw[ho];split at h
  .rename_i u v0 y hu hv hy;simp only[a06,a0j]at h;obtain⟨⟨s0,i0⟩,hb,rfl,rfl,rfl⟩:=h;obtain⟨e1,e2⟩:=QH hV hb (gZ hE (by simp[ho,Op.operands]) hu) (gZ hE (by simp[ho,Op.operands]) hv) (gZ hE (by simp[ho,Op.operands]) hy) hD;exact⟨e1,.adB rfl e2⟩
  .simp at h
 .-- insert
  rename_i t m k x ho;rw[ho];split at h
  .rename_i u v0 y hu hv hy;simp only[a06,a0j]at h;obtain⟨⟨s0,i0⟩,hb,rfl,rfl,rfl⟩:=h;obtain⟨e1,e2⟩:=QH hV hb (gZ hE (by simp[ho,Op.operands]) hu) (gZ hE (by simp[ho,Op.operands]) hv) (gZ hE (by simp[ho,Op.operands]) hy) hD;exact⟨e1,.adB rfl e2⟩
  .simp at h
 .-- mapEntry
  rename_i t m k ho;rw[ho];split at h
  .rename_i u v0 hu hv;obtain⟨e1,z,w',M',h1,h2,h3,h4,h5⟩:=a4D hV h (gZ hE (by simp[ho,Op.operands]) hu) (gZ hE (by simp[ho,Op.operands]) hv) hD;exact⟨e1,z,w',M',.inl (by show(do pure (.value (<-Instr.mapEntry t _ _)):Sem Next).run P w=_;simp[h1]),h3,h4,h2,h5⟩
  .simp at h
 .-- entryStore
  rename_i t m k x ho;rw[ho];split at h
  .rename_i u v0 y hu hv hy;simp only[a06,a0j]at h;obtain⟨⟨s0,i0⟩,hb,rfl,rfl,rfl⟩:=h;obtain⟨e1,e2⟩:=a2d (t:=t) hV hb (gZ hE (by simp[ho,Op.operands]) hu) (oU hE (by simp[ho,Op.operands]) hv) (gZ hE (by simp[ho,Op.operands]) hy) hD;exact⟨e1,.adB rfl e2⟩
  .simp at h
 .-- extract
  rename_i x n ho;rw[ho];split at h
  .rename_i e he;simp only[a06,a0j]at h;obtain⟨r,hb,rfl,rfl,rfl⟩:=h;have hx:=oU hE (by simp[ho,Op.operands]) he;refine⟨rfl,.Nv hV rfl ?_⟩;generalize a.eval x=xv at hx;unfold yJ at hb;split at hb
   .simp only[a06]at hb;obtain⟨y0,hb,rfl⟩:=hb;cases hx with
    |val hx=>
     cases hx with
     |dI g1 g2=>
      obtain⟨y,y1,y2⟩:=(bV.mk g1 g2).get hb;exact⟨y,.val y2,by simp[Instr.extract,y1]⟩
   .cases hx with
    |ent q1 q2 q3=>
     split at hb<;>cases hb
     .exact⟨_,.val q3,by simp[Instr.extract]⟩
     .exact⟨_,.E8 q1 q2,by simp[Instr.extract]⟩
   .cases hb
  .simp at h
 .-- call
  rename_i c ho;rw[ho]at hc ⊢;unfold MR at h;split at h
  .rename_i b az hb has;simp only[a06,a0j]at h;obtain⟨⟨v0,s0,i0⟩,qE,rfl,rfl,rfl⟩:=h;obtain⟨e1,e2⟩:=Yy (cs:=c.args.map fun|.const _=>true|_=>false) hV yL qE (Gf hE (fun x hx=>by simp[ho,Op.operands,Call.operands,hb];simpa using hx) has) hD;refine⟨e1,?_⟩;obtain⟨x,w',M',r1,r2⟩:=e2;refine⟨x,w',M',?_,r2⟩;rw[show(List.map a.eval c.args.toList).toArray=c.args.map a.eval from by apply adv;simp]at r1;unfold ah5 at r1 ⊢;simp only[resolve,hb,Sem.run_bind,Sem.run_pure,Result.andThen_ok,invoke];exact r1
  .rename_i f az hf has;obtain⟨callee,args,ats⟩:=c;simp only at hf;subst hf;simp[Gh]at hc
  .simp at h
 .-- range
  rename_i t x ho;rw[ho];split at h
  .rename_i r k el hv hu;split at h
   .rename_i es L9;simp only[a01,a0j]at h;obtain⟨rfl,rfl,rfl⟩:=h;have hx:=gZ hE (by simp[ho,Op.operands]) hv;refine⟨rfl,?_⟩;generalize hxv:a.eval x=xv at hx;cases hx with
    |map hm=>
    rename_i r1 o1;obtain⟨fV,b1,b2⟩:=hV.ok _ _ hm (hD (.h r) (by simp[xg]));simp only[St.get,L9,a01]at b1;subst b1;obtain⟨xs,g1,g2⟩:=b2;have yC:s.get (.h s.heap.length)=none:=(by simp[St.get]);have hrl:r<s.heap.length:=(a02.1 L9).1;have hle:rZ M (dK M (.h s.heap.length) (.obj w.heap.size [])):=lS fun l0 h0=>by rw[yL]at h0;cases h0
    have gq:∀c,c<w.heap.size->c∉aJ (.obj w.heap.size [])->(w.alloc (.mapIter (some r1) xs.size #[] xs.size)).heap[c]? = w.heap[c]?:=fun c hc _=>vZ w _ c hc;have fQ:∀c∈aJ (.obj w.heap.size []),(∃l0,M (.h s.heap.length)=some l0∧c∈aJ l0)∨w.heap.size<=c:=fun c hc=>.inr (by simp[aJ]at hc;omega);refine⟨.pointer (some ⟨w.heap.size,0,none⟩),w.alloc (.mapIter (some r1) xs.size #[] xs.size),dK M (.h s.heap.length) (.obj w.heap.size []),.inl ?_,?_,?_,.val (.iter (o:=[]) (by simp[Mp.h,dK])),qM yL⟩
    .simp[hxv,Instr.range,run_underlying hu,getObj,Sem.run,g1,newObj]
    .rw[jW];refine hV.upd _ _ _ (fun j hj=>?_) (fun l0 h0=>by rw[yL]at h0;cases h0) gq fQ (by simp) ⟨r1,o1,#[],?_,?_,?_,rfl⟩
     .rcases hj with hj|⟨x1,x2⟩
      .exact .inl hj
      .right;unfold lF at x2;split at x2
       .assumption
       .simp[x1]at x2
     .have:(Key.h r)≠.h s.heap.length:=fun e=>by cases e;omega
      simp only[Mp.h,dK,a0g this];exact hm
     .rw[g2.len];exact heap_alloc_new w _
     .rw[g2.len,g2.ord];exact a0V _
    .rw[jW];exact Ext.upd _ _ _ [] (.inr ⟨yC,yL,rfl⟩) hle gq fQ (by simp) rfl rfl rfl
   .simp at h
  .simp at h
 .-- entry
  rename_i x ho;rw[ho];split at h
  .rename_i b hv;split at h
   .rename_i r n i seen hb;split at h
    .rename_i es L9;split at h
     case isFalse=>simp at h
     rename_i hn;simp only[a06,a0j]at h;obtain⟨e,he,rfl,rfl,rfl⟩:=h;have hx:=gZ hE (by simp[ho,Op.operands]) hv;refine⟨rfl,.lU hV rfl ?_⟩;generalize a.eval x=xv at hx;cases hx with
     |iter hm=>
     rename_i b1 o1;obtain⟨fV,c1,c2⟩:=hV.ok _ _ hm (hD (.h b) (by simp[gY]));simp only[St.get,hb,a01]at c1;subst c1;obtain⟨r1,o,sa,d1,d2,d3,d4⟩:=c2;obtain⟨fV,c1,c2⟩:=hV.ok (.h r) _ d1 (hD (.h r) (by simp[gY]));simp only[St.get,L9,a01]at c1;subst c1;obtain⟨xs,g1,g2⟩:=c2;have iC:sa.toList≠[]:=fun e=>by rw[e]at d4;simp at d4
     obtain⟨k,hk⟩:∃k,sa.back? = some k∧o[k]? = some i:=by
      have h1:(sa.toList.map fun i=>o[i]?).getLast? = some (some i):=by rw[d4];simp
      rw[List.getLast?_map]at h1;simp only[a06]at h1;obtain⟨k,h2,h3⟩:=h1;exact⟨k,by rw[<-Array.getLast?_toList];exact h2,h3⟩
     have mO:k<xs.size:=by rw[<-g2.ord];exact(a02.1 hk.2).1
     obtain⟨q1,j,e',q2,q3,q4,q5⟩:=g2.at_ k _ (a3I mO);rw[hk.2]at q2;cases q2;rw[he]at q3;cases q3;refine⟨.tuple #[xs[k].key,xs[k].val],.PY (.cons q4 (.cons q5 .nil)),?_⟩;have hf:xs.find? (·.born==k)=some xs[k]:=by
      rw[<-Array.find?_toList];have:xs[k].born==k:=(by simpa using q1);rw[List.find?_eq_some_iff_getElem];refine⟨this,k,by simpa using mO,by simp,fun j hj=>?_⟩;have rQ:j<xs.size:=(by omega);have:=(g2.at_ j _ (a3I rQ)).1;simp only[Array.getElem_toList];rw[this];simp;omega
     have hc:xs.size=n:=by rw[<-g2.len];exact hn
     simp only[Instr.entry,getObj,Sem.run_bind,Sem.run,d2,g1,Result.andThen_ok,hk.1,hc,bne_self_eq_false,a2l,a3a,hf];rfl
    .simp at h
   .simp at h
  .simp at h
 .simp at h
end
abbrev kP(h:List HB):Ct:=St.get ⟨[],[],h,[]⟩
def Mp.only(M:Mp):Mp
 |.h b=>M (.h b)
 |.l _=>none
abbrev ny(r:Option Nat):Fence:={ Fence.wide with round:=r }
def KI(R:Value->World->Prop):Ending->World->Prop
 |.returned v,w=>R v w
 |_,_=>False
def jE(M:Mp)(h:List HB)(w:World)(v:TV)(h':List HB)(ws:List Nat)(y:Value)(w':World):Prop:=
 ∃M',Valid M' uM (kP h') w'∧(∀k,M' (.l k)=none)∧Ext M (kP h) w M' (kP h') w' (ws.map .h)∧VR M'.h v y
def La(P:Program)(d:Deferred)(w:World)(R:Value->World->Prop):Prop:=
 ∃f az,(invoke d.target d.args).run P w=.ok (.enter f az) w∧∀n,CallsIn Fence.wide n P f az w (KI R)
def TM(P:Program)(d:Deferred)(w:World)(R:Value->World->Prop):Prop:=
 ∃l f tmps uJ body,(invoke d.target d.args).run P w=.ok (.round l f tmps uJ body) w∧∀n,RoundIn Fence.wide n P l f tmps uJ body w (KI R)
def iD(P:Program)(call:bf):Prop:=
 ∀fv args h v h' ws,call fv args h=some (v,h',ws)->∀(M:Mp) (w:World) (x:Value) (xs:List Value),Valid M uM (kP h) w->(∀k,M (.l k)=none)->VR M.h fv x->bV M.h args xs ->
  ∃d,(∀w,(Deferred.ofValue x xs.toArray).run P w=.ok d w)∧((La P d w (jE M h w v h' ws)∧∃f a b,fv=.fn f a b)∨(TM P d w (jE M h w v h' ws)∧∃l,fv=.kF l))
theorem CallsIn.ex{n:Nat}{P:Program}{f:FuncId}{az:Array Value}{w:World}{R:Value->World->Prop}(h:CallsIn Fence.wide n P f az w (KI R)):∃y w',R y w':=by
 obtain⟨e,w',fr,hR,_⟩:=h.2 [] (room_wide _);cases e with
 |returned v=>exact⟨v,w',hR⟩
 |panicked c=>exact hR.elim
 |outgrown=>exact hR.elim
theorem RoundIn.ex{n:Nat}{P:Program}{l:Nat}{f:FuncId}{tmps:Array Value}{uJ body:Code}{w:World}{R:Value->World->Prop}(h:RoundIn Fence.wide n P l f tmps uJ body w (KI R)):∃y w',R y w':=by
 obtain⟨e,w',hR,_⟩:=h.2 default [] (room_wide _);cases e with
 |returned v=>exact⟨v,w',hR⟩
 |panicked c=>exact hR.elim
 |outgrown=>exact hR.elim
section
variable {P:Program} {call:bf}
theorem iD.ex(hC:iD P call){fv:TV}{args:List TV}{h:List HB}{v:TV}{h':List HB}{ws:List Nat}(hc:call fv args h=some (v,h',ws)){M:Mp}{w:World}{x:Value}{xs:List Value}
  (hV:Valid M uM (kP h) w) (hl:∀k,M (.l k)=none) (hx:VR M.h fv x) (Nw:bV M.h args xs):∃y w',jE M h w v h' ws y w':=by
 obtain⟨d,_,h1|h1⟩:=hC _ _ _ _ _ _ hc M w x xs hV hl hx Nw
 .obtain⟨⟨f,az,_,h2⟩,_⟩:=h1;exact CallsIn.ex (h2 0)
 .obtain⟨⟨l,f,tmps,uJ,body,_,h2⟩,_⟩:=h1;exact RoundIn.ex (h2 0)
def abt(M' M:Mp):Mp
 |.h b=>M' (.h b)
 |.l j=>M (.l j)
theorem EY{M:Mp}{D:Key->Prop}{s:St}{w:World}(hV:Valid M D s.get w)(hh:∀b l,M (.h b)=some l->D (.h b)):Valid M.only uM (kP s.heap) w:=by
 refine⟨?_,?_,?_⟩
 .intro k l hk _;cases k with
  |l j=>cases hk
  |h b=>exact hV.ok (.h b) l hk (hh b l hk)
 .intro k k' l l' b iC hk nU _ hc hw;cases k with
  |l j=>cases hk
  |h b=>
   cases k' with
   |l j=>cases nU
   |h b'=>exact hV.own _ _ _ _ _ iC hk nU (hh b l hk) hc hw
 intro k l hk;cases k with
 |l j=>cases hk
 |h b=>exact hV.inb _ _ hk
theorem QI{M:Mp}{D:Key->Prop}{s:St}{w:World}(hV:Valid M D s.get w)
  (yP:∀j l,M (.l j)=some l->∀k' l',Key.l j≠k'->M k'=some l'->∀c∈aJ l,c∉aJ l')
  {v:TV} {h':List HB} {ws:List Nat} {y:Value} {w':World} (hr:jE M.only s.heap w v h' ws y w') :
  ∃M',N8 M D s.get w (.val v) (St.get { s with heap:=h' }) (ws.map .h) y w' M':=by
 obtain⟨M',Yw,hl',hX,hy⟩:=hr;have qg:∀(b j:Nat) (l l':Lc),M' (.h b)=some l->M (.l j)=some l'->∀c∈aJ l,c∉aJ l':=by
  intro b j l l' hb hj c hc Ve;have aQ:=hV.inb _ _ hj c Ve;obtain⟨l0,h1,h2⟩:=hX.fresh _ _ hb c hc aQ;exact yP j l' hj (.h b) l0 (by simp) h1 c Ve h2
 refine⟨abt M' M,⟨⟨?_,?_,?_⟩,?_,.val hy,fun _ _ h=>h⟩⟩
 .intro k l hk hd;cases k with
  |h b=>exact Yw.ok (.h b) l hk trivial
  |l j=>
   rcases hd with hd|⟨h1,h2⟩
   .obtain⟨b0,h1,h2⟩:=hV.ok (.l j) l hk hd;refine⟨b0,h1,h2.mono (N:=M.h) (N':=(abt M' M).h) (hX.Ic.h) fun c hc=>?_⟩;refine hX.frame c (hV.inb _ _ hk c hc) fun k' nU l' hl' amS=>?_;obtain⟨b',_,rfl⟩:=a1d.1 nU;exact yP j l hk (.h b') l' (by simp) hl' c hc amS
   .simp only[St.get]at h1 h2;rw[h1]at h2;cases h2
 .intro k k' l l' b0 iC hk nU hd hc hw;cases k with
  |h b=>
   cases k' with
   |h b'=>exact Yw.own (.h b) (.h b') l l' b0 iC hk nU trivial hc hw
   |l j=>exact qg b j l l' hk nU
  |l j=>
   cases k' with
   |h b'=>exact fun c hc Ve=>qg b' j l' l nU hk c Ve hc
   |l j'=>exact yP j l hk (.l j') l' iC nU
 .intro k l hk c hc;cases k with
  |h b=>exact Yw.inb (.h b) l hk c hc
  |l j=>exact a8R (hV.inb (.l j) l hk c hc) hX.size
 .exact
  {Ic:=by
    intro k l hk;cases k with
    |h b=>exact hX.Ic (.h b) l hk
    |l j=>exact⟨l,hk,.refl l⟩
   frame:=fun c hc hf=>hX.frame c hc fun k hk l hl=>by
    obtain⟨b',_,rfl⟩:=a1d.1 hk;exact hf _ hk l hl
   mY:=fun k hk hn=>by
    cases k with
    |h b=>exact hX.mY (.h b) hk hn
    |l j=>rfl
   kW:=fun k hk hn=>by
    cases k with
    |h b=>exact hX.kW (.h b) hk hn
    |l j=>rfl
   fresh:=fun k l hk c hc aQ=>by
    cases k with
    |h b=>exact hX.fresh (.h b) l hk c hc aQ
    |l j=>exact⟨l,hk,hc⟩
   size:=hX.size
   has:=fun k hk=>by
    cases k with
    |h b=>exact hX.has (.h b) hk
    |l j=>exact hk
   wsub:=fun k hk=>by
    obtain⟨b',_,rfl⟩:=a1d.1 hk;exact hX.wsub _ hk
   wrote:=fun k hk=>by
    obtain⟨b',_,rfl⟩:=a1d.1 hk;exact hX.wrote _ hk
   os:=hX.os
   output:=hX.output
   tape:=hX.tape }
theorem getEnv(s:St)(env:List (Nat×EV))(ws:List Nat):St.get { s with env:=env,ws:=ws }=s.get:=by
 funext k;cases k<;>rfl
theorem Yz(s:St)(d:Option Nat)(v:EV):St.get (s.put d v)=s.get:=by
 funext k;cases d<;>cases k<;>rfl
theorem Valid.sub{M:Mp}{D D':Key->Prop}{C:Ct}{w:World}(hV:Valid M D C w)(h:∀k,D' k->D k):Valid M D' C w:=
 ⟨fun k l hk hd=>hV.ok k l hk (h k hd),fun k k' l l' b a1 a2 a3 hd=>hV.own k k' l l' b a1 a2 a3 (h k hd),hV.inb⟩
theorem a2f{site:Nat->Bool}{s:St}{o:Oper}{c:Call}(h:o.op=.defer c):oP P call site s o=none:=by
 simp[oP,h]
def uq(P:Program)(call:bf)(site:Nat->Bool)(fl nt:Nat)(ops:Array Oper)(o:Oper)(s:St)(i:lK)(s':St):Prop:=
 MS nt o=true∧((BO ops s.env o=some true∧∃v s1,oP P call site s o=some (v,s1,i)∧s'=St.put { s1 with ws:=jO fl i.ws s.ws } o.dst v) ∨
  (BO ops s.env o=some false∧i=bY∧s'=s.put o.dst .undef))
def nV(i:lK)(k:Key):Prop:=k∈i.ts∨k∈i.ws∨(i.all=true∧k.isH=true)
def Le(M:Mp)(env:List (Nat×EV))(tmps:Array Value)(ops:Array Oper)(o:Oper):Prop:=
 ∀j want d,o.guard=some (j,want)->(ops[j]?).bind (·.dst)=some d->∀e,dM d env=some e->ER M e (tmps.getD d Go.undef)
theorem Lh{M:Mp}{env:List (Nat×EV)}{tmps:Array Value}{ops:Array Oper}{o:Oper}{b:Bool}(hG:Le M env tmps ops o)(h:BO ops env o=some b):Region.wanted o (yielded ops tmps)=b:=by
 unfold BO at h;unfold Region.wanted;split at h
 .rename_i hg;rw[hg];simpa using h
 rename_i j want hg;rw[hg];simp only;split at h
 rotate_left
 .simp at h
 rename_i d hd;split at h
 .rename_i b0 he;have h3:=(hG j want d hg hd _ he).vw;have hb:tmps.getD d Go.undef=.bool b0:=by
   generalize tmps.getD d Go.undef=z at h3;cases h3;rfl
  have:tmps[d]? = some (.bool b0):=by
   by_cases h1:d<tmps.size
   .simp only[Array.getD,h1,dite_true]at hb;rw[a3I h1];exact congrArg some hb
   simp[Array.getD,h1,Go.undef]at hb
  simp only[yielded,hd,a4c,this];simpa using h
 .rename_i he;have h2:=hG j want d hg hd _ he;have hb:tmps.getD d Go.undef=Go.undef:=by
   generalize tmps.getD d Go.undef=z at h2;cases h2;rfl
  have:tmps[d]? = some Go.undef∨tmps[d]? = none:=by
   by_cases h1:d<tmps.size
   .simp only[Array.getD,h1,dite_true]at hb;rw[a3I h1];exact .inl (congrArg some hb)
   right;simpa using h1
  simp at h;subst h;rcases this with this|this<;>simp only[yielded,hd,a4c,this]<;>rfl
 simp at h
def JJ(M:Mp)(D:Key->Prop)(s:St)(w:World)(o:Oper)(i:lK)(s':St)(x:Value)(w':World):Prop:=
 ∃v M',s'=St.put { s' with env:=s.env } o.dst v∧N8 M D s.get w v s'.get i.ws x w' M'
theorem TN(s:St)(env:List (Nat×EV))(d:Option Nat)(v:EV)(h:s.env=env):s.put d v=St.put { s.put d v with env:=env } d v:=by
 subst h;cases d<;>rfl
theorem a0k(hC:iD P call){site:Nat->Bool}{fl nt:Nat}{ops:Array Oper}{o:Oper}{s s':St}{i:lK}{M:Mp}{D:Key->Prop}{w:World}{a:Act}
  (hS:uq P call site fl nt ops o s i s') (hV:Valid M D s.get w) (yL:M (.h s.heap.length)=none) (hnl:M (.l s.loc.length)=none)
  (yP:∀j l,M (.l j)=some l->∀k' l',Key.l j≠k'->M k'=some l'->∀c∈aJ l,c∉aJ l')
  (hE:G9 M s.env a o.op.operands) (hG:Le M s.env a.tmps ops o) (hD:∀k,nV i k->(M k).isSome=true->D k) :
  (∃x w',JJ M D s w o i s' x w') ∧
   ∀(r:Option Nat) (n:Nat) (Q:Exit->Act->World->Prop) (idx:Nat) (K:Act->World->Prop),ops[idx]? = some o ->
    (∀x w',JJ M D s w o i s' x w'->K (a.put o.dst x) w')->wpOpIn (ny r) n P ops Q idx K a w:=by
 obtain⟨_,⟨hw,v,s1,kG,rfl⟩|⟨hw,rfl,rfl⟩⟩:=hS
 .have a0l:=Lh hG hw;by_cases hc:Gh o.op=true
  .-- a call
   have:∃f args ats,o.op=.call { callee:=.value f,args:=args,argTypes:=ats }:=by
    unfold Gh at hc;split at hc
    .rename_i f args ats ho;exact⟨_,_,_,ho⟩
    .cases hc
   obtain⟨f,args,ats,ho⟩:=this;simp only[oP,ho,MR]at kG;split at kG
   .rename_i b az hb has;cases hb
   .rename_i f' az hf has;injection hf with hf;subst hf;split at kG
    .rename_i fv hfv;split at kG
     .rename_i v0 h' ws xQ;simp only[a01,a0j]at kG;obtain⟨rfl,rfl,rfl⟩:=kG;have hh:∀b l,M (.h b)=some l->D (.h b):=fun b l hb=>hD _ (.inr (.inr ⟨rfl,rfl⟩)) (by simp[hb]);have hVo:=EY hV hh;have hfx:VR M.only.h fv (a.eval f):=gZ hE (by simp[ho,Op.operands,Call.operands]) hfv;have hax:bV M.only.h az (args.toList.map a.eval):=Gf hE (fun x hx=>by simp[ho,Op.operands,Call.operands];exact .inr (by simpa using hx)) has;have conv:∀y w',jE M.only s.heap w v0 h' ws y w'->JJ M D s w o ⟨true,[],ws.map .h⟩ (St.put { s with heap:=h',ws:=jO fl (ws.map .h) s.ws } o.dst (.val v0)) y w':=by
       intro y w' hr;obtain⟨M',hp⟩:=QI hV yP hr;refine⟨.val v0,M',TN _ _ _ _ rfl,?_⟩;rw[Yz];exact hp
      obtain⟨d,hd,uV⟩:=hC _ _ _ _ _ _ xQ M.only w (a.eval f) (args.toList.map a.eval) hVo (fun _=>rfl) hfx hax;refine⟨?_,?_⟩
      .obtain⟨y,w',hr⟩:=iD.ex hC xQ hVo (fun _=>rfl) hfx hax;exact⟨y,w',conv y w' hr⟩
      .intro r n Q idx K TP hK;unfold wpOpIn;simp only[TP,a0l,a2j];refine⟨fun _ _=>trivial,?_⟩;have a4G:∀nx,(invoke d.target d.args).run P w=.ok nx w->(o.semAt (ny r).round a.eval).run P w=.ok nx w:=by
        intro nx hnx;rw[Oper.semAt_eq _ _ _ (fun c=>by rw[ho];simp)];unfold execOp;rw[ho];have:=hd w;rw[show(List.map a.eval args.toList).toArray=args.map a.eval from by apply adv;simp]at this;simp[resolve,this,hnx]
       rcases uV with⟨⟨f1,as1,hinv,qg⟩,_⟩|⟨⟨l1,f1,tm1,ag1,bd1,hinv,hrd⟩,_⟩
       .rw[a4G _ hinv];refine⟨fun h=>by simp[Fence.wide]at h,CallsIn.mono (F:=ny r) (qg (n-1)) fun e w' he=>?_⟩;cases e with
        |returned y=>exact hK y w' (conv y w' he)
        |panicked c=>exact he.elim
        |outgrown=>exact he.elim
       .rw[a4G _ hinv];refine⟨fun h=>by simp[Fence.wide]at h,RoundIn.mono (F:=ny r) (hrd (n-1)) fun e w' he=>?_⟩;cases e with
        |returned y=>exact hK y w' (conv y w' he)
        |panicked c=>exact he.elim
        |outgrown=>exact he.elim
     .simp at kG
    .simp at kG
   .simp at kG
  .-- no call
   have Ve:Gh o.op=false:=(by simpa using hc);have Yw:Valid M (fun k=>D k∨M k=none) s.get w:=⟨fun k l hk hd=>hV.ok k l hk (hd.resolve_right (by simp[hk])),fun k k' l l' b a1 a2 a3 hd=>hV.own k k' l l' b a1 a2 a3 (hd.resolve_right (by simp[a2])),hV.inb⟩;obtain⟨he,x,w',M',hr,hp⟩:=ahk Yw hE yL hnl kG Ve (fun k hk=>by
    cases hm:M k with
    |none=>exact .inr rfl
    |some l=>exact .inl (hD k (.inl hk) (by simp[hm])))
   have vO:JJ M D s w o i (St.put { s1 with ws:=jO fl i.ws s.ws } o.dst v) x w':=by
    refine⟨v,M',TN _ _ _ _ he,?_⟩;have hg:St.get { s1 with ws:=jO fl i.ws s.ws }=s1.get:=getEnv s1 s1.env _;rw[Yz,hg];exact⟨hp.val.sub fun k hk=>hk.imp .inl id,hp.ext,hp.er,hp.loc⟩
   refine⟨⟨x,w',vO⟩,fun r n Q idx K TP hK=>?_⟩;unfold wpOpIn;simp only[TP,a0l,a2j];refine⟨fun _ _=>trivial,?_⟩;rw[Oper.semAt_eq _ _ _ (fun c ho=>by rw[a2f ho]at kG;cases kG)];rcases hr with hr|⟨rfl,hr⟩
   .rw[hr];exact hK x w' vO
   .rw[hr];exact hK _ w' vO
 .have a0l:=Lh hG hw;have vO:JJ M D s w o bY (s.put o.dst .undef) Go.undef w:=by
   refine⟨.undef,M,TN _ _ _ _ rfl,?_⟩;rw[Yz];exact .same hV .undef
  refine⟨⟨_,_,vO⟩,fun r n Q idx K TP hK=>?_⟩;unfold wpOpIn;simp only[TP,a0l,a2l,a3a];exact⟨fun _ _=>trivial,hK _ _ vO⟩
end
structure wC(M0:Mp)(h0:List HB)(w0:World):Prop where
 val:Valid M0 uM (kP h0) w0
 loc:∀k,M0 (.l k)=none
structure Rel(M0:Mp)(h0:List HB)(w0:World)(nt:Nat)(M:Mp)(s:St)(a:Act)(w:World):Prop where
 val:Valid M uM s.get w
 ext:Ext M0 (kP h0) w0 M s.get w (s.ws.map .h)
 env:jM M s.env a.tmps
 size:nt<=a.tmps.size
 marks:∀d∈a.defers,∃k r,d=⟨.collected r,#[]⟩∧kP h0 (.h k)=none∧(∃o,M (.h k)=some (.obj r o))∧s.get (.h k)=some .mark∧w.heap[r]? = some (.deferred (some []))
 apart:a.defers.Pairwise (·≠·)
theorem a4I{fl b c:Nat}{ws:List Nat}:c∈Ea fl b ws↔c∈ws∨(c=b∧b<fl):=by
 unfold Ea;split
 .rename_i h;split
  .rename_i hc;have hc:b∈ws:=(by simpa using hc);constructor
   .exact .inl
   rintro (h1|⟨rfl,_⟩)
   .exact h1
   exact hc
  simp only[a2e];constructor
  .rintro (rfl|h1)
   .exact .inr ⟨rfl,h⟩
   exact .inl h1
  rintro (h1|⟨rfl,_⟩)
  .exact .inr h1
  exact .inl rfl
 rename_i h;constructor
 .exact .inl
 rintro (h1|⟨_,h1⟩)
 .exact h1
 exact absurd h1 h
theorem nX{fl c:Nat}:∀{ks:List Key} {ws:List Nat},c∈jO fl ks ws↔c∈ws∨(Key.h c∈ks∧c<fl)
 | [],ws=>by simp[jO]
 |.h b::ks,ws=>by
  rw[jO,nX,a4I];simp only[a2e,Key.h.injEq];constructor
  .rintro ((h|⟨rfl,h⟩)|⟨h1,h2⟩)
   .exact .inl h
   .exact .inr ⟨.inl rfl,h⟩
   exact .inr ⟨.inr h1,h2⟩
  rintro (h|⟨rfl|h1,h2⟩)
  .exact .inl (.inl h)
  .exact .inl (.inr ⟨rfl,h2⟩)
  exact .inr ⟨h1,h2⟩
 |.l b::ks,ws=>by
  rw[jO,nX];simp
theorem yQ{t:Nat}{s:St}{d:Option Nat}{v:EV}:dM t (s.put d v).env=if d=some t then some v else dM t s.env:=by
 cases d with
 |none=>simp[St.put]
 |some d=>simp[St.put,dM]
theorem yR{a:Act}{d:Option Nat}{x:Value}{t:Nat}:(a.put d x).tmps.getD t Go.undef=if d=some t∧t<a.tmps.size then x else a.tmps.getD t Go.undef:=by
 cases d with
 |none=>simp[Act.put]
 |some d=>
  simp only[Act.put,a01];simp only[<-adt,a8c,a8z];by_cases h:d=t
  .subst h;by_cases h1:d<a.tmps.size
   .simp[h1]
   simp[h1]
  simp[h]
theorem Gj{a:Act}{d:Option Nat}{x:Value}:(a.put d x).tmps.size=a.tmps.size:=by
 cases d<;>simp[Act.put]
theorem jF{a:Act}{d:Option Nat}{x:Value}:(a.put d x).defers=a.defers:=by
 cases d<;>rfl
section
variable {P:Program} {call:bf} {site:Nat->Bool} {fl nt:Nat} {ops:Array Oper} {o:Oper} {s s':St} {i:lK}
theorem uq.a0m(h:uq P call site fl nt ops o s i s'):s'.ws=jO fl i.ws s.ws:=by
 obtain⟨_,⟨_,v,s1,_,rfl⟩|⟨_,rfl,rfl⟩⟩:=h
 .cases o.dst<;>rfl
 cases o.dst<;>rfl
theorem uq.dst(h:uq P call site fl nt ops o s i s'){d:Nat}(hd:o.dst=some d):d<nt:=by
 have:=h.1;simp only[MS,hd]at this;simpa using this
variable {M0:Mp} {h0:List HB} {w0:World} {M:Mp} {a:Act} {w:World}
theorem Rel.loc(hR:Rel M0 h0 w0 nt M s a w):∀j l,M (.l j)=some l->∀k' l',Key.l j≠k'->M k'=some l'->∀c∈aJ l,c∉aJ l':=by
 intro j l hj k' l' iC nU;obtain⟨b,h1,_⟩:=hR.val.ok _ _ hj trivial;refine hR.val.own _ _ _ _ b iC hj nU trivial h1 ?_;simp only[St.get,a06]at h1;obtain⟨_,_,rfl⟩:=h1;rfl
theorem Rel.nh(hR:Rel M0 h0 w0 nt M s a w):M (.h s.heap.length)=none:=by
 cases h:M (.h s.heap.length)with
 |none=>rfl
 |some l=>have:=hR.val.has h;simp[St.get]at this
theorem Rel.nl(hR:Rel M0 h0 w0 nt M s a w):M (.l s.loc.length)=none:=by
 cases h:M (.l s.loc.length)with
 |none=>rfl
 |some l=>have:=hR.val.has h;simp[St.get]at this
theorem Cb{h:List HB}{k:Key}(hk:(kP h k).isSome=true):∃b,k=.h b∧b<h.length:=by
 cases k with
 |h b=>exact⟨b,rfl,by simpa[kP,St.get]using hk⟩
 |l j=>simp[kP,St.get]at hk
theorem YA{h:List HB}{b:Nat}(hb:b<h.length):(kP h (.h b)).isSome=true:=by simp[kP,St.get,hb]
theorem QJ(hR:Rel M0 h0 w0 nt M s a w){M':Mp}{C':Ct}{w':World}{ws:List Key}(hX:Ext M s.get w M' C' w' ws) :
  ∀d∈a.defers,∃k r,d=⟨.collected r,#[]⟩∧kP h0 (.h k)=none∧(∃o,M' (.h k)=some (.obj r o))∧C' (.h k)=some .mark∧w'.heap[r]? = some (.deferred (some [])):=by
 intro d hd;obtain⟨k,r,h1,h2,⟨o,h3⟩,h4,h5⟩:=hR.marks d hd;have hn:Key.h k∉ws:=fun Es=>by
  have:=(hX.wrote _ Es).2 _ h4;cases this
 obtain⟨l',g1,g2⟩:=hX.Ic _ _ h3;obtain⟨o',hl⟩:∃o',l'=.obj r o':=by
  cases l' with
  |cells ls=>exact g2.elim
  |obj r' o'=>cases g2.1;exact⟨o',rfl⟩
 refine⟨k,r,h1,h2,⟨o',by rw[g1,hl]⟩,by rw[hX.mY _ (by simp[h4]) hn,h4],?_⟩;rw[hX.frame r (a2b.1 h5).1 fun k' nU l0 qF hc=>?_,h5];obtain⟨b,hb,_⟩:=hR.val.ok _ _ qF trivial;exact hR.val.own k' (.h k) l0 (.obj r o) b (fun e=>hn (e▸nU)) qF h3 trivial hb ((hX.wrote _ nU).2 b hb) r hc (by simp[aJ])
theorem Ny(hB:wC M0 h0 w0)(hR:Rel M0 h0 w0 nt M s a w)(hS:uq P call site h0.length nt ops o s i s'){x:Value}{w':World}(vO:JJ M uM s w o i s' x w') :
  ∃M',Rel M0 h0 w0 nt M' s' (a.put o.dst x) w':=by
 obtain⟨v,M',he,hp⟩:=vO;refine⟨M',hp.val.sub fun k _=>.inl trivial,?_,?_,by rw[Gj];exact hR.size,by rw[jF];exact QJ hR hp.ext,by rw[jF];exact hR.apart⟩
 .refine hR.ext.trans hp.ext (fun k l hk=>hB.val.has hk) (fun k hk Es=>?_) (fun k hk=>?_)
  .obtain⟨b,rfl,hb⟩:=Cb hk;rw[hS.a0m];refine a1d.2 ⟨b,nX.2 ?_,rfl⟩;rcases Es with h1|h1
   .obtain⟨b',h2,h3⟩:=a1d.1 h1;cases h3;exact .inl h2
   .exact .inr ⟨h1,hb⟩
  .rw[hS.a0m]at hk;obtain⟨b,hb,rfl⟩:=a1d.1 hk;rcases nX.1 hb with h1|⟨h1,h2⟩
   .have:Key.h b∈s.ws.map .h:=a1d.2 ⟨b,h1,rfl⟩;exact⟨hR.ext.wsub _ this,.inl this⟩
   .exact⟨YA h2,.inr h1⟩
 .intro t e hl;rw[he,yQ]at hl;rw[yR];by_cases hd:o.dst=some t
  .rw[a0i hd]at hl;have:=hS.dst hd;have:=hR.size;rw[a0i ⟨hd,by omega⟩];cases hl;exact hp.er
  .rw[a0g hd]at hl;rw[a0g (fun h=>hd h.1)];exact(hR.env t e hl).mono hp.ext.Ic hp.loc
theorem Rel.guard(hR:Rel M0 h0 w0 nt M s a w):Le M s.env a.tmps ops o:=fun _ _ d _ _ e he=>hR.env d e he
theorem Gl(hC:iD P call)(hR:Rel M0 h0 w0 nt M s a w)(hS:uq P call site h0.length nt ops o s i s') :
  (∃x w',JJ M uM s w o i s' x w') ∧
   ∀(r:Option Nat) (n:Nat) (Q:Exit->Act->World->Prop) (idx:Nat) (K:Act->World->Prop),ops[idx]? = some o ->
    (∀x w',JJ M uM s w o i s' x w'->K (a.put o.dst x) w')->wpOpIn (ny r) n P ops Q idx K a w:=
 a0k hC hS hR.val hR.nh hR.nl hR.loc (hR.env.on _) hR.guard fun _ _ _=>trivial
theorem Cc{o:Oper}{os:List Oper}{s s':St}{is:List lK}(h:kU P call site fl nt ops (o::os) s=some (s',is)) :
  ∃i s1 is',uq P call site fl nt ops o s i s1∧kU P call site fl nt ops os s1=some (s',is')∧is=i::is':=by
 simp only[kU]at h;split at h
 .simp at h
 .rename_i hd;have hd:MS nt o=true:=by simpa using hd
  split at h
  .rename_i hw;split at h
   .rename_i v s1 i kG;split at h
    .rename_i s2 is2 hr;simp only[a01,a0j]at h;obtain⟨rfl,rfl⟩:=h;exact⟨i,_,_,⟨hd,.inl ⟨hw,v,s1,kG,rfl⟩⟩,hr,rfl⟩
    .simp at h
   .simp at h
  .rename_i hw;split at h
   .rename_i s2 is2 hr;simp only[a01,a0j]at h;obtain⟨rfl,rfl⟩:=h;exact⟨_,_,_,⟨hd,.inr ⟨hw,rfl,rfl⟩⟩,hr,rfl⟩
   .simp at h
  .simp at h
theorem a4J(hC:iD P call)(hB:wC M0 h0 w0){r:Option Nat}{n:Nat}{Q:Exit->Act->World->Prop}:∀(os:List Oper) (k:Nat) (s s':St) (is:List lK) (M:Mp) (a:Act) (w:World),ops.toList.drop k=os ->
  kU P call site h0.length nt ops os s=some (s',is)->Rel M0 h0 w0 nt M s a w ->
  (∀M' a' w',Rel M0 h0 w0 nt M' s' a' w'->a'.defers=a.defers->Q .normal a' w')->wpOpsIn (ny r) n P ops Q (List.range' k os.length) a w
 | [],k,s,s',is,M,a,w,_,h,hR,hQ=>by
  simp only[kU,a01,a0j]at h;obtain⟨rfl,rfl⟩:=h;exact hQ M a w hR rfl
 |o::os,k,s,s',is,M,a,w,hd,h,hR,hQ=>by
  obtain⟨i,s1,is',hS,hr,rfl⟩:=Cc h;have ho:ops[k]? = some o:=by
   have:=congrArg (fun l=>l[0]?) hd;simpa using this
  have Yx:ops.toList.drop (k+1)=os:=by
   rw[<-afF,hd];rfl
  simp only[a3S,List.range'_succ];rw[wpOpsIn_cons];refine(Gl hC hR hS).2 r n Q k _ ho fun x w' vO=>?_;obtain⟨M',EZ⟩:=Ny hB hR hS vO;exact a4J hC hB os (k+1) s1 s' is' M' _ w' Yx hr EZ fun M2 a2 w2 h2 hdf=>hQ M2 a2 w2 h2 (hdf.trans jF)
theorem a2g(hC:iD P call)(hB:wC M0 h0 w0){r:Option Nat}{n:Nat}{Q:Exit->Act->World->Prop}{id:Nat}{s s':St}{is:List lK}{M:Mp}{a:Act}{w:World}
  (h:kU P call site h0.length nt ops ops.toList s=some (s',is)) (hR:Rel M0 h0 w0 nt M s a w)
  (hQ:∀M' a' w',Rel M0 h0 w0 nt M' s' a' w'->a'.defers=a.defers->Q .normal a' w'):(Code.region id ops false).wpIn (ny r) n P Q a w:=by
 refine wpIn_region ?_;have:=a4J (r:=r) (n:=n) (Q:=Q) hC hB ops.toList 0 s s' is M a w rfl h hR hQ;simpa[List.range_eq_range']using this
end
theorem Nz{i:Nat}:∀{xs l:List Nat},i∈MV xs l->i∈xs∨i∈l
 | [],l,h=>.inr h
 |x::xs,l,h=>by
  simp only[MV]at h;rcases Nz h with h1|h1
  .exact .inl (a2Y _ h1)
  split at h1
  .exact .inr h1
  rcases a2e.1 h1 with rfl|h2
  .exact .inl a2T
  exact .inr h2
theorem Gm{acc:List (List Nat)}{i:Nat}:∀{es:List Edge} {l:List Nat},
  i∈es.foldl (fun l e=>if Region.binds .any e then MV (e.on::acc.getD e.on []) l else l) l->i∈l∨∃e∈es,Region.binds .any e=true∧(i=e.on∨i∈acc.getD e.on [])
 | [],l,h=>.inl h
 |e::es,l,h=>by
  simp only[ad9]at h;rcases Gm h with h1|⟨e',h2,h3⟩
  .split at h1
   .rename_i hb;rcases Nz h1 with h2|h2
    .refine .inr ⟨e,a2T,hb,?_⟩;exact a2e.1 h2
    .exact .inl h2
   .exact .inl h1
  .exact .inr ⟨e',a2Y _ h2,h3⟩
theorem YB{acc:List (List Nat)}{o:Oper}{i:Nat}(h:i∈EL acc o):∃e∈o.after,Region.binds .any e=true∧(i=e.on∨i∈acc.getD e.on []):=by
 rcases Gm h with h1|⟨e,h2,h3⟩
 .cases h1
 exact⟨e,by simpa using h2,h3⟩
theorem Gn:∀(os:List Oper) (acc:List (List Nat)),∃t,Ej os acc=acc++t
 | [],acc=>⟨[],by simp[Ej]⟩
 |o::os,acc=>by
  obtain⟨t,ht⟩:=Gn os (acc++[EL acc o]);exact⟨EL acc o::t,by simp[Ej,ht]⟩
theorem QK:∀(os:List Oper) (acc:List (List Nat)) (k:Nat) (o:Oper),os[k]? = some o ->
  (Ej os acc)[acc.length+k]? = some (EL ((Ej os acc).take (acc.length+k)) o)
 | [],acc,k,o,h=>by simp at h
 |o'::os,acc,0,o,h=>by
  simp at h;subst h;obtain⟨t,ht⟩:=Gn os (acc++[EL acc o']);simp[Ej,ht]
 |o'::os,acc,k+1,o,h=>by
  have:=QK os (acc++[EL acc o']) k o (by simpa using h);simp only[Ej];simp only[a1X,a3S,a4x]at this
  rwa [show acc.length+(0+1)+k=acc.length+(k+1) by omega]at this
def VB(ops:List Oper)(j:Nat):List Nat:=(Ej ops []).getD j []
theorem a4K{ops:List Oper}{j i:Nat}{o:Oper}(hj:ops[j]? = some o)(h:i∈VB ops j):∃e∈o.after,Region.binds .any e=true∧(i=e.on∨(e.on<j∧i∈VB ops e.on)):=by
 have:=QK ops [] j o hj;simp only[a4x,a3O]at this;unfold VB at h;rw[a2I,this]at h;simp only[a4F]at h;obtain⟨e,h1,h2,h3⟩:=YB h;refine⟨e,h1,h2,h3.imp id fun h4=>?_⟩;rw[a2I,a3W]at h4;split at h4
 .rename_i aQ;exact⟨aQ,by unfold VB;rw[a2I];exact h4⟩
 simp at h4
def uw(D:Nat->Prop)(o:Oper):Prop:=∀e∈o.after,Region.binds .any e=true->D e.on
theorem TQ{ops:List Oper}{D:Nat->Prop}(hc:∀j o,ops[j]? = some o->D j->uw D o):∀(j:Nat) (o:Oper),ops[j]? = some o->uw D o->∀i∈VB ops j,D i:=by
 intro j
 induction j using Nat.strongRecOn with
 |_ j ih=>
  intro o ho hw i hi;obtain⟨e,h1,h2,h3⟩:=a4K ho hi;rcases h3 with rfl|⟨aQ,h4⟩
  .exact hw e h1 h2
  have hd:=hw e h1 h2;have hl:j<ops.length:=(a02.1 ho).1;have hoe:ops[e.on]? = some ops[e.on]:=a0b (by omega);exact ih e.on aQ _ hoe (hc _ _ hoe hd) i h4
theorem yD{ops:List Oper}{i j:Nat}(zX:i<j)(hj:j<ops.length)(hn:i∉VB ops j):(i,j)∈nS ops:=by
 simp only[nS,adx,a4b,a1d,a7L];exact⟨j,hj,i,⟨zX,by simpa[VB]using hn⟩,rfl⟩
theorem VD{ops:List Oper}(h:ng ops=true){i:Nat}{o:Oper}(ho:ops[i]? = some o){e:Edge}(he:e∈o.after)(hb:Region.binds .any e=true):e.on<i:=by
 simp only[ng,a2a,a4l]at h;have:=h.1 (o,i) (by
  rw[a9e];simpa using ho)
 simp only[abN]at this;have:=this e he;simpa[hb]using this
theorem zY{ops:List Oper}(h:ng ops=true){i j:Nat}{a b:Oper}(hp:(i,j)∈nS ops)(ha:ops[i]? = some a)(hb:ops[j]? = some b):a.apart ops.toArray b=true∧b.apart ops.toArray a=true:=by
 simp only[ng,a2a,a4l]at h;have:=h.2 (i,j) hp;simpa[ha,hb]using this
theorem QL{xk:List lK}:∀{ps:List (Nat×Nat)},Ba xk ps=true->∀{i j:Nat} {a b:lK},(i,j)∈ps->xk[i]? = some a->xk[j]? = some b->calm a b=true
 | [],_,i,j,a,b,h,_,_=>by cases h
 |(x,y)::r,hd,i,j,a,b,h,ha,hb=>by
  simp only[Ba,a2a]at hd;rcases a2e.1 h with h1|h1
  .cases h1;simpa[ha,hb]using hd.1
  exact QL hd.2 h1 ha hb
section
variable {P:Program} {call:bf} {site:Nat->Bool} {s s1:St} {o:Oper} {v:EV} {i:lK}
theorem a4L{t:TypeId}{a:EV}{r:TV×lK}(h:loadT P t s a=some r):r.2.ws=[]:=by
 unfold loadT at h;split at h
 .split at h
  .simp only[a06]at h;obtain⟨_,_,rfl⟩:=h;rfl
  simp at h
 .split at h
  .split at h
   .simp only[a06]at h;obtain⟨_,_,rfl⟩:=h;rfl
   simp at h
  simp at h
 simp at h
theorem a8T{at_:Array TypeId}{h0:List HB}{x:TV}{r:TV×lK}(h:Yh P at_ h0 x=some r):r.2.ws=[]:=by
 unfold Yh at h
 repeat' (split at h)
 all_goals first
  |(simp at h;done)
  |(simp only[a01]at h;subst h;rfl)
theorem ahl(h:oP P call site s o=some (v,s1,i))(hm:Ij o.op=false):i.ws=[]:=by
 unfold oP at h;split at h
 all_goals first
  |(simp at h;done)
  |(rename_i ho;rw[ho]at hm;simp[Ij]at hm;done)
  |(simp only[a06,a0j]at h;obtain⟨_,_,_,_,rfl⟩:=h;rfl)
  |(split at h<;>first|(simp at h;done)|(simp only[a06,a0j,a01]at h;first|(obtain⟨_,_,_,_,rfl⟩:=h;rfl)|(obtain⟨_,_,rfl⟩:=h;rfl)))
  |skip
 .split at h
  .split at h
   .simp only[a01,a0j]at h;obtain⟨_,_,rfl⟩:=h;rfl
   simp at h
  simp at h
 .split at h
  .simp only[a06,a0j]at h;obtain⟨r,hr,_,_,rfl⟩:=h;exact a4L hr
  simp at h
 .split at h
  .split at h
   .simp only[a06,a0j]at h;obtain⟨_,_,_,_,rfl⟩:=h;rfl
   .simp only[a06,a0j]at h;obtain⟨_,_,_,_,rfl⟩:=h;rfl
   simp at h
  simp at h
 .rename_i c ho;rw[ho]at hm;obtain⟨callee,args,ats⟩:=c;unfold MR at h;simp only at h;split at h
  .rename_i b az;simp only[a06,a0j]at h;obtain⟨⟨v0,s0,i0⟩,hb,_,_,rfl⟩:=h;simp only[Ij]at hm;unfold qL at hb;split at hb
   .simp only[a06,a0j]at hb;obtain⟨r,hr,_,_,rfl⟩:=hb;exact a8T hr
   .simp at hm
   .simp at hm
   .simp only[a06,a0j]at hb;obtain⟨r,hr,_,_,rfl⟩:=hb;rfl
   .simp only[a06,a0j]at hb;obtain⟨r,hr,_,_,rfl⟩:=hb;rfl
   simp at hb
  .simp[Ij]at hm
  simp at h
 .split at h
  .split at h
   .simp only[a01,a0j]at h;obtain⟨_,_,rfl⟩:=h;rfl
   simp at h
  simp at h
 split at h
 .split at h
  .split at h
   .split at h
    .simp only[a06,a0j]at h;obtain⟨_,_,_,_,rfl⟩:=h;rfl
    simp at h
   simp at h
  simp at h
 simp at h
theorem ahm(h:oP P call site s o=some (v,s1,i))(hm:MW o.op=false):i.ts=[]∧i.ws=[]∧i.all=false:=by
 unfold oP at h;split at h
 all_goals first
  |(simp at h;done)
  |(rename_i ho;rw[ho]at hm;simp[MW]at hm;done)
  |(simp only[a06,a0j]at h;obtain⟨_,_,_,_,rfl⟩:=h;exact⟨rfl,rfl,rfl⟩)
  |(split at h<;>first|(simp at h;done)|(simp only[a06,a0j,a01]at h;first|(obtain⟨_,_,_,_,rfl⟩:=h;exact⟨rfl,rfl,rfl⟩)|(obtain⟨_,_,rfl⟩:=h;exact⟨rfl,rfl,rfl⟩)))
  |skip
 .split at h
  .split at h
   .simp only[a01,a0j]at h;obtain⟨_,_,rfl⟩:=h;exact⟨rfl,rfl,rfl⟩
   simp at h
  simp at h
 .split at h
  .split at h
   .simp only[a06,a0j]at h;obtain⟨_,_,_,_,rfl⟩:=h;exact⟨rfl,rfl,rfl⟩
   .simp only[a06,a0j]at h;obtain⟨_,_,_,_,rfl⟩:=h;exact⟨rfl,rfl,rfl⟩
   simp at h
  simp at h
 rename_i c ho;rw[ho]at hm;obtain⟨callee,args,ats⟩:=c;unfold MR at h;simp only at h;split at h
 .rename_i b az;simp only[a06,a0j]at h;obtain⟨⟨v0,s0,i0⟩,hb,_,_,rfl⟩:=h;simp only[MW]at hm;unfold qL at hb;split at hb
  .simp at hm
  .simp at hm
  .simp at hm
  .simp only[a06,a0j]at hb;obtain⟨r,hr,_,_,rfl⟩:=hb;exact⟨rfl,rfl,rfl⟩
  .simp only[a06,a0j]at hb;obtain⟨r,hr,_,_,rfl⟩:=hb;exact⟨rfl,rfl,rfl⟩
  simp at hb
 .simp[MW]at hm
 simp at h
variable {fl nt:Nat} {ops:Array Oper} {s':St}
theorem uq.w(h:uq P call site fl nt ops o s i s')(hm:Ij o.op=false):i.ws=[]:=by
 obtain⟨_,⟨_,v,s1,h1,_⟩|⟨_,rfl,_⟩⟩:=h
 .exact ahl h1 hm
 rfl
theorem uq.t(h:uq P call site fl nt ops o s i s')(hm:MW o.op=false):i.ts=[]∧i.ws=[]∧i.all=false:=by
 obtain⟨_,⟨_,v,s1,h1,_⟩|⟨_,rfl,_⟩⟩:=h
 .exact ahm h1 hm
 exact⟨rfl,rfl,rfl⟩
theorem NC{ws:List Key}{b:lK}(h:MX ws b=true){k:Key}(hk:k∈ws):¬nV b k:=by
 simp only[MX,a4l]at h;have:=h k hk;simp only[a2a,a8x,agt]at this;obtain⟨⟨h1,h2⟩,h3⟩:=this;rintro (h4|h4|⟨h4,h5⟩)
 .simp[h4]at h2
 .simp[h4]at h3
 simp[h4,h5]at h1
theorem a2h{xk:List lK}{ol:List Oper}(hd:Ba xk (mg ol)=true){x y:Nat}{a b:Oper}{ia ib:lK}{sa sa' sb sb':St}(hp:(x,y)∈nS ol)(ha:ol[x]? = some a)(hb:ol[y]? = some b)
  (hia:xk[x]? = some ia) (hib:xk[y]? = some ib) (sta:uq P call site fl nt ops a sa ia sa') (stb:uq P call site fl nt ops b sb ib sb') :
  AZ a b=true∨((∀k∈ia.ws,¬nV ib k)∧(∀k∈ib.ws,¬nV ia k)):=by
 cases hsp:AZ a b
 case true=>exact .inl rfl
 right;by_cases hh:((Ij a.op&&MW b.op)||(MW a.op&&Ij b.op))=true
 .have hm:(x,y)∈mg ol:=by
   simp only[mg,a7L];refine⟨hp,?_⟩;simp only[ha,hb,hsp,aaw,agM];exact hh
  have:=QL hd hm hia hib;simp only[calm,a2a]at this;exact⟨fun k hk=>NC this.1 hk,fun k hk=>NC this.2 hk⟩
 .simp only[a8G,a2a,ada,not_and,agr]at hh;constructor
  .intro k hk ht;have h1:Ij a.op=true:=by
    cases h2:Ij a.op with
    |true=>rfl
    |false=>rw[sta.w h2]at hk;cases hk
   obtain⟨t1,t2,t3⟩:=stb.t (hh.1 h1);rcases ht with h|h|⟨h,_⟩
   .rw[t1]at h;cases h
   .rw[t2]at h;cases h
   .rw[t3]at h;cases h
  .intro k hk ht;have h1:Ij b.op=true:=by
    cases h2:Ij b.op with
    |true=>rfl
    |false=>rw[stb.w h2]at hk;cases hk
   have h2:MW a.op=false:=by
    cases h3:MW a.op with
    |false=>rfl
    |true=>have:=hh.2 h3;rw[h1]at this;cases this
   obtain⟨t1,t2,t3⟩:=sta.t h2;rcases ht with h|h|⟨h,_⟩
   .rw[t1]at h;cases h
   .rw[t2]at h;cases h
   .rw[t3]at h;cases h
end
end Tw
