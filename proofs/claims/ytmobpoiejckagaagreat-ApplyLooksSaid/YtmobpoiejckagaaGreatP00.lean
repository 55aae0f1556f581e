/- Part 1 of a proof: ApplyLooks -/
import Derived.RangeFuncLeaves
import Derived.OrdersIn
import Derived.Laws.CopyRow
import Derived.Laws.Rows
import Derived.Laws.Entries
set_option linter.unusedVariables false
set_option linter.unusedSimpArgs false
set_option linter.unusedSectionVars false
open Go.IntKind (i64)
noncomputable section
abbrev LI0:=List Int
abbrev LI1:=Go.Program
abbrev LI2:=Go.TypeId
abbrev LI3:=Go.Value
abbrev LI4:=Go.World
abbrev a00:=@Option.some.injEq
abbrev a01:=@List.getElem?_eq_some_iff
abbrev a05:=@Option.map_eq_some_iff
abbrev a0a:=@List.getElem?_eq_getElem
abbrev a0b:=@List.getElem?_append_left
abbrev a0c:=@if_neg
abbrev a0g:=@if_pos
abbrev a0i:=@Prod.mk.injEq
abbrev a0j:=@Option.map_some
abbrev a0S:=@List.getElem?_append_right
abbrev a0U:=@Nat.le_refl
abbrev a1g:=@List.mem_map
abbrev a1l:=@List.getElem?_set_ne
abbrev a1o:=@decide_eq_true_eq
abbrev a1I:=@List.length_append
abbrev a1U:=@if_true
abbrev a2c:=@List.getElem?_set_self
abbrev a2d:=@List.mem_cons
abbrev a2f:=@Bool.and_eq_true
abbrev a2h:=@Array.getElem?_eq_some_iff
abbrev a2i:=@Bool.false_eq_true
abbrev a2p:=@List.mem_singleton
abbrev a2r:=@List.getElem?_cons_zero
abbrev a2I:=@decide_eq_false_iff_not
abbrev a2N:=@List.getD_eq_getElem?_getD
abbrev a2O:=@List.mem_cons_self
abbrev a2P:=@List.mem_cons_of_mem
abbrev a3g:=@if_false
abbrev a3k:=@List.mem_append
abbrev a3l:=@Nat.mul_le_mul_right
abbrev a3m:=@Nat.add_mul
abbrev a3E:=@List.length_take
abbrev a3P:=@List.length_singleton
abbrev a3Q:=@Array.getElem?_eq_getElem
abbrev a3T:=@Nat.zero_add
abbrev a3X:=@List.length_drop
abbrev a3Y:=@List.eq_nil_of_length_eq_zero
abbrev a3Z:=@List.map_append
abbrev a4a:=@List.getElem?_eq_none
abbrev a4b:=@List.length_cons
abbrev a4c:=@List.map_cons
abbrev a4d:=@Nat.lt_or_ge
abbrev a4e:=@List.getElem?_drop
abbrev a4f:=@List.getElem?_set_self'
abbrev a4g:=@List.getElem?_take
abbrev a4h:=@List.length_map
abbrev a4i:=@List.mem_range
abbrev a4j:=@List.getElem?_map
abbrev a4k:=@List.nodup_cons
abbrev a4l:=@Option.bind_some
abbrev a4m:=@List.mem_of_getElem?
abbrev a4n:=@List.length_set
abbrev a4o:=@List.all_eq_true
abbrev a4p:=@List.mem_append_left
abbrev a4q:=@List.getElem_mem
abbrev a4r:=@Option.getD_some
abbrev a4u:=@Bool.eq_iff_iff
abbrev a4v:=@List.mem_iff_getElem
abbrev a4A:=@Nat.le_trans
abbrev a4C:=@List.idxOf_lt_length_iff
abbrev a4E:=@Nat.zero_le
abbrev a4F:=@List.length_eq_zero_iff
abbrev a4J:=@Option.isSome_iff_exists
abbrev a4N:=@List.contains_eq_mem
abbrev a4O:=@not_false_eq_true
abbrev a4Q:=@List.length_nil
abbrev a4Y:=@List.eq_nil_iff_forall_not_mem
abbrev a5m:=@List.map_congr_left
abbrev a5s:=@List.mem_of_mem_drop
abbrev a5K:=@List.take_succ_eq_append_getElem
abbrev a5O:=@List.nodup_nil
abbrev a5P:=@List.prefix_rfl
abbrev a5R:=@List.append_assoc
abbrev a6t:=@Int.toNat_natCast
abbrev a6G:=@List.mem_filterMap
abbrev a6L:=@List.append_nil
abbrev a6N:=@of_decide_eq_true
abbrev a7m:=@List.map_map
abbrev a7r:=@beq_iff_eq
abbrev a7y:=@List.perm_ext_iff_of_nodup
abbrev a7E:=@List.drop_eq_getElem_cons
abbrev a7F:=@Nat.min_eq_left
abbrev a7S:=@List.mem_filter
abbrev a8i:=@not_true
abbrev a8k:=@List.getElem_of_mem
abbrev a8l:=@Array.getD_eq_getD_getElem?
abbrev a8A:=@List.length_replicate
abbrev a8B:=@Int.emod_eq_of_lt
abbrev a8C:=@Bool.not_eq_true'
abbrev a8D:=@List.length_range
abbrev a8E:=@List.getElem?_of_mem
abbrev a8F:=@List.getElem_idxOf
abbrev a8G:=@Int.mul_le_mul_of_nonneg_left
abbrev a8H:=@List.nodup_append
abbrev a8I:=@List.mem_iff_getElem?
abbrev a8J:=@Array.getElem?_setIfInBounds
abbrev a8K:=@Nat.eq_of_beq_eq_true
abbrev a8L:=@List.length_filter_le
abbrev a8M:=@Int.le_refl
abbrev a8N:=@Bool.not_true
abbrev a8O:=@List.take_of_length_le
abbrev a8P:=@List.filterMap_cons
abbrev a8Q:=@Bool.or_eq_true
abbrev a8R:=@Option.some.inj
abbrev a8V:=@Classical.choose_spec
abbrev a8W:=@Nat.lt_of_lt_of_le
abbrev a8Z:=@List.getElem_map
abbrev a94:=@List.prefix_append
abbrev a95:=@List.mem_of_mem_take
abbrev a96:=@List.mem_zipIdx_iff_getElem?
abbrev a9c:=@Bool.or_eq_false_iff
abbrev a9h:=@List.idxOf_eq_length
abbrev a9p:=@List.getElem?_cons_succ
abbrev a9q:=@List.getElem?_set
abbrev a9r:=@List.ext_getElem?
abbrev a9u:=@List.idxOf_append
abbrev a9x:=@List.nil_append
abbrev a9z:=@Array.length_toList
abbrev a9A:=@List.length_pos_iff
abbrev a9E:=@List.findIdx?_eq_some_iff_getElem
abbrev a9G:=@Nat.add_assoc
abbrev a9N:=@Array.getElem?_append_left
abbrev a9P:=@List.getElem_inj
abbrev a9R:=@List.ext_getElem
abbrev aae:=@List.take_length
abbrev aaf:=@List.mem_append_right
abbrev aag:=@List.drop_zero
abbrev aaB:=@List.length_mergeSort
abbrev aaG:=@Nat.le_of_lt
abbrev aaK:=@Int.mul_le_mul_of_nonneg_right
abbrev abp:=@Bool.not_false
abbrev abu:=@Nat.eq_zero_or_pos
abbrev abv:=@List.map_nil
abbrev aby:=@Bool.not_eq_false'
abbrev abz:=@Array.getElem?_modify
abbrev abA:=@List.range_succ
abbrev abC:=@List.all_cons
abbrev abE:=@Int.add_mul_emod_self_left
abbrev abG:=@forall_congr'
abbrev abM:=@List.nodup_iff_pairwise_ne
abbrev abN:=@Classical.byContradiction
abbrev abR:=@List.pairwise_iff_getElem
abbrev abS:=@Int.mul_one
abbrev abT:=@Nat.zero_mul
abbrev acv:=@Array.all_eq_true_iff_forall_mem
abbrev acH:=@Nat.le_of_not_lt
abbrev acP:=@and_self
abbrev acV:=@Prod.ext
abbrev ad2:=@List.getElem?_range
abbrev ad7:=@List.filter_cons_of_neg
abbrev ad8:=@List.filter_cons_of_pos
abbrev adf:=@Bool.true_and
abbrev adg:=@List.any_cons
abbrev adk:=@List.foldl_cons
abbrev adl:=@not_or
abbrev ads:=@List.idxOf_cons
abbrev adt:=@List.Nodup.length_le_of_subset
abbrev adu:=@List.find?_eq_none
abbrev adw:=@Nat.one_mul
abbrev ady:=@Nat.le_mul_of_pos_left
abbrev adz:=@Nat.add_zero
abbrev adA:=@List.getElem?_toArray
abbrev adB:=@Array.getElem?_toList
abbrev adC:=@Array.ext'
abbrev adE:=@Bool.not_eq_true
abbrev adF:=@List.mem_flatMap
abbrev adH:=@List.getElem?_modify
abbrev adJ:=@List.nodup_range
abbrev adK:=@List.replicate_succ
abbrev adQ:=@List.mergeSort_perm
abbrev adT:=@Int.natCast_mul
abbrev adW:=@List.cons.injEq
abbrev ae9:=@decide_eq_false
abbrev aeb:=@List.mem_of_find?_eq_some
abbrev aec:=@Bool.true_eq_false
abbrev aey:=@Int.le_of_lt
abbrev afb:=@List.take_take
abbrev afc:=@List.drop_drop
abbrev afq:=@Option.map_map
abbrev afB:=@Int.mul_nonneg
abbrev afM:=@List.getElem?_replicate
abbrev afS:=@List.pairwise_map
abbrev ag2:=@List.drop_of_length_le
abbrev ag6:=@Bool.false_or
abbrev agj:=@List.prefix_refl
abbrev agl:=@List.any_eq_true
abbrev agp:=@Bool.and_eq_false_iff
abbrev agG:=@Nat.le_of_ble_eq_true
abbrev agH:=@Nat.le_of_eq
abbrev agI:=@Nat.sub_self
abbrev agJ:=@Int.emod_nonneg
abbrev agK:=@Int.ediv_nonneg
abbrev agL:=@Int.add_comm
abbrev agM:=@List.getElem?_mapIdx
abbrev agN:=@List.find?_cons
abbrev agO:=@Int.toNat_of_nonneg
abbrev agP:=@Nat.succ_eq_add_one
abbrev agQ:=@beq_eq_false_iff_ne
abbrev agR:=@List.filter_eq_self
abbrev agS:=@List.length_zipWith
abbrev agT:=@List.drop_take
abbrev agU:=@Nat.mul_le_mul
abbrev agV:=@Int.add_mul
abbrev agW:=@Nat.mul_one
abbrev agX:=@List.getElem_range
abbrev agY:=@List.contains_cons
abbrev agZ:=@List.count_pos_iff
abbrev ah0:=@Bool.and_true
namespace Tw
open Go
inductive NK where
 |ptr|aP|map|fn|ifc
 deriving DecidableEq
inductive TV where
 |bool (b:Bool)
 |int (k:IntKind) (n:Int)
 |str (s:ByteArray)
 |nil (k:NK)
 |ptr (b off lim:Nat)
 |aP (b off len cap sz:Nat) (ex:Bool)
 |map (r:Nat)
 |fn (f:FuncId) (first cap:List TV)
 |kG (l:Nat)
 |agg (cs:List TV)
 |dG (cs:List TV)
 |iter (b:Nat)
inductive EV where
 |val (v:TV)
 |loc (k off:Nat)
 |undef
 |ent (r j:Nat) (v:TV)
 |Ee (r j:Nat)
inductive BK where
 |ro|own|grow|last
 deriving DecidableEq
inductive HB where
 |cells (k:BK) (cs:List TV)
 |map (es:List (TV×TV))
 |mP (cs:List TV)
 |mark
 |cO (r n:Nat) (seen:List Nat)
 |loop (ready:Bool) (f:FuncId) (nt:Nat) (env:List (Nat×EV)) (ps:List Nat) (assign body:Code) (jI:Option Code)
structure St where
 env:List (Nat×EV)
 loc:List (List TV)
 heap:List HB
 ws:List Nat
inductive Key where
 |h (b:Nat)
 |l (k:Nat)
 deriving DecidableEq
def St.get(s:St):Key->Option HB
 |.h b=>s.heap[b]?
 |.l k=>(s.loc[k]?).map (.cells .own)
def TV.toC:TV->Option LI3
 |.bool b=>some (.bool b)
 |.int k n=>some (.int k n)
 |.str s=>some (.string s)
 |.nil .ptr=>some (.pointer none)
 |.nil .aP=>some (.slice none 0 0)
 |.nil .map=>some (.map none)
 |.nil .fn=>some .nilFunc
 |.nil .ifc=>some .nilIface
 |_=>none
def TV.Tn:List TV->Option (List LI3)
 | []=>some []
 |c::cs=>match c.toC,TV.Tn cs with
  |some v,some vs=>some (v::vs)
  |_,_=>none
def TV.yt:TV->Option LI3
 |.agg cs=>(TV.Tn cs).map fun vs=>.agg vs.toArray
 |v=>v.toC
def TV.ZX:LI3->Option TV
 |.bool b=>some (.bool b)
 |.int k n=>some (.int k n)
 |.string s=>some (.str s)
 |.pointer none=>some (.nil .ptr)
 |.slice none 0 0=>some (.nil .aP)
 |.map none=>some (.nil .map)
 |.nilFunc=>some (.nil .fn)
 |.nilIface=>some (.nil .ifc)
 |_=>none
def TV.BN:List LI3->Option (List TV)
 | []=>some []
 |c::cs=>match TV.ZX c,TV.BN cs with
  |some v,some vs=>some (v::vs)
  |_,_=>none
def TV.Vo:LI3->Option TV
 |.agg cs=>(TV.BN cs.toList).map .agg
 |v=>TV.ZX v
def TV.abr:TV->Bool
 |.bool _|.int _ _|.str _|.nil _=>true
 |_=>false
def TV.abt:TV->Bool
 |.agg cs=>cs.all TV.abr
 |v=>v.abr
def TV.flat:TV->Bool
 |.dG vs=>vs.all TV.abt
 |v=>v.abt
def TV.cells:TV->List TV
 |.agg cs=>cs
 |v=>[v]
def iT:TV->Bool
 |.agg _|.dG _=>false
 |_=>true
def aB{α:Type}(P:LI1):Sem α->Option α
 |.pure a=>some a
 |.program k=>aB P (k P)
 |.mark _ k=>aB P k
 |_=>none
def dL(t:Nat):List (Nat×EV)->Option EV
 | []=>none
 |(k,v)::r=>if k=t then some v else dL t r
def St.put(s:St)(dst:Option Nat)(v:EV):St:=
 match dst with
 |some d=>{ s with env:=(d,v)::s.env }
 |none=>s
def pick(live:List Nat)(env:List (Nat×EV)):List (Nat×EV):=
 match live with
 | []=>[]
 |t::r=>match dL t env with
  |some v=>(t,v)::pick r env
  |none=>pick r env
def Il(env:List (Nat×EV)):Operand->Option EV
 |.tmp t=>dL t env
 |.const v=>(TV.Vo v).map .val
 |.func f=>some (.val (.fn f [] []))
 |.global _=>none
def qE(env:List (Nat×EV))(x:Operand):Option TV:=
 match Il env x with
 |some (.val v)=>some v
 |_=>none
def Tq(env:List (Nat×EV)):List Operand->Option (List TV)
 | []=>some []
 |x::xs=>match qE env x,Tq env xs with
  |some v,some vs=>some (v::vs)
  |_,_=>none
def Vu(env:List (Nat×EV)):List (Nat×Operand)->Option (List (Nat×TV))
 | []=>some []
 |(i,x)::xs=>match qE env x,Vu env xs with
  |some v,some vs=>some ((i,v)::vs)
  |_,_=>none
structure lN where
 all:Bool
 ts:List Key
 ws:List Key
def bY:lN:=⟨false,[],[]⟩
def wW(k:Key):lN:=⟨false,[k],[]⟩
def fJ(k:List Key):lN:=⟨false,k,[]⟩
def oO(k:Key):lN:=⟨false,[k],[k]⟩
def sub(cs:List TV)(off n:Nat):Option (List TV):=
 if off+n<=cs.length then some ((cs.drop off).take n)else none
def vO(cs:List TV)(off:Nat)(new:List TV):Option (List TV):=
 if off+new.length<=cs.length then some (cs.take off++new++cs.drop (off+new.length))else none
def vP(P:LI1)(t:LI2):Option Bool:=
 match P.underlying t with
 |some (.struct _)|some (.array _ _)=>some true
 |some _=>some false
 |none=>none
def dw(P:LI1)(t:LI2):Option Nat:=(P.info? t).map (·.size)
def ug(P:LI1)(t:LI2)(cs:List TV)(off:Nat):Option TV:=
 match vP P t,dw P t with
 |some true,some n=>(sub cs off n).map .agg
 |some false,some n=>if n=1 then cs[off]? else none
 |_,_=>none
def JI(P:LI1)(t:LI2):Option (List TV):=
 match P.info? t with
 |some i=>match i.zero with
  |some z=>(TV.Vo z).map TV.cells
  |none=>none
 |none=>none
def aX(h:List HB)(b:Nat):Option (List TV):=
 match h[b]? with
 |some (.cells _ cs)=>some cs
 |_=>none
def lQ(h:List HB)(b lim:Nat):Option (List TV):=
 match h[b]? with
 |some (.cells k cs)=>if k=.last∧lim≠cs.length then none else some cs
 |_=>none
def Ef(floor:Nat)(b:Nat)(ws:List Nat):List Nat:=
 if b<floor then(if ws.contains b then ws else b::ws)else ws
def jT(floor:Nat):List Key->List Nat->List Nat
 | [],ws=>ws
 |.h b::r,ws=>jT floor r (Ef floor b ws)
 |.l _::r,ws=>jT floor r ws
def zO(k:BK)(whole:Bool):Option BK:=
 match k,whole with
 |.own,_=>some .own
 |.grow,true=>some .last
 |.last,true=>some .last
 |_,_=>none
def Tt(h:List HB)(b off lim:Nat)(new:List TV):Option (List HB):=
 match h[b]? with
 |some (.cells k cs)=>match zO k (lim==cs.length)with
  |some k'=>(vO cs off new).map fun cs'=>h.set b (.cells k' cs')
  |none=>none
 |_=>none
def BK.more:BK->BK
 |.last=>.last
 |_=>.grow
def rW(place:Nat->Option (Nat×Nat)):List TV->List (Nat×TV)->Option (List TV)
 |cs,[]=>some cs
 |cs,(i,v)::r=>match place i with
  |some (off,size)=>if v.cells.length=size then(match vO cs off v.cells with|some cs'=>rW place cs' r|none=>none)else none
  |none=>none
def Tv(P:LI1)(fs:Array Field)(i:Nat):Option (Nat×Nat):=
 match fs[i]? with
 |some f=>(dw P f.type).map fun n=>(f.offset,n)
 |none=>none
def BO(P:LI1)(fs:List Field):Bool:=fs.all fun f=>(dw P f.type).isSome
def MR(P:LI1)(t:LI2)(parts:List (Nat×TV)):Option TV:=
 match JI P t,P.underlying t with
 |some z,some (.struct fs)=>if BO P fs.toList then(rW (Tv P fs) z parts).map .agg else none
 |some z,some (.array _ e)=>match dw P e with
  |some n=>(rW (fun i=>some (i*n,n)) z parts).map .agg
  |none=>none
 |_,_=>none
def times(z:List TV):Nat->List TV
 | 0=>[]
 |n+1=>z++times z n
def jE(P:LI1)(t:LI2):Option (LI2×Nat):=
 match P.underlying t with
 |some (.slice e)=>match dw P e with
  |some n=>if n=0 then none else some (e,n)
  |none=>none
 |_=>none
def qF(site:Bool)(s:St)(cs:List TV):EV×St:=
 if site then(.val (.ptr s.heap.length 0 cs.length),{ s with heap:=s.heap++[.cells .own cs] })
 else(.loc s.loc.length 0,{ s with loc:=s.loc++[cs] })
def loadT(P:LI1)(t:LI2)(s:St):EV->Option (TV×lN)
 |.loc k off=>match s.loc[k]? with
  |some cs=>(ug P t cs off).map fun v=>(v,wW (.l k))
  |none=>none
 |.val (.ptr b off lim)=>match lQ s.heap b lim,dw P t with
  |some cs,some n=>if off+n<=lim then(ug P t cs off).map fun v=>(v,wW (.h b))else none
  |_,_=>none
 |_=>none
def storeT(P:LI1)(t:LI2)(s:St)(a:EV)(v:TV):Option (St×lN):=
 match dw P t with
 |some n=>
  if v.cells.length=n∧v.cells.all iT=true then
   match a with
   |.loc k off=>match s.loc[k]? with
    |some cs=>(vO cs off v.cells).map fun cs'=>({ s with loc:=s.loc.set k cs' },oO (.l k))
    |none=>none
   |.val (.ptr b off lim)=>if off+n<=lim then(Tt s.heap b off lim v.cells).map fun h=>({ s with heap:=h },oO (.h b))else none
   |_=>none
  else none
 |none=>none
def PZ(o:Nat):EV->Option EV
 |.loc k off=>some (.loc k (off+o))
 |.val (.ptr b off lim)=>if off+o<=lim then some (.val (.ptr b (off+o) lim))else none
 |_=>none
def FX(P:LI1)(t:LI2)(i:Nat):Option Nat:=
 match P.underlying t with
 |some (.struct fs)=>match fs[i]? with
  |some f=>match dw P f.type with
   |some n=>if n=0 then none else some f.offset
   |none=>none
  |none=>none
 |_=>none
def idx(n:Nat):TV->Option Nat
 |.int _ i=>if 0<=i∧i<n then some i.toNat else none
 |_=>none
def lS(P:LI1)(t:LI2)(x:EV)(i:TV):Option EV:=
 match P.underlying t with
 |some (.slice e)=>match dw P e,x with
  |some n,.val (.aP b off len cap sz _)=>if n=sz then(idx len i).map fun j=>.val (.ptr b (off+j*n) (off+cap*n))else none
  |_,_=>none
 |some (.array len e)=>match dw P e with
  |some n=>match idx len i with
   |some j=>PZ (j*n) x
   |none=>none
  |none=>none
 |_=>none
def Iw(P:LI1)(t:LI2)(x i:TV):Option TV:=
 match P.underlying t,x with
 |some (.array len e),.agg cs=>match dw P e,idx len i with
  |some n,some j=>ug P e cs (j*n)
  |_,_=>none
 |some .string,.str s=>match idx s.size i with
  |some j=>(s[j]?).map fun b=>.int .u8 b.toNat
  |none=>none
 |_,_=>none
def qG(n:Nat):TV->Option Nat
 |.int _ i=>if 0<=i∧i<=n then some i.toNat else none
 |_=>none
def jr(n d:Nat):Option TV->Option Nat
 |none=>some d
 |some v=>qG n v
def qH(P:LI1)(t:LI2)(x:TV)(lo hi mx:Option TV):Option TV:=
 match P.underlying t,x with
 |some .string,.str s=>match mx with
  |some _=>none
  |none=>match jr s.size s.size hi with
   |some h=>match jr h 0 lo with
    |some l=>some (.str (s.extract l h))
    |none=>none
   |none=>none
 |some (.slice e),.aP b off len cap sz ex=>match dw P e with
  |some n=>
   if n=sz then
    match mx with
    |some m=>match qG cap m,hi with
     |some m,some h=>match qG (min m len) h with
      |some h=>match jr h 0 lo with
       |some l=>some (.aP b (off+l*n) (h-l) (m-l) sz true)
       |none=>none
      |none=>none
     |_,_=>none
    |none=>match jr len len hi with
     |some h=>match jr h 0 lo with
      |some l=>some (.aP b (off+l*n) (h-l) (cap-l) sz ex)
      |none=>none
     |none=>none
   else none
  |none=>none
 |some (.slice e),.nil .aP=>match dw P e,jr 0 0 mx,jr 0 0 hi,jr 0 0 lo with
  |some _,some _,some _,some _=>if mx.isSome&&hi.isNone then none else some (.nil .aP)
  |_,_,_,_=>none
 |_,_=>none
def qm(P:LI1)(t:LI2)(x:EV)(lo hi mx:Option TV):Option TV:=
 match P.underlying t,x with
 |some (.array n e),.val (.ptr b off lim)=>match dw P e with
  |some size=>
   if size=0∨lim<off+n*size∨2^24<n then none else
   match jr n n mx with
   |some m=>match jr m n hi with
    |some h=>match jr h 0 lo with
     |some l=>if mx.isSome&&hi.isNone then none else some (.aP b (off+l*size) (h-l) (m-l) size true)
     |none=>none
    |none=>none
   |none=>none
  |none=>none
 |_,_=>none
def dV(size:Nat)(h:List HB):TV->Option (Nat×List TV)
 |.nil .aP=>some (0,[])
 |.aP b off len cap sz _=>if sz=size then(if len=0 then some (0,[])else match lQ h b (off+cap*sz)with|some cs=>(sub cs off (len*size)).map fun l=>(len,l)|none=>none)else none
 |.str s=>if size=1 then some (s.size,s.data.toList.map fun b=>.int .u8 b.toNat)else none
 |_=>none
def cZ:TV->List Key
 |.aP b _ _ _ _ _=>[.h b]
 |_=>[]
def Tz(P:LI1)(t:LI2):Bool:=
 match P.underlying t with
 |some (.int _)=>true
 |_=>false
def a4s(i:TypeInfo):Bool:=
 match i.zero with
 |some z=>z.cells.size==i.size
 |none=>false
def tV(P:LI1)(e:LI2)(n:Nat):Bool:=
 match P.info? e with
 |some i=>decide (n*i.bytes<=2^40)&&decide (n<=2^40)&&decide (i.bytes<=2^20)&&decide (0<i.bytes)&&a4s i
 |none=>false
def jc(P:LI1)(at_:Array LI2)(s:St)(d x:TV):Option (TV×St×lN):=
 match at_[0]?,at_[1]? with
 |some st,some xt=>
  if Tz P xt||(P.underlying xt).isNone then none else
  match jE P st with
  |some (e,size)=>match dV size s.heap x with
   |some (n,new)=>
    if n=0 then(match d with
     |.nil .aP=>some (d,s,fJ (cZ x))
     |.aP _ _ _ _ sz _=>if sz=size then some (d,s,fJ (cZ x))else none
     |_=>none)
    else if new.length=n*size then
     match d with
     |.nil .aP=>if tV P e n then some (.aP s.heap.length 0 n n size false,{ s with heap:=s.heap++[.cells .own new] },fJ (cZ x))else none
     |.aP b off len cap sz ex=>
      if sz=size then
       if len+n<=cap then
        (Tt s.heap b (off+len*size) (off+cap*size) new).map fun h=>(.aP b off (len+n) cap sz ex,{ s with heap:=h },⟨false,.h b::cZ x,[.h b]⟩)
       else if tV P e (len+n)then
        if ex then
         (dV size s.heap (.aP b off len cap sz ex)).map fun r=>(.aP s.heap.length 0 (len+n) (len+n) size false,{ s with heap:=s.heap++[.cells .own (r.2++new)] },fJ (.h b::cZ x))
        else match s.heap[b]? with
         |some (.cells k cs)=>
          if k=.ro∨off≠0∨len≠cap∨cs.length≠len*size∨len=0 then none
          else some (.aP b 0 (len+n) (len+n) size false,{ s with heap:=s.heap.set b (.cells k.more (cs++new))},⟨false,.h b::cZ x,[.h b]⟩)
         |_=>none
       else none
      else none
     |_=>none
    else none
   |none=>none
  |none=>none
 |_,_=>none
def isStr:TV->Bool
 |.str _=>true
 |_=>false
def FY(P:LI1)(at_:Array LI2)(s:St)(d x:TV):Option (TV×St×lN):=
 match at_[0]? with
 |some st=>match jE P st with
  |some (_,size)=>match dV size s.heap x with
   |some (n,new)=>
    if new.length=n*size∧isStr x=false then
     match d with
     |.nil .aP=>some (.int .i64 0,s,fJ (cZ x))
     |.aP b off len cap sz _=>
      if sz=size then
       if min n len=0 then some (.int .i64 0,s,fJ (cZ x))
       else(Tt s.heap b off (off+cap*size) (new.take (min n len*size))).map fun h=>(.int .i64 (min n len:Nat),{ s with heap:=h },⟨false,.h b::cZ x,[.h b]⟩)
      else none
     |_=>none
    else none
   |none=>none
  |none=>none
 |none=>none
def Yk(P:LI1)(at_:Array LI2)(h:List HB)(x:TV):Option (TV×lN):=
 match at_[0]? with
 |some t=>match P.underlying t,x with
  |some .string,.str s=>some (.int .i64 s.size,bY)
  |some (.array n _),_=>some (.int .i64 n,bY)
  |some (.slice _),.aP _ _ len _ _ _=>some (.int .i64 len,bY)
  |some (.slice _),.nil .aP=>some (.int .i64 0,bY)
  |some (.map _ _),.nil .map=>some (.int .i64 0,bY)
  |some (.map _ _),.map r=>match h[r]? with
   |some (.map es)=>some (.int .i64 es.length,wW (.h r))
   |_=>none
  |_,_=>none
 |none=>none
def Bz:List TV->Option (List LI3)
 | []=>some []
 |c::cs=>match c.yt,Bz cs with
  |some v,some vs=>some (v::vs)
  |_,_=>none
def Vw(P:LI1)(kt:LI2)(k:LI3)(ks:List LI3)(r:Option Nat):Bool:=
 match aB P (underlying kt)with
 |some kind=>(match r with|some j=>decide (j<ks.length)|none=>true)&&((ks.zipIdx.all fun(x,i)=>Instr.sameNow kind k x==some (some i==r)) ||
   (ks.zipIdx.all fun(x,i)=>Instr.sameNow kind k x==none&&aB P (Op.equal kt k x)==some (some i==r)))
 |none=>false
def Eo(P:LI1)(kt:LI2)(k:LI3)(es:List (TV×TV)):Option (Option Nat):=
 match Bz (es.map (·.1))with
 |some ks=>match aB P (do Instr.checkKey es.isEmpty 10000 kt k;Instr.findKey kt k (ks.map fun x=>⟨x,.bool false,0⟩))with
  |some r=>if Vw P kt k ks (r.map (·.1))then some (r.map (·.1))else none
  |none=>none
 |none=>none
def JJ:TV->Option NK
 |.ptr _ _ _=>some .ptr
 |.aP _ _ _ _ _ _=>some .aP
 |.map _=>some .map
 |.fn _ _ _|.kG _=>some .fn
 |_=>none
def Yl:TV->Option NK
 |.nil k=>some k
 |_=>none
def JK(P:LI1)(t:LI2):Option NK:=
 match P.underlying t with
 |some (.pointer _)=>some .ptr
 |some (.slice _)=>some .aP
 |some (.map _ _)=>some .map
 |some (.func _ _ _)=>some .fn
 |_=>none
def BP(P:LI1)(t:LI2)(x y:TV):Bool:=
 match JK P t with
 |some k=>(Yl x==some k&&JJ y==some k)||(JJ x==some k&&Yl y==some k)
 |none=>false
def su(P:LI1)(op:BinOp)(t:LI2)(x y:Operand)(a b:TV):Option TV:=
 match a.yt,b.yt with
 |some u,some v=>match aB P (do eqGuard op t x y u v;binOp op t u v)with
  |some r=>TV.Vo r
  |none=>none
 |_,_=>if BP P t a b then(match op with
  |.eql=>some (.bool false)
  |.neq=>some (.bool true)
  |_=>none)else none
def unT(P:LI1)(op:UnOp)(a:TV):Option TV:=
 match a.yt with
 |some u=>match aB P (Op.unary op u)with
  |some r=>TV.Vo r
  |none=>none
 |none=>none
def Qy(P:LI1)(src dst:LI2)(a:TV):Option TV:=
 match a.yt with
 |some u=>match aB P (convert src dst u)with
  |some r=>TV.Vo r
  |none=>none
 |none=>none
def Dy(P:LI1)(mx:Bool)(at_:Array LI2)(t:LI2)(az:List TV):Option TV:=
 match Bz az with
 |some vs=>match aB P (if mx then Builtin.max_ at_ t vs.toArray else Builtin.min_ at_ t vs.toArray)with
  |some r=>TV.Vo r
  |none=>none
 |none=>none
def MS(P:LI1)(t:LI2)(x:TV)(i:Nat):Option TV:=
 match P.underlying t,x with
 |some (.struct fs),.agg cs=>match fs[i]? with
  |some f=>ug P f.type cs f.offset
  |none=>none
 |_,_=>none
def qo(P:LI1)(t:LI2)(len:Nat)(s:St)(ps:List (Nat×TV)):Option (TV×St):=
 match jE P t with
 |some (e,n)=>if len*n<=2^24∧ps.all (fun p=>p.2.cells.all iT)=true then
   match JI P e with
   |some z=>if z.length=n then
     match rW (fun i=>some (i*n,n)) (times z len) ps with
     |some cs=>some (.aP s.heap.length 0 len len n true,{ s with heap:=s.heap++[.cells .own cs] })
     |none=>none
    else none
   |none=>none
  else none
 |none=>none
def a1Y:TV->Option Nat
 |.int _ i=>if 0<=i∧i<=2^40 then some i.toNat else none
 |_=>none
def sD(P:LI1)(t:LI2)(s:St)(l c:TV):Option (TV×St):=
 match jE P t,a1Y l,a1Y c with
 |some (e,n),some l,some c=>
  if l<=c∧tV P e c then
   match JI P e with
   |some z=>if z.length=n then some (.aP s.heap.length 0 l c n true,{ s with heap:=s.heap++[.cells .own (times z c)] })else none
   |none=>none
  else none
 |_,_,_=>none
def gU(P:LI1)(t:LI2)(h:List HB)(m k:TV)(ok:Bool):Option TV:=
 match P.underlying t,k.yt with
 |some (.map kt e),some kv=>
  let es:=match m with
   |.nil .map=>some []
   |.map r=>match h[r]? with
    |some (.map es)=>some es
    |_=>none
   |_=>none
  match es with
  |some es=>match Eo P kt kv es with
   |some (some i)=>match es[i]? with
    |some (_,v)=>some (if ok then .dG [v,.bool true]else v)
    |none=>none
   |some none=>match P.info? e with
    |some i=>match i.zero with
     |some z=>(TV.Vo z).map fun z=>if ok then .dG [z,.bool false]else z
     |none=>none
    |none=>none
   |none=>none
  |none=>none
 |_,_=>none
def xE(P:LI1)(t:LI2)(s:St)(m k v:TV):Option (St×lN):=
 match P.underlying t,k.yt,m with
 |some (.map kt _),some kv,.map r=>match s.heap[r]?,aB P (Instr.checkKey false 10000 kt kv)with
  |some (.map es),some ()=>match Eo P kt kv es with
   |some (some i)=>match es[i]? with
    |some (old,_)=>match old.yt with
     |some ov=>if Instr.sameBits 10000 ov kv then some ({ s with heap:=s.heap.set r (.map (es.set i (k,v))) },oO (.h r))else none
     |none=>none
    |none=>none
   |some none=>some ({ s with heap:=s.heap.set r (.map (es++[(k,v)])) },oO (.h r))
   |none=>none
  |_,_=>none
 |_,_,_=>none
def zQ(P:LI1)(t:LI2)(s:St)(m k:TV):Option (EV×St×lN):=
 match P.underlying t,k.yt,m with
 |some (.map kt e),some kv,.map r=>match s.heap[r]?,aB P (Instr.checkKey false 10000 kt kv)with
  |some (.map es),some ()=>match Eo P kt kv es with
   |some (some i)=>match es[i]? with
    |some (old,v)=>match old.yt with
     |some ov=>if Instr.sameBits 10000 ov kv then some (.ent r i v,{ s with heap:=s.heap.set r (.map (es.set i (k,v))) },oO (.h r))else none
     |none=>none
    |none=>none
   |some none=>match P.info? e with
    |some i=>match i.zero with
     |some z=>match TV.Vo z with
      |some z=>some (.ent r es.length z,{ s with heap:=s.heap.set r (.map (es++[(k,z)])) },oO (.h r))
      |none=>none
     |none=>none
    |none=>none
   |none=>none
  |_,_=>none
 |_,_,_=>none
def ZY(P:LI1)(t:LI2)(h h':List HB)(m k:TV):Bool:=
 match gU P t h m k false,gU P t h' m k false with
 |some (.int a x),some (.int b y)=>decide (a=b)&&x==y
 |_,_=>false
def BQ(P:LI1)(t:LI2)(s:St)(m k:TV):Option (EV×St×lN):=
 match zQ P t s m k with
 |some (e,s1,i)=>if ZY P t s.heap s1.heap m k then some (e,s1,i)else none
 |none=>none
def FZ(s:St)(m:TV)(e:EV)(v:TV):Option (St×lN):=
 match m,e with
 |.map r,.Ee r' j=>if r=r' then match s.heap[r]? with
  |some (.map es)=>match es[j]? with
   |some (k,_)=>some ({ s with heap:=s.heap.set r (.map (es.set j (k,v))) },oO (.h r))
   |none=>none
  |_=>none
  else none
 |_,_=>none
def yK(e:EV)(i:Nat):Option EV:=
 match e with
 |.val (.dG vs)=>(vs[i]?).map .val
 |.ent r j v=>match i with
  | 0=>some (.val v)
  | 1=>some (.Ee r j)
  |_=>none
 |_=>none
abbrev aY:=TV->List TV->List HB->Option (TV×List HB×List Nat)
def qI(P:LI1)(b:Builtin)(at_:Array LI2)(t:LI2)(s:St)(az:List TV):Option (TV×St×lN):=
 match b,az with
 |.len,[x]=>(Yk P at_ s.heap x).map fun(v,i)=>(v,s,i)
 |.append,[d,x]=>jc P at_ s d x
 |.copy,[d,x]=>FY P at_ s d x
 |.min,az=>(Dy P false at_ t az).map fun v=>(v,s,bY)
 |.max,az=>(Dy P true at_ t az).map fun v=>(v,s,bY)
 |_,_=>none
def Vx(env:List (Nat×EV)):Option Operand->Option (Option TV)
 |none=>some none
 |some x=>match qE env x with
  |some v=>some (some v)
  |none=>none
def MV(P:LI1)(call:aY)(s:St)(c:Call)(t:LI2):Option (EV×St×lN):=
 match c.callee,Tq s.env c.args.toList with
 |.builtin b,some az=>(qI P b c.argTypes t s az).map fun(v,s,i)=>(.val v,s,i)
 |.value f,some az=>match qE s.env f with
  |some fv=>match call fv az s.heap with
   |some (v,h,ws)=>some (.val v,{ s with heap:=h },⟨true,[],ws.map .h⟩)
   |none=>none
  |none=>none
 |_,_=>none
def oP(P:LI1)(call:aY)(site:Nat->Bool)(s:St)(o:Oper):Option (EV×St×lN):=
 match o.op with
 |.move x|.assign x=>(Il s.env x).map fun v=>(v,s,bY)
 |.pick c a b=>match qE s.env c with
  |some (.bool t)=>(Il s.env (if t then a else b)).map fun v=>(v,s,bY)
  |_=>none
 |.alloc e=>(JI P e).map fun z=>let (v,s):=qF (site (o.dst.getD 0)) s z;(v,s,bY)
 |.box _ x=>match qE s.env x with
  |some v=>if v.cells.all iT then let (v,s):=qF (site (o.dst.getD 0)) s v.cells;some (v,s,bY)else none
  |none=>none
 |.build t ps=>match Vu s.env ps.toList with
  |some ps=>(MR P t ps).map fun v=>(.val v,s,bY)
  |none=>none
 |.buildSlice t len ps=>match Vu s.env ps.toList with
  |some ps=>(qo P t len s ps).map fun(v,s)=>(.val v,s,bY)
  |none=>none
 |.load t a=>match Il s.env a with
  |some a=>(loadT P t s a).map fun(v,i)=>(.val v,s,i)
  |none=>none
 |.store t a x=>match Il s.env a,qE s.env x with
  |some a,some v=>(storeT P t s a v).map fun(s,i)=>(.undef,s,i)
  |_,_=>none
 |.nilCheck x=>match Il s.env x with
  |some (.loc k o)=>some (.loc k o,s,bY)
  |some (.val (.ptr b o lim))=>some (.val (.ptr b o lim),s,bY)
  |some (.val (.fn f a b))=>some (.val (.fn f a b),s,bY)
  |some (.val (.kG l))=>some (.val (.kG l),s,bY)
  |_=>none
 |.binOp op t x y _=>match qE s.env x,qE s.env y with
  |some a,some b=>(su P op t x y a b).map fun v=>(.val v,s,bY)
  |_,_=>none
 |.unOp op _ x=>match qE s.env x with
  |some a=>(unT P op a).map fun v=>(.val v,s,bY)
  |none=>none
 |.convert src dst x=>match qE s.env x with
  |some a=>(Qy P src dst a).map fun v=>(.val v,s,bY)
  |none=>none
 |.makeFunc (.func f) first cap=>match Tq s.env first.toList,Tq s.env cap.toList with
  |some a,some b=>some (.val (.fn f a b),s,bY)
  |_,_=>none
 |.makeMap t r=>match Vx s.env r,P.underlying t with
  |some none,_=>some (.val (.map s.heap.length),{ s with heap:=s.heap++[.map []] },bY)
  |some (some (.int _ _)),some (.map _ _)=>some (.val (.map s.heap.length),{ s with heap:=s.heap++[.map []] },bY)
  |_,_=>none
 |.makeSlice t l c=>match qE s.env l,qE s.env c with
  |some l,some c=>(sD P t s l c).map fun(v,s)=>(.val v,s,bY)
  |_,_=>none
 |.slice t x lo hi mx=>match Il s.env x,Vx s.env lo,Vx s.env hi,Vx s.env mx with
  |some x,some lo,some hi,some mx=>match P.underlying t,x with
   |some (.array _ _),x=>(qm P t x lo hi mx).map fun v=>(.val v,s,bY)
   |_,.val x=>(qH P t x lo hi mx).map fun v=>(.val v,s,bY)
   |_,_=>none
  |_,_,_,_=>none
 |.fieldAddr t x f=>match Il s.env x,FX P t f with
  |some a,some n=>(PZ n a).map fun v=>(v,s,bY)
  |_,_=>none
 |.field t x f=>match qE s.env x with
  |some a=>(MS P t a f).map fun v=>(.val v,s,bY)
  |none=>none
 |.indexAddr t x i=>match Il s.env x,qE s.env i with
  |some a,some i=>(lS P t a i).map fun v=>(v,s,bY)
  |_,_=>none
 |.index t x i=>match qE s.env x,qE s.env i with
  |some a,some i=>(Iw P t a i).map fun v=>(.val v,s,bY)
  |_,_=>none
 |.lookup t m k ok=>match qE s.env m,qE s.env k with
  |some m,some k=>(gU P t s.heap m k ok).map fun v=>(.val v,s,fJ (match m with|.map r=>[.h r] |_=>[]))
  |_,_=>none
 |.mapUpdate t m k x|.insert t m k x=>match qE s.env m,qE s.env k,qE s.env x with
  |some m,some k,some v=>(xE P t s m k v).map fun(s,i)=>(.undef,s,i)
  |_,_,_=>none
 |.mapEntry t m k=>match qE s.env m,qE s.env k with
  |some m,some k=>BQ P t s m k
  |_,_=>none
 |.entryStore _ m e x=>match qE s.env m,Il s.env e,qE s.env x with
  |some m,some e,some v=>(FZ s m e v).map fun(s,i)=>(.undef,s,i)
  |_,_,_=>none
 |.extract t i=>match Il s.env t with
  |some e=>(yK e i).map fun v=>(v,s,bY)
  |none=>none
 |.call c=>MV P call s c o.type
 |.range t x=>match qE s.env x,P.underlying t with
  |some (.map r),some (.map _ _)=>match s.heap[r]? with
   |some (.map es)=>some (.val (.iter s.heap.length),{ s with heap:=s.heap++[.cO r es.length []] },wW (.h r))
   |_=>none
  |_,_=>none
 |.entry x=>match qE s.env x with
  |some (.iter b)=>match s.heap[b]? with
   |some (.cO r n (i::_))=>match s.heap[r]? with
    |some (.map es)=>if es.length=n then(es[i]?).map fun e=>(.val (.dG [e.1,e.2]),s,fJ [.h b,.h r])else none
    |_=>none
   |_=>none
  |_=>none
 |_=>none
def BU(ops:Array Oper)(env:List (Nat×EV))(o:Oper):Option Bool:=
 match o.guard with
 |none=>some true
 |some (j,want)=>match(ops[j]?).bind (·.dst)with
  |some d=>match dL d env with
   |some (.val (.bool b))=>some (b==want)
   |some .undef=>some false
   |_=>none
  |none=>none
def MW(nt:Nat)(o:Oper):Bool:=
 match o.dst with
 |some d=>decide (d<nt)
 |none=>true
def kW(P:LI1)(call:aY)(site:Nat->Bool)(fl nt:Nat)(ops:Array Oper):List Oper->St->Option (St×List lN)
 | [],s=>some (s,[])
 |o::os,s=>if !MW nt o then none else match BU ops s.env o with
  |some true=>match oP P call site s o with
   |some (v,s1,i)=>match kW P call site fl nt ops os ({ s1 with ws:=jT fl i.ws s.ws }.put o.dst v)with
    |some (s,is)=>some (s,i::is)
    |none=>none
   |none=>none
  |some false=>match kW P call site fl nt ops os (s.put o.dst .undef)with
   |some (s,is)=>some (s,bY::is)
   |none=>none
  |none=>none
def MX:List Nat->List Nat->List Nat
 | [],l=>l
 |x::xs,l=>MX xs (if l.contains x then l else x::l)
def EO(acc:List (List Nat))(o:Oper):List Nat:=
 o.after.toList.foldl (fun l e=>if Region.binds .any e then MX (e.on::acc.getD e.on []) l else l) []
def Ep:List Oper->List (List Nat)->List (List Nat)
 | [],acc=>acc
 |o::os,acc=>Ep os (acc++[EO acc o])
def Iy:Op->Bool
 |.store .. |.mapUpdate .. |.insert .. |.mapEntry .. |.entryStore ..=>true
 |.call { callee:=.builtin b,.. }=>match b with
  |.len|.min|.max=>false
  |_=>true
 |.call _=>true
 |_=>false
def MZ:Op->Bool
 |.store .. |.mapUpdate .. |.insert .. |.mapEntry .. |.entryStore .. |.load .. |.lookup .. |.range .. |.entry ..=>true
 |.call { callee:=.builtin b,.. }=>match b with
  |.min|.max=>false
  |_=>true
 |.call _=>true
 |_=>false
def nZ(ops:List Oper):List (Nat×Nat):=
 let pr:=Ep ops []
 (List.range ops.length).flatMap fun j=>((List.range j).filter fun i=>!(pr.getD j []).contains i).map fun i=>(i,j)
def nH(ops:List Oper):Bool:=
 (ops.zipIdx.all fun(o,i)=>o.after.all fun e=>!Region.binds .any e||decide (e.on<i)) &&
 (nZ ops).all fun(i,j)=>match ops[i]?,ops[j]? with
  |some a,some b=>a.apart ops.toArray b&&b.apart ops.toArray a
  |_,_=>false
def AZ(a b:Oper):Bool:=match a.op,b.op,a.guard,b.guard with
 |.lookup t (.tmp m) (.tmp k) false,.mapEntry t' (.tmp m') (.tmp k'),none,none=>t==t'&&m==m'&&k==k'
 |_,_,_,_=>false
def mG(ops:List Oper):List (Nat×Nat):=
 (nZ ops).filter fun(i,j)=>match ops[i]?,ops[j]? with
  |some a,some b=>((Iy a.op&&MZ b.op)||(MZ a.op&&Iy b.op))&&!AZ a b
  |_,_=>false
def Key.isH:Key->Bool
 |.h _=>true
 |.l _=>false
def N7(ws:List Key)(b:lN):Bool:=
 ws.all fun k=>!(b.all&&k.isH)&&!b.ts.contains k&&!b.ws.contains k
def calm(a b:lN):Bool:=N7 a.ws b&&N7 b.ws a
def Ba(wX:List lN):List (Nat×Nat)->Bool
 | []=>true
 |(i,j)::r=>(match wX[i]?,wX[j]? with
  |some a,some b=>calm a b
  |_,_=>false)&&Ba wX r
inductive Ex where
 |norm|exit (id:Nat)|ret
structure FnT where
 nt:Nat
 body:Code
 results:List ResultVar
def TA(P:LI1)(f:Nat):Option FnT:=
 match P.funcs[f]? with
 | some fn => if fn.name == "runtime.NumGoroutine" then none else match fn.body with
  |some b=>some ⟨fn.ntmps,b,fn.results.toList⟩
  |none=>none
 |none=>none
structure qx where
 live:List (Nat×List (Nat×List Nat))
 head:List (Nat×List (Nat×List Nat))
 site:List (Nat×List Nat)
 exts:List Nat:=[]
 ext:TV->List TV->List HB->Option (TV×List HB×List Nat):=fun _ _ _=>none
 dem:List Nat:=[]
 din:List Nat:=[]
 a8S:List Nat:=[]
def Qz{α:Type}(k:Nat):List (Nat×List α)->List α
 | []=>[]
 |(j,l)::r=>if j=k then l else Qz k r
def qx.iw(T:qx)(f id:Nat):List Nat:=Qz id (Qz f T.live)
def qx.eX(T:qx)(f id:Nat):List Nat:=Qz id (Qz f T.head)
def qx.TB(T:qx)(f d:Nat):Bool:=(Qz f T.site).contains d
def BX:List (Nat×EV)->Nat
 | []=>0
 |(_,.loc k _)::r=>max (k+1) (BX r)
 |_::r=>BX r
def jU(live:List Nat)(s:St):St:=
 let env:=pick live s.env
 { s with env:=env,loc:=s.loc.take (BX env) }
def dQ:Code->Nat
 |.region id _ _=>id
 |.seq a _=>dQ a
 |.block _ b=>dQ b
 |.loop b=>dQ b
 |.scope b=>dQ b
 |_=>0
def iter(g:St->Option (Ex×St)):Nat->St->Option (Ex×St)
 | 0,_=>none
 |n+1,s=>match g s with
  |some (.norm,s)=>iter g n s
  |r=>r
def isVal:Nat×EV->Bool
 |(_,.loc _ _)|(_,.ent _ _ _)|(_,.Ee _ _)=>false
 |_=>true
def QA:Bool->Option Code->Option Ex
 |true,none=>some .norm
 |false,some .ret=>some .ret
 |false,some (.exit id)=>some (.exit id)
 |_,_=>none
def exec(P:LI1)(T:qx)(call:aY)(L:Nat)(f:Nat)(gQ:Bool)(fl nt:Nat):Code->St->Option (Ex×St)
 |.skip,s=>some (.norm,s)
 |.label _,s=>some (.norm,s)
 |.region id ops draw,s=>match kW P call (fun d=>gQ||T.TB f d) fl nt ops ops.toList s with
  |some (s,wX)=>if !draw||(nH ops.toList&&Ba wX (mG ops.toList))then some (.norm,{ s with env:=pick (T.iw f id) s.env })else none
  |none=>none
 |.seq a b,s=>match exec P T call L f gQ fl nt a s with
  |some (.norm,s)=>exec P T call L f gQ fl nt b s
  |r=>r
 |.cond c a b,s=>match qE s.env c with
  |some (.bool true)=>exec P T call L f gQ fl nt a s
  |some (.bool false)=>exec P T call L f gQ fl nt b s
  |_=>none
 |.block id b,s=>match exec P T call L f gQ fl nt b s with
  |some (.exit i,s)=>some (if i=id then .norm else .exit i,s)
  |r=>r
 |.scope b,s=>exec P T call L f gQ fl nt b s
 |.loop b,s=>iter (fun s=>exec P T call L f gQ fl nt b (jU (T.eX f (dQ b)) s)) L s
 |.exit id,s=>some (.exit id,s)
 |.ret,s=>some (.ret,s)
 |.rangeFunc g ps assign body,s=>match qE s.env g with
  |some (.fn f1 a1 b1)=>
   if s.env.all isVal&&!gQ then
    match call (.fn f1 a1 b1) [.kG (s.heap.length+1)] (s.heap++[.mark,.loop true f nt s.env ps.toList assign body none])with
    |some (_,h,ws)=>match h[s.heap.length+1]? with
     |some (.loop rd f2 Q5 e2 BZ a2 b2 jI)=>match QA rd jI with
      |some e=>some (e,{ s with heap:=h.set (s.heap.length+1) (.loop false f2 Q5 e2 BZ a2 b2 (some .skip)),ws:=jT fl (ws.map .h) s.ws })
      |none=>none
     |_=>none
    |none=>none
   else none
  |_=>none
 |_,_=>none
def a4t(P:LI1)(s:St):ResultVar->Option TV
 |.tmp t=>match dL t s.env with
  |some (.val v)=>some v
  |_=>none
 |.cell a t=>match dL a s.env with
  |some a=>(loadT P t s a).map (·.1)
  |none=>none
def xG(P:LI1)(s:St):List ResultVar->Option (List TV)
 | []=>some []
 |r::rs=>match a4t P s r,xG P s rs with
  |some v,some vs=>some (v::vs)
  |_,_=>none
def one:List TV->TV
 | [v]=>v
 |vs=>.dG vs
def nI:Nat->List TV->List (Nat×EV)
 |_,[]=>[]
 |k,v::vs=>(k,.val v)::nI (k+1) vs
def sF(env:List (Nat×EV)):List Nat->List TV->List (Nat×EV)
 |p::ps,v::vs=>sF ((p,.val v)::env) ps vs
 |_,_=>env
def amO(P:LI1)(T:qx)(call:aY)(L:Nat)(f:Nat)(args:List TV)(h:List HB):Option (TV×List HB×List Nat):=
 match TA P f with
 |some t=>match exec P T call L f false h.length t.nt t.body ⟨nI 0 args,[],h,[]⟩with
  |some (.norm,s)|some (.ret,s)=>match xG P s t.results with
   |some vs=>if s.ws.isEmpty&&(one vs).flat then some (one vs,h,[])else some (one vs,s.heap,s.ws)
   |none=>none
  |_=>none
 |none=>none
def sG:Ex->Option Code
 |.norm=>none
 |.ret=>some .ret
 |.exit id=>some (.exit id)
def oQ:Ex->Bool
 |.norm=>true
 |_=>false
def N8(P:LI1)(T:qx)(call:aY)(L:Nat)(l:Nat)(args:List TV)(h:List HB):Option (TV×List HB×List Nat):=
 match h[l]? with
 |some (.loop true f nt env ps assign body _)=>
  if args.length=ps.length∧ps.all (fun p=>decide (p<nt))then
   match exec P T call L f true h.length nt assign ⟨sF env ps args,[],h,[]⟩with
   |some (.norm,s)=>match s.heap[l]? with
    |some (.loop true f' nt' env' ps' a' b' _)=>
     match exec P T call L f true h.length nt body { s with heap:=s.heap.set l (.loop false f' nt' env' ps' a' b' none),ws:=Ef h.length l s.ws }with
     |some (e,s)=>match s.heap[l]? with
      |some (.loop false f' nt' env' ps' a' b' none)=>some (.bool (oQ e),s.heap.set l (.loop (oQ e) f' nt' env' ps' a' b' (sG e)),Ef h.length l s.ws)
      |_=>none
     |none=>none
    |_=>none
   |_=>none
  else none
 |_=>none
def ap(P:LI1)(T:qx)(L:Nat):Nat->aY
 | 0,_,_,_=>none
 |n+1,.fn f first cap,args,h=>amO P T (ap P T L n) L f (first++args++cap) h
 |n+1,.kG l,args,h=>N8 P T (ap P T L n) L l args h
 |_,_,_,_=>none
def run(P:LI1)(T:qx)(L n f:Nat)(args:List TV)(h:List HB):Option (TV×List HB×List Nat):=ap P T L n (.fn f [] []) args h
structure Pl where
 c:Nat
 base:Nat
 ext:Nat
 tot:Nat
inductive Lc where
 |cells (ls:List Pl)
 |obj (r:Nat) (o:List Nat)
abbrev Mp:=Key->Option Lc
abbrev Np:=Nat->Option Lc
def Mp.h(M:Mp):Np:=fun b=>M (.h b)
inductive VR(M:Np):TV->LI3->Prop
 |bool (b:Bool):VR M (.bool b) (.bool b)
 |int (k:IntKind) (n:Int):VR M (.int k n) (.int k n)
 |str (s:ByteArray):VR M (.str s) (.string s)
 |a1Z:VR M (.nil .ptr) (.pointer none)
 |TD:VR M (.nil .aP) (.slice none 0 0)
 |Ym:VR M (.nil .map) (.map none)
 |nfn:VR M (.nil .fn) .nilFunc
 |a2a:VR M (.nil .ifc) .nilIface
 |ptr {b off lim:Nat} {ls:List Pl} {p:Pl} (hb:M b=some (.cells ls)) (hp:p∈ls) (h:lim<=p.ext) (ht:p.base+lim<=p.tot) :
   VR M (.ptr b off lim) (.pointer (some ⟨p.c,p.base+off,none⟩))
 |aP {b off len cap sz:Nat} {ex:Bool} {ls:List Pl} {p:Pl} {a:Addr} {cap':Nat} (hb:M b=some (.cells ls)) (hp:cap'=0∨p∈ls)
   (h:off+cap*sz<=p.ext) (hl:len<=cap) (hc:cap<=cap') (hx:ex=true->cap'=cap)
   (ha:cap'=0∨(a=⟨p.c,p.base+off,none⟩∧p.base+off+cap'*sz<=p.tot)) (hk:cap'<2^63) :
   VR M (.aP b off len cap sz ex) (.slice (some a) len cap')
 |map {r r':Nat} {o:List Nat} (h:M r=some (.obj r' o)):VR M (.map r) (.map (some r'))
 |kG {l l':Nat} {o:List Nat} (h:M l=some (.obj l' o)):VR M (.kG l) (.func (.yield l') #[] #[])
 |iter {l l':Nat} {o:List Nat} (h:M l=some (.obj l' o)):VR M (.iter l) (.pointer (some ⟨l',0,none⟩))
 |fn {f:FuncId} {az bs:List TV} {xs ys:List LI3} (h1:az.length=xs.length) (h2:∀(i:Nat) (c:TV) (v:LI3),az[i]? = some c->xs[i]? = some v->VR M c v)
   (h3:bs.length=ys.length) (h4:∀(i:Nat) (c:TV) (v:LI3),bs[i]? = some c->ys[i]? = some v->VR M c v):VR M (.fn f az bs) (.func (.func f) xs.toArray ys.toArray)
 |agg {az:List TV} {xs:List LI3} (h1:az.length=xs.length) (h2:∀(i:Nat) (c:TV) (v:LI3),az[i]? = some c->xs[i]? = some v->VR M c v):VR M (.agg az) (.agg xs.toArray)
 |dG {az:List TV} {xs:List LI3} (h1:az.length=xs.length) (h2:∀(i:Nat) (c:TV) (v:LI3),az[i]? = some c->xs[i]? = some v->VR M c v):VR M (.dG az) (.tuple xs.toArray)
structure bU(M:Np)(az:List TV)(xs:List LI3):Prop where
 len:az.length=xs.length
 at_:∀(i:Nat) (c:TV) (v:LI3),az[i]? = some c->xs[i]? = some v->VR M c v
theorem VR.agg'{M:Np}{az:List TV}{xs:List LI3}(h:bU M az xs):VR M (.agg az) (.agg xs.toArray):=.agg h.len h.at_
theorem VR.Q7{M:Np}{az:List TV}{xs:List LI3}(h:bU M az xs):VR M (.dG az) (.tuple xs.toArray):=.dG h.len h.at_
theorem bU.nil{M:Np}:bU M [] []:=⟨rfl,fun i c v h=>by simp at h⟩
theorem bU.cons{M:Np}{c:TV}{v:LI3}{az:List TV}{xs:List LI3}(h:VR M c v)(hs:bU M az xs):bU M (c::az) (v::xs):=
 ⟨by simp[hs.len],fun i c' v' h1 h2=>by
  cases i with
  |zero=>simp at h1 h2;subst h1;subst h2;exact h
  |succ i=>simp at h1 h2;exact hs.at_ i _ _ h1 h2⟩
theorem bU.pR{M:Np}{xs:List LI3}(h:bU M [] xs):xs=[]:=by have:=h.len;simp at this;exact a3Y this.symm
theorem bU.iM{M:Np}{c:TV}{az:List TV}{xs:List LI3}(h:bU M (c::az) xs):∃v vs,xs=v::vs∧VR M c v∧bU M az vs:=by
 cases xs with
 |nil=>have:=h.len;simp at this
 |cons v vs=>exact⟨v,vs,rfl,h.at_ 0 c v rfl rfl,⟨by have:=h.len;simpa using this,fun i c' v' h1 h2=>h.at_ (i+1) c' v' (by simpa using h1) (by simpa using h2)⟩⟩
theorem bU.append{M:Np}{az bs:List TV}{xs ys:List LI3}(h:bU M az xs)(h':bU M bs ys):bU M (az++bs) (xs++ys):=by
 induction az generalizing xs with
 |nil=>have:=h.pR;subst this;simpa using h'
 |cons c az ih=>
  obtain⟨v,vs,rfl,hv,hvs⟩:=h.iM;exact .cons hv (ih hvs)
theorem bU.take{M:Np}{az:List TV}{xs:List LI3}(h:bU M az xs)(n:Nat):bU M (az.take n) (xs.take n):=
 ⟨by simp[h.len],fun i c v h1 h2=>by
  rw[a4g]at h1 h2;split at h1
  .rename_i hi;rw[a0g hi]at h2;exact h.at_ i c v h1 h2
  .simp at h1⟩
theorem bU.drop{M:Np}{az:List TV}{xs:List LI3}(h:bU M az xs)(n:Nat):bU M (az.drop n) (xs.drop n):=
 ⟨by simp[h.len],fun i c v h1 h2=>by rw[a4e]at h1 h2;exact h.at_ _ c v h1 h2⟩
theorem bU.get{M:Np}{az:List TV}{xs:List LI3}(h:bU M az xs){i:Nat}{c:TV}(hc:az[i]? = some c):∃v,xs[i]? = some v∧VR M c v:=by
 have hi:i<az.length:=(a01.1 hc).1;have wY:i<xs.length:=by rw[<-h.len];exact hi
 exact⟨xs[i],by simp[wY],h.at_ i c _ hc (by simp[wY])⟩
def KI:Lc->Lc->Prop
 |.cells ls,.cells xH=>∀p∈ls,∃q∈xH,q.c=p.c∧q.base=p.base∧p.ext<=q.ext∧q.tot=p.tot
 |.obj r o,.obj r' o'=>r=r'∧o <+: o'
 |_,_=>False
def rX{α:Type}(M M':α->Option Lc):Prop:=∀k l,M k=some l->∃l',M' k=some l'∧KI l l'
theorem KI.refl(l:Lc):KI l l:=by
 cases l with
 |cells ls=>exact fun p hp=>⟨p,hp,rfl,rfl,a0U _,rfl⟩
 |obj r o=>exact⟨rfl,agj o⟩
theorem KI.trans{a b c:Lc}(h:KI a b)(h':KI b c):KI a c:=by
 cases a<;>cases b<;>cases c<;>simp only[KI]at *
 .intro p hp;obtain⟨q,hq,h1,h2,h3,h4⟩:=h p hp;obtain⟨r,hr,g1,g2,g3,g4⟩:=h' q hq;exact⟨r,hr,g1.trans h1,g2.trans h2,a4A h3 g3,g4.trans h4⟩
 exact⟨h.1.trans h'.1,h.2.trans h'.2⟩
theorem rX.refl{α:Type}(M:α->Option Lc):rX M M:=fun _ l h=>⟨l,h,.refl l⟩
theorem rX.trans{α:Type}{a b c:α->Option Lc}(h:rX a b)(h':rX b c):rX a c:=fun k l hl=>
 let ⟨l',h1,h2⟩:=h k l hl
 let ⟨l'',g1,g2⟩:=h' k l' h1
 ⟨l'',g1,h2.trans g2⟩
theorem rX.h{M M':Mp}(hm:rX M M'):rX M.h M'.h:=fun b l hl=>hm (.h b) l hl
theorem VR.mono{M M':Np}(hm:rX M M'){v:TV}{x:LI3}(h:VR M v x):VR M' v x:=by
 induction h with
 |bool b=>exact .bool b
 |int k n=>exact .int k n
 |str s=>exact .str s
 |a1Z=>exact .a1Z
 |TD=>exact .TD
 |Ym=>exact .Ym
 |nfn=>exact .nfn
 |a2a=>exact .a2a
 |ptr hb hp h ht=>
  obtain⟨l',h1,h2⟩:=hm _ _ hb;cases l' with
  |obj r _=>exact h2.elim
  |cells xH=>
   obtain⟨q,hq,e1,e2,e3,e4⟩:=h2 _ hp;rw[<-e1,<-e2];exact .ptr h1 hq (a4A h e3) (by rw[e2,e4];exact ht)
 |aP hb hp h hl hc hx ha hk=>
  obtain⟨l',h1,h2⟩:=hm _ _ hb;cases l' with
  |obj r _=>exact h2.elim
  |cells xH=>
   rcases hp with hp|hp
   .exact .aP h1 (.inl hp) h hl hc hx (.inl hp) hk
   obtain⟨q,hq,e1,e2,e3,e4⟩:=h2 _ hp;exact .aP h1 (.inr hq) (a4A h e3) hl hc hx (by rw[e1,e2,e4];exact ha) hk
 |map h=>
  obtain⟨l',h1,h2⟩:=hm _ _ h;cases l' with
  |obj r _=>cases h2.1;exact .map h1
  |cells xH=>exact h2.elim
 |kG h=>
  obtain⟨l',h1,h2⟩:=hm _ _ h;cases l' with
  |obj r _=>cases h2.1;exact .kG h1
  |cells xH=>exact h2.elim
 |iter h=>
  obtain⟨l',h1,h2⟩:=hm _ _ h;cases l' with
  |obj r _=>cases h2.1;exact .iter h1
  |cells xH=>exact h2.elim
 |fn h1 _ h3 _ ih2 ih4=>exact .fn h1 ih2 h3 ih4
 |agg h1 _ ih=>exact .agg h1 ih
 |dG h1 _ ih=>exact .dG h1 ih
theorem bU.mono{M M':Np}(hm:rX M M'){az:List TV}{xs:List LI3}(h:bU M az xs):bU M' az xs:=
 ⟨h.len,fun i c v h1 h2=>(h.at_ i c v h1 h2).mono hm⟩
theorem a4w{M:Np}{v:TV}{x y:LI3}(h:v.toC=some x)(hy:VR M v y):y=x:=by cases hy<;>simp[TV.toC]at h<;>first|exact h|exact h.symm|skip
theorem a02{M:Np}:∀{az:List TV} {xs ys:List LI3},TV.Tn az=some xs->bU M az ys->ys=xs
 | [],xs,ys,h,hy=>by simp[TV.Tn]at h;subst h;exact hy.pR
 |c::az,xs,ys,h,hy=>by
  simp only[TV.Tn]at h;split at h
  .rename_i v vs h1 h2;simp at h;subst h;obtain⟨w,ws,rfl,hw,Yn⟩:=hy.iM;rw[a4w h1 hw,a02 h2 Yn]
  simp at h
theorem vS{M:Np}{v:TV}{x y:LI3}(h:v.yt=some x)(hy:VR M v y):y=x:=by
 unfold TV.yt at h;split at h
 .simp only[a05]at h;obtain⟨vs,h1,rfl⟩:=h;cases hy with
  |agg g1 g2=>rw[a02 h1 ⟨g1,g2⟩]
 exact a4w h hy
theorem VR.a4x{M:Np}{v:TV}{x:LI3}(h:TV.ZX x=some v):VR M v x:=by unfold TV.ZX at h;split at h<;>simp at h<;>subst h<;>constructor
theorem bU.a03{M:Np}:∀{xs:List LI3} {az:List TV},TV.BN xs=some az->bU M az xs
 | [],az,h=>by simp[TV.BN]at h;subst h;exact .nil
 |x::xs,az,h=>by
  simp only[TV.BN]at h;split at h
  .rename_i v vs h1 h2;simp at h;subst h;exact .cons (.a4x h1) (bU.a03 h2)
  simp at h
theorem VR.yu{M:Np}{v:TV}{x:LI3}(h:TV.Vo x=some v):VR M v x:=by
 unfold TV.Vo at h;split at h
 .rename_i cs;simp only[a05]at h;obtain⟨vs,h1,rfl⟩:=h;have:=VR.agg' (bU.a03 (M:=M) h1);simpa using this
 exact .a4x h
theorem VR.cells{M:Np}{v:TV}{x:LI3}(h:VR M v x):bU M v.cells x.cells.toList:=by
 cases h with
 |agg h1 h2=>exact⟨by simpa[TV.cells,Value.cells]using h1,by simpa[TV.cells,Value.cells]using h2⟩
 |_=>exact .cons (by first|assumption|constructor<;>assumption) .nil
theorem iW{α:Type}{P:LI1}:∀{s:Sem α} {a:α},aB P s=some a->∀w,s.run P w=.ok a w
 |.pure b,a,h,w=>by simp[aB]at h;simp[Sem.run,h]
 |.program k,a,h,w=>by simp only[aB]at h;simp only[Sem.run];exact iW h w
 |.mark _ k,a,h,w=>by simp only[aB]at h;simp only[Sem.run];exact iW h w
 |.load ..,a,h,w=>by simp[aB]at h
 |.store ..,a,h,w=>by simp[aB]at h
 |.new ..,a,h,w=>by simp[aB]at h
 |.shape ..,a,h,w=>by simp[aB]at h
 |.freeze ..,a,h,w=>by simp[aB]at h
 |.frozen ..,a,h,w=>by simp[aB]at h
 |.getObj ..,a,h,w=>by simp[aB]at h
 |.setObj ..,a,h,w=>by simp[aB]at h
 |.choose ..,a,h,w=>by simp[aB]at h
 |.sys ..,a,h,w=>by simp[aB]at h
 |.halt ..,a,h,w=>by simp[aB]at h
def wr:HB->Bool
 |.cells .ro _=>false
 |.mark=>false
 |_=>true
def aI:Lc->List Nat
 |.cells ls=>ls.map (·.c)
 |.obj r _=>[r]
structure N9(N:Np)(w:LI4)(k:BK)(cs:List TV)(p:Pl):Prop where
 row:∃(arr:Array LI3) (ty:LI2) (fz:Nat×Nat),w.heap[p.c]? = some (.cells arr ty fz)∧arr.size=p.tot∧(k≠.ro->fz=(0,0)) ∧
  ((k=.last->p.ext=cs.length)->∀(i:Nat) (c:TV) (v:LI3),i<p.ext->cs[i]? = some c->arr[p.base+i]? = some v->VR N c v)
 fit:p.base+p.ext<=p.tot
 ext:p.ext<=cs.length
 base:k≠.ro->p.base=0
inductive ER(M:Mp):EV->LI3->Prop
 |val {v:TV} {x:LI3} (h:VR M.h v x):ER M (.val v) x
 |loc {k off:Nat} {p:Pl} (h:M (.l k)=some (.cells [p])) (hb:p.base=0):ER M (.loc k off) (.pointer (some ⟨p.c,off,none⟩))
 |undef:ER M .undef Go.undef
 |ent {r j:Nat} {v:TV} {r1 i:Nat} {o:List Nat} {x:LI3} (h:M (.h r)=some (.obj r1 o)) (hi:o[i]? = some j) (hv:VR M.h v x):ER M (.ent r j v) (.tuple #[x,Go.goInt i])
 |Ee {r j r1 i:Nat} {o:List Nat} (h:M (.h r)=some (.obj r1 o)) (hi:o[i]? = some j):ER M (.Ee r j) (Go.goInt i)
theorem ER.vg{M:Mp}{v:TV}{x:LI3}(h:ER M (.val v) x):VR M.h v x:=by cases h;assumption
def jS(M:Mp)(env:List (Nat×EV))(tmps:Array LI3):Prop:=∀t e,dL t env=some e->ER M e (tmps.getD t Go.undef)
structure a8T(N:Np)(rd:Bool)(f nt:Nat)(env:List (Nat×EV))(ps:List Nat)(a b:Code)(jI:Option Code)(lp:Loop):Prop where
 ps:lp.params.toList=ps
 uJ:lp.assign=a
 body:lp.body=b
 size:nt<=lp.tmps.size
 KJ:∀t v,dL t env=some (.val v)->VR N v (lp.tmps.getD t Go.undef)
 TF:∀t,dL t env=some .undef->lp.tmps.getD t Go.undef=Go.undef
 nol:∀t e,dL t env=some e->isVal (t,e)=true
 ready:rd=true->lp.state=.ready∧lp.pending=none
 busy:rd=false->jI=none->lp.state=.busy
 done:rd=false->∀j,jI=some j->j≠.skip->lp.state=.done∧lp.pending=some j
structure vT(N:Np)(o:List Nat)(es:List (TV×TV))(xs:Array MapEntry):Prop where
 len:es.length=xs.size
 ord:o.length=xs.size
 nod:o.Nodup
 sur:∀j,j<es.length->j∈o
 at_:∀(i:Nat) (x:MapEntry),xs[i]? = some x->x.born=i∧∃j e,o[i]? = some j∧es[j]? = some e∧VR N e.1 x.key∧VR N e.2 x.val
def ahh(N:Np)(w:LI4)(es:List (TV×TV))(r:Nat)(o:List Nat):Prop:=
 ∃xs:Array MapEntry,w.heap[r]? = some (.map xs xs.size)∧vT N o es xs
theorem vT.mono{N N':Np}{o:List Nat}{es:List (TV×TV)}{xs:Array MapEntry}(hm:rX N N')(h:vT N o es xs):vT N' o es xs:=
 ⟨h.len,h.ord,h.nod,h.sur,fun i x hx=>let ⟨b,j,e,h1,h2,h3,h4⟩:=h.at_ i x hx;⟨b,j,e,h1,h2,h3.mono hm,h4.mono hm⟩⟩
def lT(N:Np)(w:LI4)(k:BK)(cs:List TV)(ls:List Pl):Prop:=
 (∀c∈cs,iT c=true)∧(∀p∈ls,N9 N w k cs p)∧(k=.own->∃p,ls=[p]∧p.ext=cs.length) ∧
   ((k=.grow∨k=.last)->(ls.map (·.c)).Nodup∧∀p∈ls,∀q∈ls,p.ext=cs.length->q.ext=cs.length->p=q)
def pz(N:Np)(w:LI4):HB->Lc->Prop
 |.cells k cs,.cells ls=>lT N w k cs ls
 |.mP cs,.cells ls=>∃cs',cs'.Perm cs∧lT N w .last cs' ls
 |.map es,.obj r o=>ahh N w es r o
 |.mark,.obj r _=>r<w.heap.size
 |.cO m n seen,.obj r _=>∃(b:Nat) (o:List Nat) (sa:Array Nat),N m=some (.obj b o)∧w.heap[r]? = some (.mapIter (some b) n sa n)∧n<=o.length∧sa.toList.map (fun i=>o[i]?)=seen.reverse.map some
 |.loop rd f nt env ps a b jI,.obj r _=>∃lp,w.heap[r]? = some (.loop lp)∧a8T N rd f nt env ps a b jI lp
 |_,_=>False
theorem N9.mono{N N':Np}{w w':LI4}{k:BK}{cs:List TV}{p:Pl}(hm:rX N N')(hw:w'.heap[p.c]? = w.heap[p.c]?)(h:N9 N w k cs p):N9 N' w' k cs p:=
 ⟨let ⟨arr,ty,fz,h1,h2,h3,h4⟩:=h.row;⟨arr,ty,fz,hw.trans h1,h2,h3,fun z i c v a b d=>(h4 z i c v a b d).mono hm⟩,h.fit,h.ext,h.base⟩
theorem a8T.mono{N N':Np}{rd:Bool}{f nt:Nat}{env:List (Nat×EV)}{ps:List Nat}{a b:Code}{jI:Option Code}{lp:Loop}(hm:rX N N')(h:a8T N rd f nt env ps a b jI lp):a8T N' rd f nt env ps a b jI lp:=
 { h with KJ:=fun t v e=>(h.KJ t v e).mono hm }
theorem lT.mono{N N':Np}{w w':LI4}{k:BK}{cs:List TV}{ls:List Pl}(hm:rX N N')(hw:∀p∈ls,w'.heap[p.c]? = w.heap[p.c]?)(h:lT N w k cs ls):lT N' w' k cs ls:=
 ⟨h.1,fun p hp=>(h.2.1 p hp).mono hm (hw p hp),h.2.2⟩
theorem pz.mono{N N':Np}{w w':LI4}{b:HB}{l:Lc}(hm:rX N N')(hw:∀c∈aI l,w'.heap[c]? = w.heap[c]?)(h:pz N w b l):pz N' w' b l:=by
 cases b with
 |cells k cs=>
  cases l with
  |obj r _=>exact h.elim
  |cells ls=>exact lT.mono hm (fun p hp=>hw p.c (a1g.2 ⟨p,hp,rfl⟩)) h
 |mP cs=>
  cases l with
  |obj r _=>exact h.elim
  |cells ls=>
   obtain⟨cs',h1,h2⟩:=h;exact⟨cs',h1,h2.mono hm fun p hp=>hw p.c (a1g.2 ⟨p,hp,rfl⟩)⟩
 |map es=>
  cases l with
  |cells ls=>exact h.elim
  |obj r _=>
   obtain⟨xs,h1,h2⟩:=h;exact⟨xs,(hw r (by simp[aI])).trans h1,h2.mono hm⟩
 |mark=>
  cases l with
  |cells ls=>exact h.elim
  |obj r _=>
   have h':r<w.heap.size:=h;have:=hw r (by simp[aI]);rw[a3Q h']at this;exact(a2h.1 this).1
 |cO m n seen=>
  cases l with
  |cells ls=>exact h.elim
  |obj r _=>
   obtain⟨b,o,sa,h1,h2,h3,h4⟩:=h;obtain⟨l',g1,g2⟩:=hm _ _ h1;cases l' with
   |cells xH=>exact g2.elim
   |obj b' o'=>
    obtain⟨rfl,g3⟩:=g2;refine⟨b,o',sa,g1,(hw r (by simp[aI])).trans h2,a4A h3 g3.length_le,?_⟩;rw[<-h4];refine a5m fun i hi=>?_;have:o[i]?∈sa.toList.map (fun i=>o[i]?):=a1g.2 ⟨i,hi,rfl⟩;rw[h4]at this;obtain⟨j,_,hj⟩:=a1g.1 this;have aT:=(a01.1 hj.symm).1;obtain⟨t,rfl⟩:=g3;rw[a0b aT]
 |loop rd f nt env ps a b jI=>
  cases l with
  |cells ls=>exact h.elim
  |obj r _=>
   obtain⟨lp,h1,h2⟩:=h;exact⟨lp,(hw r (by simp[aI])).trans h1,h2.mono hm⟩
theorem pz.inb{N:Np}{w:LI4}{b:HB}{l:Lc}(h:pz N w b l):∀c∈aI l,c<w.heap.size:=by
 intro c hc;cases b with
 |cells k cs=>
  cases l with
  |obj r _=>exact h.elim
  |cells ls=>
   obtain⟨p,hp,rfl⟩:=a1g.1 hc;obtain⟨arr,ty,fz,h1,_⟩:=(h.2.1 p hp).row;exact(a2h.1 h1).1
 |mP cs=>
  cases l with
  |obj r _=>exact h.elim
  |cells ls=>
   obtain⟨p,hp,rfl⟩:=a1g.1 hc;obtain⟨cs',_,h⟩:=h;obtain⟨arr,ty,fz,h1,_⟩:=(h.2.1 p hp).row;exact(a2h.1 h1).1
 |map es=>
  cases l with
  |cells ls=>exact h.elim
  |obj r _=>
   obtain⟨xs,h1,_⟩:=h;simp[aI]at hc;subst hc;exact(a2h.1 h1).1
 |mark=>
  cases l with
  |cells ls=>exact h.elim
  |obj r _=>
   simp[aI]at hc;subst hc;exact h
 |cO m n seen=>
  cases l with
  |cells ls=>exact h.elim
  |obj r _=>
   obtain⟨b,o,sa,_,h1,_⟩:=h;simp[aI]at hc;subst hc;exact(a2h.1 h1).1
 |loop rd f nt env ps a b jI=>
  cases l with
  |cells ls=>exact h.elim
  |obj r _=>
   obtain⟨lp,h1,_⟩:=h;simp[aI]at hc;subst hc;exact(a2h.1 h1).1
abbrev Ct:=Key->Option HB
structure Valid(M:Mp)(D:Key->Prop)(C:Ct)(w:LI4):Prop where
 ok:∀k l,M k=some l->D k->∃b,C k=some b∧pz M.h w b l
 own:∀k k' l l' b,k≠k'->M k=some l->M k'=some l'->D k->C k=some b->wr b=true->∀c∈aI l,c∉aI l'
 inb:∀k l,M k=some l->∀c∈aI l,c<w.heap.size
def uK:Key->Prop:=fun _=>True
theorem Valid.has{M:Mp}{C:Ct}{w:LI4}(h:Valid M uK C w){k:Key}{l:Lc}(hk:M k=some l):(C k).isSome=true:=
 let ⟨_,h1,_⟩:=h.ok k l hk trivial;by simp[h1]
theorem Valid.of_heap{M:Mp}{D:Key->Prop}{C:Ct}{w w':LI4}(h:Valid M D C w)(hw:w'.heap=w.heap):Valid M D C w':=
 ⟨fun k l hk hd=>let ⟨b,h1,h2⟩:=h.ok k l hk hd;⟨b,h1,h2.mono (.refl _) (fun c _=>by rw[hw])⟩,h.own,by rw[hw];exact h.inb⟩
def dJ(M:Mp)(k:Key)(l:Lc):Mp:=fun j=>if j=k then some l else M j
def lJ(C:Ct)(k:Key)(b:HB):Ct:=fun j=>if j=k then some b else C j
theorem lU{M:Mp}{k:Key}{l:Lc}(h:∀l0,M k=some l0->KI l0 l):rX M (dJ M k l):=by
 intro j l0 hj;by_cases hjk:j=k
 .subst hjk;exact⟨l,by simp[dJ],h l0 hj⟩
 exact⟨l0,by simp[dJ,hjk,hj],.refl _⟩
theorem Valid.upd{M:Mp}{D D':Key->Prop}{C:Ct}{w w':LI4}(h:Valid M D C w)(k:Key)(b:HB)(l:Lc)
  (hD:∀j,D' j->D j∨j=k)
  (hold:∀l0,M k=some l0->D k∧KI l0 l∧∀b0,C k=some b0->wr b0=true)
  (gq:∀c,c<w.heap.size->c∉aI l->w'.heap[c]? = w.heap[c]?)
  (gV:∀c∈aI l,(∃l0,M k=some l0∧c∈aI l0)∨w.heap.size<=c)
  (Es:w.heap.size<=w'.heap.size)
  (QB:pz (dJ M k l).h w' b l):Valid (dJ M k l) D' (lJ C k b) w':=by
 have hle:rX M (dJ M k l):=lU fun l0 h0=>(hold l0 h0).2.1;refine⟨?_,?_,?_⟩
 .intro j l0 hj hd;by_cases hjk:j=k
  .subst hjk;simp only[dJ,a1U,a00]at hj;subst hj;exact⟨b,by simp[lJ],QB⟩
  .simp only[dJ,hjk,a3g]at hj;obtain⟨b0,h1,h2⟩:=h.ok j l0 hj ((hD j hd).resolve_right hjk);refine⟨b0,by simp[lJ,hjk,h1],h2.mono hle.h fun c hc=>?_⟩;have aT:=h.inb j l0 hj c hc;refine gq c aT fun pF=>?_;rcases gV c pF with⟨l1,QC,hc1⟩|Et
   .obtain⟨hDk,_,hw⟩:=hold l1 QC;obtain⟨b1,C9,_⟩:=h.ok k l1 QC hDk;exact h.own k j l1 l0 b1 (fun e=>hjk e.symm) QC hj hDk C9 (hw b1 C9) c hc1 hc
   .omega
 .intro j j' l0 l0' b0 iq hj Eu hd hb hw c hc Vp;by_cases hjk:j=k
  .subst hjk;have a8U:j'≠j:=fun e=>iq e.symm;simp only[dJ,a1U,a00]at hj;subst hj;simp only[dJ,a8U,a3g]at Eu;have aT:=h.inb j' l0' Eu c Vp;rcases gV c hc with⟨l1,QC,hc1⟩|Et
   .obtain⟨hDk,_,hw⟩:=hold l1 QC;obtain⟨b1,C9,_⟩:=h.ok j l1 QC hDk;exact h.own j j' l1 l0' b1 iq QC Eu hDk C9 (hw b1 C9) c hc1 Vp
   .omega
  .simp only[dJ,hjk,a3g]at hj;simp only[lJ,hjk,a3g]at hb;have hdj:=(hD j hd).resolve_right hjk;have aT:=h.inb j l0 hj c hc;by_cases a8U:j'=k
   .subst a8U;simp only[dJ,a1U,a00]at Eu;subst Eu;rcases gV c Vp with⟨l1,QC,hc1⟩|Et
    .exact h.own j j' l0 l1 b0 iq hj QC hdj hb hw c hc hc1
    .omega
   .simp only[dJ,a8U,a3g]at Eu;exact h.own j j' l0 l0' b0 iq hj Eu hdj hb hw c hc Vp
 .intro j l0 hj c hc;by_cases hjk:j=k
  .subst hjk;simp only[dJ,a1U,a00]at hj;subst hj;exact QB.inb c hc
  .simp only[dJ,hjk,a3g]at hj;exact a8W (h.inb j l0 hj c hc) Es
structure Ext(M0:Mp)(C0:Ct)(w0:LI4)(M:Mp)(C:Ct)(w:LI4)(ws:List Key):Prop where
 Io:rX M0 M
 frame:∀c,c<w0.heap.size->(∀k∈ws,∀l,M0 k=some l->c∉aI l)->w.heap[c]? = w0.heap[c]?
 nD:∀k,(C0 k).isSome=true->k∉ws->C k=C0 k
 kX:∀k,((C0 k).isSome=true∨C k=none)->k∉ws->M k=M0 k
 fresh:∀k l,M k=some l->∀c∈aI l,c<w0.heap.size->∃l0,M0 k=some l0∧c∈aI l0
 size:w0.heap.size<=w.heap.size
 has:∀k,(C0 k).isSome=true->(C k).isSome=true
 wsub:∀k∈ws,(C0 k).isSome=true
 wrote:∀k∈ws,(M0 k).isSome=true∧∀b,C0 k=some b->wr b=true
 os:w.os=w0.os
 output:w.output=w0.output
 tape:w.tape=w0.tape
theorem Ext.refl(M:Mp)(C:Ct)(w:LI4):Ext M C w M C w []:=
 ⟨.refl _,fun _ _ _=>rfl,fun _ _ _=>rfl,fun _ _ _=>rfl,fun _ l h c hc _=>⟨l,h,hc⟩,a0U _,fun _ h=>h,(by simp),(by simp),rfl,rfl,rfl⟩
theorem Ext.drew{M0:Mp}{C0:Ct}{w0:LI4}{M:Mp}{C:Ct}{w w':LI4}{ws:List Key}(h:Ext M0 C0 w0 M C w ws)
  (hh:w'.heap=w.heap) (ho:w'.os=w.os) (hu:w'.output=w.output) (ht:w'.tape=w.tape):Ext M0 C0 w0 M C w' ws:=
 { h with frame:=(by rw[hh];exact h.frame),size:=(by rw[hh];exact h.size),os:=ho.trans h.os,output:=hu.trans h.output,tape:=ht.trans h.tape }
theorem Ext.trans{M0 M M':Mp}{C0 C C':Ct}{w0 w w':LI4}{ws Vy adD:List Key}(h:Ext M0 C0 w0 M C w ws)(h':Ext M C w M' C' w' Vy)
  (hd:∀k l,M0 k=some l->(C0 k).isSome=true) (hs:∀k,(C0 k).isSome=true->(k∈ws∨k∈Vy)->k∈adD) (hb:∀k∈adD,(C0 k).isSome=true∧(k∈ws∨k∈Vy)) :
  Ext M0 C0 w0 M' C' w' adD where
 Io:=h.Io.trans h'.Io
 frame:=by intro c hc hf;have h1:w.heap[c]? = w0.heap[c]?:=h.frame c hc fun k hk l hl=>hf k (hs k (h.wsub k hk) (.inl hk)) l hl;rw[<-h1];refine h'.frame c (a8W hc h.size) fun k hk l hl pF=>?_;obtain⟨l0,h2,h3⟩:=h.fresh k l hl c pF hc;exact hf k (hs k (hd k l0 h2) (.inr hk)) l0 h2 h3
 nD:=fun k hk hn=>by have hn1:k∉ws:=fun e=>hn (hs k hk (.inl e));have Dz:k∉Vy:=fun e=>hn (hs k hk (.inr e));rw[h'.nD k (h.has k hk) Dz,h.nD k hk hn1]
 kX:=fun k hk hn=>by
  rcases hk with hk|hk
  .have hn1:k∉ws:=fun e=>hn (hs k hk (.inl e));have Dz:k∉Vy:=fun e=>hn (hs k hk (.inr e));rw[h'.kX k (.inl (h.has k hk)) Dz,h.kX k (.inl hk) hn1]
  .have hC:C k=none:=by
    cases hc:C k with
    |none=>rfl
    |some b=>have:=h'.has k (by simp[hc]);simp[hk]at this
   have Dz:k∉Vy:=fun e=>by have:=h'.wsub k e;simp[hC]at this
   have hn1:k∉ws:=fun e=>by have:=h.has k (h.wsub k e);simp[hC]at this
   rw[h'.kX k (.inr hk) Dz,h.kX k (.inr hC) hn1]
 fresh:=fun k l hl c hc aT=>by obtain⟨l1,h1,h2⟩:=h'.fresh k l hl c hc (a8W aT h.size);exact h.fresh k l1 h1 c h2 aT
 size:=a4A h.size h'.size
 has:=fun k hk=>h'.has k (h.has k hk)
 wsub:=fun k hk=>(hb k hk).1
 wrote:=fun k hk=>by
  by_cases h1:k∈ws
  .exact h.wrote k h1
  .have h2:=h'.wrote k ((hb k hk).2.resolve_left h1);rw[h.kX k (.inl (hb k hk).1) h1,h.nD k (hb k hk).1 h1]at h2;exact h2
 os:=h'.os.trans h.os
 output:=h'.output.trans h.output
 tape:=h'.tape.trans h.tape
theorem Ext.upd{M:Mp}{C:Ct}{w w':LI4}(k:Key)(b:HB)(l:Lc)(ws:List Key)
  (Yn:((C k).isSome=true∧ws=[k]∧(M k).isSome=true∧∀b,C k=some b->wr b=true)∨(C k=none∧M k=none∧ws=[]))
  (hle:rX M (dJ M k l))
  (gq:∀c,c<w.heap.size->c∉aI l->w'.heap[c]? = w.heap[c]?)
  (gV:∀c∈aI l,(∃l0,M k=some l0∧c∈aI l0)∨w.heap.size<=c)
  (Es:w.heap.size<=w'.heap.size) (ho:w'.os=w.os) (hou:w'.output=w.output) (ht:w'.tape=w.tape) :
  Ext M C w (dJ M k l) (lJ C k b) w' ws where
 Io:=hle
 frame:=by
  intro c hc hf;refine gq c hc fun pF=>?_;rcases gV c pF with⟨l0,h1,h2⟩|Et
  .rcases Yn with⟨_,rfl,_⟩|⟨_,hn,_⟩
   .exact hf k (by simp) l0 h1 h2
   .rw[hn]at h1;cases h1
  .omega
 nD:=fun j hj hn=>by
  have:j≠k:=by
   rintro rfl;rcases Yn with⟨_,rfl,_⟩|⟨h1,_⟩
   .simp at hn
   .simp[h1]at hj
  simp[lJ,this]
 kX:=fun j hj hn=>by
  have:j≠k:=by
   rintro rfl;rcases Yn with⟨_,rfl,_⟩|⟨h1,_⟩
   .simp at hn
   .rcases hj with hj|hj
    .simp[h1]at hj
    .simp[lJ]at hj
  simp[dJ,this]
 fresh:=fun j l0 hj c hc aT=>by
  by_cases hjk:j=k
  .subst hjk;simp only[dJ,a1U,a00]at hj;subst hj;rcases gV c hc with h1|Et
   .exact h1
   .omega
  .simp only[dJ,hjk,a3g]at hj;exact⟨l0,hj,hc⟩
 size:=Es
 has:=fun j hj=>by
  by_cases hjk:j=k
  .simp[lJ,hjk]
  .simpa[lJ,hjk]using hj
 wsub:=by
  rcases Yn with⟨h1,rfl,_⟩|⟨_,_,rfl⟩
  .intro j hj;simp at hj;subst hj;exact h1
  .simp
 wrote:=by
  rcases Yn with⟨_,rfl,h1⟩|⟨_,_,rfl⟩
  .intro j hj;simp at hj;subst hj;exact h1
  .simp
 os:=ho
 output:=hou
 tape:=ht
theorem ER.mono{M M':Mp}(hm:rX M M')(hl:∀k l,M (.l k)=some l->M' (.l k)=some l){e:EV}{x:LI3}(h:ER M e x):ER M' e x:=by
 cases h with
 |val h=>exact .val (h.mono hm.h)
 |loc h hb=>exact .loc (hl _ _ h) hb
 |undef=>exact .undef
 |ent h hi hv=>
  obtain⟨l',h1,h2⟩:=hm _ _ h;cases l' with
  |cells _=>exact h2.elim
  |obj r1 o'=>
   obtain⟨rfl,t,rfl⟩:=h2;exact .ent h1 (by rw[a0b (a01.1 hi).1];exact hi) (hv.mono hm.h)
 |Ee h hi=>
  obtain⟨l',h1,h2⟩:=hm _ _ h;cases l' with
  |cells _=>exact h2.elim
  |obj r1 o'=>
   obtain⟨rfl,t,rfl⟩:=h2;exact .Ee h1 (by rw[a0b (a01.1 hi).1];exact hi)
structure Na(M:Mp)(D:Key->Prop)(C:Ct)(w:LI4)(v:EV)(C1:Ct)(ws:List Key)(x:LI3)(w':LI4)(M':Mp):Prop where
 val:Valid M' (fun k=>D k∨(C k=none∧(C1 k).isSome=true)) C1 w'
 ext:Ext M C w M' C1 w' ws
 er:ER M' v x
 loc:∀k l,M (.l k)=some l->M' (.l k)=some l
theorem Na.same{M:Mp}{D:Key->Prop}{C:Ct}{w:LI4}{v:EV}{x:LI3}(h:Valid M D C w)(he:ER M v x):Na M D C w v C [] x w M:=
 ⟨⟨fun k l hk hd=>h.ok k l hk (hd.elim id fun⟨a,b⟩=>by simp[a]at b),fun k k' l l' b a1 a2 a3 hd=>h.own k k' l l' b a1 a2 a3 (hd.elim id fun⟨a,b⟩=>by simp[a]at b),h.inb⟩,.refl M C w,he,fun _ _ h=>h⟩
theorem vU(w:LI4)(o:Obj)(i:Nat)(h:i<w.heap.size):(w.alloc o).heap[i]? = w.heap[i]?:=by show(w.heap.push o)[i]? = w.heap[i]?;rw[Array.getElem?_push,a0c (Nat.ne_of_lt h)]
section
variable {P:LI1} {w:LI4}
theorem iU{t:LI2}{i:TypeInfo}(h:P.info? t=some i):(typeInfo t).run P w=.ok i w:=by simp[typeInfo,h]
theorem EP{t:LI2}{n:Nat}(h:dw P t=some n):∃i,P.info? t=some i∧i.size=n:=by simpa[dw]using h
theorem bZ{t:LI2}{n:Nat}(h:dw P t=some n):(Go.sizeOf t).run P w=.ok n w:=by obtain⟨i,h1,h2⟩:=EP h;simp[Go.sizeOf,iU h1,h2]
theorem zS{t:LI2}{b:Bool}(h:vP P t=some b):(isAgg t).run P w=.ok b w:=by
 unfold vP at h;split at h<;>simp at h<;>subst h
 .simp[isAgg,run_underlying ‹_›]
 .simp[isAgg,run_underlying ‹_›]
 rename_i d _ _ hu;simp only[isAgg,Sem.run_bind,run_underlying hu,Result.andThen_ok];cases d<;>simp_all
theorem uh(c o n:Nat):(⟨c,o,none⟩:Addr).add n=⟨c,o+n,none⟩:=by unfold Addr.add;split<;>simp_all
theorem Iz{N:Np}{c:TV}{v:LI3}(h:VR N c v)(ho:iT c=true):v.oneCell'=true:=by cases h<;>first|rfl|simp[iT]at ho
theorem uj{cs:List TV}{off n:Nat}{r:List TV}(h:sub cs off n=some r):off+n<=cs.length∧r=(cs.drop off).take n∧r.length=n:=by
 unfold sub at h;split at h
 .rename_i hl;simp at h;subst h;exact⟨hl,rfl,by simp;omega⟩
 simp at h
theorem vJ{cs:List TV}{off:Nat}{new r:List TV}(h:vO cs off new=some r) :
  off+new.length<=cs.length∧r=cs.take off++new++cs.drop (off+new.length)∧r.length=cs.length:=by
 unfold vO at h;split at h
 .rename_i hl;simp at h;subst h;exact⟨hl,by simp,by simp;omega⟩
 .simp at h
theorem N9.slice{N:Np}{k:BK}{cs:List TV}{p:Pl}(h:N9 N w k cs p){off n:Nat}{r:List TV}(hr:sub cs off n=some r)(he:off+n<=p.ext)(hz:k=.last->p.ext=cs.length) :
  ∃xs:List LI3,bU N r xs∧∀(j:Nat) (v:LI3),xs[j]? = some v->w.cell? ⟨p.c,p.base+off+j,none⟩=some v:=by
 obtain⟨arr,ty,fz,h1,h2,_,h4⟩:=h.row;obtain⟨s1,s2,s3⟩:=uj hr;have hf:=h.fit;refine⟨(arr.toList.drop (p.base+off)).take n,⟨by rw[s3];simp;omega,fun i c v a b=>?_⟩,fun j v hj=>?_⟩
 .rw[s2,a4g]at a;rw[a4g]at b;split at a
  .rename_i hi;rw[a0g hi,a4e]at b;rw[a4e]at a;exact h4 hz (off+i) c v (by omega) a (by simpa[a9G]using b)
  .simp at a
 .rw[a4g]at hj;split at hj
  .rw[a4e]at hj;simp only[World.cell?,h1];simpa using hj
  .simp at hj
theorem yw{N:Np}{k:BK}{cs:List TV}{p:Pl}(h:N9 N w k cs p){off n:Nat}{r:List TV}(hr:sub cs off n=some r)(he:off+n<=p.ext)(hz:k=.last->p.ext=cs.length) :
  ∃xs:List LI3,bU N r xs∧∀w':LI4,w'.heap=w.heap->(loadCells ⟨p.c,p.base+off,none⟩ n).run P w'=.ok xs.toArray w':=by
 obtain⟨xs,h1,h2⟩:=h.slice hr he hz;refine⟨xs,h1,fun w' hw'=>?_⟩;have hl:xs.length=n:=by rw[<-h1.len];exact(uj hr).2.2
 have:=run_loadCells_list (P:=P) w' ⟨p.c,p.base+off,none⟩ xs (fun j v hj=>by rw[uh];have e:=h2 j v hj;simp only[World.cell?,hw']at e ⊢;exact e)
 rwa [hl]at this
theorem JL{N:Np}{k:BK}{cs:List TV}{p:Pl}(h:N9 N w k cs p){t:LI2}{off n:Nat}{v:TV}(hs:dw P t=some n)
  (hv:ug P t cs off=some v) (he:off+n<=p.ext) (hz:k=.last->p.ext=cs.length) :
  ∃x,VR N v x∧(loadVar t ⟨p.c,p.base+off,none⟩).run P w=.ok x w:=by
 unfold ug at hv;rw[hs]at hv;cases ha:vP P t with
 |none=>simp[ha]at hv
 |some b=>
  cases b with
  |true=>
   simp only[ha,a05]at hv;obtain⟨r,hr,rfl⟩:=hv;obtain⟨xs,g1,g2⟩:=yw (P:=P) h hr he hz;exact⟨_,.agg' g1,by simp[loadVar,zS ha,bZ hs,g2 w rfl]⟩
  |false=>
   simp only[ha]at hv;split at hv
   case isFalse=>simp at hv
   rename_i hn1;have he1:off+1<=p.ext:=(by omega);have aT:=(a01.1 hv).1;have hr:sub cs off 1=some [v]:=by unfold sub;rw[a0g (by omega)];congr 1;rw[a7E aT];have:=(a01.1 hv).2;simp[this]
   obtain⟨xs,g1,g2⟩:=h.slice hr he1 hz;obtain⟨x,xs',rfl,gx,_⟩:=g1.iM;have:=g2 0 x rfl;simp only[adz]at this;exact⟨x,gx,by simp[loadVar,zS ha,this]⟩
end
theorem IB{M:Mp}{k:Key}{l:Lc}(h:M k=some l):dJ M k l=M:=by
 funext j;unfold dJ;split
 .rename_i e;rw[e,h]
 rfl
theorem jW(s:St)(b:HB)(e:List (Nat×EV))(ws:List Nat):St.get { s with heap:=s.heap++[b],env:=e,ws:=ws }=lJ s.get (.h s.heap.length) b:=by
 funext k
 cases k with
 |h j=>
  simp only[St.get,lJ,Key.h.injEq];split
  .rename_i e;subst e;simp
  rename_i e;by_cases hj:j<s.heap.length
  .rw[a0b hj]
  rw[a4a (by simp;omega),a4a (by omega)]
 |l j=>simp[St.get,lJ]
theorem jw(s:St)(i:Nat)(b:HB)(h:i<s.heap.length)(e:List (Nat×EV))(ws:List Nat):St.get { s with heap:=s.heap.set i b,env:=e,ws:=ws }=lJ s.get (.h i) b:=by
 funext k
 cases k with
 |h j=>
  simp only[St.get,lJ,Key.h.injEq];rw[a9q];by_cases hj:i=j
  .subst hj;simp[h]
  rw[a0c hj,a0c (fun e=>hj e.symm)]
 |l j=>simp[St.get,lJ]
theorem QD(s:St)(cs:List TV)(e:List (Nat×EV))(ws:List Nat):St.get { s with loc:=s.loc++[cs],env:=e,ws:=ws }=lJ s.get (.l s.loc.length) (.cells .own cs):=by
 funext k
 cases k with
 |l j=>
  simp only[St.get,lJ,Key.l.injEq];split
  .rename_i e;subst e;simp
  rename_i e;by_cases hj:j<s.loc.length
  .rw[a0b hj]
  rw[a4a (by simp;omega),a4a (by omega)]
 |h j=>simp[St.get,lJ]
theorem Nb(s:St)(i:Nat)(cs:List TV)(h:i<s.loc.length)(e:List (Nat×EV))(ws:List Nat):St.get { s with loc:=s.loc.set i cs,env:=e,ws:=ws }=lJ s.get (.l i) (.cells .own cs):=by
 funext k
 cases k with
 |l j=>
  simp only[St.get,lJ,Key.l.injEq];rw[a9q];by_cases hj:i=j
  .subst hj;simp[h]
  rw[a0c hj,a0c (fun e=>hj e.symm)]
 |h j=>simp[St.get,lJ]
theorem xI{h:List HB}{b lim:Nat}{cs:List TV}(e:lQ h b lim=some cs):∃k,h[b]? = some (.cells k cs)∧(k=.last->lim=cs.length):=by
 unfold lQ at e;split at e
 .rename_i k cs' hb;split at e
  .cases e
  rename_i hn;simp at e;subst e;exact⟨k,hb,fun hk=>Decidable.not_not.1 fun hl=>hn ⟨hk,hl⟩⟩
 simp at e
theorem JM{k k':BK}{b:Bool}(e:zO k b=some k'):(k=.own∧k'=.own)∨((k=.grow∨k=.last)∧k'=.last∧b=true):=by unfold zO at e;split at e<;>simp_all
theorem IC{h h':List HB}{b off lim:Nat}{new:List TV}(e:Tt h b off lim new=some h') :
  ∃k k' cs cs',h[b]? = some (.cells k cs)∧((k=.own∧k'=.own)∨((k=.grow∨k=.last)∧k'=.last∧lim=cs.length))∧vO cs off new=some cs'∧h'=h.set b (.cells k' cs'):=by
 unfold Tt at e;split at e
 .rename_i k cs hb;split at e
  .rename_i k' hk;simp only[a05]at e;obtain⟨cs',h1,h2⟩:=e;refine⟨k,k',cs,cs',hb,?_,h1,h2.symm⟩;rcases JM hk with h|⟨a,b,c⟩
   .exact .inl h
   .exact .inr ⟨a,b,by simpa using c⟩
  .cases e
 .simp at e
theorem Vz{arr:Array LI3}{off:Nat}{xs:List LI3}(i:Nat)(h:off+xs.length<=arr.size) :
  (arr.toList.take off++xs++arr.toList.drop (off+xs.length)).toArray[i]? = if i<off then arr[i]? else if i<off+xs.length then xs[i-off]? else arr[i]?:=by
 have hl:(arr.toList.take off).length=off:=by simp;omega
 simp only[adA];by_cases h1:i<off
 .rw[a0g h1,a5R,a0b (by omega),a4g,a0g h1];simp
 .rw[a0c h1];by_cases h2:i<off+xs.length
  .rw[a0g h2,a5R,a0S (by omega),hl,a0b (by omega)]
  .rw[a0c h2,a0S (by simp;omega),a4e];have:off+xs.length+(i-(List.take off arr.toList++xs).length)=i:=by simp;omega
   rw[this];simp
theorem a2b{cs new r:List TV}{off:Nat}(h:vO cs off new=some r)(i:Nat) :
  r[i]? = if i<off then cs[i]? else if i<off+new.length then new[i-off]? else cs[i]?:=by
 obtain⟨h1,h2,_⟩:=vJ h;have hl:(cs.take off).length=off:=by simp;omega
 rw[h2];by_cases h1:i<off
 .rw[a0g h1,a5R,a0b (by omega),a4g,a0g h1]
 .rw[a0c h1];by_cases h2:i<off+new.length
  .rw[a0g h2,a5R,a0S (by omega),hl,a0b (by omega)]
  .rw[a0c h2,a0S (by simp;omega),a4e];congr 1;simp;omega
theorem VA{cs new r:List TV}{off:Nat}(h:vO cs off new=some r)(hc:∀c∈cs,iT c=true)(hn:∀c∈new,iT c=true):∀c∈r,iT c=true:=by
 obtain⟨_,h2,_⟩:=vJ h;intro c hcr;rw[h2]at hcr;simp only[a3k]at hcr;rcases hcr with(h|h)|h
 .exact hc c (a95 h)
 .exact hn c h
 exact hc c (a5s h)
theorem vk(w:LI4)(g:Nat)(arr:Array LI3)(c:Nat)(h:c≠g):(w.setRow g arr).heap[c]? = w.heap[c]?:=by simp only[World.setRow,abz];rw[a0c (fun e=>h e.symm)]
theorem Nc(w:LI4)(g:Nat)(arr cur:Array LI3)(ty:LI2)(fz:Nat×Nat)(h:w.heap[g]? = some (.cells cur ty fz)):(w.setRow g arr).heap[g]? = some (.cells arr ty fz):=by simp[World.setRow,abz,h]
theorem Valid.widen{M:Mp}{D:Key->Prop}{C C1:Ct}{w':LI4}(h:Valid M D C1 w')(hn:∀k,C k=none->C1 k=none):Valid M (fun j=>D j∨(C j=none∧(C1 j).isSome=true)) C1 w':=
 have aux:∀j,(D j∨(C j=none∧(C1 j).isSome=true))->D j:=fun j hj=>hj.elim id fun⟨a,b⟩=>by rw[hn j a]at b;cases b
 ⟨fun k l hk hd=>h.ok k l hk (aux k hd),fun k k' l l' b a1 a2 a3 hd=>h.own k k' l l' b a1 a2 a3 (aux k hd),h.inb⟩
theorem DC{C:Ct}{k:Key}{b:HB}(hk:(C k).isSome=true):∀j,C j=none->lJ C k b j=none:=by
 intro j hj;unfold lJ;split
 .rename_i e;subst e;rw[hj]at hk;cases hk
 exact hj
theorem Valid.wrB{M:Mp}{D:Key->Prop}{C:Ct}{w:LI4}(h:Valid M D C w){k:Key}{ls:List Pl}{p:Pl}{cs:List TV}{kk Bc:BK}(hk:M k=some (.cells ls))(hd:D k)
  (hc:C k=some (.cells kk cs)) (hp:p∈ls) (xJ:(kk=.own∧Bc=.own)∨((kk=.grow∨kk=.last)∧Bc=.last∧p.ext=cs.length)) :
  p.base=0∧p.ext=cs.length∧(∀c∈cs,iT c=true)∧(∀q∈ls,N9 M.h w kk cs q)∧(ls.map (·.c)).Nodup∧(∀q∈ls,q.ext=cs.length->q=p) ∧
  ∃(arr:Array LI3) (ty:LI2),w.heap[p.c]? = some (.cells arr ty (0,0))∧arr.size=p.tot∧cs.length<=p.tot ∧
   ∀(i:Nat) (c:TV) (v:LI3),cs[i]? = some c->arr[i]? = some v->VR M.h c v:=by
 obtain⟨b,h1,h2⟩:=h.ok k _ hk hd;rw[hc]at h1;cases h1;obtain⟨g1,g2,g3,g4⟩:=h2;have iq:kk≠.ro:=by rcases xJ with⟨e,_⟩|⟨e|e,_⟩<;>rw[e]<;>simp
 have FT:=g2 p hp;have hb:=FT.base iq;have hx:p.ext=cs.length∧(ls.map (·.c)).Nodup∧∀q∈ls,q.ext=cs.length->q=p:=by
  rcases xJ with⟨e,_⟩|⟨e,_,he⟩
  .obtain⟨q,rfl,hq⟩:=g3 e;simp at hp;subst hp;exact⟨hq,by simp,fun q' hq' _=>by simpa using hq'⟩
  .obtain⟨n1,n2⟩:=g4 e;exact⟨he,n1,fun q hq hqe=>n2 q hq p hp hqe he⟩
 obtain⟨arr,ty,fz,r1,r2,r3,r4⟩:=FT.row;have:=r3 iq;subst this;have hf:=FT.fit;refine⟨hb,hx.1,g1,g2,hx.2.1,hx.2.2,arr,ty,r1,r2,by omega,fun i c v a b=>?_⟩;have hi:=(a01.1 a).1;exact r4 (fun _=>hx.1) i c v (by omega) a (by simpa[hb]using b)
theorem Valid.Yo{M:Mp}{D:Key->Prop}{C:Ct}{w:LI4}(h:Valid M D C w){k:Key}{ls:List Pl}{p:Pl}{cs:List TV}{kk Bc:BK}{lim:Nat}(hk:M k=some (.cells ls))(hd:D k)
  (hc:C k=some (.cells kk cs)) (hp:p∈ls) (hl:lim<=p.ext) (xJ:(kk=.own∧Bc=.own)∨((kk=.grow∨kk=.last)∧Bc=.last∧lim=cs.length)) :
  (kk=.own∧Bc=.own)∨((kk=.grow∨kk=.last)∧Bc=.last∧p.ext=cs.length):=by
 rcases xJ with e|⟨e1,e2,e3⟩
 .exact .inl e
 .obtain⟨b,h1,h2⟩:=h.ok k _ hk hd;rw[hc]at h1;cases h1;have:=(h2.2.1 p hp).ext;exact .inr ⟨e1,e2,by omega⟩
theorem Nh:∀{ls:List Pl},(ls.map (·.c)).Nodup->∀{p q:Pl},p∈ls->q∈ls->q.c=p.c->q=p
 | [],_,p,q,hp,_,_=>by simp at hp
 |a::ls,h,p,q,hp,hq,e=>by
  simp only[a4c,a4k]at h;rcases a2d.1 hp with h1|h1<;>rcases a2d.1 hq with h2|h2
  .rw[h1,h2]
  .exact(h.1 (a1g.2 ⟨q,h2,by rw[e,h1]⟩)).elim
  .exact(h.1 (a1g.2 ⟨p,h1,by rw[<-e,h2]⟩)).elim
  exact Nh h.2 h1 h2 e
theorem yL{P:LI1}{M:Mp}{D:Key->Prop}{C:Ct}{w:LI4}(h:Valid M D C w){k:Key}{ls:List Pl}{p:Pl}{cs cs' new:List TV}{off:Nat}{xs:List LI3}{kk Bc:BK}
  (hk:M k=some (.cells ls)) (hd:D k) (hc:C k=some (.cells kk cs)) (hp:p∈ls) (xJ:(kk=.own∧Bc=.own)∨((kk=.grow∨kk=.last)∧Bc=.last∧p.ext=cs.length))
  (ho:vO cs off new=some cs') (hx:bU M.h new xs) (hn:∀c∈new,iT c=true) :
  ∃w',(storeCells ⟨p.c,p.base+off,none⟩ xs).run P w=.ok () w'∧Valid M D (lJ C k (.cells Bc cs')) w'∧Ext M C w M (lJ C k (.cells Bc cs')) w' [k]:=by
 obtain⟨hb,he,h1,FT,jy,huq,arr,ty,hr,hs,hle,hv⟩:=h.wrB hk hd hc hp xJ;obtain⟨o1,o2,o3⟩:=vJ ho;have hlen:=hx.len;have iq:kk≠.ro:=by rcases xJ with⟨e,_⟩|⟨e|e,_⟩<;>rw[e]<;>simp
 have ahj:Bc≠.ro:=by rcases xJ with⟨_,e⟩|⟨_,e,_⟩<;>rw[e]<;>simp
 have Ye:∀b0,C k=some b0->wr b0=true:=fun b0 zL=>by rw[hc]at zL;cases zL;cases kk<;>simp_all [wr]
 have ES:∀v∈xs,v.oneCell'=true:=by
  intro v hv;obtain⟨i,hi,rfl⟩:=a4v.1 hv;have wY:i<new.length:=by omega
  exact Iz (hx.at_ i new[i] xs[i] (by simp[wY]) (by simp[hi])) (hn _ (a4q wY))
 have vw:=run_storeCells_at (P:=P) p.c (p.base+off) ty xs 0 arr w hr (by omega) ES;simp only[adz,hb,a3T]at vw
 let w':LI4:=w.setRow p.c (arr.toList.take off++xs++arr.toList.drop (off+xs.length)).toArray
 have qp:dJ M k (.cells ls)=M:=IB hk;have gq:∀c,c<w.heap.size->c∉aI (.cells ls)->w'.heap[c]? = w.heap[c]?:=fun c _ hc=>vk w p.c _ c (fun e=>hc (by rw[e];exact a1g.2 ⟨p,hp,rfl⟩));have gV:∀c∈aI (.cells ls),(∃l0,M k=some l0∧c∈aI l0)∨w.heap.size<=c:=fun c hc=>.inl ⟨_,hk,hc⟩;have uT:w.heap.size<=w'.heap.size:=by simp[w']
 have IE:rX M (dJ M k (.cells ls)):=by rw[qp];exact .refl _
 refine⟨w',by rw[hb,a3T];exact vw,?_,?_⟩
 .have:=h.upd (D':=D) (w':=w') k (.cells Bc cs') (.cells ls) (fun j hj=>.inl hj) (fun l0 h0=>by
   rw[hk]at h0;cases h0;exact⟨hd,.refl _,Ye⟩) gq gV uT (by
   rw[qp];refine⟨VA ho h1 hn,fun q hq=>?_,fun e=>?_,fun e=>⟨jy,fun q1 Ip q2 G5 e1 e2=>by rw[huq q1 Ip (by omega),huq q2 G5 (by omega)]⟩⟩
   .have hq0:=FT q hq;by_cases Yp:q.c=p.c
    .have:=Nh jy hp hq Yp;subst this;refine⟨⟨_,ty,(0,0),Nc w q.c _ arr ty (0,0) hr,by simp;omega,fun _=>rfl,fun _ i c v hi a b=>?_⟩,by omega,by omega,fun _=>hb⟩;rw[hb,a3T,Vz i (by omega)]at b;rw[a2b ho i,hlen]at a;split at a
     .rename_i hi1;rw[a0g hi1]at b;exact hv i c v a b
     .rename_i hi1;rw[a0c hi1]at b;split at a
      .rename_i JO;rw[a0g JO]at b;exact hx.at_ _ c v a b
      .rename_i JO;rw[a0c JO]at b;exact hv i c v a b
    .obtain⟨uM,ty',fz',t1,t2,t3,t4⟩:=hq0.row;refine⟨⟨uM,ty',fz',(vk w p.c _ q.c Yp).trans t1,t2,fun _=>t3 iq,fun hz i c v hi a b=>?_⟩,hq0.fit,by have:=hq0.ext;omega,fun _=>hq0.base iq⟩;exfalso;apply Yp;rcases xJ with⟨e,_⟩|⟨_,e,_⟩
     .obtain⟨b',g1,g2⟩:=h.ok k _ hk hd;rw[hc]at g1;cases g1;obtain⟨q',g3,_⟩:=g2.2.2.1 e;rw[g3]at hq hp;simp at hq hp;rw[hq,hp]
     .rw[huq q hq (by rw[hz e];omega)]
   .rcases xJ with⟨e0,_⟩|⟨_,e1,_⟩
    .obtain⟨b',g1,g2⟩:=h.ok k _ hk hd;rw[hc]at g1;cases g1;obtain⟨q',g3,g4⟩:=g2.2.2.1 e0;exact⟨q',g3,by omega⟩
    .rw[e1]at e;cases e)
  rwa [qp]at this
 .have:=Ext.upd (M:=M) (C:=C) (w:=w) (w':=w') k (.cells Bc cs') (.cells ls) [k] (.inl ⟨by simp[hc],rfl,by simp[hk],Ye⟩) IE gq gV uT rfl rfl rfl
  rwa [qp]at this
theorem Nj{M:Mp}{D:Key->Prop}{C:Ct}{w:LI4}(h:Valid M D C w){k:Key}{cs:List TV}{arr:Array LI3}(ty:LI2)
  (hk:M k=none) (hc:C k=none) (hl:cs.length<=arr.size) (hx:∀(i:Nat) (c:TV) (v:LI3),cs[i]? = some c->arr[i]? = some v->VR M.h c v) (hn:∀c∈cs,iT c=true) :
  Valid (dJ M k (.cells [⟨w.heap.size,0,cs.length,arr.size⟩])) (fun j=>D j∨(C j=none∧(lJ C k (.cells .own cs) j).isSome=true)) (lJ C k (.cells .own cs)) (w.alloc (.cells arr ty)) ∧
  Ext M C w (dJ M k (.cells [⟨w.heap.size,0,cs.length,arr.size⟩])) (lJ C k (.cells .own cs)) (w.alloc (.cells arr ty)) []:=by
 have hle:rX M (dJ M k (.cells [⟨w.heap.size,0,cs.length,arr.size⟩])):=lU fun l0 h0=>by rw[hk]at h0;cases h0
 have gq:∀c,c<w.heap.size->c∉aI (.cells [⟨w.heap.size,0,cs.length,arr.size⟩])->(w.alloc (.cells arr ty)).heap[c]? = w.heap[c]?:=fun c hc _=>vU w _ c hc;have gV:∀c∈aI (.cells [⟨w.heap.size,0,cs.length,arr.size⟩]),(∃l0,M k=some l0∧c∈aI l0)∨w.heap.size<=c:=fun c hc=>.inr (by simp[aI]at hc;omega);refine⟨h.upd k _ _ (fun j hj=>?_) (fun l0 h0=>by rw[hk]at h0;cases h0) gq gV (by simp) ?_,Ext.upd k _ _ [] (.inr ⟨hc,hk,rfl⟩) hle gq gV (by simp) rfl rfl rfl⟩
 .rcases hj with hj|⟨a,b⟩
  .exact .inl hj
  .right;unfold lJ at b;split at b
   .assumption
   .simp[a]at b
 .refine⟨hn,fun q hq=>?_,fun _=>⟨_,rfl,rfl⟩,by simp⟩;simp at hq;subst hq;exact⟨⟨arr,ty,(0,0),heap_alloc_new w _,rfl,fun _=>rfl,fun _ i c v _ a b=>(hx i c v a (by simpa using b)).mono hle.h⟩,by simpa using hl,a0U _,fun _=>rfl⟩
theorem a4y{M:Mp}{env:List (Nat×EV)}{a:Act}(hE:jS M env a.tmps){x:Operand}{e:EV}(h:Il env x=some e):ER M e (a.eval x):=by
 cases x with
 |tmp t=>exact hE t e h
 |const v=>
  simp only[Il,a05]at h;obtain⟨t,h1,rfl⟩:=h;exact .val (.yu h1)
 |func f=>
  simp only[Il,a00]at h;subst h;exact .val (VR.fn (xs:=[]) (ys:=[]) rfl (by simp) rfl (by simp))
 |global g=>simp[Il]at h
theorem Yq{M:Mp}{env:List (Nat×EV)}{a:Act}(hE:jS M env a.tmps){x:Operand}{v:TV}(h:qE env x=some v):VR M.h v (a.eval x):=by
 unfold qE at h;split at h
 .rename_i v' he;simp at h;subst h;exact(a4y hE he).vg
 simp at h
structure PR(N:Np)(ps:List (Nat×TV))(qs:List (Nat×LI3)):Prop where
 len:ps.length=qs.length
 at_:∀(i:Nat) (p:Nat×TV) (q:Nat×LI3),ps[i]? = some p->qs[i]? = some q->p.1=q.1∧VR N p.2 q.2
theorem PR.nil{N:Np}:PR N [] []:=⟨rfl,by simp⟩
theorem PR.cons{N:Np}{i:Nat}{v:TV}{x:LI3}{ps:List (Nat×TV)}{qs:List (Nat×LI3)}(h:VR N v x)(hs:PR N ps qs):PR N ((i,v)::ps) ((i,x)::qs):=
 ⟨by simp[hs.len],fun j p q a b=>by
  cases j with
  |zero=>simp at a b;subst a;subst b;exact⟨rfl,h⟩
  |succ j=>simp at a b;exact hs.at_ j p q a b⟩
theorem PR.iM{N:Np}{i:Nat}{v:TV}{ps:List (Nat×TV)}{qs:List (Nat×LI3)}(h:PR N ((i,v)::ps) qs):∃x qs',qs=(i,x)::qs'∧VR N v x∧PR N ps qs':=by
 cases qs with
 |nil=>have:=h.len;simp at this
 |cons q qs'=>
  have h0:=h.at_ 0 (i,v) q rfl rfl;obtain⟨j,x⟩:=q;obtain⟨h1,h2⟩:=h0;simp only at h1;subst h1;exact⟨x,qs',rfl,h2,⟨by have:=h.len;simpa using this,fun j p q a b=>h.at_ (j+1) p q (by simpa using a) (by simpa using b)⟩⟩
theorem PR.pR{N:Np}{qs:List (Nat×LI3)}(h:PR N [] qs):qs=[]:=by have:=h.len;simp at this;exact a3Y this.symm
def ahm(P:LI1)(c:Sem Next)(w:LI4)(x:LI3)(w':LI4):Prop:=
 c.run P w=.ok (.value x) w'∨(x=Go.undef∧c.run P w=.ok .skip w')
def G6(P:LI1)(M:Mp)(D:Key->Prop)(C:Ct)(w:LI4)(c:Sem Next)(v:EV)(C1:Ct)(ws:List Key):Prop:=
 ∃x w' M',ahm P c w x w'∧Na M D C w v C1 ws x w' M'
section
variable {P:LI1} {M:Mp} {D:Key->Prop} {w:LI4} {s:St}
theorem G6.same{C:Ct}{c:Sem Next}{v:EV}{x:LI3}(hV:Valid M D C w)(hr:c.run P w=.ok (.value x) w)(he:ER M v x):G6 P M D C w c v C []:=
 ⟨x,w,M,.inl hr,.same hV he⟩
theorem qJ{k:Key}{l:Lc}(hk:M k=none):∀j l',M (.l j)=some l'->dJ M k l (.l j)=some l':=by intro j l' h;unfold dJ;rw[a0c (fun e=>by rw[<-e,h]at hk;cases hk)];exact h
theorem a4z(hV:Valid M D s.get w)(yM:M (.h s.heap.length)=none)(hnl:M (.l s.loc.length)=none)(site:Bool){cs:List TV}{xs:Array LI3}(ty:LI2)
  (hx:bU M.h cs xs.toList) (hn:∀c∈cs,iT c=true) {v:EV} {s1:St} (h:qF site s cs=(v,s1)) :
  ∃M',Na M D s.get w v s1.get [] (.pointer (some ⟨w.heap.size,0,none⟩)) (w.alloc (.cells xs ty)) M':=by
 have hlen:cs.length<=xs.size:=by have:=hx.len;simpa using agH this
 have Iq:∀(i:Nat) (c:TV) (v:LI3),cs[i]? = some c->xs[i]? = some v->VR M.h c v:=fun i c v a b=>hx.at_ i c v a (by simpa using b);unfold qF at h;cases site with
 |true=>
  simp only[a1U,a0i]at h;obtain⟨rfl,rfl⟩:=h;have hc:s.get (.h s.heap.length)=none:=by simp[St.get]
  have:=Nj hV ty yM hc hlen Iq hn;refine⟨dJ M (.h s.heap.length) (.cells [⟨w.heap.size,0,cs.length,xs.size⟩]),⟨?_,?_,?_,qJ yM⟩⟩
  .rw[jW];exact this.1
  .rw[jW];exact this.2
  .exact .val (VR.ptr (p:=⟨w.heap.size,0,cs.length,xs.size⟩) (ls:=[⟨w.heap.size,0,cs.length,xs.size⟩]) (by simp[Mp.h,dJ]) (by simp) (a0U _) (by simpa using hlen))
 |false=>
  simp only[a2i,a3g,a0i]at h;obtain⟨rfl,rfl⟩:=h;have hc:s.get (.l s.loc.length)=none:=by simp[St.get]
  have:=Nj hV ty hnl hc hlen Iq hn;refine⟨dJ M (.l s.loc.length) (.cells [⟨w.heap.size,0,cs.length,xs.size⟩]),⟨?_,?_,?_,qJ hnl⟩⟩
  .rw[QD];exact this.1
  .rw[QD];exact this.2
  .exact ER.loc (p:=⟨w.heap.size,0,cs.length,xs.size⟩) (by simp[dJ]) rfl
theorem a04{x:LI3}{c:TV}(h:TV.ZX x=some c):iT c=true:=by unfold TV.ZX at h;split at h<;>simp at h<;>subst h<;>rfl
theorem VB:∀{xs:List LI3} {cs:List TV},TV.BN xs=some cs->∀c∈cs,iT c=true
 | [],cs,h=>by simp[TV.BN]at h;subst h;simp
 |x::xs,cs,h=>by
  simp only[TV.BN]at h;split at h
  .rename_i v vs h1 h2;simp at h;subst h;intro c hc;rcases a2d.1 hc with rfl|hc
   .exact a04 h1
   exact VB h2 c hc
  simp at h
theorem a2e{x:LI3}{v:TV}(h:TV.Vo x=some v):∀c∈v.cells,iT c=true:=by
 unfold TV.Vo at h;split at h
 .simp only[a05]at h;obtain⟨vs,h1,rfl⟩:=h;exact VB h1
 have h1:=a04 h;cases v<;>simp[iT]at h1<;>simp[TV.cells,iT]
theorem vV{t:LI2}{z:List TV}(h:JI P t=some z):∃i x v,P.info? t=some i∧i.zero=some x∧TV.Vo x=some v∧z=v.cells∧(∀c∈z,iT c=true) ∧
  (∀N:Np,bU N z x.cells.toList)∧∀w,(zeroValue t).run P w=.ok x w:=by
 unfold JI at h;split at h
 .rename_i i hi;split at h
  .rename_i x hx;simp only[a05]at h;obtain⟨v,h1,rfl⟩:=h;exact⟨i,x,v,hi,hx,h1,rfl,a2e h1,fun N=>(VR.yu h1).cells,fun w=>by simp[zeroValue,iU hi,hx]⟩
  .simp at h
 .simp at h
theorem Yr(vs:List LI3):∀(k off:Nat) (arr:Array LI3),off+k+vs.length<=arr.size ->
  ((vs.zipIdx k).foldl (fun(cs:Array LI3) (c:LI3×Nat)=>cs.setIfInBounds (off+c.2) c.1) arr).toList=arr.toList.take (off+k)++vs++arr.toList.drop (off+k+vs.length):=by
 induction vs with
 |nil=>intro k off arr h;simp
 |cons v vs ih=>
  intro k off arr h;simp only[a4b]at h;simp only[List.zipIdx_cons,adk];rw[ih (k+1) off _ (by simp;omega)];have e:=list_seg_step arr.toList (off+k) v vs (by simp;omega);simpa[Array.toList_setIfInBounds,a9G]using e
theorem La{N:Np}{place place':Nat->Option (Nat×Nat)}(hp:∀i x,place i=some x->place' i=some x):∀{ps:List (Nat×TV)} {qs:List (Nat×LI3)} {cs r:List TV} {arr:Array LI3},rW place cs ps=some r->PR N ps qs ->
  bU N cs arr.toList->∃uM,Instr.fill place' arr qs=some uM∧bU N r uM.toList
 | [],qs,cs,r,arr,h,hq,hc=>by have:=hq.pR;subst this;simp[rW]at h;subst h;exact⟨arr,rfl,hc⟩
 |(i,v)::ps,qs,cs,r,arr,h,hq,hc=>by
  obtain⟨x,qs',rfl,hx,hq'⟩:=hq.iM;simp only[rW]at h;split at h
  .rename_i off size FT;split at h
   .rename_i uT;split at h
    .rename_i cs' ho;obtain⟨o1,o2,o3⟩:=vJ ho;have hxc:=hx.cells;have hl1:=hxc.len;have TG:=hc.len;simp only[a9z]at hl1 TG;have e:(x.cells.zipIdx.foldl (fun(cs:Array LI3) (c:LI3×Nat)=>cs.setIfInBounds (off+c.2) c.1) arr).toList=arr.toList.take off++x.cells.toList++arr.toList.drop (off+x.cells.toList.length):=by rw[<-Array.foldl_toList,Array.toList_zipIdx];have:=Yr x.cells.toList 0 off arr (by simp;omega);simpa using this
     have Vp:bU N cs' (x.cells.zipIdx.foldl (fun(cs:Array LI3) (c:LI3×Nat)=>cs.setIfInBounds (off+c.2) c.1) arr).toList:=by have hlx:x.cells.toList.length=v.cells.length:=(by simp[hl1]);rw[e,o2,hlx];exact((hc.take off).append hxc).append (hc.drop _)
     obtain⟨uM,g1,g2⟩:=La hp h hq' Vp;refine⟨uM,?_,g2⟩;simp only[Instr.fill,hp i _ FT];rw[a0c (by simp;omega)];exact g1
    .simp at h
   .simp at h
  .simp at h
theorem Nk{w:LI4}:∀(fs:List Field),BO P fs=true->(fs.mapM (fun f=>Functor.map (Prod.mk f.offset) (Go.sizeOf f.type):Field->Sem (Nat×Nat))).run P w=.ok (fs.map fun f=>(f.offset,(dw P f.type).getD 0)) w
 | [],_=>by simp
 |f::fs,h=>by simp only[BO,abC,a2f]at h;obtain⟨n,hn⟩:=a4J.1 h.1;have ih:=Nk (w:=w) fs (by simpa[BO]using h.2);simp only[List.mapM_cons,Sem.run_bind,Sem.run_map,bZ hn,Result.andThen_ok,Sem.run_pure,ih,a4c,hn,a4r]
theorem a4B{N:Np}{t:LI2}{ps:List (Nat×TV)}{qs:List (Nat×LI3)}{v:TV}(h:MR P t ps=some v)(hq:PR N ps qs) :
  ∃x,VR N v x∧∀w,(Instr.build t qs.toArray).run P w=.ok x w:=by
 unfold MR at h;split at h
 .rename_i z fs hz hu;split at h
  .rename_i ha;simp only[a05]at h;obtain⟨r,hr,rfl⟩:=h;obtain⟨i,x,v,_,_,_,_,_,hvr,hzr⟩:=vV hz;obtain⟨uM,g1,g2⟩:=La (place':=fun i=>(fs.map fun f=>(f.offset,(dw P f.type).getD 0))[i]?) (fun i x hx=>by
    unfold Tv at hx;split at hx
    .rename_i f hf;simp only[a05]at hx;obtain⟨n,hn,rfl⟩:=hx;simp[hf,hn]
    .simp at hx) hr hq (hvr N)
   refine⟨_,.agg' g2,fun w=>?_⟩;have hm:(fs.mapM (fun f=>Functor.map (Prod.mk f.offset) (Go.sizeOf f.type):Field->Sem (Nat×Nat))).run P w=.ok (fs.map fun f=>(f.offset,(dw P f.type).getD 0)) w:=by rw[Array.mapM_eq_mapM_toList,Sem.run_map,Nk fs.toList ha];simp only[Result.andThen_ok];congr 1;apply adC;simp
   simp only[Array.getElem?_map]at g1;simp[Instr.build,hzr w,run_underlying hu,hm,g1]
  .simp at h
 .rename_i z n e hz hu;split at h
  .rename_i n hn;simp only[a05]at h;obtain⟨r,hr,rfl⟩:=h;obtain⟨i,x,v,_,_,_,_,_,hvr,hzr⟩:=vV hz;obtain⟨uM,g1,g2⟩:=La (place':=fun i=>some (i*n,n)) (fun i x hx=>hx) hr hq (hvr N);exact⟨_,.agg' g2,fun w=>by simp[Instr.build,hzr w,run_underlying hu,bZ hn,g1]⟩
  .simp at h
 .simp at h
end
section
variable {P:LI1} {M:Mp} {D:Key->Prop} {w:LI4} {s:St}
theorem VD{t:LI2}{cs:List TV}{off:Nat}{v:TV}(h:ug P t cs off=some v):∃n,dw P t=some n∧off+n<=cs.length:=by
 unfold ug at h;split at h
 .rename_i n _ hn;simp only[a05]at h;obtain⟨r,hr,_⟩:=h;exact⟨n,hn,(uj hr).1⟩
 .rename_i n _ hn;split at h
  .rename_i h1;subst h1;exact⟨1,hn,(a01.1 h).1⟩
  simp at h
 simp at h
theorem a06{N:Np}{t:LI2}{cs:List TV}{off:Nat}{v:TV}{xs:List LI3}(h:ug P t cs off=some v)(hx:bU N cs xs) :
  ∃x,VR N v x∧(Go.part t xs.toArray off).run P w=.ok x w:=by
 unfold ug at h;split at h
 .rename_i n ha hn;simp only[a05]at h;obtain⟨r,hr,rfl⟩:=h;obtain⟨s1,s2,s3⟩:=uj hr;have hl:=hx.len;refine⟨.agg ((xs.drop off).take n).toArray,.agg' (by rw[s2];exact(hx.drop off).take n),?_⟩;simp[Go.part,zS ha,bZ hn]
 .rename_i n ha hn;split at h
  .obtain⟨x,h1,h2⟩:=hx.get h;exact⟨x,h2,by simp[Go.part,zS ha,h1]⟩
  .simp at h
 .simp at h
theorem G7{t:LI2}{e:EV}{v:TV}{i:lN}{x:LI3}(hV:Valid M D s.get w)(h:loadT P t s e=some (v,i))(hx:ER M e x)(hD:∀k∈i.ts,D k) :
  i.ws=[]∧∃y,VR M.h v y∧(Instr.loadAt t x).run P w=.ok y w:=by
 unfold loadT at h;split at h
 .rename_i k off;split at h
  .rename_i cs hk;simp only[a05,a0i]at h;obtain⟨v',hv,rfl,rfl⟩:=h;cases hx with
   |loc hm hb=>
    rename_i p;have hg:s.get (.l k)=some (.cells .own cs):=(by simp[St.get,hk]);have hd:=hD (.l k) (by simp[wW]);obtain⟨b,h1,h2⟩:=hV.ok _ _ hm hd;rw[hg]at h1;cases h1;obtain⟨_,h3,h4,_⟩:=h2;obtain⟨q,hq,he⟩:=h4 rfl;simp at hq;subst hq;obtain⟨n,hn,hle⟩:=VD hv;obtain⟨y,g1,g2⟩:=JL (P:=P) (h3 p (by simp)) hn hv (by omega) (fun e=>by cases e);rw[hb,a3T]at g2;exact⟨rfl,y,g1,by simp[Instr.loadAt,Instr.sureAddr,g2]⟩
  .simp at h
 .rename_i b off lim;split at h
  .rename_i cs n hb hn;split at h
   .rename_i KL;simp only[a05,a0i]at h;obtain⟨v',hv,rfl,rfl⟩:=h;cases hx with
    |val hx=>
     cases hx with
     |ptr hm hp hl ht=>
      rename_i ls p;obtain⟨k,hk,VE⟩:=xI hb;have hd:=hD (.h b) (by simp[wW]);obtain⟨fV,h1,h2⟩:=hV.ok _ _ hm hd;simp only[St.get,hk,a00]at h1;subst h1;obtain⟨_,h3,_⟩:=h2;obtain⟨y,g1,g2⟩:=JL (P:=P) (h3 p hp) hn hv (by omega) (fun e=>by have:=VE e;have:=(h3 p hp).ext;omega);exact⟨rfl,y,g1,by simp[Instr.loadAt,Instr.sureAddr,g2]⟩
   .simp at h
  .simp at h
 .simp at h
theorem Le{l:List TV}(h:l.all iT=true):∀c∈l,iT c=true:=by simpa using h
theorem Yt{t:LI2}{e:EV}{v:TV}{i:lN}{x y:LI3}{s1:St}(hV:Valid M D s.get w)(h:storeT P t s e v=some (s1,i))(hx:ER M e x)(hy:VR M.h v y)(hD:∀k∈i.ts,D k) :
  s1.env=s.env∧∃w',(Instr.storeAt t x y).run P w=.ok () w'∧Valid M D s1.get w'∧Ext M s.get w M s1.get w' i.ws∧∀k,s.get k=none->s1.get k=none:=by
 unfold storeT at h;split at h
 case h_2=>simp at h
 rename_i n hn;split at h
 case isFalse=>simp at h
 rename_i hc;obtain⟨hlen,ES⟩:=hc;have hyc:=hy.cells;have hyl:y.cells.size=n:=by have:=hyc.len;simp at this;omega
 split at h
 .rename_i k off;split at h
  .rename_i cs hk;simp only[a05,a0i]at h;obtain⟨cs',ho,rfl,rfl⟩:=h;cases hx with
   |loc hm hb=>
    rename_i p;have hg:s.get (.l k)=some (.cells .own cs):=(by simp[St.get,hk]);obtain⟨w',r1,r2,r3⟩:=yL (P:=P) hV hm (hD _ (by simp[oO])) hg (a2p.2 rfl) (.inl ⟨rfl,rfl⟩) ho hyc (Le ES);have JQ:=(a01.1 hk).1;refine⟨rfl,w',?_,?_,?_,?_⟩
    .rw[hb,a3T]at r1;simp[Instr.storeAt,Instr.sureAddr,storeVar,bZ hn,hyl,r1]
    .rw[Nb s k cs' JQ];exact r2
    .rw[Nb s k cs' JQ];exact r3
    .rw[Nb s k cs' JQ];exact DC (by simp[hg])
  .simp at h
 .rename_i b off lim;split at h
  .rename_i KL;simp only[a05,a0i]at h;obtain⟨h',hs,rfl,rfl⟩:=h;cases hx with
   |val hx=>
    cases hx with
    |ptr hm hp hl ht=>
     rename_i ls p;obtain⟨kk,Bc,cs,cs',hb,xJ,ho,rfl⟩:=IC hs;have hg:s.get (.h b)=some (.cells kk cs):=(by simp[St.get,hb]);obtain⟨w',r1,r2,r3⟩:=yL (P:=P) hV hm (hD _ (by simp[oO])) hg hp (hV.Yo hm (hD _ (by simp[oO])) hg hp hl xJ) ho hyc (Le ES);have JQ:=(a01.1 hb).1;refine⟨rfl,w',?_,?_,?_,?_⟩
     .simp[Instr.storeAt,Instr.sureAddr,storeVar,bZ hn,hyl,r1]
     .rw[jw s b _ JQ];exact r2
     .rw[jw s b _ JQ];exact r3
     .rw[jw s b _ JQ];exact DC (by simp[hg])
  .simp at h
 .simp at h
theorem G8{n:Nat}{v:TV}{j:Nat}{N:Np}{x:LI3}(h:idx n v=some j)(hx:VR N v x):∃k i,x=.int k i∧0<=i∧i<n∧j=i.toNat∧j<n:=by
 unfold idx at h;split at h
 .rename_i k i;split at h
  .rename_i hc;simp at h;subst h;cases hx;exact⟨k,i,rfl,hc.1,hc.2,rfl,by omega⟩
  simp at h
 simp at h
theorem Nl{o:Nat}{e e':EV}{x:LI3}(h:PZ o e=some e')(hx:ER M e x):∃a,x=.pointer (some a)∧ER M e' (.pointer (some (a.add o))):=by
 unfold PZ at h;split at h
 .simp at h;subst h;cases hx with
  |loc hm hb=>exact⟨_,rfl,by rw[uh];exact .loc hm hb⟩
 .rename_i b off lim;split at h
  .rename_i hl;simp at h;subst h;cases hx with
   |val hx=>
    cases hx with
    |ptr hm hp hl ht=>exact⟨_,rfl,by rw[uh,a9G];exact .val (.ptr hm hp hl ht)⟩
  simp at h
 simp at h
theorem TI{t:LI2}{f n:Nat}{e e':EV}{x:LI3}(h1:FX P t f=some n)(h:PZ n e=some e')(hx:ER M e x) :
  ∃y,ER M e' y∧(Instr.fieldAt t x f).run P w=.ok y w:=by
 obtain⟨a,rfl,he⟩:=Nl h hx;unfold FX at h1;split at h1
 .rename_i fs hu;split at h1
  .rename_i fd hf;split at h1
   .rename_i m hm;split at h1
    .simp at h1
    .rename_i hz;simp at h1;subst h1;refine⟨_,he,?_⟩;simp[Instr.fieldAt,run_underlying hu,hf,Instr.sureAddr,fieldPlace,bZ hm,hz]
   .simp at h1
  .simp at h1
 .simp at h1
theorem Nq{N:Np}{t:LI2}{f:Nat}{v v':TV}{x:LI3}(h:MS P t v f=some v')(hx:VR N v x) :
  ∃y,VR N v' y∧(Instr.field t x f).run P w=.ok y w:=by
 unfold MS at h;split at h
 .rename_i fs cs hu;split at h
  .rename_i fd hf;cases hx with
   |agg g1 g2=>
    obtain⟨y,r1,r2⟩:=a06 (P:=P) (w:=w) h ⟨g1,g2⟩;exact⟨y,r1,by simp[Instr.field,run_underlying hu,hf,asAgg,r2]⟩
  .simp at h
 .simp at h
theorem zT{t:LI2}{e e':EV}{v:TV}{x y:LI3}(h:lS P t e v=some e')(hx:ER M e x)(hy:VR M.h v y) :
  ∃z,ER M e' z∧(Instr.indexAt t x y).run P w=.ok z w:=by
 unfold lS at h;split at h
 .rename_i el hu;split at h
  .rename_i n b off len cap sz ex hn;split at h
   .rename_i uT;simp only[a05]at h;obtain⟨j,hj,rfl⟩:=h;subst uT;obtain⟨k,i,rfl,h0,h1,rfl,h2⟩:=G8 hj hy;cases hx with
    |val hx=>
     cases hx with
     |aP hb hp hl hle hc hex ha hk=>
      rename_i ls p a cap';rcases ha with ha|⟨rfl,ha⟩
      .omega
      .have hmul:i.toNat*n+n<=len*n:=by
        have:=a3l n (show i.toNat+1<=len by omega)
        rwa [a3m,adw]at this
       have abw:cap*n<=cap'*n:=a3l n (by omega);have hp:=hp.resolve_left (by omega);refine⟨_,.val (.ptr hb hp (lim:=off+cap*n) (off:=off+i.toNat*n) (by omega) (by omega)),?_⟩;simp[Instr.indexAt,asIntOf,run_underlying hu,h0,h1,bZ hn,uh,a9G]
   .simp at h
  .simp at h
 .rename_i len el hu;split at h
  .rename_i n hn;split at h
   .rename_i j hj;obtain⟨k,i,rfl,h0,h1,rfl,h2⟩:=G8 hj hy;obtain⟨a,rfl,he⟩:=Nl h hx;refine⟨_,he,?_⟩;simp[Instr.indexAt,asIntOf,run_underlying hu,Instr.sureAddr,h0,h1,bZ hn]
   .simp at h
  .simp at h
 .simp at h
theorem Nr{N:Np}{t:LI2}{v u r:TV}{x y:LI3}(h:Iw P t v u=some r)(hx:VR N v x)(hy:VR N u y) :
  ∃z,VR N r z∧(Instr.index t x y).run P w=.ok z w:=by
 unfold Iw at h;split at h
 .rename_i len el cs hu;split at h
  .rename_i n j hn hj;obtain⟨k,i,rfl,h0,h1,rfl,h2⟩:=G8 hj hy;cases hx with
   |agg g1 g2=>
    obtain⟨z,r1,r2⟩:=a06 (P:=P) (w:=w) h ⟨g1,g2⟩;exact⟨z,r1,by simp[Instr.index,asIntOf,run_underlying hu,h0,h1,bZ hn,r2]⟩
  .simp at h
 .rename_i bs hu;split at h
  .rename_i j hj;obtain⟨k,i,rfl,h0,h1,rfl,h2⟩:=G8 hj hy;simp only[a05]at h;obtain⟨b,hb,rfl⟩:=h;cases hx;exact⟨_,.int _ _,by simp[Instr.index,asIntOf,run_underlying hu,h0,hb]⟩
  .simp at h
 .simp at h
end
section
variable {P:LI1} {M:Mp} {D:Key->Prop} {w:LI4} {s:St}
theorem a07{N:Np}:∀{az:List TV} {xs ys:List LI3},Bz az=some xs->bU N az ys->ys=xs
 | [],xs,ys,h,hy=>by simp[Bz]at h;subst h;exact hy.pR
 |c::az,xs,ys,h,hy=>by
  simp only[Bz]at h;split at h
  .rename_i v vs h1 h2;simp at h;subst h;obtain⟨u,us,rfl,hu,hus⟩:=hy.iM;rw[vS h1 hu,a07 h2 hus]
  simp at h
def G9:NK->LI3->Prop
 |.ptr,x=>x=.pointer none
 |.aP,x=>x=.slice none 0 0
 |.map,x=>x=.map none
 |.fn,x=>x=.nilFunc
 |.ifc,x=>x=.nilIface
def yx:NK->LI3->Prop
 |.ptr,x=>∃a,x=.pointer (some a)
 |.aP,x=>∃a l c,x=.slice (some a) l c
 |.map,x=>∃r,x=.map (some r)
 |.fn,x=>∃f a c,x=.func f a c
 |.ifc,_=>False
theorem a08{N:Np}{v:TV}{k:NK}{x:LI3}(h:Yl v=some k)(hx:VR N v x):G9 k x:=by cases hx<;>simp[Yl]at h<;>subst h<;>rfl
theorem VF{N:Np}{v:TV}{k:NK}{x:LI3}(h:JJ v=some k)(hx:VR N v x):yx k x:=by cases hx<;>simp[JJ]at h<;>subst h<;>simp[yx]
theorem a4D{t:LI2}{k:NK}(h:JK P t=some k):match k with
  |.ptr=>∃e,P.underlying t=some (.pointer e)
  |.aP=>∃e,P.underlying t=some (.slice e)
  |.map=>∃e f,P.underlying t=some (.map e f)
  |.fn=>∃e f g,P.underlying t=some (.func e f g)
  |.ifc=>False:=by
 unfold JK at h;split at h<;>simp at h<;>subst h<;>simp_all
theorem a2g{t:LI2}{k:NK}{x y:LI3}(h:JK P t=some k)(hxy:(G9 k x∧yx k y)∨(yx k x∧G9 k y))(d:Nat) :
  (Op.equalIn (d+1) t x y).run P w=.ok false w:=by
 have hk:=a4D h;cases k with
 |ptr=>
  obtain⟨e,hu⟩:=hk;rcases hxy with⟨hx,a,rfl⟩|⟨⟨a,rfl⟩,hy⟩
  .cases hx;simp[Op.equalIn,run_underlying hu]
  .cases hy;simp[Op.equalIn,run_underlying hu]
 |aP=>
  obtain⟨e,hu⟩:=hk;rcases hxy with⟨hx,a,l,c,rfl⟩|⟨⟨a,l,c,rfl⟩,hy⟩
  .cases hx;simp[Op.equalIn,run_underlying hu]
  .cases hy;simp[Op.equalIn,run_underlying hu]
 |map=>
  obtain⟨e,f,hu⟩:=hk;rcases hxy with⟨hx,a,rfl⟩|⟨⟨a,rfl⟩,hy⟩
  .cases hx;simp[Op.equalIn,run_underlying hu]
  .cases hy;simp[Op.equalIn,run_underlying hu]
 |fn=>
  obtain⟨e,f,g,hu⟩:=hk;rcases hxy with⟨hx,a,b,c,rfl⟩|⟨⟨a,b,c,rfl⟩,hy⟩
  .cases hx;simp[Op.equalIn,run_underlying hu]
  .cases hy;simp[Op.equalIn,run_underlying hu]
 |ifc=>exact hk.elim
theorem a09{t:LI2}{k:NK}{ox oy:Operand}{x y:LI3}(h:JK P t=some k)(hxy:(G9 k x∧yx k y)∨(yx k x∧G9 k y))(b:Bool)(op:BinOp)(hb:(op=.eql∧b=false)∨(op=.neq∧b=true)) :
  (do eqGuard op t ox oy x y;binOp op t x y:Sem LI3).run P w=.ok (.bool b) w:=by
 have he:(Op.equal t x y).run P w=.ok false w:=a2g h hxy 9999;have hg:(eqGuard op t ox oy x y).run P w=.ok () w:=by
  cases k<;>rcases hxy with⟨hx,hy⟩|⟨hx,hy⟩<;>simp only[G9,yx]at hx hy <;>
   (first|(exact hy.elim)|(exact hx.elim)|skip)<;>(try obtain⟨_,rfl⟩:=hx)<;>(try obtain⟨_,rfl⟩:=hy)<;>(try obtain⟨_,_,rfl⟩:=hx)<;>(try obtain⟨_,_,rfl⟩:=hy)<;>(try subst hx)<;>(try subst hy) <;>
   (try obtain⟨_,_,_,rfl⟩:=hx)<;>(try obtain⟨_,_,_,rfl⟩:=hy)<;>rcases hb with⟨rfl,rfl⟩|⟨rfl,rfl⟩<;>simp[eqGuard]
 have Q8:(binOp op t x y).run P w=.ok (.bool b) w:=by
  cases k<;>rcases hxy with⟨hx,hy⟩|⟨hx,hy⟩<;>simp only[G9,yx]at hx hy <;>
   (first|(exact hy.elim)|(exact hx.elim)|skip)<;>(try obtain⟨_,rfl⟩:=hx)<;>(try obtain⟨_,rfl⟩:=hy)<;>(try obtain⟨_,_,rfl⟩:=hx)<;>(try obtain⟨_,_,rfl⟩:=hy)<;>(try subst hx)<;>(try subst hy) <;>
   (try obtain⟨_,_,_,rfl⟩:=hx)<;>(try obtain⟨_,_,_,rfl⟩:=hy)<;>rcases hb with⟨rfl,rfl⟩|⟨rfl,rfl⟩<;>simp only[binOp,Sem.run_bind,he,Result.andThen_ok,Sem.run_pure,abp]
 simp only[Sem.run_bind,hg,Result.andThen_ok,Q8]
theorem Yu{N:Np}{op:BinOp}{t:LI2}{ox oy:Operand}{a b r:TV}{x y:LI3}(h:su P op t ox oy a b=some r)(hx:VR N a x)(hy:VR N b y) :
  ∃z,VR N r z∧(do eqGuard op t ox oy x y;binOp op t x y:Sem LI3).run P w=.ok z w:=by
 unfold su at h;split at h
 .rename_i u v hu hv;split at h
  .rename_i z hz;have e1:=vS hu hx;have e2:=vS hv hy;subst e1;subst e2;exact⟨z,.yu h,iW hz w⟩
  .simp at h
 .split at h
  .rename_i hn;unfold BP at hn;split at hn
   case h_2=>simp at hn
   rename_i k hk;have hxy:(G9 k x∧yx k y)∨(yx k x∧G9 k y):=by
    simp only[a8Q,a2f,a7r]at hn;rcases hn with⟨h1,h2⟩|⟨h1,h2⟩
    .exact .inl ⟨a08 h1 hx,VF h2 hy⟩
    .exact .inr ⟨VF h1 hx,a08 h2 hy⟩
   split at h
   .simp at h;subst h;exact⟨_,.bool false,a09 hk hxy false _ (.inl ⟨rfl,rfl⟩)⟩
   .simp at h;subst h;exact⟨_,.bool true,a09 hk hxy true _ (.inr ⟨rfl,rfl⟩)⟩
   .simp at h
  .simp at h
theorem iR{N:Np}{op:UnOp}{a r:TV}{x:LI3}(h:unT P op a=some r)(hx:VR N a x):∃z,VR N r z∧(Op.unary op x).run P w=.ok z w:=by
 unfold unT at h;split at h
 .rename_i u hu;split at h
  .rename_i z hz;have e1:=vS hu hx;subst e1;exact⟨z,.yu h,iW hz w⟩
  simp at h
 simp at h
theorem TJ{N:Np}{t u:LI2}{a r:TV}{x:LI3}(h:Qy P t u a=some r)(hx:VR N a x):∃z,VR N r z∧(convert t u x).run P w=.ok z w:=by
 unfold Qy at h;split at h
 .rename_i u hu;split at h
  .rename_i z hz;have e1:=vS hu hx;subst e1;exact⟨z,.yu h,iW hz w⟩
  simp at h
 simp at h
theorem yN{N:Np}{mx:Bool}{at_:Array LI2}{t:LI2}{az:List TV}{r:TV}{xs:List LI3}(h:Dy P mx at_ t az=some r)(hx:bU N az xs) :
  ∃z,VR N r z∧(if mx then Builtin.max_ at_ t xs.toArray else Builtin.min_ at_ t xs.toArray).run P w=.ok z w:=by
 unfold Dy at h;split at h
 .rename_i us hu;split at h
  .rename_i z hz;have e1:=a07 hu hx;subst e1;exact⟨z,.yu h,iW hz w⟩
  .simp at h
 .simp at h
theorem kY{n j:Nat}{v:TV}(h:qG n v=some j):j<=n:=by
 unfold qG at h;split at h
 .split at h
  .simp at h;omega
  simp at h
 simp at h
theorem sJ{N:Np}{n j m:Nat}{v:TV}{x:LI3}{code:BoundsCode}(h:qG n v=some j)(hx:VR N v x)(hm:j<=m) :
  (Instr.sliceBound x m code).run P w=.ok j w:=by
 unfold qG at h;split at h
 .rename_i k i;split at h
  .rename_i hc;simp at h;subst h;cases hx;have:i<=(m:Int):=(by omega);simp[Instr.sliceBound,asIntOf,hc.1,this]
  .simp at h
 .simp at h
inductive OR(N:Np):Option TV->Option LI3->Prop
 |none:OR N none none
 |some {v:TV} {x:LI3} (h:VR N v x):OR N (some v) (some x)
theorem xK{N:Np}{is:Bool}{len cap' n l0 hg:Nat}{lo hi:Option TV}{Yv wY:Option LI3}(hl:OR N lo Yv)(hh:OR N hi wY)
  (h1:jr n len hi=some hg) (h2:jr hg 0 lo=some l0) (h3:hg<=cap'):(Instr.sliceBounds is len cap' Yv wY none).run P w=.ok (l0,hg,cap') w:=by
 cases hh with
 |none=>
  simp only[jr,a00]at h1;subst h1;cases hl with
  |none=>simp only[jr,a00]at h2;subst h2;simp[Instr.sliceBounds]
  |some hv=>simp only[jr]at h2;simp[Instr.sliceBounds,sJ (P:=P) (w:=w) h2 hv (kY h2)]
 |some hv'=>
  simp only[jr]at h1;cases hl with
  |none=>simp only[jr,a00]at h2;subst h2;simp[Instr.sliceBounds,sJ (P:=P) (w:=w) h1 hv' h3]
  |some hv=>simp only[jr]at h2;simp[Instr.sliceBounds,sJ (P:=P) (w:=w) h1 hv' h3,sJ (P:=P) (w:=w) h2 hv (kY h2)]
theorem ET{N:Np}{is:Bool}{len cap' n k l0 hg m:Nat}{lo:Option TV}{hi mx:TV}{Yv:Option LI3}{wY mx':LI3}(hl:OR N lo Yv)(hh:VR N hi wY)(hm:VR N mx mx')
  (h0:qG k mx=some m) (h1:qG n hi=some hg) (h2:jr hg 0 lo=some l0) (h3:hg<=m) (h4:m<=cap'):(Instr.sliceBounds is len cap' Yv (some wY) (some mx')).run P w=.ok (l0,hg,m) w:=by
 have r1:=fun code=>sJ (P:=P) (w:=w) (code:=code) h0 hm h4;have r2:=fun code=>sJ (P:=P) (w:=w) (code:=code) h1 hh h3;cases hl with
 |none=>simp only[jr,a00]at h2;subst h2;simp[Instr.sliceBounds,r1,r2]
 |some hv=>simp only[jr]at h2;simp[Instr.sliceBounds,r1,r2,sJ (P:=P) (w:=w) h2 hv (kY h2)]
theorem Ns{N:Np}{t:LI2}{v r:TV}{lo hi mx:Option TV}{x:LI3}{Yv wY mx':Option LI3}(h:qH P t v lo hi mx=some r)(hx:VR N v x)
  (hl:OR N lo Yv) (hh:OR N hi wY) (hm:OR N mx mx'):∃z,VR N r z∧(Instr.sliceAt t x Yv wY mx').run P w=.ok z w:=by
 unfold qH at h;split at h
 .-- strings
  rename_i bs hu;split at h
  .simp at h
  .cases hm;split at h
   .rename_i h0 gZ;split at h
    .rename_i l0 qB;simp at h;subst h;cases hx;refine⟨_,.str _,?_⟩;have hle:h0<=bs.size:=by
      cases hi with
      |none=>simp only[jr,a00]at gZ;omega
      |some v=>simp only[jr]at gZ;exact kY gZ
     have e1:=xK (P:=P) (w:=w) (is:=false) (cap':=bs.size) hl hh gZ qB hle;simp[Instr.sliceAt,Instr.slice,run_underlying hu,e1]
    .simp at h
   .simp at h
 .-- slices
  rename_i e b off len cap sz ex hu;split at h
  .rename_i n hn;split at h
   case isFalse=>simp at h
   rename_i uT;subst uT;cases hx with
   |aP hb hp EU hle vW hex ha hk=>
    rename_i ls p a cap';have fin:∀(l hgh m:Nat) (ex':Bool),l<=hgh->hgh<=len->hgh<=m->m<=cap'->(m':Nat)->m'<=m->m'<=cap->hgh<=m'->(ex'=true->m=m') ->
      VR N (.aP b (off+l*n) (hgh-l) (m'-l) n ex') (.slice (if m=l then some a else(some a).map (·.add (l*n))) (hgh-l) (m-l)):=by
     intro l hgh m ex' h1 h2 h3 h4 m' h5 h5' h6 h7;have hmul:l*n+(hgh-l)*n=hgh*n:=by rw[<-a3m];congr 1;omega
     have abw:m'*n<=cap*n:=a3l n h5';have ar4:l*n+(m'-l)*n=m'*n:=by rw[<-a3m];congr 1;omega
     have Bd:(if m=l then some a else(some a).map (·.add (l*n)))=some (if m=l then a else a.add (l*n)):=by split<;>rfl
     rw[Bd];refine .aP hb (hp.imp (fun e=>by omega) id) (by omega) (by omega) (by omega) (fun e=>by have:=h7 e;omega) ?_ (by omega);by_cases hml:m=l
     .left;omega
     .right;rcases ha with ha|⟨rfl,ha⟩
      .omega
      .rw[a0c hml,uh];have ar5:l*n+(m-l)*n=m*n:=by rw[<-a3m];congr 1;omega
       have ar6:m*n<=cap'*n:=a3l n h4;exact⟨by rw[a9G],by omega⟩
    split at h
    .rename_i m0;cases hm with
     |some Q9=>
      split at h
      .rename_i m h0 hm1;split at h
       .rename_i hg yI;split at h
        .rename_i l0 qB;simp at h;subst h;cases hh with
         |some hhv=>
          have b1:=kY hm1;have b2:=kY yI;have b3:l0<=hg:=by
           cases lo with
           |none=>simp only[jr,a00]at qB;omega
           |some v=>simp only[jr]at qB;exact kY qB
          have e1:=ET (P:=P) (w:=w) (is:=true) (len:=len) (cap':=cap') hl hhv Q9 hm1 yI qB (by omega) (by omega);exact⟨_,fin l0 hg m true b3 (by omega) (by omega) (by omega) m (by omega) (by omega) (by omega) (fun _=>rfl),by simp[Instr.sliceAt,Instr.slice,run_underlying hu,e1,bZ hn]⟩
        .simp at h
       .simp at h
      .simp at h
    .cases hm;split at h
     .rename_i hg gZ;split at h
      .rename_i l0 qB;simp at h;subst h;have hgl:hg<=len:=by
        cases hi with
        |none=>simp only[jr,a00]at gZ;omega
        |some v=>simp only[jr]at gZ;exact kY gZ
       have hlg:l0<=hg:=by
        cases lo with
        |none=>simp only[jr,a00]at qB;omega
        |some v=>simp only[jr]at qB;exact kY qB
       refine⟨_,fin l0 hg cap' ex hlg hgl (by omega) (by omega) cap vW (by omega) (by omega) hex,?_⟩;have e1:=xK (P:=P) (w:=w) (is:=true) (cap':=cap') hl hh gZ qB (by omega);simp[Instr.sliceAt,Instr.slice,run_underlying hu,e1,bZ hn]
      .simp at h
     .simp at h
  .simp at h
 .-- nil
  rename_i e hu;split at h
  .rename_i x0 x1 x2 x3 hn QE gZ qB;split at h
   .simp at h
   .rename_i hg;simp at h;subst h;cases hx;refine⟨_,.TD,?_⟩;have z1:∀{o:Option TV} {k:Nat},jr 0 0 o=some k->k=0:=fun{o k} e=>by
     cases o with
     |none=>simp only[jr,a00]at e;omega
     |some v=>simp only[jr]at e;have:=kY e;omega
    have e2:=z1 gZ;subst e2;have e3:=z1 qB;subst e3;have e1:(Instr.sliceBounds true 0 0 Yv wY mx').run P w=.ok (0,0,0) w:=by
     cases hm with
     |none=>exact xK hl hh gZ qB (by omega)
     |some Q9=>
      have e4:=z1 QE;subst e4;cases hh with
      |none=>simp at hg
      |some hhv=>exact ET hl hhv Q9 QE gZ qB (by omega) (by omega)
    simp[Instr.sliceAt,Instr.slice,run_underlying hu,e1,bZ hn]
  .simp at h
 .simp at h
theorem Cb{t:LI2}{e:EV}{r:TV}{lo hi mx:Option TV}{x:LI3}{Yv wY mx':Option LI3}(h:qm P t e lo hi mx=some r)(hx:ER M e x)
  (hl:OR M.h lo Yv) (hh:OR M.h hi wY) (hm:OR M.h mx mx'):∃z,VR M.h r z∧(Instr.sliceAt t x Yv wY mx').run P w=.ok z w:=by
 unfold qm at h;split at h
 .rename_i n el b off lim hu;split at h
  .rename_i size hn;split at h
   .simp at h
   .rename_i hc;cases hx with
    |val hx=>
    cases hx with
    |ptr hb hp EU amT=>
    rename_i ls p;split at h
    .rename_i m QE;split at h
     .rename_i hg gZ;split at h
      .rename_i l0 qB;split at h
       .simp at h
       .rename_i hs;simp at h;subst h;have hmn:m<=n:=by
         cases mx with
         |none=>simp only[jr,a00]at QE;omega
         |some v=>simp only[jr]at QE;exact kY QE
        have hgm:hg<=m:=by
         cases hi with
         |none=>
          cases mx with
          |some v=>simp at hs
          |none=>simp only[jr,a00]at gZ QE;omega
         |some v=>simp only[jr]at gZ;exact kY gZ
        have hlg:l0<=hg:=by
         cases lo with
         |none=>simp only[jr,a00]at qB;omega
         |some v=>simp only[jr]at qB;exact kY qB
        have e1:(Instr.sliceBounds false n n Yv wY mx').run P w=.ok (l0,hg,m) w:=by
         cases hm with
         |none=>
          simp only[jr,a00]at QE;subst QE;exact xK hl hh gZ qB (by omega)
         |some Q9=>
          cases hh with
          |none=>simp at hs
          |some hhv=>
           simp only[jr]at QE gZ;exact ET hl hhv Q9 QE gZ qB (by omega) hmn
        have m1:l0*size+(hg-l0)*size=hg*size:=by rw[<-a3m];congr 1;omega
        have m2:l0*size+(m-l0)*size=m*size:=by rw[<-a3m];congr 1;omega
        have m3:hg*size<=n*size:=a3l size (by omega);have m4:m*size<=n*size:=a3l size (by omega);refine⟨.slice (some (if m=l0 then(⟨p.c,p.base+off,none⟩:Addr)else(⟨p.c,p.base+off,none⟩:Addr).add (l0*size))) (hg-l0) (m-l0),?_,?_⟩
        .refine .aP hb (.inr hp) (by omega) (by omega) (by omega) (fun _=>rfl) ?_ (by omega);by_cases hml:m=l0
         .left;omega
         .right;rw[a0c hml,uh];exact⟨by rw[a9G],by omega⟩
        .simp[Instr.sliceAt,run_underlying hu,Instr.sureAddr,e1,bZ hn]
      .simp at h
     .simp at h
    .simp at h
  .simp at h
 .simp at h
theorem o7(z:List TV):∀n,(times z n).length=n*z.length
 | 0=>by simp[times]
 |n+1=>by simp[times,o7 z n,a3m,Nat.add_comm]
theorem QF(z:List TV)(hz:0<z.length):∀(n i:Nat),i<n*z.length->(times z n)[i]? = z[i%z.length]?
 | 0,i,h=>by simp at h
 |n+1,i,h=>by
  simp only[times];by_cases hi:i<z.length
  .rw[a0b hi,Nat.mod_eq_of_lt hi]
  rw[a0S (by omega),QF z hz n (i-z.length) (by rw[a3m]at h;omega)];congr 1;rw[Nat.mod_eq_sub_mod (a:=i) (by omega)]
theorem IG{z:List TV}(h:∀c∈z,iT c=true):∀n,∀c∈times z n,iT c=true
 | 0=>by simp[times]
 |n+1=>by
  intro c hc;simp only[times,a3k]at hc;rcases hc with hc|hc
  .exact h c hc
  exact IG h n c hc
theorem VG{N:Np}{z:List TV}{x:Array LI3}(h:bU N z x.toList)(n m:Nat)(hm:m=n*z.length) :
  bU N (times z n) ((Array.range m).map (x[·%x.size]!)).toList:=by
 have hl:=h.len;simp only[a9z]at hl;refine⟨by simp[o7,hm],fun i c v a b=>?_⟩;have hi:i<n*z.length:=by have:=(a01.1 a).1;rwa [o7]at this
 have hz:0<z.length:=by
  rcases abu z.length with e|e
  .rw[e]at hi;simp at hi
  .exact e
 rw[QF z hz n i hi]at a;have aho:i%x.size<x.size:=Nat.mod_lt _ (by omega);have hb:v=x[i%x.size]:=by rw[adB,Array.getElem?_map]at b;simp only[Array.getElem?_range]at b;rw[a0g (by omega)]at b;simp only[a0j,a00]at b;rw[<-b,getElem!_pos x _ aho]
 rw[hl]at a;exact h.at_ (i%x.size) c v a (by simp[hb,aho])
theorem qK{t e:LI2}{n:Nat}(h:jE P t=some (e,n)):P.underlying t=some (.slice e)∧dw P e=some n∧0<n:=by
 unfold jE at h;split at h
 .rename_i e' hu;split at h
  .rename_i n' hn;split at h
   .simp at h
   simp at h;obtain⟨rfl,rfl⟩:=h;exact⟨hu,hn,by omega⟩
  simp at h
 simp at h
theorem QG{place:Nat->Option (Nat×Nat)}:∀{ps:List (Nat×TV)} {cs r:List TV},rW place cs ps=some r->r.length=cs.length
 | [],cs,r,h=>by simp[rW]at h;rw[h]
 |(i,v)::ps,cs,r,h=>by
  simp only[rW]at h;split at h
  .split at h
   .split at h
    .rename_i cs' ho;rw[QG h,(vJ ho).2.2]
    simp at h
   simp at h
  simp at h
theorem QH{place:Nat->Option (Nat×Nat)}:∀{ps:List (Nat×TV)} {cs r:List TV},rW place cs ps=some r->(∀c∈cs,iT c=true) ->
  (∀p∈ps,∀c∈p.2.cells,iT c=true)->∀c∈r,iT c=true
 | [],cs,r,h,h1,_=>by simp[rW]at h;subst h;exact h1
 |(i,v)::ps,cs,r,h,h1,h2=>by
  simp only[rW]at h;split at h
  .split at h
   .split at h
    .rename_i cs' ho;exact QH h (VA ho h1 (h2 (i,v) (by simp))) (fun p hp=>h2 p (by simp[hp]))
    .simp at h
   .simp at h
  .simp at h
theorem tX{t:LI2}{len:Nat}{ps:List (Nat×TV)}{qs:List (Nat×LI3)}{r:TV}{s1:St}(hV:Valid M D s.get w)(yM:M (.h s.heap.length)=none)
  (h:qo P t len s ps=some (r,s1)) (hq:PR M.h ps qs) :
  s1.env=s.env∧∃x w' M',(Instr.buildSlice t len qs.toArray).run P w=.ok x w'∧Na M D s.get w (.val r) s1.get [] x w' M':=by
 unfold qo at h;split at h
 case h_2=>simp at h
 rename_i e n yA;obtain⟨hu,hn,hn0⟩:=qK yA;split at h
 case isFalse=>simp at h
 rename_i hc;obtain⟨hc1,JR⟩:=hc;split at h
 case h_2=>simp at h
 rename_i z hz;split at h
 case isFalse=>simp at h
 rename_i VH;split at h
 case h_2=>simp at h
 rename_i cs hf;simp at h;obtain⟨rfl,rfl⟩:=h;obtain⟨i,x,v,_,_,_,_,hz1,hvr,hzr⟩:=vV hz;have hx0:=(hvr M.h).len;simp only[a9z]at hx0;have ht:=VG (hvr M.h) len (len*n) (by rw[VH]);obtain⟨uM,g1,g2⟩:=La (place':=fun i=>some (i*n,n)) (fun i x hx=>hx) hf hq ht;have ES:∀c∈cs,iT c=true:=QH hf (IG hz1 len) (fun p hp=>by have:=a4o.1 JR p hp;exact Le this)
 have hlen:cs.length=uM.size:=by have:=g2.len;simpa using this
 have pF:cs.length=len*n:=by rw[QG hf,o7,VH]
 have yB:s.get (.h s.heap.length)=none:=by simp[St.get]
 have Iq:∀(i:Nat) (c:TV) (v:LI3),cs[i]? = some c->uM[i]? = some v->VR M.h c v:=fun i c v a b=>g2.at_ i c v a (by simpa using b);have gV:=Nj hV e yM yB (agH hlen) Iq ES;refine⟨rfl,.slice (some ⟨w.heap.size,0,none⟩) len len,w.alloc (.cells uM e),dJ M (.h s.heap.length) (.cells [⟨w.heap.size,0,cs.length,uM.size⟩]),?_,⟨?_,?_,?_,qJ yM⟩⟩
 .have hle:¬(len*n>2^24):=by omega
  by_cases h0:len*n=0
  .have amV:cs=[]:=a3Y (by omega);have g1':Instr.fill (fun i=>some (i*n,n)) ((Array.range (len*n)).map ((#[]:Array LI3)[·%(#[]:Array LI3).size]!)) qs=some uM:=by rw[h0]at g1 ⊢;have e0:Array.range 0=#[]:=rfl;rw[e0]at g1 ⊢;simpa using g1
   simp only[Instr.buildSlice,Sem.run_bind,run_underlying hu,Result.andThen_ok,bZ hn];rw[a0c hle,a0g h0];simp only[Sem.run_pure,Sem.run_bind,Result.andThen_ok,g1',newRow,run_newObj,World.alloc]
  .simp only[Instr.buildSlice,Sem.run_bind,run_underlying hu,Result.andThen_ok,bZ hn];rw[a0c hle,a0c h0];simp only[Sem.run_pure,Sem.run_bind,Result.andThen_ok,hzr w,g1,newRow,run_newObj,World.alloc]
 .rw[jW];exact gV.1
 .rw[jW];exact gV.2
 .have hlb:len<2^63:=by have:=Nat.le_mul_of_pos_right len (show 0<n by omega);omega
  refine .val (.aP (ls:=[⟨w.heap.size,0,cs.length,uM.size⟩]) (p:=⟨w.heap.size,0,cs.length,uM.size⟩) (by simp[Mp.h,dJ]) (by simp) (by simp[pF]) (a0U _) (a0U _) (fun _=>rfl) (.inr ⟨by simp,by simp;omega⟩) hlb)
end
section
variable {P:LI1} {M:Mp} {D:Key->Prop} {w:LI4} {s:St}
theorem a0d{i:Int}(h0:0<=i)(h1:i<=2^40):i64.wrap i=i:=by have h2:i%(2^64:Int)=i:=a8B h0 (by omega);simp only[IntKind.wrap,IntKind.bits,IntKind.signed,h2];rw[a0c];simp only[adf,a1o,ge_iff_le];omega
theorem QI{N:Np}{v:TV}{n:Nat}{x:LI3}(h:a1Y v=some n)(hx:VR N v x):∃k i,x=.int k i∧0<=i∧i<=2^40∧n=i.toNat:=by
 unfold a1Y at h;split at h
 .split at h
  .rename_i k i hc;simp at h;subst h;cases hx;exact⟨k,i,rfl,hc.1,hc.2,rfl⟩
  simp at h
 simp at h
theorem zU{e:LI2}{n:Nat}(h:tV P e n=true):∃i x,P.info? e=some i∧i.zero=some x∧x.cells.size=i.size∧n*i.bytes<=2^40∧n<=2^40∧i.bytes<=2^20∧0<i.bytes:=by
 unfold tV at h;split at h
 .rename_i i hi;simp only[a2f,a1o]at h;obtain⟨⟨⟨⟨h1,h2⟩,h3⟩,h4⟩,h5⟩:=h;unfold a4s at h5;split at h5
  .rename_i x hx;exact⟨i,x,hi,hx,by simpa using h5,h1,h2,h3,h4⟩
  simp at h5
 simp at h
theorem zV{t:LI2}{a b r:TV}{x y:LI3}{s1:St}(hV:Valid M D s.get w)(yM:M (.h s.heap.length)=none)
  (h:sD P t s a b=some (r,s1)) (hx:VR M.h a x) (hy:VR M.h b y) :
  s1.env=s.env∧∃z w' M',(Instr.makeSlice t x y).run P w=.ok z w'∧Na M D s.get w (.val r) s1.get [] z w' M':=by
 unfold sD at h;split at h
 case h_2=>simp at h
 rename_i e n l c yA hl hc;obtain⟨hu,hn,hn0⟩:=qK yA;obtain⟨_,li,rfl,l0,l1,rfl⟩:=QI hl hx;obtain⟨_,ci,rfl,c0,c1,rfl⟩:=QI hc hy;split at h
 case isFalse=>simp at h
 rename_i QJ;obtain⟨hlc,JU⟩:=QJ;obtain⟨i,zx,hi,hzx,hzs,C9,xM,hb3,hb4⟩:=zU JU;split at h
 case h_2=>simp at h
 rename_i z hz;split at h
 case isFalse=>simp at h
 rename_i VH;simp at h;obtain⟨rfl,rfl⟩:=h;obtain⟨i',x,v,wY,EW,_,_,hz1,hvr,hzr⟩:=vV hz;rw[hi]at wY;cases wY;have ht:=VG (hvr M.h) ci.toNat (ci.toNat*n) (by rw[VH])
 let arr:Array LI3:=(Array.range (ci.toNat*n)).map (x.cells[·%x.cells.size]!)
 have hlen:(times z ci.toNat).length=arr.size:=by have:=ht.len;simpa[arr]using this
 have pF:(times z ci.toNat).length=ci.toNat*n:=by rw[o7,VH]
 have yB:s.get (.h s.heap.length)=none:=by simp[St.get]
 have Iq:∀(i:Nat) (c:TV) (v:LI3),(times z ci.toNat)[i]? = some c->arr[i]? = some v->VR M.h c v:=fun i c v a b=>ht.at_ i c v a (by rw[adB];exact b);have gV:=Nj hV e yM yB (agH hlen) Iq (IG hz1 _);have hmul:(li.toNat)*n<=ci.toNat*n:=a3l n hlc;refine⟨rfl,.slice (some ⟨w.heap.size,0,none⟩) li.toNat ci.toNat,w.alloc (.cells arr e),dJ M (.h s.heap.length) (.cells [⟨w.heap.size,0,(times z ci.toNat).length,arr.size⟩]),?_,⟨?_,?_,?_,qJ yM⟩⟩
 .have hwl:=a0d l0 l1;have hwc:=a0d c0 c1;have EX:¬((i.bytes:Int)*ci>2^48):=by
   have e1:(ci.toNat*i.bytes:Nat)<=2^40:=C9;have e2:((i.bytes:Int)*ci)=((ci.toNat*i.bytes:Nat):Int):=by rw[Nat.mul_comm,adT,agO c0]
   omega
  simp only[Instr.makeSlice,Sem.run_bind,run_underlying hu,Result.andThen_ok,asInt,asIntOf,Sem.run_pure,iU hi,hwl,hwc];rw[a0c (by simp;exact⟨⟨⟨c0,by omega⟩,l0⟩,by omega⟩)];simp only[Sem.run_bind,run_askRoom,Result.andThen_ok,bZ hn];by_cases h0:ci.toNat*n=0
  .rw[a0g h0];have e0:arr=#[]:=Array.eq_empty_of_size_eq_zero (by omega);have e1:(Array.range (ci.toNat*n)).map ((#[]:Array LI3)[·%(#[]:Array LI3).size]!)=#[]:=by rw[h0];have e0:Array.range 0=#[]:=rfl;rw[e0];simp
   simp only[Sem.run_pure,Result.andThen_ok,e1,newRow,Sem.run_bind,run_newObj,World.alloc,e0]
  .rw[a0c h0];simp only[Sem.run_bind,hzr w,Sem.run_pure,Result.andThen_ok,newRow,run_newObj,World.alloc,arr]
 .rw[jW];exact gV.1
 .rw[jW];exact gV.2
 .refine .val (.aP (ls:=[⟨w.heap.size,0,(times z ci.toNat).length,arr.size⟩]) (p:=⟨w.heap.size,0,(times z ci.toNat).length,arr.size⟩) (by simp[Mp.h,dJ]) (by simp) (by simp[pF]) hlc (a0U _) (fun _=>rfl) (.inr ⟨by simp,by simp;omega⟩) (by omega))
theorem Yw{at_:Array LI2}{t:LI2}{v r:TV}{i:lN}{x:LI3}(hV:Valid M D s.get w)(h:Yk P at_ s.heap v=some (r,i))(hx:VR M.h v x)(hD:∀k∈i.ts,D k) :
  i.ws=[]∧∃z,VR M.h r z∧(Builtin.len_ at_ t #[x]).run P w=.ok z w:=by
 unfold Yk at h;split at h
 case h_2=>simp at h
 rename_i t0 ht0;split at h
 .rename_i b hu;simp at h;obtain⟨rfl,rfl⟩:=h;cases hx;exact⟨rfl,_,.int _ _,by simp[Builtin.len_,ht0,run_underlying hu,goInt]⟩
 .rename_i n el _ hu;simp at h;obtain⟨rfl,rfl⟩:=h;exact⟨rfl,_,.int _ _,by simp[Builtin.len_,ht0,run_underlying hu,goInt]⟩
 .rename_i el b off len cap sz ex hu;simp at h;obtain⟨rfl,rfl⟩:=h;cases hx;exact⟨rfl,_,.int _ _,by simp[Builtin.len_,ht0,run_underlying hu,goInt]⟩
 .rename_i el hu;simp at h;obtain⟨rfl,rfl⟩:=h;cases hx;exact⟨rfl,_,.int _ _,by simp[Builtin.len_,ht0,run_underlying hu,goInt]⟩
 .rename_i k el hu;simp at h;obtain⟨rfl,rfl⟩:=h;cases hx;exact⟨rfl,_,.int _ _,by simp[Builtin.len_,ht0,run_underlying hu,goInt]⟩
 .rename_i k el r0 hu;split at h
  .rename_i es he;simp at h;obtain⟨rfl,rfl⟩:=h;cases hx with
   |map hm=>
    obtain⟨fV,h1,h2⟩:=hV.ok _ _ hm (hD _ (by simp[wW]));simp only[St.get,he,a00]at h1;subst h1;obtain⟨xs,g1,g2⟩:=h2;have g2:=g2.len;refine⟨rfl,_,.int _ _,?_⟩;simp[Builtin.len_,ht0,run_underlying hu,goInt,getObj,Sem.run,g1,g2]
  .simp at h
 .simp at h
end
section
variable {P:LI1} {M:Mp} {D:Key->Prop} {w:LI4} {s:St}
theorem Cc{C:Ct}{size n:Nat}{v:TV}{l:List TV}{x:LI3}{h:List HB}(hh:∀b,C (.h b)=h[b]?)(hV:Valid M D C w)(hs:dV size h v=some (n,l))(hx:VR M.h v x)(hD:∀k∈cZ v,D k) :
  (Builtin.lenOf x).run P w=.ok n w∧(∀c∈l,iT c=true)∧∃arr,(∀w':LI4,w'.heap=w.heap->(Builtin.firstCells size n x).run P w'=.ok arr w')∧bU M.h l arr.toList:=by
 unfold dV at hs;split at hs
 .simp at hs;obtain⟨rfl,rfl⟩:=hs;cases hx;exact⟨by simp[Builtin.lenOf],by simp,#[],fun w' _=>by simp[Builtin.firstCells],.nil⟩
 .rename_i b off len cap sz ex;split at hs
  .rename_i uT;subst uT;split at hs
   .rename_i hz;subst hz;simp at hs;obtain⟨rfl,rfl⟩:=hs;cases hx with
    |aP hm hp EU hle vW hex ha hk=>
     exact⟨by simp[Builtin.lenOf],by simp,#[],fun w' _=>by simp[Builtin.firstCells,loadCells,loadCellsFrom],.nil⟩
   split at hs
   .rename_i cs hb;simp only[a05,a0i]at hs;obtain⟨r,hr,rfl,rfl⟩:=hs;cases hx with
    |aP hm hp EU hle vW hex ha hk=>
     rename_i ls p a cap';obtain⟨k,hk,VE⟩:=xI hb;obtain⟨fV,h1,h2⟩:=hV.ok _ _ hm (hD _ (by simp[cZ]));rw[hh,hk]at h1;cases h1;obtain⟨g1,g2,_⟩:=h2;obtain⟨s1,s2,s3⟩:=uj hr;refine⟨by simp[Builtin.lenOf],fun c hc=>g1 c (by rw[s2]at hc;exact a5s (a95 hc)),?_⟩;by_cases h0:cap'=0
     .have qB:len=0:=(by omega);subst qB;have:r=[]:=a3Y (by rw[s3];simp);subst this;exact⟨#[],fun w' _=>by simp[Builtin.firstCells,loadCells,loadCellsFrom],.nil⟩
     .rcases ha with ha|⟨rfl,ha⟩
      .exact absurd ha h0
      .obtain⟨xs,x1,x2⟩:=yw (P:=P) (g2 p (hp.resolve_left h0)) hr (by have:=a3l sz hle;omega) (fun e=>by have:=VE e;have:=(g2 p (hp.resolve_left h0)).ext;omega);exact⟨xs.toArray,fun w' hw'=>by simp[Builtin.firstCells,x2 w' hw'],x1⟩
   .simp at hs
  .simp at hs
 .rename_i bs;split at hs
  .rename_i uT;simp at hs;obtain⟨rfl,rfl⟩:=hs;cases hx;refine⟨by simp[Builtin.lenOf],by simp[iT],(bs.extract 0 bs.size).data.map fun b=>.int .u8 b.toNat,fun w' _=>rfl,?_⟩;refine⟨by simp,fun i c v a b=>?_⟩;simp only[a4j,a05]at a;obtain⟨y,hy,rfl⟩:=a;rw[show bs.extract 0 bs.size=bs from by simp]at b;simp only[Array.toList_map,a4j,hy,a0j,a00]at b;rw[<-b];exact .int _ _
  .simp at hs
 .simp at hs
theorem TK{size n b off len cap sz:Nat}{ex:Bool}{l:List TV}{h:List HB}(hs:dV size h (.aP b off len cap sz ex)=some (n,l)):sz=size∧n=len∧l.length=len*size:=by
 simp only[dV]at hs;split at hs
 .rename_i hz;split at hs
  .rename_i h0;cases hs;exact⟨hz,h0.symm,by simp[h0]⟩
  split at hs
  .simp only[a05,a0i]at hs;obtain⟨r,hr,rfl,rfl⟩:=hs;exact⟨hz,rfl,(uj hr).2.2⟩
  cases hs
 cases hs
theorem QK(N:Nat):∀(r c:Nat),c<=2*N+192->Builtin.growBy N r c<=2*N+192
 | 0,c,h=>by simpa[Builtin.growBy]using h
 |r+1,c,h=>by
  simp only[Builtin.growBy];split
  .exact h
  exact QK N r _ (by omega)
theorem Yx{KN c:Nat}(h:c<KN):Builtin.nextslicecap KN c<=2*KN+192:=by
 unfold Builtin.nextslicecap;split
 .omega
 split
 .omega
 exact QK KN 4 c (by omega)
theorem a8X{KN c b:Nat}(h:c<KN)(h1:KN*b<=2^40)(h2:b<=2^20):¬(Builtin.nextslicecap KN c*b>2^48):=by
 have e1:=Yx h;have e2:Builtin.nextslicecap KN c*b<=(2*KN+192)*b:=a3l b e1;have e3:(2*KN+192)*b=2*(KN*b)+192*b:=by rw[a3m,Nat.mul_assoc]
 omega
theorem vX(z:Array LI3)(n:Nat):(Builtin.zeroCells z n).size=n*z.size:=by simp[Builtin.zeroCells]
def vY:TypeDesc->Bool
 |.int _=>true
 |_=>false
theorem Yy{t:LI2}(h:¬(Tz P t||(P.underlying t).isNone)=true):∃d,P.underlying t=some d∧vY d=false:=by
 simp only[a8Q,adl,adE]at h;obtain⟨h1,h2⟩:=h;cases hu:P.underlying t with
 |none=>simp[hu]at h2
 |some d=>
  refine⟨d,rfl,?_⟩;unfold Tz at h1;rw[hu]at h1;cases d<;>simp_all [vY]
theorem EY{at_:Array LI2}{st xt e:LI2}{size n sLen sCap:Nat}{i:TypeInfo}{z sv xv:LI3}{base:Option Addr}{d:TypeDesc}{old new:Array LI3}{ty:LI2}
  (h0:at_[0]? = some st) (h1:at_[1]? = some xt) (hu:P.underlying st=some (.slice e)) (hn:dw P e=some size) (Gf:P.underlying xt=some d) (hd:vY d=false)
  (hi:P.info? e=some i) (hz:i.zero=some z) (hsv:sv=.slice base sLen sCap)
  (hl:(Builtin.lenOf xv).run P w=.ok n w) (vW:sCap<sLen+n) (C9:(sLen+n)*i.bytes<=2^40) (xM:sLen+n<=2^40) (hb3:i.bytes<=2^20)
  (hold:∀w':LI4,w'.heap=w.heap->(Builtin.firstCells size sLen sv).run P w'=.ok old w') (gV:∀w':LI4,w'.heap=w.heap->(Builtin.firstCells size n xv).run P w'=.ok new w') :
  ∃kF,sLen+n<=kF∧kF<2^63∧(Builtin.append_ at_ ty #[sv,xv]).run P w=.ok (.slice (some ⟨w.heap.size,0,none⟩) (sLen+n) kF) (w.drew.alloc (.cells (old++new++Builtin.zeroCells z.cells (kF-(sLen+n))) e)):=by
 subst hsv;refine⟨(Question.appendCap (sLen+n) sCap e).cut (w.tape w.drawn (.appendCap (sLen+n) sCap e)),by simp[Question.cut],?_,?_⟩
 .have:=Nat.mod_lt (w.tape w.drawn (.appendCap (sLen+n) sCap e)) (show 0<2^63-(sLen+n) by omega);simp only[Question.cut];omega
 have hz':∀w,(zeroValue e).run P w=.ok z w:=fun w=>by simp[zeroValue,iU hi,hz]
 have hq:(Question.appendCap (sLen+n) sCap e).forced=false:=rfl;have hle:¬(sLen+n<=sCap):=by omega
 have EX:¬(((sLen+n:Nat):Int)>i64.max):=by have:i64.max=2^63-1:=rfl;rw[this];omega
 have JU:=a8X vW C9 hb3;have e1:=hold w.drew rfl;have e2:=gV w.drew rfl;unfold Builtin.append_;simp only[adA,a2r,a9p,h0,h1];simp only[Sem.run_bind,run_underlying hu,Result.andThen_ok,bZ hn,run_underlying Gf,Sem.run_pure];rw[a0c (by cases d<;>simp_all [vY])];simp only[Sem.run_bind,hl,Result.andThen_ok];rw[a0c hle];simp only[Sem.run_bind,iU hi,Result.andThen_ok];rw[a0c (fun h=>EX h.1)];simp only[Sem.run_bind,iU hi,Result.andThen_ok];rw[a0c JU];simp only[Sem.run_bind,Sem.run_pure,run_choose,hq,a2i,a3g,Result.andThen_ok,iU hi,run_askRoom,World.drew_eq,e1];rw[a0g (by cases d<;>simp_all [vY])];simp only[Sem.run_bind,Sem.run_pure,Result.andThen_ok,e2,hz',newRow,run_newObj,World.size_drew,World.alloc_eq]
theorem QL{at_:Array LI2}{st xt e:LI2}{size n sLen sCap:Nat}{a:Addr}{sv xv:LI3}{d:TypeDesc}{new:Array LI3}{ty:LI2}{w':LI4}
  (h0:at_[0]? = some st) (h1:at_[1]? = some xt) (hu:P.underlying st=some (.slice e)) (hn:dw P e=some size) (Gf:P.underlying xt=some d) (hd:vY d=false)
  (hsv:sv=.slice (some a) sLen sCap) (hl:(Builtin.lenOf xv).run P w=.ok n w) (vW:sLen+n<=sCap)
  (gV:(Builtin.firstCells size n xv).run P w=.ok new w) (uN:(storeCells (a.add (sLen*size)) new.toList).run P w=.ok () w') :
  (Builtin.append_ at_ ty #[sv,xv]).run P w=.ok (.slice (some a) (sLen+n) sCap) w':=by
 subst hsv;unfold Builtin.append_;simp only[adA,a2r,a9p,h0,h1];simp only[Sem.run_bind,run_underlying hu,Result.andThen_ok,bZ hn,run_underlying Gf,Sem.run_pure];rw[a0c (by cases d<;>simp_all [vY])];simp only[Sem.run_bind,hl,Result.andThen_ok];rw[a0g vW];rw[a0g (by cases d<;>simp_all [vY])];simp only[Sem.run_bind,gV,Result.andThen_ok,uN,Sem.run_pure]
theorem VI{at_:Array LI2}{st xt e:LI2}{size sLen sCap:Nat}{base:Option Addr}{sv xv:LI3}{d:TypeDesc}{new:Array LI3}{ty:LI2}
  (h0:at_[0]? = some st) (h1:at_[1]? = some xt) (hu:P.underlying st=some (.slice e)) (hn:dw P e=some size) (Gf:P.underlying xt=some d) (hd:vY d=false)
  (hsv:sv=.slice base sLen sCap) (hl:(Builtin.lenOf xv).run P w=.ok 0 w) (vW:sLen<=sCap)
  (gV:(Builtin.firstCells size 0 xv).run P w=.ok new w) (iq:new.toList=[]) :
  (Builtin.append_ at_ ty #[sv,xv]).run P w=.ok sv w:=by
 subst hsv;unfold Builtin.append_;simp only[adA,a2r,a9p,h0,h1];simp only[Sem.run_bind,run_underlying hu,Result.andThen_ok,bZ hn,run_underlying Gf,Sem.run_pure];rw[a0c (by cases d<;>simp_all [vY])];simp only[Sem.run_bind,hl,Result.andThen_ok];rw[a0g (by omega)];rw[a0g (by cases d<;>simp_all [vY])];simp only[Sem.run_bind,gV,Result.andThen_ok];cases base<;>simp[iq,storeCells]
end
section
variable {P:LI1} {M:Mp} {D:Key->Prop} {w:LI4} {s:St}
def BOk(P:LI1)(M:Mp)(D:Key->Prop)(C:Ct)(w:LI4)(c:Sem LI3)(v:TV)(C1:Ct)(ws:List Key):Prop:=
 ∃x w' M',c.run P w=.ok x w'∧Na M D C w (.val v) C1 ws x w' M'
theorem Ext.drew'{M0:Mp}{C0:Ct}{w0:LI4}{M:Mp}{C:Ct}{w:LI4}{ws:List Key}(h:Ext M0 C0 w0.drew M C w ws):Ext M0 C0 w0 M C w ws:=
 ⟨h.Io,h.frame,h.nD,h.kX,h.fresh,h.size,h.has,h.wsub,h.wrote,h.os,h.output,h.tape⟩
theorem bU.TL{N:Np}{l:List TV}{arr:Array LI3}(h:bU N l arr.toList){i:Nat}{c:TV}{v:LI3}(a:l[i]? = some c)(b:arr[i]? = some v):VR N c v:=
 h.at_ i c v a (by rw[adB];exact b)
theorem VJ(hV:Valid M D s.get w)(yM:M (.h s.heap.length)=none){cs:List TV}{pre rest:Array LI3}{e:LI2}(hx:bU M.h cs pre.toList)(hn:∀c∈cs,iT c=true)
  {len kF size:Nat} (QM:cs.length=len*size) (hle:len<=kF) (hk:kF<2^63) (Nu:rest.size=(kF-len)*size) :
  ∃M',Na M D s.get w (.val (.aP s.heap.length 0 len len size false)) (St.get { s with heap:=s.heap++[.cells .own cs] }) [] (.slice (some ⟨w.heap.size,0,none⟩) len kF) (w.drew.alloc (.cells (pre++rest) e)) M':=by
 have yB:s.get (.h s.heap.length)=none:=by simp[St.get]
 have FT:pre.size=cs.length:=by have:=hx.len;simp at this;omega
 have amT:(pre++rest).size=kF*size:=by
  have:len*size+(kF-len)*size=kF*size:=by rw[<-a3m];congr 1;omega
  simp;omega
 have hmul:len*size<=kF*size:=a3l size hle;have Yz:Valid M D s.get w.drew:=hV.of_heap rfl;have gV:=Nj Yz (cs:=cs) (arr:=pre++rest) e yM yB (by omega) (fun i c v a b=>by have hi:=(a01.1 a).1;rw[a9N (by omega)]at b;exact hx.TL a b) hn
 refine⟨dJ M (.h s.heap.length) (.cells [⟨w.heap.size,0,cs.length,(pre++rest).size⟩]),⟨?_,?_,?_,qJ yM⟩⟩
 .rw[jW];exact gV.1
 .rw[jW];exact gV.2.drew'
 .exact .val (.aP (ls:=[⟨w.heap.size,0,cs.length,(pre++rest).size⟩]) (p:=⟨w.heap.size,0,cs.length,(pre++rest).size⟩) (by simp[Mp.h,dJ]) (by simp) (by simp[QM]) (a0U _) hle (fun h=>by simp at h) (.inr ⟨by simp,by simp only[a3T];omega⟩) hk)
theorem Ew:∀{ls:List Pl},(ls.map (·.c)).Nodup->∀{p q:Pl},p∈ls->q∈ls->q.c=p.c->q=p
 | [],_,p,q,hp,_,_=>by simp at hp
 |a::ls,h,p,q,hp,hq,e=>by
  simp only[a4c,a4k]at h;rcases a2d.1 hp with h1|h1<;>rcases a2d.1 hq with h2|h2
  .rw[h1,h2]
  .exact(h.1 (a1g.2 ⟨q,h2,by rw[e,h1]⟩)).elim
  .exact(h.1 (a1g.2 ⟨p,h1,by rw[<-e,h2]⟩)).elim
  exact Ew h.2 h1 h2 e
theorem a0e(hV:Valid M D s.get w){b:Nat}{k:BK}{cs new:List TV}{ls:List Pl}{p:Pl}{x:Array LI3}(hm:M (.h b)=some (.cells ls))(hd:D (.h b))(hb:s.heap[b]? = some (.cells k cs))
  (hk:k≠.ro) (hp:p∈ls) (EU:cs.length<=p.ext) (hx:bU M.h new x.toList) (hn:∀c∈new,iT c=true) (iq:new≠[]) {w':LI4}
  (fl:Bool) (old rest:Array LI3) (ty0:LI2)
  (hw:(fl=true∧cs.length+new.length<=p.tot∧(storeCells ⟨p.c,cs.length,none⟩ x.toList).run P w=.ok () w') ∨
   (fl=false∧bU M.h cs old.toList∧w'=w.drew.alloc (.cells (old++x++rest) ty0))) :
  ∃M' q,Valid M' D (St.get { s with heap:=s.heap.set b (.cells k.more (cs++new)) }) w'∧Ext M s.get w M' (St.get { s with heap:=s.heap.set b (.cells k.more (cs++new)) }) w' [.h b] ∧
   (∀j l,M (.l j)=some l->M' (.l j)=some l)∧(∃xH,M' (.h b)=some (.cells xH)∧q∈xH)∧cs.length+new.length<=q.ext∧q.base=0 ∧
   ((fl=true∧q.c=p.c∧q.tot=p.tot)∨(fl=false∧q.c=w.heap.size∧q.tot=(old++x++rest).size)):=by
 have hg:s.get (.h b)=some (.cells k cs):=by simp[St.get,hb]
 have yO:=(a01.1 hb).1;obtain⟨fV,h1,h2⟩:=hV.ok _ _ hm hd;rw[hg]at h1;cases h1;obtain⟨ho,FT,ahq,a0f⟩:=h2;have hxl:=hx.len;simp only[a9z]at hxl;have jy:(ls.map (·.c)).Nodup:=by
  cases k with
  |ro=>exact absurd rfl hk
  |own=>obtain⟨q,rfl,_⟩:=ahq rfl;simp
  |grow=>exact(a0f (.inl rfl)).1
  |last=>exact(a0f (.inr rfl)).1
 have ara:∀q∈ls,q.ext=cs.length->q=p:=by
  intro q hq he;cases k with
  |ro=>exact absurd rfl hk
  |own=>
   obtain⟨q',e',_⟩:=ahq rfl;rw[e']at hp hq;simp at hp hq;rw[hq,hp]
  |grow=>
   have:=(FT p hp).ext;exact(a0f (.inl rfl)).2 q hq p hp he (by omega)
  |last=>
   have:=(FT p hp).ext;exact(a0f (.inr rfl)).2 q hq p hp he (by omega)
 have hpe:p.ext=cs.length:=by have:=(FT p hp).ext;omega
 have hpb:p.base=0:=(FT p hp).base hk;have hmr:k.more≠.own:=by cases k<;>simp[BK.more]
 have hml:k.more=.last->k=.last:=by cases k<;>simp[BK.more]
 have ES:∀c∈cs++new,iT c=true:=by
  intro c hc;rcases a3k.1 hc with h|h
  .exact ho c h
  .exact hn c h
 rcases hw with⟨hfl,JU,uN⟩|⟨hfl,hold,rfl⟩
 .-- in place
  let p':Pl:={ p with ext:=cs.length+new.length }
  let xH:List Pl:=ls.map fun q=>if q.c=p.c then p' else q
  have hqp:∀q∈ls,q.c=p.c->q=p:=by intro q hq he;exact Ew jy hp hq he
  have hp':p'∈xH:=a1g.2 ⟨p,hp,by simp⟩;have a4G:xH.map (·.c)=ls.map (·.c):=by
   simp only[xH,a7m];apply a5m;intro q hq;simp only[Function.comp];split
   .rename_i he;exact he.symm
   .rfl
  have hlc:KI (.cells ls) (.cells xH):=by
   intro q hq;by_cases he:q.c=p.c
   .have:=hqp q hq he;subst this;exact⟨p',hp',rfl,rfl,by simp[p'];omega,rfl⟩
   .exact⟨q,a1g.2 ⟨q,hq,by simp[he]⟩,rfl,rfl,a0U _,rfl⟩
  obtain⟨arr,ty,fz,r1,r2,r3,r4⟩:=(FT p hp).row;have:=r3 hk;subst this;have aht:∀v∈x.toList,v.oneCell'=true:=by
   intro v hv;obtain⟨i,hi,rfl⟩:=a4v.1 hv;have wY:i<new.length:=by simp at hi;omega
   exact Iz (hx.at_ i new[i] x.toList[i] (by simp[wY]) (by simp)) (hn _ (a4q wY))
  have vw:=run_storeCells_at (P:=P) p.c cs.length ty x.toList 0 arr w r1 (by simp;omega) aht;simp only[adz,a9z]at vw;rw[vw]at uN;have an0:=Result.ok.inj uN;obtain⟨_,rfl⟩:=an0
  let w':LI4:=w.setRow p.c (arr.toList.take cs.length++x.toList++arr.toList.drop (cs.length+x.size)).toArray
  have gq:∀c,c<w.heap.size->c∉aI (.cells xH)->w'.heap[c]? = w.heap[c]?:=fun c _ hc=>vk w p.c _ c (fun e=>hc (by rw[e];exact a1g.2 ⟨p',hp',rfl⟩));have gV:∀c∈aI (.cells xH),(∃l0,M (.h b)=some l0∧c∈aI l0)∨w.heap.size<=c:=fun c hc=>.inl ⟨_,hm,by simp only[aI]at hc ⊢;rwa [a4G]at hc⟩;have IE:rX M (dJ M (.h b) (.cells xH)):=lU fun l0 h0=>by rw[hm]at h0;cases h0;exact hlc
  have VK:∀i,(arr.toList.take cs.length++x.toList++arr.toList.drop (cs.length+x.size)).toArray[i]? = if i<cs.length then arr[i]? else if i<cs.length+x.size then x[i-cs.length]? else arr[i]?:=by intro i;have:=Vz (arr:=arr) (off:=cs.length) (xs:=x.toList) i (by simp;omega);simpa using this
  have QB:pz (dJ M (.h b) (.cells xH)).h w' (.cells k.more (cs++new)) (.cells xH):=by
   refine⟨ES,fun q hq=>?_,fun e=>absurd e hmr,fun _=>⟨by rw[a4G];exact jy,fun q1 Ip q2 G5 e1 e2=>?_⟩⟩
   .obtain⟨q0,hq0,rfl⟩:=a1g.1 hq;by_cases he:q0.c=p.c
    .simp only[he,a1U];refine⟨⟨_,ty,(0,0),Nc w p.c _ arr ty (0,0) r1,by simp[p'];omega,fun _=>rfl,fun _ i c v hi a b=>?_⟩,by simp[p',hpb];omega,by simp[p'],fun _=>hpb⟩;simp only[p',hpb,a3T]at b hi;rw[VK i]at b;by_cases h1:i<cs.length
     .rw[a0g h1]at b;rw[a0b h1]at a;exact(r4 (fun _=>hpe) i c v (by omega) a (by simpa[hpb]using b)).mono IE.h
     .rw[a0c h1,a0g (by omega)]at b;rw[a0S (by omega)]at a;exact(hx.TL a b).mono IE.h
    .simp only[he,a3g];have Ip:=FT q0 hq0;obtain⟨uM,ty',fz',t1,t2,t3,t4⟩:=Ip.row;refine⟨⟨uM,ty',fz',(vk w p.c _ q0.c he).trans t1,t2,fun _=>t3 hk,fun hz i c v hi a b=>?_⟩,Ip.fit,by have:=Ip.ext;simp;omega,fun _=>Ip.base hk⟩;have:=Ip.ext;rw[a0b (by omega)]at a;exact(t4 (fun e=>by have:=hz (by rw[e];rfl);have:0<new.length:=a9A.2 iq;simp at *;omega) i c v hi a b).mono IE.h
   .have aux:∀q∈xH,q.ext=(cs++new).length->new≠[]->q=p':=by
     intro q hq e iq;obtain⟨q0,hq0,rfl⟩:=a1g.1 hq;by_cases he:q0.c=p.c
     .simp[he]
     .simp only[he,a3g]at e;have:=(FT q0 hq0).ext;have:0<new.length:=a9A.2 iq;simp at e;omega
    rw[aux q1 Ip e1 iq,aux q2 G5 e2 iq]
  refine⟨dJ M (.h b) (.cells xH),p',?_,?_,?_,⟨xH,by simp[dJ],hp'⟩,a0U _,hpb,.inl ⟨hfl,rfl,rfl⟩⟩
  .rw[jw s b _ yO];exact hV.upd (.h b) _ _ (fun j hj=>.inl hj) (fun l0 h0=>by rw[hm]at h0;cases h0;exact⟨hd,hlc,fun b0 zL=>by rw[hg]at zL;cases zL;cases k<;>simp_all [wr]⟩) gq gV (by simp) QB
  .rw[jw s b _ yO];exact Ext.upd (.h b) _ _ [.h b] (.inl ⟨by simp[hg],rfl,by simp[hm],fun b0 zL=>by rw[hg]at zL;cases zL;cases k<;>simp_all [wr]⟩) IE gq gV (by simp) rfl rfl rfl
  .intro j l hj;simp[dJ,hj]
 .-- a new row
  let p':Pl:=⟨w.heap.size,0,cs.length+new.length,(old++x++rest).size⟩
  let xH:List Pl:=p'::ls
  let w':LI4:=w.drew.alloc (.cells (old++x++rest) ty0)
  have QN:=hold.len;simp only[a9z]at QN;have aT:∀q∈ls,q.c<w.heap.size:=fun q hq=>hV.inb _ _ hm q.c (a1g.2 ⟨q,hq,rfl⟩);have hlc:KI (.cells ls) (.cells xH):=fun q hq=>⟨q,a2P _ hq,rfl,rfl,a0U _,rfl⟩;have gq:∀c,c<w.heap.size->c∉aI (.cells xH)->w'.heap[c]? = w.heap[c]?:=fun c hc _=>vU w.drew _ c hc;have gV:∀c∈aI (.cells xH),(∃l0,M (.h b)=some l0∧c∈aI l0)∨w.heap.size<=c:=by
   intro c hc;simp only[aI,xH,a4c,a2d]at hc;rcases hc with rfl|hc
   .exact .inr (a0U _)
   .exact .inl ⟨_,hm,hc⟩
  have IE:rX M (dJ M (.h b) (.cells xH)):=lU fun l0 h0=>by rw[hm]at h0;cases h0;exact hlc
  have QB:pz (dJ M (.h b) (.cells xH)).h w' (.cells k.more (cs++new)) (.cells xH):=by
   refine⟨ES,fun q hq=>?_,fun e=>absurd e hmr,fun _=>⟨?_,fun q1 Ip q2 G5 e1 e2=>?_⟩⟩
   .rcases a2d.1 hq with rfl|hq
    .refine⟨⟨_,ty0,(0,0),heap_alloc_new w.drew _,rfl,fun _=>rfl,fun _ i c v hi a b=>?_⟩,by simp[p'];omega,by simp[p'],fun _=>rfl⟩;simp only[p',a3T]at b hi;by_cases h1:i<cs.length
     .rw[a0b h1]at a;rw[Array.append_assoc,a9N (by omega)]at b;exact(hold.TL a b).mono IE.h
     .rw[a0S (by omega)]at a;rw[Array.append_assoc,Array.getElem?_append_right (by omega),a9N (by omega),<-QN]at b;exact(hx.TL a b).mono IE.h
    .have Ip:=FT q hq;obtain⟨uM,ty',fz',t1,t2,t3,t4⟩:=Ip.row;refine⟨⟨uM,ty',fz',(vU w.drew _ q.c (aT q hq)).trans t1,t2,fun _=>t3 hk,fun hz i c v hi a b=>?_⟩,Ip.fit,by have:=Ip.ext;simp;omega,fun _=>Ip.base hk⟩;have:=Ip.ext;rw[a0b (by omega)]at a;exact(t4 (fun e=>by have:=hz (by rw[e];rfl);have:0<new.length:=a9A.2 iq;simp at *;omega) i c v hi a b).mono IE.h
   .simp only[xH,a4c,a4k];refine⟨fun a8Y=>?_,jy⟩;obtain⟨q,hq,he⟩:=a1g.1 a8Y;have:=aT q hq;simp only[p']at he;omega
   .have ahu:0<new.length:=a9A.2 iq;have aux:∀q∈xH,q.ext=(cs++new).length->q=p':=by
     intro q hq e;rcases a2d.1 hq with rfl|hq
     .rfl
     .have:=(FT q hq).ext;simp at e;omega
    rw[aux q1 Ip e1,aux q2 G5 e2]
  refine⟨dJ M (.h b) (.cells xH),p',?_,?_,?_,⟨xH,by simp[dJ],a2O⟩,a0U _,rfl,.inr ⟨hfl,rfl,rfl⟩⟩
  .rw[jw s b _ yO];exact hV.upd (.h b) _ _ (fun j hj=>.inl hj) (fun l0 h0=>by rw[hm]at h0;cases h0;exact⟨hd,hlc,fun b0 zL=>by rw[hg]at zL;cases zL;cases k<;>simp_all [wr]⟩) gq gV (by simp) QB
  .rw[jw s b _ yO];exact Ext.upd (.h b) _ _ [.h b] (.inl ⟨by simp[hg],rfl,by simp[hm],fun b0 zL=>by rw[hg]at zL;cases zL;cases k<;>simp_all [wr]⟩) IE gq gV (by simp) rfl rfl rfl
  .intro j l hj;simp[dJ,hj]
end
section
variable {P:LI1} {M:Mp} {D:Key->Prop} {w:LI4} {s:St}
theorem II{at_:Array LI2}{ty:LI2}{d x r:TV}{s1:St}{i:lN}{dv xv:LI3}(hV:Valid M D s.get w)(yM:M (.h s.heap.length)=none)
  (h:jc P at_ s d x=some (r,s1,i)) (hd:VR M.h d dv) (hx:VR M.h x xv) (hD:∀k∈i.ts,D k) :
  s1.env=s.env∧BOk P M D s.get w (Builtin.append_ at_ ty #[dv,xv]) r s1.get i.ws:=by
 unfold jc at h;split at h
 case h_2=>simp at h
 rename_i st xt h0 h1;split at h
 .simp at h
 rename_i hint;obtain⟨dd,Gf,hdd⟩:=Yy hint;split at h
 case h_2=>simp at h
 rename_i e size yA;obtain⟨hu,hn,hn0⟩:=qK yA;split at h
 case h_2=>simp at h
 rename_i n new lW;split at h
 .-- nothing
  rename_i hz;subst hz;have key:∀(base:Option Addr) (l c:Nat),dv=.slice base l c->l<=c->(∀k∈cZ x,D k)->(Builtin.append_ at_ ty #[dv,xv]).run P w=.ok dv w:=by
   intro base l c e hlc hDk;obtain⟨s1',s2',arr,TM,s4'⟩:=Cc (P:=P) (fun b=>rfl) hV lW hx hDk;refine VI h0 h1 hu hn Gf hdd e s1' hlc (TM w rfl) ?_;have a4H:new=[]:=by
    unfold dV at lW;split at lW
    .simp at lW;exact lW
    .split at lW
     .split at lW
      .simpa using lW
      split at lW
      .simp only[a05,a0i]at lW;obtain⟨r',hr',e1,e2⟩:=lW;subst e2;exact a3Y (by rw[(uj hr').2.2,e1];simp)
      .simp at lW
     .simp at lW
    .split at lW
     .simp at lW;obtain⟨e1,e2⟩:=lW;rw[<-e2];rename_i bs _;have:bs.data.toList=[]:=a3Y (by simpa using e1);simp[this]
     .simp at lW
    .simp at lW
   rw[a4H]at s4';exact s4'.pR
  split at h
  .simp at h;obtain⟨rfl,rfl,rfl⟩:=h;have YA:=hd;cases hd;exact⟨rfl,_,w,M,key none 0 0 rfl (a0U _) hD,.same hV (.val YA)⟩
  .split at h
   .simp at h;obtain⟨rfl,rfl,rfl⟩:=h;have YA:=hd;cases hd with
    |aP hb hp EU hle vW hex ha hk=>
     exact⟨rfl,_,w,M,key _ _ _ rfl (by omega) hD,.same hV (.val YA)⟩
   .simp at h
  .simp at h
 rename_i hz;split at h
 case isFalse=>simp at h
 rename_i hlen;have abx:new≠[]:=by intro e;have:0<n*size:=Nat.mul_pos (by omega) hn0;rw[e]at hlen;simp only[a4Q]at hlen;omega
 split at h
 .-- nil
  split at h
  case isFalse=>simp at h
  rename_i JU;simp at h;obtain⟨rfl,rfl,rfl⟩:=h;obtain⟨inf,z,hi,hiz,hzs,C9,xM,hb3,hb4⟩:=zU JU;obtain⟨s1',s2',arr,TM,s4'⟩:=Cc (P:=P) (fun b=>rfl) hV lW hx hD;have uT:inf.size=size:=by obtain⟨i',e1,e2⟩:=EP hn;rw[hi]at e1;cases e1;exact e2
  cases hd;obtain⟨kF,c1,c1',c2⟩:=EY (P:=P) (w:=w) (ty:=ty) (base:=none) (sLen:=0) (sCap:=0) (old:=#[]) (new:=arr) h0 h1 hu hn Gf hdd hi hiz rfl s1' (by omega) (by simpa using C9) (by omega) hb3
   (fun w' hw'=>by simp[Builtin.firstCells]) TM
  simp only[a3T]at c1 c2;obtain⟨M',hp⟩:=VJ (size:=size) (len:=n) (rest:=Builtin.zeroCells z.cells (kF-n)) (e:=e) (pre:=#[]++arr) hV yM (by simpa using s4') s2' hlen c1 c1' (by rw[vX,hzs,uT]);exact⟨rfl,_,_,M',c2,hp⟩
 .-- a slice
  rename_i b off len cap sz ex;split at h
  case isFalse=>simp at h
  rename_i adG;subst adG;have hd0:=hd;cases hd with
  |aP hb hp EU hle vW hex ha hk=>
  rename_i ls p a cap';split at h
  .-- room
   rename_i an6;simp only[a05,a0i]at h;obtain⟨hp',EZ,rfl,rfl,rfl⟩:=h;obtain⟨kk,Bc,cs,cs',hbc,xJ,ho,rfl⟩:=IC EZ;have hDs:∀k∈cZ x,D k:=fun k hk=>hD k (a2P _ hk);obtain⟨s1',s2',arr,TM,s4'⟩:=Cc (P:=P) (fun b=>rfl) hV lW hx hDs;have hg:s.get (.h b)=some (.cells kk cs):=(by simp[St.get,hbc]);have yO:=(a01.1 hbc).1;rcases ha with ha|⟨rfl,ha⟩
   .omega
   have hDb:=hD (.h b) (by simp);have hp:=hp.resolve_left (by omega);obtain⟨w',r1,r2,r3⟩:=yL (P:=P) hV hb hDb hg hp (hV.Yo hb hDb hg hp EU xJ) ho s4' s2';obtain⟨o1,o2,o3⟩:=vJ ho;have hmul:len*sz+n*sz=(len+n)*sz:=(by rw[a3m]);refine⟨rfl,_,w',M,QL (P:=P) (w:=w) (ty:=ty) (a:=⟨p.c,p.base+off,none⟩) h0 h1 hu hn Gf hdd rfl s1' (by omega) (TM w rfl) (by rw[uh,a9G];exact r1),⟨?_,?_,?_,fun _ _ h=>h⟩⟩
   .rw[jw s b _ yO];exact⟨fun k l hk hd=>r2.ok k l hk (hd.elim id fun⟨x1,x2⟩=>by
      simp only[lJ]at x2;split at x2
      .rename_i e;subst e;rw[hg]at x1;cases x1
      .simp[x1]at x2),fun k k' l l' b' a1 a2 a3 hd=>r2.own k k' l l' b' a1 a2 a3 (hd.elim id fun⟨x1,x2⟩=>by
      simp only[lJ]at x2;split at x2
      .rename_i e;subst e;rw[hg]at x1;cases x1
      .simp[x1]at x2),r2.inb⟩
   .rw[jw s b _ yO];exact r3
   .exact .val (.aP hb (.inr hp) (by omega) (by omega) vW hex (.inr ⟨rfl,ha⟩) hk)
  .rename_i an6;split at h
   case isFalse=>simp at h
   rename_i JU;obtain⟨inf,z,hi,hiz,hzs,C9,xM,hb3,hb4⟩:=zU JU;have uT:inf.size=sz:=by obtain⟨i',e1,e2⟩:=EP hn;rw[hi]at e1;cases e1;exact e2
   have hmul:len*sz+n*sz=(len+n)*sz:=(by rw[a3m]);split at h
   .-- exact: always a new row
    rename_i ahw;have Nv:=hex ahw;simp only[a05,a0i]at h;obtain⟨⟨l0,old⟩,qp,rfl,rfl,rfl⟩:=h;obtain⟨_,qB,hold⟩:=TK qp;rw[qB]at qp;have hDs:∀k∈cZ x,D k:=fun k hk=>hD k (a2P _ hk);obtain⟨s1',s2',arr,TM,s4'⟩:=Cc (P:=P) (fun b=>rfl) hV lW hx hDs;obtain⟨t1',t2',a4I,t3',t4'⟩:=Cc (P:=P) (fun b=>rfl) hV qp hd0 (fun k hk=>hD k (by simp[cZ]at hk;simp[hk,fJ]));obtain⟨kF,c1,c1',c2⟩:=EY (P:=P) (w:=w) (ty:=ty) (base:=some a) (sLen:=len) (sCap:=cap') (old:=a4I) (new:=arr) h0 h1 hu hn Gf hdd hi hiz rfl s1' (by omega) C9 xM hb3 t3' TM;obtain⟨M',ahx⟩:=VJ (size:=sz) (len:=len+n) (rest:=Builtin.zeroCells z.cells (kF-(len+n))) (e:=e) (pre:=a4I++arr) hV yM (by simpa using t4'.append s4') (fun c hc=>(a3k.1 hc).elim (t2' c) (s2' c)) (by simp[hold,hlen,hmul]) c1 c1' (by rw[vX,hzs,uT]);exact⟨rfl,_,_,M',c2,ahx⟩
   .-- it grows
    split at h
    case h_2=>simp at h
    rename_i ahw _ k cs hbc;split at h
    .simp at h
    .rename_i QJ;simp only[adl,ne_eq,Decidable.not_not]at QJ;have hkc:=hk;obtain⟨hk,rfl,rfl,pF,qB⟩:=QJ;have hp:=hp.resolve_left (by omega);simp only[a00,a0i]at h;obtain⟨rfl,rfl,rfl⟩:=h;have hDs:∀k∈cZ x,D k:=fun k hk=>hD k (a2P _ hk);have hDb:=hD (.h b) (by simp);obtain⟨s1',s2',arr,TM,s4'⟩:=Cc (P:=P) (fun b=>rfl) hV lW hx hDs;have hg:s.get (.h b)=some (.cells k cs):=(by simp[St.get,hbc]);have hnb:∀(M':Mp) (w':LI4),Valid M' D (St.get { s with heap:=s.heap.set b (.cells k.more (cs++new)) }) w' ->
       Valid M' (fun j=>D j∨(s.get j=none∧(St.get { s with heap:=s.heap.set b (.cells k.more (cs++new)) } j).isSome=true)) (St.get { s with heap:=s.heap.set b (.cells k.more (cs++new)) }) w':=by
      intro M' w' hv;have aux:∀j,(D j∨(s.get j=none∧(St.get { s with heap:=s.heap.set b (.cells k.more (cs++new)) } j).isSome=true))->D j:=by
       intro j hj;rcases hj with hj|⟨x1,x2⟩
       .exact hj
       .rw[jw s b _ (a01.1 hbc).1]at x2;simp only[lJ]at x2;split at x2
        .rename_i e;subst e;exact hDb
        .simp[x1]at x2
      exact⟨fun k l hk hd=>hv.ok k l hk (aux k hd),fun k k' l l' b' a1 a2 a3 hd=>hv.own k k' l l' b' a1 a2 a3 (aux k hd),hv.inb⟩
     have arf:arr.size=n*sz:=by have:=s4'.len;simp at this;omega
     have ahy:p.base=0∧p.ext<=cs.length:=by obtain⟨fV,q1,q2⟩:=hV.ok _ _ hb hDb;rw[hg]at q1;cases q1;exact⟨(q2.2.1 p hp).base hk,(q2.2.1 p hp).ext⟩
     by_cases Ey:len+n<=cap'
     .-- in place
      rcases ha with ha|⟨rfl,ha⟩
      .omega
      have abw:(len+n)*sz<=cap'*sz:=a3l sz Ey;have ES:∀v∈arr.toList,v.oneCell'=true:=by
       intro v hv;obtain⟨i,hi,rfl⟩:=a4v.1 hv;have wY:i<new.length:=by simp at hi;omega
       exact Iz (s4'.at_ i new[i] arr.toList[i] (by simp[wY]) (by simp)) (s2' _ (a4q wY))
      obtain⟨fV,q1,q2⟩:=hV.ok _ _ hb hDb;rw[hg]at q1;cases q1;obtain⟨row,rty,rfz,z1,z2,z3,z4⟩:=(q2.2.1 p hp).row;have:=z3 hk;subst this;have vw:=run_storeCells_at (P:=P) p.c cs.length rty arr.toList 0 row w z1 (by simp;omega) ES;obtain⟨M',q,v1,v2,v3,⟨xH,v4,v5⟩,v6,v7,v8⟩:=a0e (P:=P) hV hb hDb hbc hk hp (by omega) s4' s2' abx true #[] #[] 0 (.inl ⟨rfl,by omega,vw⟩);rcases v8 with⟨_,v9,v10⟩|⟨v9,_⟩
      .refine⟨rfl,_,_,M',QL (P:=P) (w:=w) (ty:=ty) (a:=⟨p.c,p.base+0,none⟩) h0 h1 hu hn Gf hdd rfl s1' Ey (TM w rfl) (by rw[uh,ahy.1];simp only[a3T,adz];rw[<-pF];exact vw),⟨hnb _ _ v1,v2,?_,v3⟩⟩;refine .val (.aP v4 (.inr v5) (by omega) (a0U _) Ey (fun h=>by simp at h) (.inr ⟨by rw[v9,v7,ahy.1],by rw[v7,v10];omega⟩) hkc)
      .cases v9
     .-- a new row
      have qp:dV sz s.heap (.aP b 0 len len sz ex)=some (len,cs):=by
       have:sub cs 0 (len*sz)=some cs:=by unfold sub;rw[a0g (by omega)];simp[<-pF]
       simp[dV,lQ,hbc,this,pF,qB]
      obtain⟨t1',t2',a4I,t3',t4'⟩:=Cc (P:=P) (fun b=>rfl) hV qp hd0 (fun k hk=>by simp[cZ]at hk;rw[hk];exact hDb);obtain⟨kF,c1,c1',c2⟩:=EY (P:=P) (w:=w) (ty:=ty) (base:=some a) (sLen:=len) (sCap:=cap') (old:=a4I) (new:=arr) h0 h1 hu hn Gf hdd hi hiz rfl s1' (by omega) C9 xM hb3 t3' TM;obtain⟨M',q,v1,v2,v3,⟨xH,v4,v5⟩,v6,v7,v8⟩:=a0e (P:=P) hV hb hDb hbc hk hp (by omega) s4' s2' abx false a4I (Builtin.zeroCells z.cells (kF-(len+n))) e (.inr ⟨rfl,t4',rfl⟩);rcases v8 with⟨v9,_⟩|⟨_,v10,v11⟩
      .cases v9
      .refine⟨rfl,_,_,M',c2,⟨hnb _ _ v1,v2,?_,v3⟩⟩;refine .val (.aP v4 (.inr v5) (by omega) (a0U _) c1 (fun h=>by simp at h) (.inr ⟨by rw[v10,v7],?_⟩) c1');rw[v11,v7];have QN:=t4'.len;simp only[a9z]at QN;have hm3:(len+n)*sz+(kF-(len+n))*sz=kF*sz:=by rw[<-a3m];congr 1;omega
       simp only[Array.size_append,vX,hzs,uT];omega
 .simp at h
end
section
variable {P:LI1} {M:Mp} {D:Key->Prop} {w:LI4} {s:St}
theorem a4K{cs l:List TV}{off n m:Nat}(h:sub cs off n=some l)(hm:m<=n):sub cs off m=some (l.take m):=by obtain⟨h1,h2,h3⟩:=uj h;unfold sub;rw[a0g (by omega),h2,afb,a7F hm]
theorem TN{at_:Array LI2}{ty:LI2}{d x r:TV}{s1:St}{i:lN}{dv xv:LI3}(hV:Valid M D s.get w)
  (h:FY P at_ s d x=some (r,s1,i)) (hd:VR M.h d dv) (hx:VR M.h x xv) (hD:∀k∈i.ts,D k) :
  s1.env=s.env∧BOk P M D s.get w (Builtin.copy_ at_ ty #[dv,xv]) r s1.get i.ws:=by
 unfold FY at h;split at h
 case h_2=>simp at h
 rename_i st h0;split at h
 case h_2=>simp at h
 rename_i e size yA;obtain⟨hu,hn,hn0⟩:=qK yA;split at h
 case h_2=>simp at h
 rename_i n new lW;split at h
 case isFalse=>simp at h
 rename_i hlen;obtain⟨hlen,Nw⟩:=hlen;have first:∀(m:Nat),m<=n->(∀k∈cZ x,D k)->(Builtin.lenOf xv).run P w=.ok n w∧(∀c∈new.take (m*size),iT c=true) ∧
   ∃arr,(Builtin.firstCells size m xv).run P w=.ok arr w∧bU M.h (new.take (m*size)) arr.toList:=by
  intro m hm hDs;obtain⟨s1',s2',arr,TM,s4'⟩:=Cc (P:=P) (fun b=>rfl) hV lW hx hDs;refine⟨s1',fun c hc=>s2' c (a95 hc),?_⟩;have hmul:m*size<=n*size:=a3l size hm;cases hx with
  |TD=>
   unfold dV at lW;simp at lW;obtain⟨rfl,rfl⟩:=lW;exact⟨#[],by simp[Builtin.firstCells],by simpa using bU.nil⟩
  |aP hb hp EU hle vW hex ha hk=>
   rename_i b off len cap sz ex ls p a cap';unfold dV at lW;simp only at lW;split at lW
   case isFalse=>simp at lW
   rename_i uT;subst uT;split at lW
   .rename_i hz;simp at lW;obtain⟨rfl,rfl⟩:=lW;have:m=0:=(by omega);subst this;exact⟨#[],by simp[Builtin.firstCells,loadCells,loadCellsFrom],by simpa using bU.nil⟩
   split at lW
   case h_2=>simp at lW
   rename_i cs hbc;simp only[a05,a0i]at lW;obtain⟨r',hr,rfl,rfl⟩:=lW;obtain⟨k,hk,VE⟩:=xI hbc;obtain⟨fV,h1,h2⟩:=hV.ok _ _ hb (hDs _ (by simp[cZ]));simp only[St.get,hk,a00]at h1;subst h1;by_cases h00:cap'=0
   .have qB:len=0:=(by omega);subst qB;have:m=0:=(by omega);subst this;exact⟨#[],by simp[Builtin.firstCells,loadCells,loadCellsFrom],by simpa using bU.nil⟩
   .rcases ha with ha|⟨rfl,ha⟩
    .exact absurd ha h00
    .obtain⟨xs,x1,x2⟩:=yw (P:=P) (h2.2.1 p (hp.resolve_left h00)) (a4K hr hmul) (by have:=a3l sz hle;omega) (fun e=>by have:=VE e;have:=(h2.2.1 p (hp.resolve_left h00)).ext;omega);exact⟨xs.toArray,by simp[Builtin.firstCells,x2 w rfl],x1⟩
  |str bs=>simp[isStr]at Nw
  |_=>simp[dV]at lW
 split at h
 .simp at h;obtain⟨rfl,rfl,rfl⟩:=h;cases hd;obtain⟨f1,f2,arr,f3,f4⟩:=first 0 (a4E _) hD
  have f5:=f4.len;simp at f5;exact⟨rfl,.int .i64 0,w,M,by simp[Builtin.copy_,h0,run_underlying hu,f1,bZ hn,f3,goInt],.same hV (.val (.int _ _))⟩
 .rename_i b off len cap sz ex;split at h
  case isFalse=>simp at h
  rename_i uT;subst uT;have hd0:=hd;cases hd with
  |aP hb hp EU hle vW hex ha hk=>
  rename_i ls p a cap';split at h
  .rename_i hm;simp at h;obtain⟨rfl,rfl,rfl⟩:=h;obtain⟨f1,f2,arr,f3,f4⟩:=first 0 (a4E _) hD
   have f5:arr.toList=[]:=by have:=f4.len;simp only[abT,List.take_zero,a4Q]at this;exact a3Y this.symm
   refine⟨rfl,.int .i64 0,w,M,?_,.same hV (.val (.int _ _))⟩;have e1:Nat.min n len=0:=hm;simp[Builtin.copy_,h0,run_underlying hu,f1,bZ hn,e1,f3,goInt,f5,storeCells]
  .rename_i hm;simp only[a05,a0i]at h;obtain⟨hp',EZ,rfl,rfl,rfl⟩:=h;obtain⟨kk,Bc,cs,cs',hbc,xJ,ho,rfl⟩:=IC EZ;obtain⟨f1,f2,arr,f3,f4⟩:=first (min n len) (Nat.min_le_left _ _) (fun k hk=>hD k (a2P _ hk))
   have hg:s.get (.h b)=some (.cells kk cs):=(by simp[St.get,hbc]);have yO:=(a01.1 hbc).1;rcases ha with ha|⟨rfl,ha⟩
   .omega
   obtain⟨w',r1,r2,r3⟩:=yL (P:=P) hV hb (hD (.h b) (by simp)) hg (hp.resolve_left (by omega)) (hV.Yo hb (hD (.h b) (by simp)) hg (hp.resolve_left (by omega)) EU xJ) ho f4 f2;refine⟨rfl,.int .i64 (min n len:Nat),w',M,?_,⟨?_,?_,.val (.int _ _),fun _ _ h=>h⟩⟩
   .have e1:Nat.min n len=min n len:=rfl;simp[Builtin.copy_,h0,run_underlying hu,f1,bZ hn,e1,f3,goInt,r1]
   .rw[jw s b _ yO];exact r2.widen (DC (by simp[hg]))
   .rw[jw s b _ yO];exact r3
 .simp at h
end
section
variable {P:LI1} {M:Mp} {D:Key->Prop} {w:LI4} {s:St} {N:Np}
theorem bI{α β:Type}(x:Sem α)(f:α->Sem β):aB P (x >>= f)=(aB P x).bind fun a=>aB P (f a):=by
 show aB P (x.bind f)=_
 induction x with
 |pure a=>rfl
 |program k ih=>exact ih P
 |mark m k ih=>exact ih
 |_=>rfl
def IJ(b:Nat->Bool)(L:List MapEntry)(i0:Nat):Option (Nat×LI3)->Prop
 |none=>∀i,i<L.length->b i=false
 |some (i,v)=>i0<=i∧b (i-i0)=true∧∃x,L[i-i0]? = some x∧v=x.val
theorem IJ.succ{b:Nat->Bool}{e:MapEntry}{L:List MapEntry}{i0:Nat}{r:Option (Nat×LI3)}(hb:b 0=false)(h:IJ (fun i=>b (i+1)) L (i0+1) r):IJ b (e::L) i0 r:=by
 cases r with
 |none=>
  intro i hi;cases i with
  |zero=>exact hb
  |succ i=>exact h i (by simpa using hi)
 |some r=>
  obtain⟨h1,h2,x,h3,h4⟩:=h;have e1:r.1-i0=(r.1-(i0+1))+1:=by omega
  refine⟨by omega,by rw[e1];exact h2,x,by rw[e1];simpa using h3,h4⟩
theorem JV(kind:TypeDesc)(k:LI3):∀(L:List MapEntry) (i0:Nat) (b:Nat->Bool),(∀i x,L[i]? = some x->Instr.sameNow kind k x.key=some (b i)) ->
  ∃r,Instr.findNow kind k L i0=some r∧IJ b L i0 r
 | [],i0,b,_=>⟨none,rfl,fun i hi=>absurd hi (by simp)⟩
 |e::L,i0,b,h=>by
  have h0:=h 0 e rfl;obtain⟨r,g1,g2⟩:=JV kind k L (i0+1) (fun i=>b (i+1)) fun i x hx=>h (i+1) x (by simpa using hx);simp only[Instr.findNow,h0];cases hb:b 0 with
  |true=>exact⟨_,rfl,a0U _,by simpa using hb,e,by simp,rfl⟩
  |false=>exact⟨r,g1,g2.succ hb⟩
theorem Ce(kt:LI2)(k:LI3):∀(L:List MapEntry) (i0:Nat) (b:Nat->Bool),(∀i x,L[i]? = some x->aB P (Op.equal kt k x.key)=some (b i)) ->
  ∃r,(∀w,(Instr.findAsking kt k L i0).run P w=.ok r w)∧IJ b L i0 r
 | [],i0,b,_=>⟨none,fun w=>rfl,fun i hi=>absurd hi (by simp)⟩
 |e::L,i0,b,h=>by
  have h0:=fun w=>iW (h 0 e rfl) w;obtain⟨r,g1,g2⟩:=Ce kt k L (i0+1) (fun i=>b (i+1)) fun i x hx=>h (i+1) x (by simpa using hx);cases hb:b 0 with
  |true=>exact⟨some (i0,e.val),fun w=>by simp[Instr.findAsking,h0 w,hb],a0U _,by simpa using hb,e,by simp,rfl⟩
  |false=>exact⟨r,fun w=>by simp[Instr.findAsking,h0 w,hb,g1 w],g2.succ hb⟩
theorem a0h:∀{l:List TV} {vs:List LI3},Bz l=some vs->∀(i:Nat) (c:TV),l[i]? = some c->∃v,vs[i]? = some v∧c.yt=some v
 | [],vs,h,i,c,hc=>by simp at hc
 |a::l,vs,h,i,c,hc=>by
  simp only[Bz]at h;split at h
  .rename_i v ws h1 h2;cases h;cases i with
   |zero=>simp at hc;subst hc;exact⟨v,rfl,h1⟩
   |succ i=>simpa using a0h h2 i c (by simpa using hc)
  cases h
def FR(N:Np)(o:List Nat)(es:List (TV×TV))(xs:Array MapEntry):Option Nat->Option (Nat×LI3)->Prop
 |none,none=>True
 |some j,some (i,v)=>o[i]? = some j∧∃e x,es[j]? = some e∧xs[i]? = some x∧v=x.val∧VR N e.1 x.key∧VR N e.2 x.val
 |_,_=>False
theorem Gg{o:List Nat}{kt:LI2}{k:LI3}{es:List (TV×TV)}{r:Option Nat}{xs:Array MapEntry}(h:Eo P kt k es=some r)(hx:vT N o es xs) :
  (∀w,(Instr.checkKey xs.isEmpty 10000 kt k).run P w=.ok () w)∧∃r',(∀w,(Instr.findKey kt k xs.toList).run P w=.ok r' w) ∧
   FR N o es xs r r':=by
 unfold Eo at h;split at h
 case h_2=>simp at h
 rename_i ks Ez;split at h
 case h_2=>simp at h
 rename_i r0 hr;split at h
 case isFalse=>simp at h
 rename_i QO;cases h;generalize r0.map (·.1)=r at QO ⊢;have hl:es.isEmpty=xs.isEmpty:=by rw[a4u];simp[List.isEmpty_iff,<-a4F,hx.len]
 have JQ:ks.length=es.length:=by
  have:∀{l:List TV} {vs:List LI3},Bz l=some vs->vs.length=l.length:=by
   intro l
   induction l with
   |nil=>intro vs h;simp[Bz]at h;subst h;rfl
   |cons a l ih=>
    intro vs h;simp only[Bz]at h;split at h
    .rename_i v ws h1 h2;cases h;simp[ih h2]
    .cases h
  simpa using this Ez
 rw[bI]at hr;cases hc:aB P (Instr.checkKey es.isEmpty 10000 kt k)with
 |none=>simp[hc]at hr
 |some u=>
  refine⟨fun w=>by rw[<-hl];exact iW hc w,?_⟩;unfold Vw at QO;split at QO
  case h_2=>simp at QO
  rename_i kind hd;have hdr:=fun w=>iW hd w;simp only[a2f]at QO;obtain⟨hj,hs⟩:=QO;have a90:∀(i:Nat) (x:MapEntry),xs.toList[i]? = some x->∃(j:Nat) (e:TV×TV),o[i]? = some j∧es[j]? = some e∧VR N e.1 x.key∧VR N e.2 x.val∧ks[j]? = some x.key:=by intro i x hi;obtain⟨_,j,e,h1,h2,h3,h4⟩:=hx.at_ i x (by simpa using hi);obtain⟨v,g1,g2⟩:=a0h Ez j e.1 (by simp[h2]);exact⟨j,e,h1,h2,h3,h4,by rw[g1,vS g2 h3]⟩
  let b:Nat->Bool:=fun i=>o[i]? == r
  have hb:∀i j,o[i]? = some j->b i=(some j==r):=fun i j h=>by simp only[b,h]
  have fin:∀r',IJ b xs.toList 0 r'->FR N o es xs r r':=by
   intro r' hf;cases r' with
   |none=>
    cases r with
    |none=>trivial
    |some j=>
     simp only[a1o]at hj;obtain⟨i,hi⟩:=a8I.1 (hx.sur j (by omega));have h1:=hf i (by have:=(a01.1 hi).1;have:=hx.ord;simp;omega);rw[hb i j hi]at h1;simp at h1
   |some q=>
    obtain⟨i,v⟩:=q;obtain⟨_,h1,x,h2,h3⟩:=hf;simp only[Nat.sub_zero]at h1 h2;obtain⟨j,e,g1,g2,g3,g4,_⟩:=a90 i x h2;rw[hb i j g1]at h1;simp only[a7r]at h1;subst h1;exact⟨g1,e,x,g2,by simpa using h2,h3,g3,g4⟩
  have F8:∀{p:LI3×Nat->Bool},ks.zipIdx.all p=true->∀j x,ks[j]? = some x->p (x,j)=true:=by intro p hp j x hjx;exact a4o.1 hp (x,j) (a96.2 (by simpa using hjx))
  unfold Instr.findKey;rcases a8Q _ _▸hs with hs|hs
  .obtain⟨r',g1,g2⟩:=JV kind k xs.toList 0 b fun i x hi=>by obtain⟨j,e,h1,_,_,_,h5⟩:=a90 i x hi;have:=F8 hs j _ h5;simp only[a7r]at this;rw[this,hb i j h1]
   exact⟨r',fun w=>by simp[hdr w,g1],fin r' g2⟩
  .by_cases h0:xs.toList=[]
   .refine⟨none,fun w=>by simp[hdr w,h0,Instr.findNow],fin none (by rw[h0];intro i hi;simp at hi)⟩
   .have hno:Instr.findNow kind k xs.toList 0=none:=by
     cases hL:xs.toList with
     |nil=>exact absurd hL h0
     |cons x L=>
      obtain⟨j,e,h1,_,_,_,h5⟩:=a90 0 x (by rw[hL];rfl);have:=F8 hs j _ h5;simp only[a2f,a7r]at this;simp only[Instr.findNow,this.1]
    obtain⟨r',g1,g2⟩:=Ce (P:=P) kt k xs.toList 0 b fun i x hi=>by obtain⟨j,e,h1,_,_,_,h5⟩:=a90 i x hi;have:=F8 hs j _ h5;simp only[a2f,a7r]at this;rw[this.2,hb i j h1]
    exact⟨r',fun w=>by simp[hdr w,hno,g1 w],fin r' g2⟩
theorem DF{t:LI2}{m k r:TV}{ok:Bool}{mv kv:LI3}(hV:Valid M D s.get w)(h:gU P t s.heap m k ok=some r)(hm:VR M.h m mv)(hk:VR M.h k kv)
  (hD:∀j∈(match m with|.map r=>[Key.h r] |_=>[]),D j):∃z,VR M.h r z∧(Instr.lookup t mv kv ok).run P w=.ok z w:=by
 unfold gU at h;split at h
 case h_2=>simp at h
 rename_i kt e kx hu hkx;have:=vS hkx hk;subst this;simp only at h;have main:∀(o:List Nat) (es:List (TV×TV)) (xs:Array MapEntry),vT M.h o es xs->((mv=.map none∧xs=#[])∨∃r1 ck,mv=.map (some r1)∧w.heap[r1]? = some (.map xs ck)) ->
   (match Eo P kt kv es with
   |some (some i)=>match es[i]? with
    |some (_,v)=>some (if ok then .dG [v,.bool true]else v)
    |none=>none
   |some none=>match P.info? e with
    |some i=>match i.zero with
     |some z=>(TV.Vo z).map fun z=>if ok then .dG [z,.bool false]else z
     |none=>none
    |none=>none
   |none=>none)=some r->∃z,VR M.h r z∧(Instr.lookup t mv kv ok).run P w=.ok z w:=by
  intro o es xs hx vw h;cases hf:Eo P kt kv es with
  |none=>simp[hf]at h
  |some r0=>
   rw[hf]at h;obtain⟨c1,r',c2,c3⟩:=Gg hf hx;cases r0 with
   |some j=>
    cases r' with
    |none=>exact c3.elim
    |some jv=>
     obtain⟨j',v⟩:=jv;obtain⟨_,e',x',e1,e2,rfl,_,hv⟩:=c3;simp only[e1,a00]at h;subst h;refine⟨if ok then .tuple #[x'.val,.bool true]else x'.val,?_,?_⟩
     .cases ok
      .exact hv
      .exact .Q7 (.cons hv (.cons (.bool true) .nil))
     .rcases vw with⟨rfl,rfl⟩|⟨r1,ck,rfl,hmp⟩
      .simp only[Instr.lookup,Sem.run_bind,run_underlying hu,Result.andThen_ok,c1 w,c2 w,Sem.run_pure]
      .simp only[Instr.lookup,Sem.run_bind,run_underlying hu,Result.andThen_ok,getObj,Sem.run,hmp,c1 w,c2 w,Sem.run_pure]
   |none=>
    cases r' with
    |some jv=>exact c3.elim
    |none=>
     simp only at h;split at h
     case h_2=>simp at h
     rename_i inf hi;split at h
     case h_2=>simp at h
     rename_i z hz;simp only[a05]at h;obtain⟨zt,hzt,rfl⟩:=h;have hv:VR M.h zt z:=.yu hzt;refine⟨if ok then .tuple #[z,.bool false]else z,?_,?_⟩
     .cases ok
      .exact hv
      .exact .Q7 (.cons hv (.cons (.bool false) .nil))
     .have hzr:(zeroValue e).run P w=.ok z w:=(by simp[zeroValue,iU hi,hz]);rcases vw with⟨rfl,rfl⟩|⟨r1,ck,rfl,hmp⟩
      .simp only[Instr.lookup,Sem.run_bind,run_underlying hu,Result.andThen_ok,c1 w,c2 w,Sem.run_pure,hzr]
      .simp only[Instr.lookup,Sem.run_bind,run_underlying hu,Result.andThen_ok,getObj,Sem.run,hmp,c1 w,c2 w,Sem.run_pure,hzr]
 cases hm with
 |Ym=>exact main [] [] #[] ⟨rfl,rfl,.nil,by simp,by simp⟩ (.inl ⟨rfl,rfl⟩) h
 |map hmm=>
  rename_i r0 r1 o1;obtain⟨fV,b1,b2⟩:=hV.ok _ _ hmm (hD _ (by simp));simp only[St.get]at b1;simp only[b1]at h;cases fV with
  |map es=>
   obtain⟨xs,g1,g2⟩:=b2;exact main o1 es xs g2 (.inr ⟨r1,xs.size,rfl,g1⟩) h
  |cells k cs=>exact b2.elim
  |loop=>simp at h
  |mark=>simp at h
  |mP=>simp at h
  |cO=>simp at h
 |_=>simp at h
end
section
variable {P:LI1} {M:Mp} {D:Key->Prop} {w:LI4} {s:St}
theorem yP(hV:Valid M D s.get w){r r1:Nat}{o o':List Nat}{es fU:List (TV×TV)}{xs xs':Array MapEntry}(hm:M (.h r)=some (.obj r1 o))(hd:D (.h r))(hb:s.heap[r]? = some (.map es))
  (hr:w.heap[r1]? = some (.map xs xs.size)) (ho:o <+: o') (hx:vT (dJ M (.h r) (.obj r1 o')).h o' fU xs') :
  Valid (dJ M (.h r) (.obj r1 o')) (fun j=>D j∨(s.get j=none∧(St.get { s with heap:=s.heap.set r (.map fU) } j).isSome=true)) (St.get { s with heap:=s.heap.set r (.map fU) }) { w with heap:=w.heap.setIfInBounds r1 (.map xs' xs'.size) } ∧
  Ext M s.get w (dJ M (.h r) (.obj r1 o')) (St.get { s with heap:=s.heap.set r (.map fU) }) { w with heap:=w.heap.setIfInBounds r1 (.map xs' xs'.size) } [.h r]:=by
 have hg:s.get (.h r)=some (.map es):=by simp[St.get,hb]
 have yO:=(a01.1 hb).1;have hle:rX M (dJ M (.h r) (.obj r1 o')):=lU fun l0 h0=>by rw[hm]at h0;cases h0;exact⟨rfl,ho⟩
 have aT:r1<w.heap.size:=(a2h.1 hr).1;have gq:∀c,c<w.heap.size->c∉aI (.obj r1 o')->(w.heap.setIfInBounds r1 (Obj.map xs' xs'.size))[c]? = w.heap[c]?:=fun c _ hc=>by rw[a8J,a0c (by simp[aI]at hc;omega)]
 have gV:∀c∈aI (.obj r1 o'),(∃l0,M (.h r)=some l0∧c∈aI l0)∨w.heap.size<=c:=fun c hc=>.inl ⟨_,hm,hc⟩;constructor
 .rw[jw s r _ yO];refine Valid.widen ?_ (DC (by simp[hg]));exact hV.upd (D':=D) (w':={ w with heap:=w.heap.setIfInBounds r1 (.map xs' xs'.size) }) (.h r) (.map fU) (.obj r1 o') (fun j hj=>.inl hj) (fun l0 h0=>by rw[hm]at h0;cases h0;exact⟨hd,⟨rfl,ho⟩,fun b0 zL=>by rw[hg]at zL;cases zL;rfl⟩) gq gV (by simp) ⟨xs',by simp[aT],hx⟩
 .rw[jw s r _ yO];exact Ext.upd (M:=M) (C:=s.get) (w:=w) (w':={ w with heap:=w.heap.setIfInBounds r1 (.map xs' xs'.size) }) (.h r) (.map fU) (.obj r1 o') [.h r] (.inl ⟨by simp[hg],rfl,by simp[hm],fun b0 zL=>by rw[hg]at zL;cases zL;rfl⟩) hle gq gV (by simp) rfl rfl rfl
theorem vT.lt{N:Np}{o:List Nat}{es:List (TV×TV)}{xs:Array MapEntry}(g2:vT N o es xs):∀j∈o,j<es.length:=fun j hj=>by
 obtain⟨i,hi⟩:=a8I.1 hj;have:i<xs.size:=by rw[<-g2.ord];exact(a01.1 hi).1
 obtain⟨_,j',e,z1,z2,_⟩:=g2.at_ i _ (a3Q this);rw[hi]at z1;cases z1;exact(a01.1 z2).1
theorem vT.upd{N N':Np}{o:List Nat}{es:List (TV×TV)}{xs:Array MapEntry}(g2:vT N o es xs)(hle:rX N N'){i j:Nat}{x':MapEntry}{f:MapEntry->MapEntry}{k v:TV}
  (q1:o[i]? = some j) (e2:xs[i]? = some x') (hb:(f x').born=x'.born) (hk:VR N' k (f x').key) (hv:VR N' v (f x').val):vT N' o (es.set j (k,v)) (xs.modify i f):=by
 have g3:=g2.mono hle;refine⟨by simp[g2.len],by simp[g2.ord],g2.nod,fun j' Eu=>g2.sur j' (by simpa using Eu),fun a x h2=>?_⟩;rw[abz]at h2;by_cases ha:i=a
 .subst ha;rw[a0g rfl,e2]at h2;simp only[a0j,a00]at h2;subst h2;obtain⟨z1,j2,e2',z2,z3,_⟩:=g2.at_ i x' e2;rw[q1]at z2;cases z2;exact⟨hb.trans z1,j,(k,v),q1,by rw[a9q];simp[(a01.1 z3).1],hk,hv⟩
 .rw[a0c ha]at h2;obtain⟨z1,j2,e2',z2,z3,z4,z5⟩:=g3.at_ a x h2;refine⟨z1,j2,e2',z2,?_,z4,z5⟩;have iq:j≠j2:=fun e=>by subst e;have i1:=a01.1 q1;have i2:=a01.1 z2;exact ha ((a9P g2.nod (h₀:=i1.1) (h₁:=i2.1)).1 (i1.2.trans i2.2.symm))
  rw[a9q,a0c iq];exact z3
theorem vT.push{N N':Np}{o:List Nat}{es:List (TV×TV)}{xs:Array MapEntry}(g2:vT N o es xs)(hle:rX N N'){k v:TV}{kv vv:LI3}
  (hk:VR N' k kv) (hv:VR N' v vv):vT N' (o++[es.length]) (es++[(k,v)]) (xs.push { key:=kv,val:=vv,born:=xs.size }):=by
 have aT:=g2.lt;have g3:=g2.mono hle;refine⟨by simp[g2.len],by simp[g2.ord],?_,fun j hj=>?_,fun a x h2=>?_⟩
 .rw[a8H];exact⟨g2.nod,by simp,fun x hx y hy=>by simp at hy;subst hy;have:=aT x hx;omega⟩
 .simp only[a1I,a4b,a4Q]at hj;rcases a4d j es.length with h1|h1
  .exact a4p _ (g2.sur j h1)
  .exact aaf _ (by simp;omega)
 .rw[Array.getElem?_push]at h2;by_cases ha:a=xs.size
  .rw[a0g ha]at h2;simp only[a00]at h2;subst h2;exact⟨ha.symm,es.length,(k,v),by rw[a0S (by rw[g2.ord];omega),g2.ord,ha];simp,by simp,hk,hv⟩
  .rw[a0c ha]at h2;obtain⟨z1,j2,e2',z2,z3,z4,z5⟩:=g3.at_ a x h2;exact⟨z1,j2,e2',by rw[a0b (a01.1 z2).1];exact z2,by rw[a0b (a01.1 z3).1];exact z3,z4,z5⟩
theorem QS{t:LI2}{m k v:TV}{s1:St}{i:lN}{mv kv vv:LI3}(hV:Valid M D s.get w)(h:xE P t s m k v=some (s1,i))(hm:VR M.h m mv)(hk:VR M.h k kv)(hv:VR M.h v vv)
  (hD:∀j∈i.ts,D j):s1.env=s.env∧∃w' M',(Instr.mapUpdate t mv kv vv).run P w=.ok () w' ∧
   Valid M' (fun j=>D j∨(s.get j=none∧(s1.get j).isSome=true)) s1.get w'∧Ext M s.get w M' s1.get w' i.ws∧(∀k l,M (.l k)=some l->M' (.l k)=some l):=by
 unfold xE at h;split at h
 case h_2=>simp at h
 rename_i kt et kx r hu hkx;have:=vS hkx hk;subst this;split at h
 case h_2=>simp at h
 rename_i es Lh hck;have c0:=iW hck w;cases hm with
 |map hmm=>
 rename_i r1 o1;have yQ:∀o',∀k l,M (.l k)=some l->dJ M (.h r) (.obj r1 o') (.l k)=some l:=fun o' k l h=>by simp[dJ,h]
 have go:D (.h r)->∃xs,w.heap[r1]? = some (.map xs xs.size)∧vT M.h o1 es xs:=by intro hd;obtain⟨fV,b1,b2⟩:=hV.ok _ _ hmm hd;simp only[St.get,Lh,a00]at b1;subst b1;exact b2
 split at h
 .-- an entry that is there
  rename_i j hf;split at h
  case h_2=>simp at h
  rename_i old ov0 hj;split at h
  case h_2=>simp at h
  rename_i ov hov;split at h
  case isFalse=>simp at h
  rename_i VL;simp only[a00,a0i]at h;obtain⟨rfl,rfl⟩:=h;have hd:=hD (.h r) (by simp[oO]);obtain⟨xs,g1,g2⟩:=go hd;obtain⟨c1,r',c2,c3⟩:=Gg hf g2;cases r' with
  |none=>exact c3.elim
  |some jv=>
   obtain⟨i,v'⟩:=jv;obtain⟨q1,e',x',e1,e2,rfl,q2,_⟩:=c3;rw[hj]at e1;cases e1;have hold:x'.key=ov:=vS hov q2;have hle:rX M (dJ M (.h r) (.obj r1 o1)):=lU fun l0 h0=>by have h0':M (.h r)=some l0:=h0;have Qa:M (.h r)=some (.obj r1 o1):=hmm;rw[Qa]at h0';cases h0';exact .refl _
   have EW:=g2.upd (f:=fun e=>{ e with key:=kv,val:=vv }) hle.h q1 e2 rfl (hk.mono hle.h) (hv.mono hle.h);obtain⟨v1,v2⟩:=yP hV hmm hd Lh g1 (agj _) EW;refine⟨rfl,_,_,?_,v1,v2,yQ _⟩;simp only[Instr.mapUpdate,Sem.run_bind,run_underlying hu,Result.andThen_ok,getObj,Sem.run,g1];simp only[c0,c2 w,Result.andThen_ok,e2,a0j,a4r,Instr.keyThatStays,hold,VL,a1U,setObj];simp only[Sem.run_bind,Sem.run_pure,Result.andThen_ok,Sem.run,g1,Array.size_modify]
 .-- a new entry
  rename_i hf;simp only[a00,a0i]at h;obtain⟨rfl,rfl⟩:=h;have hd:=hD (.h r) (by simp[oO]);obtain⟨xs,g1,g2⟩:=go hd;obtain⟨c1,r',c2,c3⟩:=Gg hf g2;cases r' with
  |some jv=>exact c3.elim
  |none=>
   have a4L:o1 <+: o1++[es.length]:=⟨_,rfl⟩;have hle:rX M (dJ M (.h r) (.obj r1 (o1++[es.length]))):=lU fun l0 h0=>by have h0':M (.h r)=some l0:=h0;have Qa:M (.h r)=some (.obj r1 o1):=hmm;rw[Qa]at h0';cases h0';exact⟨rfl,a4L⟩
   have EW:=g2.push hle.h (hk.mono hle.h) (hv.mono hle.h);obtain⟨v1,v2⟩:=yP hV hmm hd Lh g1 a4L EW;refine⟨rfl,_,_,?_,v1,v2,yQ _⟩;simp only[Instr.mapUpdate,Sem.run_bind,run_underlying hu,Result.andThen_ok,getObj,Sem.run,g1];simp only[c0,c2 w,Result.andThen_ok,setObj,Sem.run,g1,Array.size_push]
 .simp at h
theorem a2j{t:LI2}{m k:TV}{e:EV}{s1:St}{i:lN}{mv kv:LI3}(hV:Valid M D s.get w)(h:zQ P t s m k=some (e,s1,i))(hm:VR M.h m mv)(hk:VR M.h k kv)
  (hD:∀j∈i.ts,D j):s1.env=s.env∧∃x w' M',(Instr.mapEntry t mv kv).run P w=.ok x w'∧ER M' e x ∧
   Valid M' (fun j=>D j∨(s.get j=none∧(s1.get j).isSome=true)) s1.get w'∧Ext M s.get w M' s1.get w' i.ws∧(∀k l,M (.l k)=some l->M' (.l k)=some l):=by
 unfold zQ at h;split at h
 case h_2=>simp at h
 rename_i kt et kx r hu hkx;have:=vS hkx hk;subst this;split at h
 case h_2=>simp at h
 rename_i es Lh hck;have c0:=iW hck w;cases hm with
 |map hmm=>
 rename_i r1 o1;have yQ:∀o',∀k l,M (.l k)=some l->dJ M (.h r) (.obj r1 o') (.l k)=some l:=fun o' k l h=>by simp[dJ,h]
 have go:D (.h r)->∃xs,w.heap[r1]? = some (.map xs xs.size)∧vT M.h o1 es xs:=by intro hd;obtain⟨fV,b1,b2⟩:=hV.ok _ _ hmm hd;simp only[St.get,Lh,a00]at b1;subst b1;exact b2
 have Ir:∀o',dJ M (.h r) (.obj r1 o') (.h r)=some (.obj r1 o'):=fun o'=>by simp[dJ]
 split at h
 .rename_i j hf;split at h
  case h_2=>simp at h
  rename_i old v0 hj;split at h
  case h_2=>simp at h
  rename_i ov hov;split at h
  case isFalse=>simp at h
  rename_i VL;simp only[a00,a0i]at h;obtain⟨rfl,rfl,rfl⟩:=h;have hd:=hD (.h r) (by simp[oO]);obtain⟨xs,g1,g2⟩:=go hd;obtain⟨c1,r',c2,c3⟩:=Gg hf g2;cases r' with
  |none=>exact c3.elim
  |some jv=>
   obtain⟨i,v'⟩:=jv;obtain⟨q1,e',x',e1,e2,rfl,q2,q3⟩:=c3;rw[hj]at e1;cases e1;have hold:x'.key=ov:=vS hov q2;have hle:rX M (dJ M (.h r) (.obj r1 o1)):=lU fun l0 h0=>by have h0':M (.h r)=some l0:=h0;have Qa:M (.h r)=some (.obj r1 o1):=hmm;rw[Qa]at h0';cases h0';exact .refl _
   have EW:=g2.upd (f:=fun e=>{ e with key:=kv }) hle.h q1 e2 rfl (hk.mono hle.h) (q3.mono hle.h);obtain⟨v1,v2⟩:=yP hV hmm hd Lh g1 (agj _) EW;refine⟨rfl,.tuple #[x'.val,Go.goInt i],_,_,?_,.ent (Ir _) q1 (q3.mono hle.h),v1,v2,yQ _⟩;simp only[Instr.mapEntry,Sem.run_bind,run_underlying hu,Result.andThen_ok,getObj,Sem.run,g1];simp only[c0,c2 w,Result.andThen_ok,e2,a0j,a4r,Instr.keyThatStays,hold,VL,a1U,setObj,(g2.at_ i x' e2).1];simp only[Sem.run_bind,Sem.run_pure,Result.andThen_ok,Sem.run,g1,Array.size_modify]
 .rename_i hf;split at h
  case h_2=>simp at h
  rename_i inf hi;split at h
  case h_2=>simp at h
  rename_i z hz;split at h
  case h_2=>simp at h
  rename_i zt hzt;simp only[a00,a0i]at h;obtain⟨rfl,rfl,rfl⟩:=h;have hd:=hD (.h r) (by simp[oO]);obtain⟨xs,g1,g2⟩:=go hd;obtain⟨c1,r',c2,c3⟩:=Gg hf g2;have hzr:(zeroValue et).run P w=.ok z w:=by simp[zeroValue,iU hi,hz]
  cases r' with
  |some jv=>exact c3.elim
  |none=>
   have a4L:o1 <+: o1++[es.length]:=⟨_,rfl⟩;have hle:rX M (dJ M (.h r) (.obj r1 (o1++[es.length]))):=lU fun l0 h0=>by have h0':M (.h r)=some l0:=h0;have Qa:M (.h r)=some (.obj r1 o1):=hmm;rw[Qa]at h0';cases h0';exact⟨rfl,a4L⟩
   have EW:=g2.push hle.h (hk.mono hle.h) (.yu hzt);obtain⟨v1,v2⟩:=yP hV hmm hd Lh g1 a4L EW;refine⟨rfl,.tuple #[z,Go.goInt xs.size],_,_,?_,.ent (Ir _) (by rw[a0S (by rw[g2.ord];omega),g2.ord];simp) (.yu hzt),v1,v2,yQ _⟩;simp only[Instr.mapEntry,Sem.run_bind,run_underlying hu,Result.andThen_ok,getObj,Sem.run,g1];simp only[c0,c2 w,hzr,Result.andThen_ok,setObj,Sem.run,g1,Array.size_push,Sem.run_bind,Sem.run_pure]
 .simp at h
theorem a4M{t:LI2}{m k:TV}{e:EV}{s1:St}{i:lN}{mv kv:LI3}(hV:Valid M D s.get w)(h:BQ P t s m k=some (e,s1,i))(hm:VR M.h m mv)(hk:VR M.h k kv)
  (hD:∀j∈i.ts,D j):s1.env=s.env∧∃x w' M',(Instr.mapEntry t mv kv).run P w=.ok x w'∧ER M' e x ∧
   Valid M' (fun j=>D j∨(s.get j=none∧(s1.get j).isSome=true)) s1.get w'∧Ext M s.get w M' s1.get w' i.ws∧(∀k l,M (.l k)=some l->M' (.l k)=some l):=by
 unfold BQ at h;split at h
 .rename_i h0;split at h
  .cases h;exact a2j hV h0 hm hk hD
  .cases h
 .cases h
theorem TP{xs:Array MapEntry}{i:Nat}(h:∀(a:Nat) (x:MapEntry),xs[a]? = some x->x.born=a)(hi:i<xs.size):xs.findIdx? (fun e=>(e.born:Int)==(i:Int))=some i:=by
 rw[Array.findIdx?_eq_some_iff_getElem];refine⟨hi,?_,fun j hj=>?_⟩
 .have:=h i _ (a3Q hi);simp[this]
 have:=h j _ (a3Q (Nat.lt_trans hj hi));simp[this];omega
theorem a2k{t:LI2}{m v:TV}{e:EV}{s1:St}{i:lN}{mv ev vv:LI3}(hV:Valid M D s.get w)(h:FZ s m e v=some (s1,i))(hm:VR M.h m mv)(he:ER M e ev)(hv:VR M.h v vv)
  (hD:∀j∈i.ts,D j):s1.env=s.env∧∃w' M',(Instr.entryStore t mv ev vv).run P w=.ok () w' ∧
   Valid M' (fun j=>D j∨(s.get j=none∧(s1.get j).isSome=true)) s1.get w'∧Ext M s.get w M' s1.get w' i.ws∧(∀k l,M (.l k)=some l->M' (.l k)=some l):=by
 unfold FZ at h;split at h
 case h_2=>simp at h
 rename_i r r' j;split at h
 case isFalse=>simp at h
 rename_i hrr;subst hrr;split at h
 case h_2=>simp at h
 rename_i es Lh;split at h
 case h_2=>simp at h
 rename_i k v0 hj;simp only[a00,a0i]at h;obtain⟨rfl,rfl⟩:=h;cases hm with
 |map hmm=>
 rename_i r1 o1;cases he with
 |Ee h1 q1=>
 rename_i r2 i o2;have Qa:M (.h r)=some (.obj r1 o1):=hmm;rw[Qa]at h1;cases h1;have hd:=hD (.h r) (by simp[oO]);obtain⟨fV,b1,b2⟩:=hV.ok _ _ hmm hd;simp only[St.get,Lh,a00]at b1;subst b1;obtain⟨xs,g1,g2⟩:=b2;have aT:i<xs.size:=by rw[<-g2.ord];exact(a01.1 q1).1
 obtain⟨z1,j2,e2',z2,z3,z4,z5⟩:=g2.at_ i _ (a3Q aT);rw[q1]at z2;cases z2;rw[hj]at z3;cases z3;have hle:rX M (dJ M (.h r) (.obj r1 o1)):=lU fun l0 h0=>by have h0':M (.h r)=some l0:=h0;rw[Qa]at h0';cases h0';exact .refl _
 have EW:=g2.upd (f:=fun e=>{ e with val:=vv }) hle.h q1 (a3Q aT) rfl (z4.mono hle.h) (hv.mono hle.h);obtain⟨v1,v2⟩:=yP hV hmm hd Lh g1 (agj _) EW;refine⟨rfl,_,_,?_,v1,v2,fun k l h=>by simp[dJ,h]⟩;have hf:=TP (fun a x hx=>(g2.at_ a x hx).1) aT;simp only[Instr.entryStore,Sem.run_bind,Result.andThen_ok,getObj,Sem.run,g1,asInt,asIntOf,Go.goInt,hf,setObj];simp only[Sem.run_bind,Sem.run_pure,Result.andThen_ok,Sem.run,hf,g1,Array.size_modify]
end
def Gh(M:Mp)(env:List (Nat×EV))(a:Act)(X:Array Operand):Prop:=∀x∈X,∀e,Il env x=some e->ER M e (a.eval x)
theorem jS.on{M:Mp}{env:List (Nat×EV)}{a:Act}(hE:jS M env a.tmps)(X:Array Operand):Gh M env a X:=fun _ _ _ he=>a4y hE he
section
variable {M:Mp} {env:List (Nat×EV)} {a:Act} {X:Array Operand}
theorem oU(hE:Gh M env a X){x:Operand}(hx:x∈X){e:EV}(h:Il env x=some e):ER M e (a.eval x):=hE x hx e h
theorem gX(hE:Gh M env a X){x:Operand}(hx:x∈X){v:TV}(h:qE env x=some v):VR M.h v (a.eval x):=by
 unfold qE at h;split at h
 .rename_i v' he;simp at h;subst h;exact(oU hE hx he).vg
 simp at h
theorem Gi(hE:Gh M env a X):∀{xs:List Operand} {vs:List TV},(∀x∈xs,x∈X)->Tq env xs=some vs->bU M.h vs (xs.map a.eval)
 | [],vs,_,h=>by simp[Tq]at h;subst h;exact .nil
 |x::xs,vs,hx,h=>by
  simp only[Tq]at h;split at h
  .rename_i v vs' h1 h2;simp at h;subst h;exact .cons (gX hE (hx x (by simp)) h1) (Gi hE (fun y hy=>hx y (by simp[hy])) h2)
  simp at h
theorem TQ(hE:Gh M env a X):∀{xs:List (Nat×Operand)} {vs:List (Nat×TV)},(∀p∈xs,p.2∈X)->Vu env xs=some vs ->
  PR M.h vs (xs.map fun(i,x)=>(i,a.eval x))
 | [],vs,_,h=>by simp[Vu]at h;subst h;exact .nil
 |(i,x)::xs,vs,hx,h=>by
  simp only[Vu]at h;split at h
  .rename_i v vs' h1 h2;simp at h;subst h;exact .cons (gX hE (hx (i,x) (by simp)) h1) (TQ hE (fun y hy=>hx y (by simp[hy])) h2)
  .simp at h
theorem Gj(hE:Gh M env a X){o:Option Operand}(hx:∀x,o=some x->x∈X){v:Option TV}(h:Vx env o=some v):OR M.h v (o.map a.eval):=by
 unfold Vx at h;split at h
 .simp at h;subst h;exact .none
 rename_i x;split at h
 .rename_i v' hv;simp at h;subst h;exact .some (gX hE (hx x rfl) hv)
 simp at h
end
section
variable {P:LI1} {M:Mp} {D:Key->Prop} {w:LI4} {s:St}
def Gl:Op->Bool
 |.call { callee:=.value _,.. }=>true
 |_=>false
theorem G6.lX{C:Ct}{c:Sem Next}{v:TV}{S:Sem LI3}(hV:Valid M D C w)(hc:c=(do pure (.value (<-S))))(h:∃z,VR M.h v z∧S.run P w=.ok z w):G6 P M D C w c (.val v) C []:=by obtain⟨z,h1,h2⟩:=h;exact .same hV (by rw[hc];simp[h2]) (.val h1)
theorem G6.Ny{C:Ct}{c:Sem Next}{v:EV}{S:Sem LI3}(hV:Valid M D C w)(hc:c=(do pure (.value (<-S))))(h:∃z,ER M v z∧S.run P w=.ok z w):G6 P M D C w c v C []:=by obtain⟨z,h1,h2⟩:=h;exact .same hV (by rw[hc];simp[h2]) h1
theorem G6.ahz{C:Ct}{c:Sem Next}{v:TV}{S:Sem LI3}{C1:Ct}{ws:List Key}(hc:c=(do pure (.value (<-S))))(h:BOk P M D C w S v C1 ws):G6 P M D C w c (.val v) C1 ws:=by obtain⟨x,w',M',h1,h2⟩:=h;exact⟨x,w',M',.inl (by rw[hc];simp[h1]),h2⟩
theorem G6.adI{C:Ct}{c:Sem Next}{S:Sem Unit}{C1:Ct}{ws:List Key}(hc:c=(do S;pure .skip))(h:∃w' M',S.run P w=.ok () w'∧Valid M' (fun j=>D j∨(C j=none∧(C1 j).isSome=true)) C1 w'∧Ext M C w M' C1 w' ws∧(∀k l,M (.l k)=some l->M' (.l k)=some l)):G6 P M D C w c .undef C1 ws:=by obtain⟨w',M',h1,h2,h3,h4⟩:=h;exact⟨Go.undef,w',M',.inr ⟨rfl,by rw[hc];simp[h1]⟩,⟨h2,h3,.undef,h4⟩⟩
theorem G6.anb{C:Ct}{c:Sem Next}{S:Sem Unit}{C1:Ct}{ws:List Key}(hc:c=(do S;pure .skip))(h:∃w',S.run P w=.ok () w'∧Valid M (fun j=>D j∨(C j=none∧(C1 j).isSome=true)) C1 w'∧Ext M C w M C1 w' ws):G6 P M D C w c .undef C1 ws:=by obtain⟨w',h1,h2,h3⟩:=h;exact⟨Go.undef,w',M,.inr ⟨rfl,by rw[hc];simp[h1]⟩,⟨h2,h3,.undef,fun _ _ h=>h⟩⟩
theorem YB{b:Builtin}{at_:Array LI2}{t:LI2}{cs:Array Bool}{az:List TV}{xs:List LI3}{v:TV}{s1:St}{i:lN}(hV:Valid M D s.get w)(yM:M (.h s.heap.length)=none)
  (h:qI P b at_ t s az=some (v,s1,i)) (hx:bU M.h az xs) (hD:∀k∈i.ts,D k):s1.env=s.env∧G6 P M D s.get w (builtin b at_ t cs xs.toArray) (.val v) s1.get i.ws:=by
 unfold qI at h;split at h
 .simp only[a05,a0i]at h;obtain⟨⟨v',i'⟩,h1,rfl,rfl,rfl⟩:=h;obtain⟨x,xs',rfl,hx1,hx2⟩:=hx.iM;have:=hx2.pR;subst this;obtain⟨e1,e2⟩:=Yw (t:=t) hV h1 hx1 hD;refine⟨rfl,?_⟩;simp only;rw[e1];exact .lX hV rfl e2
 .obtain⟨x,xs',rfl,hx1,hx2⟩:=hx.iM;obtain⟨y,ys',rfl,hy1,hy2⟩:=hx2.iM;have:=hy2.pR;subst this;obtain⟨e1,e2⟩:=II (ty:=t) hV yM h hx1 hy1 hD;exact⟨e1,.ahz rfl e2⟩
 .obtain⟨x,xs',rfl,hx1,hx2⟩:=hx.iM;obtain⟨y,ys',rfl,hy1,hy2⟩:=hx2.iM;have:=hy2.pR;subst this;obtain⟨e1,e2⟩:=TN (ty:=t) hV h hx1 hy1 hD;exact⟨e1,.ahz rfl e2⟩
 .simp only[a05,a0i]at h;obtain⟨v',h1,rfl,rfl,rfl⟩:=h;exact⟨rfl,.lX hV rfl (yN h1 hx)⟩
 .simp only[a05,a0i]at h;obtain⟨v',h1,rfl,rfl,rfl⟩:=h;exact⟨rfl,.lX hV rfl (yN h1 hx)⟩
 .simp at h
theorem ahA{call:aY}{site:Nat->Bool}{o:Oper}{a:Act}{v:EV}{s1:St}{i:lN}(hV:Valid M D s.get w)(hE:Gh M s.env a o.op.operands)(yM:M (.h s.heap.length)=none)(hnl:M (.l s.loc.length)=none)
  (h:oP P call site s o=some (v,s1,i)) (hc:Gl o.op=false) (hD:∀k∈i.ts,D k):s1.env=s.env∧G6 P M D s.get w (execOp a.eval o) v s1.get i.ws:=by
 unfold oP at h;unfold execOp;split at h
 .-- move
  rename_i x ho;rw[ho];simp only[a05,a0i]at h;obtain⟨e,he,rfl,rfl,rfl⟩:=h;exact⟨rfl,.same hV rfl (oU hE (by simp[ho,Op.operands]) he)⟩
 .rename_i x ho;rw[ho];simp only[a05,a0i]at h;obtain⟨e,he,rfl,rfl,rfl⟩:=h;exact⟨rfl,.same hV rfl (oU hE (by simp[ho,Op.operands]) he)⟩
 .-- pick
  rename_i c x y ho;rw[ho];split at h
  .rename_i t ht;simp only[a05,a0i]at h;obtain⟨e,he,rfl,rfl,rfl⟩:=h;have hb:=gX hE (by simp[ho,Op.operands]) ht;have qy:a.eval c=.bool t:=by cases qy:a.eval c<;>rw[qy]at hb<;>cases hb;rfl
   have:=oU hE (by cases t<;>simp[ho,Op.operands]) he;refine⟨rfl,.same hV (x:=a.eval (if t then x else y)) ?_ this⟩;simp only[Sem.run_bind,qy,asBool,Sem.run_pure,Result.andThen_ok];cases t<;>rfl
  .simp at h
 .-- alloc
  rename_i e ho;rw[ho];simp only[a05]at h;obtain⟨z,hz,h⟩:=h;obtain⟨i',x,v',_,_,_,_,hz1,hvr,hzr⟩:=vV hz;simp only[a0i]at h;obtain⟨rfl,rfl,rfl⟩:=h;obtain⟨M',hp⟩:=a4z hV yM hnl (site (o.dst.getD 0)) e (hvr M.h) hz1 rfl;refine⟨by unfold qF;split<;>rfl,_,_,M',.inl ?_,hp⟩;simp[Instr.alloc,hzr w,newVar,newRow]
 .-- box
  rename_i t x ho;rw[ho];split at h
  .rename_i v0 hv0;split at h
   .rename_i ES;simp only[a00,a0i]at h;obtain⟨rfl,rfl,rfl⟩:=h;obtain⟨M',hp⟩:=a4z hV yM hnl (site (o.dst.getD 0)) t (gX hE (by simp[ho,Op.operands]) hv0).cells (Le ES) rfl;refine⟨by unfold qF;split<;>rfl,_,_,M',.inl ?_,hp⟩;simp[Instr.box,newVar,newRow]
   .simp at h
  .simp at h
 .-- build
  rename_i t ps ho;rw[ho];split at h
  .rename_i qs hq;simp only[a05,a0i]at h;obtain⟨v0,hb,rfl,rfl,rfl⟩:=h;obtain⟨x,h1,h2⟩:=a4B hb (TQ hE (fun p hp=>by simp[ho,Op.operands];exact⟨p.1,by simpa using hp⟩) hq);refine⟨rfl,.lX hV rfl ⟨x,h1,?_⟩⟩;have:=h2 w
   rwa [show(List.map (fun x=>(x.1,a.eval x.2)) ps.toList).toArray=ps.map (fun x=>(x.1,a.eval x.2))from by apply adC;simp]at this
  .simp at h
 .-- buildSlice
  rename_i t len ps ho;rw[ho];split at h
  .rename_i qs hq;simp only[a05,a0i]at h;obtain⟨⟨v0,s0⟩,hb,rfl,rfl,rfl⟩:=h;obtain⟨e1,x,w',M',h1,h2⟩:=tX hV yM hb (TQ hE (fun p hp=>by simp[ho,Op.operands];exact⟨p.1,by simpa using hp⟩) hq);refine⟨e1,x,w',M',.inl ?_,h2⟩;rw[show(List.map (fun x=>(x.1,a.eval x.2)) ps.toList).toArray=ps.map (fun x=>(x.1,a.eval x.2))from by apply adC;simp]at h1;simp[h1]
  .simp at h
 .-- load
  rename_i t x ho;rw[ho];split at h
  .rename_i e he;simp only[a05,a0i]at h;obtain⟨⟨v0,i0⟩,hl,rfl,rfl,rfl⟩:=h;obtain⟨e1,e2⟩:=G7 hV hl (oU hE (by simp[ho,Op.operands]) he) hD;refine⟨rfl,?_⟩;simp only;rw[e1];exact .lX hV rfl e2
  .simp at h
 .-- store
  rename_i t x y ho;rw[ho];split at h
  .rename_i e v0 he hv0;simp only[a05,a0i]at h;obtain⟨⟨s0,i0⟩,hl,rfl,rfl,rfl⟩:=h;obtain⟨e1,w',e2,e3,e4,e5⟩:=Yt hV hl (oU hE (by simp[ho,Op.operands]) he) (gX hE (by simp[ho,Op.operands]) hv0) hD;exact⟨e1,.anb rfl ⟨w',e2,e3.widen e5,e4⟩⟩
  .simp at h
 .-- nilCheck
  rename_i x ho;rw[ho];split at h
  .rename_i k off he;simp only[a00,a0i]at h;obtain⟨rfl,rfl,rfl⟩:=h;have hx:=oU hE (by simp[ho,Op.operands]) he;refine⟨rfl,.same hV (x:=a.eval x) ?_ hx⟩;cases hxe:a.eval x<;>rw[hxe]at hx<;>cases hx
   simp[hxe]
  .rename_i b off lim he;simp only[a00,a0i]at h;obtain⟨rfl,rfl,rfl⟩:=h;have hx:=oU hE (by simp[ho,Op.operands]) he;refine⟨rfl,.same hV (x:=a.eval x) ?_ hx⟩;have EW:=hx.vg;cases hxe:a.eval x<;>rw[hxe]at EW<;>cases EW
   simp[hxe]
  .rename_i f b c he;simp only[a00,a0i]at h;obtain⟨rfl,rfl,rfl⟩:=h;have hx:=oU hE (by simp[ho,Op.operands]) he;refine⟨rfl,.same hV (x:=a.eval x) ?_ hx⟩;have EW:=hx.vg;cases hxe:a.eval x<;>rw[hxe]at EW<;>cases EW
   simp[hxe]
  .rename_i l he;simp only[a00,a0i]at h;obtain⟨rfl,rfl,rfl⟩:=h;have hx:=oU hE (by simp[ho,Op.operands]) he;refine⟨rfl,.same hV (x:=a.eval x) ?_ hx⟩;have EW:=hx.vg;cases hxe:a.eval x<;>rw[hxe]at EW<;>cases EW
   simp[hxe]
  .simp at h
 .-- binOp
  rename_i op t x y t' ho;rw[ho];split at h
  .rename_i u v0 hu hv;simp only[a05,a0i]at h;obtain⟨r,hb,rfl,rfl,rfl⟩:=h;exact⟨rfl,.lX hV rfl (Yu hb (gX hE (by simp[ho,Op.operands]) hu) (gX hE (by simp[ho,Op.operands]) hv))⟩
  .simp at h
 .-- unOp
  rename_i op t x ho;rw[ho];split at h
  .rename_i u hu;simp only[a05,a0i]at h;obtain⟨r,hb,rfl,rfl,rfl⟩:=h;exact⟨rfl,.lX hV rfl (iR hb (gX hE (by simp[ho,Op.operands]) hu))⟩
  .simp at h
 .-- convert
  rename_i t t' x ho;rw[ho];split at h
  .rename_i u hu;simp only[a05,a0i]at h;obtain⟨r,hb,rfl,rfl,rfl⟩:=h;exact⟨rfl,.lX hV rfl (TJ hb (gX hE (by simp[ho,Op.operands]) hu))⟩
  .simp at h
 .-- makeFunc
  rename_i f az bs ho;rw[ho];split at h
  .rename_i us vs hu hv;simp only[a00,a0i]at h;obtain⟨rfl,rfl,rfl⟩:=h;have h1:=Gi hE (fun x hx=>by simp[ho,Op.operands];exact .inl (by simpa using hx)) hu;have h2:=Gi hE (fun x hx=>by simp[ho,Op.operands];exact .inr (by simpa using hx)) hv;refine⟨rfl,.lX hV rfl ⟨.func (.func f) (az.map a.eval) (bs.map a.eval),?_,rfl⟩⟩;have:=VR.fn (f:=f) h1.len h1.at_ h2.len h2.at_
   rwa [show(List.map a.eval az.toList).toArray=az.map a.eval from by apply adC;simp,show(List.map a.eval bs.toList).toArray=bs.map a.eval from by apply adC;simp]at this
  .simp at h
 .-- makeMap
  rename_i t r ho;rw[ho];have yB:s.get (.h s.heap.length)=none:=by simp[St.get]
  have hle:rX M (dJ M (.h s.heap.length) (.obj w.heap.size [])):=lU fun l0 h0=>by rw[yM]at h0;cases h0
  have gq:∀c,c<w.heap.size->c∉aI (.obj w.heap.size [])->(w.alloc (.map #[] 0)).heap[c]? = w.heap[c]?:=fun c hc _=>vU w _ c hc;have gV:∀c∈aI (.obj w.heap.size []),(∃l0,M (.h s.heap.length)=some l0∧c∈aI l0)∨w.heap.size<=c:=fun c hc=>.inr (by simp[aI]at hc;omega);have key:Na M D s.get w (.val (.map s.heap.length)) (St.get { s with heap:=s.heap++[.map []] }) [] (.map (some w.heap.size)) (w.alloc (.map #[] 0)) (dJ M (.h s.heap.length) (.obj w.heap.size [])):=by
   refine⟨?_,?_,.val (.map (o:=[]) (by simp[Mp.h,dJ])),qJ yM⟩
   .rw[jW];refine hV.upd _ _ _ (fun j hj=>?_) (fun l0 h0=>by rw[yM]at h0;cases h0) gq gV (by simp) ⟨#[],heap_alloc_new w _,rfl,rfl,.nil,by simp,by simp⟩;rcases hj with hj|⟨x1,x2⟩
    .exact .inl hj
    .right;unfold lJ at x2;split at x2
     .assumption
     .simp[x1]at x2
   .rw[jW];exact Ext.upd _ _ _ [] (.inr ⟨yB,yM,rfl⟩) hle gq gV (by simp) rfl rfl rfl
  split at h
  .rename_i _ hr;simp only[a00,a0i]at h;obtain⟨rfl,rfl,rfl⟩:=h;have:=Gj hE (fun x hx=>by simp[ho,Op.operands,hx]) hr;refine⟨rfl,_,_,_,.inl ?_,key⟩;cases hrr:r.map a.eval with
   |none=>simp[hrr,Instr.makeMap]
   |some y=>rw[hrr]at this;cases this
  .rename_i k n _ _ hr hu;simp only[a00,a0i]at h;obtain⟨rfl,rfl,rfl⟩:=h;have:=Gj hE (fun x hx=>by simp[ho,Op.operands,hx]) hr;refine⟨rfl,_,_,_,.inl ?_,key⟩;cases hrr:r.map a.eval with
   |none=>rw[hrr]at this;cases this
   |some y=>
    rw[hrr]at this;cases this with
    |some hy=>
     cases hy;simp[hrr,Instr.makeMap,run_underlying hu,asInt,asIntOf]
  .simp at h
 .-- makeSlice
  rename_i t l c ho;rw[ho];split at h
  .rename_i u v0 hu hv;simp only[a05,a0i]at h;obtain⟨⟨r,s0⟩,hb,rfl,rfl,rfl⟩:=h;obtain⟨e1,z,w',M',e2,e3⟩:=zV hV yM hb (gX hE (by simp[ho,Op.operands]) hu) (gX hE (by simp[ho,Op.operands]) hv);exact⟨e1,z,w',M',.inl (by simp[e2]),e3⟩
  .simp at h
 .-- slice
  rename_i t x lo hi mx ho;rw[ho];split at h
  .rename_i e Yv wY mx' he Gm hhi hmx;have h1:=Gj hE (fun x hx=>by simp[ho,Op.operands,hx]) Gm;have h2:=Gj hE (fun x hx=>by simp[ho,Op.operands,hx]) hhi;have h3:=Gj hE (fun x hx=>by simp[ho,Op.operands,hx]) hmx;split at h
   .simp only[a05,a0i]at h;obtain⟨r,hb,rfl,rfl,rfl⟩:=h;exact⟨rfl,.lX hV rfl (Cb hb (oU hE (by simp[ho,Op.operands]) he) h1 h2 h3)⟩
   .simp only[a05,a0i]at h;obtain⟨r,hb,rfl,rfl,rfl⟩:=h;exact⟨rfl,.lX hV rfl (Ns hb (oU hE (by simp[ho,Op.operands]) he).vg h1 h2 h3)⟩
   .simp at h
  .simp at h
 .-- fieldAddr
  rename_i t x f ho;rw[ho];split at h
  .rename_i e n he hn;simp only[a05,a0i]at h;obtain⟨r,hb,rfl,rfl,rfl⟩:=h;exact⟨rfl,.Ny hV rfl (TI hn hb (oU hE (by simp[ho,Op.operands]) he))⟩
  .simp at h
 .-- field
  rename_i t x f ho;rw[ho];split at h
  .rename_i u hu;simp only[a05,a0i]at h;obtain⟨r,hb,rfl,rfl,rfl⟩:=h;exact⟨rfl,.lX hV rfl (Nq hb (gX hE (by simp[ho,Op.operands]) hu))⟩
  .simp at h
 .-- indexAddr
  rename_i t x y ho;rw[ho];split at h
  .rename_i e u he hu;simp only[a05,a0i]at h;obtain⟨r,hb,rfl,rfl,rfl⟩:=h;exact⟨rfl,.Ny hV rfl (zT hb (oU hE (by simp[ho,Op.operands]) he) (gX hE (by simp[ho,Op.operands]) hu))⟩
  .simp at h
 .-- index
  rename_i t x y ho;rw[ho];split at h
  .rename_i u v0 hu hv;simp only[a05,a0i]at h;obtain⟨r,hb,rfl,rfl,rfl⟩:=h;exact⟨rfl,.lX hV rfl (Nr hb (gX hE (by simp[ho,Op.operands]) hu) (gX hE (by simp[ho,Op.operands]) hv))⟩
  .simp at h
 .-- lookup
  rename_i t m k ok ho;rw[ho];split at h
  .rename_i u v0 hu hv;simp only[a05,a0i]at h;obtain⟨r,hb,rfl,rfl,rfl⟩:=h;exact⟨rfl,.lX hV rfl (DF hV hb (gX hE (by simp[ho,Op.operands]) hu) (gX hE (by simp[ho,Op.operands]) hv) hD)⟩
  .simp at h
 .-- mapUpdate
  rename_i t m k x ho;rw[ho];split at h
  .rename_i u v0 y hu hv hy;simp only[a05,a0i]at h;obtain⟨⟨s0,i0⟩,hb,rfl,rfl,rfl⟩:=h;obtain⟨e1,e2⟩:=QS hV hb (gX hE (by simp[ho,Op.operands]) hu) (gX hE (by simp[ho,Op.operands]) hv) (gX hE (by simp[ho,Op.operands]) hy) hD;exact⟨e1,.adI rfl e2⟩
  .simp at h
 .-- insert
  rename_i t m k x ho;rw[ho];split at h
  .rename_i u v0 y hu hv hy;simp only[a05,a0i]at h;obtain⟨⟨s0,i0⟩,hb,rfl,rfl,rfl⟩:=h;obtain⟨e1,e2⟩:=QS hV hb (gX hE (by simp[ho,Op.operands]) hu) (gX hE (by simp[ho,Op.operands]) hv) (gX hE (by simp[ho,Op.operands]) hy) hD;exact⟨e1,.adI rfl e2⟩
  .simp at h
 .-- mapEntry
  rename_i t m k ho;rw[ho];split at h
  .rename_i u v0 hu hv;obtain⟨e1,z,w',M',h1,h2,h3,h4,h5⟩:=a4M hV h (gX hE (by simp[ho,Op.operands]) hu) (gX hE (by simp[ho,Op.operands]) hv) hD;exact⟨e1,z,w',M',.inl (by show(do pure (.value (<-Instr.mapEntry t _ _)):Sem Next).run P w=_;simp[h1]),h3,h4,h2,h5⟩
  .simp at h
 .-- entryStore
  rename_i t m k x ho;rw[ho];split at h
  .rename_i u v0 y hu hv hy;simp only[a05,a0i]at h;obtain⟨⟨s0,i0⟩,hb,rfl,rfl,rfl⟩:=h;obtain⟨e1,e2⟩:=a2k (t:=t) hV hb (gX hE (by simp[ho,Op.operands]) hu) (oU hE (by simp[ho,Op.operands]) hv) (gX hE (by simp[ho,Op.operands]) hy) hD;exact⟨e1,.adI rfl e2⟩
  .simp at h
 .-- extract
  rename_i x n ho;rw[ho];split at h
  .rename_i e he;simp only[a05,a0i]at h;obtain⟨r,hb,rfl,rfl,rfl⟩:=h;have hx:=oU hE (by simp[ho,Op.operands]) he;refine⟨rfl,.Ny hV rfl ?_⟩;generalize a.eval x=xv at hx;unfold yK at hb;split at hb
   .simp only[a05]at hb;obtain⟨y0,hb,rfl⟩:=hb;cases hx with
    |val hx=>
     cases hx with
     |dG g1 g2=>
      obtain⟨y,y1,y2⟩:=(bU.mk g1 g2).get hb;exact⟨y,.val y2,by simp[Instr.extract,y1]⟩
   .cases hx with
    |ent q1 q2 q3=>
     split at hb<;>cases hb
     .exact⟨_,.val q3,by simp[Instr.extract]⟩
     .exact⟨_,.Ee q1 q2,by simp[Instr.extract]⟩
   .cases hb
  .simp at h
 .-- call
  rename_i c ho;rw[ho]at hc ⊢;unfold MV at h;split at h
  .rename_i b az hb has;simp only[a05,a0i]at h;obtain⟨⟨v0,s0,i0⟩,qy,rfl,rfl,rfl⟩:=h;obtain⟨e1,e2⟩:=YB (cs:=c.args.map fun|.const _=>true|_=>false) hV yM qy (Gi hE (fun x hx=>by simp[ho,Op.operands,Call.operands,hb];simpa using hx) has) hD;refine⟨e1,?_⟩;obtain⟨x,w',M',r1,r2⟩:=e2;refine⟨x,w',M',?_,r2⟩;rw[show(List.map a.eval c.args.toList).toArray=c.args.map a.eval from by apply adC;simp]at r1;unfold ahm at r1 ⊢;simp only[resolve,hb,Sem.run_bind,Sem.run_pure,Result.andThen_ok,invoke];exact r1
  .rename_i f az hf has;obtain⟨callee,args,ats⟩:=c;simp only at hf;subst hf;simp[Gl]at hc
  .simp at h
 .-- range
  rename_i t x ho;rw[ho];split at h
  .rename_i r k el hv hu;split at h
   .rename_i es Lh;simp only[a00,a0i]at h;obtain⟨rfl,rfl,rfl⟩:=h;have hx:=gX hE (by simp[ho,Op.operands]) hv;refine⟨rfl,?_⟩;generalize hxv:a.eval x=xv at hx;cases hx with
    |map hm=>
    rename_i r1 o1;obtain⟨fV,b1,b2⟩:=hV.ok _ _ hm (hD (.h r) (by simp[wW]));simp only[St.get,Lh,a00]at b1;subst b1;obtain⟨xs,g1,g2⟩:=b2;have yB:s.get (.h s.heap.length)=none:=(by simp[St.get]);have hrl:r<s.heap.length:=(a01.1 Lh).1;have hle:rX M (dJ M (.h s.heap.length) (.obj w.heap.size [])):=lU fun l0 h0=>by rw[yM]at h0;cases h0
    have gq:∀c,c<w.heap.size->c∉aI (.obj w.heap.size [])->(w.alloc (.mapIter (some r1) xs.size #[] xs.size)).heap[c]? = w.heap[c]?:=fun c hc _=>vU w _ c hc;have gV:∀c∈aI (.obj w.heap.size []),(∃l0,M (.h s.heap.length)=some l0∧c∈aI l0)∨w.heap.size<=c:=fun c hc=>.inr (by simp[aI]at hc;omega);refine⟨.pointer (some ⟨w.heap.size,0,none⟩),w.alloc (.mapIter (some r1) xs.size #[] xs.size),dJ M (.h s.heap.length) (.obj w.heap.size []),.inl ?_,?_,?_,.val (.iter (o:=[]) (by simp[Mp.h,dJ])),qJ yM⟩
    .simp[hxv,Instr.range,run_underlying hu,getObj,Sem.run,g1,newObj]
    .rw[jW];refine hV.upd _ _ _ (fun j hj=>?_) (fun l0 h0=>by rw[yM]at h0;cases h0) gq gV (by simp) ⟨r1,o1,#[],?_,?_,?_,rfl⟩
     .rcases hj with hj|⟨x1,x2⟩
      .exact .inl hj
      .right;unfold lJ at x2;split at x2
       .assumption
       .simp[x1]at x2
     .have:(Key.h r)≠.h s.heap.length:=fun e=>by cases e;omega
      simp only[Mp.h,dJ,a0c this];exact hm
     .rw[g2.len];exact heap_alloc_new w _
     .rw[g2.len,g2.ord];exact a0U _
    .rw[jW];exact Ext.upd _ _ _ [] (.inr ⟨yB,yM,rfl⟩) hle gq gV (by simp) rfl rfl rfl
   .simp at h
  .simp at h
 .-- entry
  rename_i x ho;rw[ho];split at h
  .rename_i b hv;split at h
   .rename_i r n i seen hb;split at h
    .rename_i es Lh;split at h
     case isFalse=>simp at h
     rename_i hn;simp only[a05,a0i]at h;obtain⟨e,he,rfl,rfl,rfl⟩:=h;have hx:=gX hE (by simp[ho,Op.operands]) hv;refine⟨rfl,.lX hV rfl ?_⟩;generalize a.eval x=xv at hx;cases hx with
     |iter hm=>
     rename_i b1 o1;obtain⟨fV,c1,c2⟩:=hV.ok _ _ hm (hD (.h b) (by simp[fJ]));simp only[St.get,hb,a00]at c1;subst c1;obtain⟨r1,o,sa,d1,d2,d3,d4⟩:=c2;obtain⟨fV,c1,c2⟩:=hV.ok (.h r) _ d1 (hD (.h r) (by simp[fJ]));simp only[St.get,Lh,a00]at c1;subst c1;obtain⟨xs,g1,g2⟩:=c2;have iq:sa.toList≠[]:=fun e=>by rw[e]at d4;simp at d4
     obtain⟨k,hk⟩:∃k,sa.back? = some k∧o[k]? = some i:=by
      have h1:(sa.toList.map fun i=>o[i]?).getLast? = some (some i):=by rw[d4];simp
      rw[List.getLast?_map]at h1;simp only[a05]at h1;obtain⟨k,h2,h3⟩:=h1;exact⟨k,by rw[<-Array.getLast?_toList];exact h2,h3⟩
     have kN:k<xs.size:=by rw[<-g2.ord];exact(a01.1 hk.2).1
     obtain⟨q1,j,e',q2,q3,q4,q5⟩:=g2.at_ k _ (a3Q kN);rw[hk.2]at q2;cases q2;rw[he]at q3;cases q3;refine⟨.tuple #[xs[k].key,xs[k].val],.Q7 (.cons q4 (.cons q5 .nil)),?_⟩;have hf:xs.find? (·.born==k)=some xs[k]:=by rw[<-Array.find?_toList];have:xs[k].born==k:=(by simpa using q1);rw[List.find?_eq_some_iff_getElem];refine⟨this,k,by simpa using kN,by simp,fun j hj=>?_⟩;have rU:j<xs.size:=(by omega);have:=(g2.at_ j _ (a3Q rU)).1;simp only[Array.getElem_toList];rw[this];simp;omega
     have hc:xs.size=n:=by rw[<-g2.len];exact hn
     simp only[Instr.entry,getObj,Sem.run_bind,Sem.run,d2,g1,Result.andThen_ok,hk.1,hc,bne_self_eq_false,a2i,a3g,hf];rfl
    .simp at h
   .simp at h
  .simp at h
 .simp at h
end
abbrev kQ(h:List HB):Ct:=St.get ⟨[],[],h,[]⟩
def Mp.only(M:Mp):Mp
 |.h b=>M (.h b)
 |.l _=>none
abbrev nJ(r:Option Nat):Fence:={ Fence.wide with round:=r }
def KO(R:LI3->LI4->Prop):Ending->LI4->Prop
 |.returned v,w=>R v w
 |_,_=>False
def jJ(M:Mp)(h:List HB)(w:LI4)(v:TV)(h':List HB)(ws:List Nat)(y:LI3)(w':LI4):Prop:=
 ∃M',Valid M' uK (kQ h') w'∧(∀k,M' (.l k)=none)∧Ext M (kQ h) w M' (kQ h') w' (ws.map .h)∧VR M'.h v y
def Lj(P:LI1)(d:Deferred)(w:LI4)(R:LI3->LI4->Prop):Prop:=
 ∃f az,(invoke d.target d.args).run P w=.ok (.enter f az) w∧∀n,CallsIn Fence.wide n P f az w (KO R)
def TR(P:LI1)(d:Deferred)(w:LI4)(R:LI3->LI4->Prop):Prop:=
 ∃l f tmps uJ body,(invoke d.target d.args).run P w=.ok (.round l f tmps uJ body) w∧∀n,RoundIn Fence.wide n P l f tmps uJ body w (KO R)
def iC(P:LI1)(call:aY):Prop:=
 ∀fv args h v h' ws,call fv args h=some (v,h',ws)->∀(M:Mp) (w:LI4) (x:LI3) (xs:List LI3),Valid M uK (kQ h) w->(∀k,M (.l k)=none)->VR M.h fv x->bU M.h args xs ->
  ∃d,(∀w,(Deferred.ofValue x xs.toArray).run P w=.ok d w)∧((Lj P d w (jJ M h w v h' ws)∧∃f a b,fv=.fn f a b)∨(TR P d w (jJ M h w v h' ws)∧∃l,fv=.kG l))
theorem CallsIn.ex{n:Nat}{P:LI1}{f:FuncId}{az:Array LI3}{w:LI4}{R:LI3->LI4->Prop}(h:CallsIn Fence.wide n P f az w (KO R)):∃y w',R y w':=by
 obtain⟨e,w',fr,hR,_⟩:=h.2 [] (room_wide _);cases e with
 |returned v=>exact⟨v,w',hR⟩
 |panicked c=>exact hR.elim
 |outgrown=>exact hR.elim
theorem RoundIn.ex{n:Nat}{P:LI1}{l:Nat}{f:FuncId}{tmps:Array LI3}{uJ body:Code}{w:LI4}{R:LI3->LI4->Prop}(h:RoundIn Fence.wide n P l f tmps uJ body w (KO R)):∃y w',R y w':=by
 obtain⟨e,w',hR,_⟩:=h.2 default [] (room_wide _);cases e with
 |returned v=>exact⟨v,w',hR⟩
 |panicked c=>exact hR.elim
 |outgrown=>exact hR.elim
section
variable {P:LI1} {call:aY}
theorem iC.ex(hC:iC P call){fv:TV}{args:List TV}{h:List HB}{v:TV}{h':List HB}{ws:List Nat}(hc:call fv args h=some (v,h',ws)){M:Mp}{w:LI4}{x:LI3}{xs:List LI3}
  (hV:Valid M uK (kQ h) w) (hl:∀k,M (.l k)=none) (hx:VR M.h fv x) (Nz:bU M.h args xs):∃y w',jJ M h w v h' ws y w':=by
 obtain⟨d,_,h1|h1⟩:=hC _ _ _ _ _ _ hc M w x xs hV hl hx Nz
 .obtain⟨⟨f,az,_,h2⟩,_⟩:=h1;exact CallsIn.ex (h2 0)
 .obtain⟨⟨l,f,tmps,uJ,body,_,h2⟩,_⟩:=h1;exact RoundIn.ex (h2 0)
def abB(M' M:Mp):Mp
 |.h b=>M' (.h b)
 |.l j=>M (.l j)
theorem F9{M:Mp}{D:Key->Prop}{s:St}{w:LI4}(hV:Valid M D s.get w)(hh:∀b l,M (.h b)=some l->D (.h b)):Valid M.only uK (kQ s.heap) w:=by
 refine⟨?_,?_,?_⟩
 .intro k l hk _;cases k with
  |l j=>cases hk
  |h b=>exact hV.ok (.h b) l hk (hh b l hk)
 .intro k k' l l' b iq hk o8 _ hc hw;cases k with
  |l j=>cases hk
  |h b=>
   cases k' with
   |l j=>cases o8
   |h b'=>exact hV.own _ _ _ _ _ iq hk o8 (hh b l hk) hc hw
 intro k l hk;cases k with
 |l j=>cases hk
 |h b=>exact hV.inb _ _ hk
theorem QU{M:Mp}{D:Key->Prop}{s:St}{w:LI4}(hV:Valid M D s.get w)
  (yQ:∀j l,M (.l j)=some l->∀k' l',Key.l j≠k'->M k'=some l'->∀c∈aI l,c∉aI l')
  {v:TV} {h':List HB} {ws:List Nat} {y:LI3} {w':LI4} (hr:jJ M.only s.heap w v h' ws y w') :
  ∃M',Na M D s.get w (.val v) (St.get { s with heap:=h' }) (ws.map .h) y w' M':=by
 obtain⟨M',Yz,hl',hX,hy⟩:=hr;have pF:∀(b j:Nat) (l l':Lc),M' (.h b)=some l->M (.l j)=some l'->∀c∈aI l,c∉aI l':=by intro b j l l' hb hj c hc Vp;have aT:=hV.inb _ _ hj c Vp;obtain⟨l0,h1,h2⟩:=hX.fresh _ _ hb c hc aT;exact yQ j l' hj (.h b) l0 (by simp) h1 c Vp h2
 refine⟨abB M' M,⟨⟨?_,?_,?_⟩,?_,.val hy,fun _ _ h=>h⟩⟩
 .intro k l hk hd;cases k with
  |h b=>exact Yz.ok (.h b) l hk trivial
  |l j=>
   rcases hd with hd|⟨h1,h2⟩
   .obtain⟨b0,h1,h2⟩:=hV.ok (.l j) l hk hd;refine⟨b0,h1,h2.mono (N:=M.h) (N':=(abB M' M).h) (hX.Io.h) fun c hc=>?_⟩;refine hX.frame c (hV.inb _ _ hk c hc) fun k' o8 l' hl' ane=>?_;obtain⟨b',_,rfl⟩:=a1g.1 o8;exact yQ j l hk (.h b') l' (by simp) hl' c hc ane
   .simp only[St.get]at h1 h2;rw[h1]at h2;cases h2
 .intro k k' l l' b0 iq hk o8 hd hc hw;cases k with
  |h b=>
   cases k' with
   |h b'=>exact Yz.own (.h b) (.h b') l l' b0 iq hk o8 trivial hc hw
   |l j=>exact pF b j l l' hk o8
  |l j=>
   cases k' with
   |h b'=>exact fun c hc Vp=>pF b' j l' l o8 hk c Vp hc
   |l j'=>exact yQ j l hk (.l j') l' iq o8
 .intro k l hk c hc;cases k with
  |h b=>exact Yz.inb (.h b) l hk c hc
  |l j=>exact a8W (hV.inb (.l j) l hk c hc) hX.size
 .exact
  {Io:=by
    intro k l hk;cases k with
    |h b=>exact hX.Io (.h b) l hk
    |l j=>exact⟨l,hk,.refl l⟩
   frame:=fun c hc hf=>hX.frame c hc fun k hk l hl=>by obtain⟨b',_,rfl⟩:=a1g.1 hk;exact hf _ hk l hl
   nD:=fun k hk hn=>by
    cases k with
    |h b=>exact hX.nD (.h b) hk hn
    |l j=>rfl
   kX:=fun k hk hn=>by
    cases k with
    |h b=>exact hX.kX (.h b) hk hn
    |l j=>rfl
   fresh:=fun k l hk c hc aT=>by
    cases k with
    |h b=>exact hX.fresh (.h b) l hk c hc aT
    |l j=>exact⟨l,hk,hc⟩
   size:=hX.size
   has:=fun k hk=>by
    cases k with
    |h b=>exact hX.has (.h b) hk
    |l j=>exact hk
   wsub:=fun k hk=>by obtain⟨b',_,rfl⟩:=a1g.1 hk;exact hX.wsub _ hk
   wrote:=fun k hk=>by obtain⟨b',_,rfl⟩:=a1g.1 hk;exact hX.wrote _ hk
   os:=hX.os
   output:=hX.output
   tape:=hX.tape }
theorem getEnv(s:St)(env:List (Nat×EV))(ws:List Nat):St.get { s with env:=env,ws:=ws }=s.get:=by funext k;cases k<;>rfl
theorem YC(s:St)(d:Option Nat)(v:EV):St.get (s.put d v)=s.get:=by funext k;cases d<;>cases k<;>rfl
theorem Valid.sub{M:Mp}{D D':Key->Prop}{C:Ct}{w:LI4}(hV:Valid M D C w)(h:∀k,D' k->D k):Valid M D' C w:=
 ⟨fun k l hk hd=>hV.ok k l hk (h k hd),fun k k' l l' b a1 a2 a3 hd=>hV.own k k' l l' b a1 a2 a3 (h k hd),hV.inb⟩
theorem a2l{site:Nat->Bool}{s:St}{o:Oper}{c:Call}(h:o.op=.defer c):oP P call site s o=none:=by simp[oP,h]
def um(P:LI1)(call:aY)(site:Nat->Bool)(fl nt:Nat)(ops:Array Oper)(o:Oper)(s:St)(i:lN)(s':St):Prop:=
 MW nt o=true∧((BU ops s.env o=some true∧∃v s1,oP P call site s o=some (v,s1,i)∧s'=St.put { s1 with ws:=jT fl i.ws s.ws } o.dst v) ∨
  (BU ops s.env o=some false∧i=bY∧s'=s.put o.dst .undef))
def o9(i:lN)(k:Key):Prop:=k∈i.ts∨k∈i.ws∨(i.all=true∧k.isH=true)
def Ll(M:Mp)(env:List (Nat×EV))(tmps:Array LI3)(ops:Array Oper)(o:Oper):Prop:=
 ∀j want d,o.guard=some (j,want)->(ops[j]?).bind (·.dst)=some d->∀e,dL d env=some e->ER M e (tmps.getD d Go.undef)
theorem Lm{M:Mp}{env:List (Nat×EV)}{tmps:Array LI3}{ops:Array Oper}{o:Oper}{b:Bool}(hG:Ll M env tmps ops o)(h:BU ops env o=some b):Region.wanted o (yielded ops tmps)=b:=by
 unfold BU at h;unfold Region.wanted;split at h
 .rename_i hg;rw[hg];simpa using h
 rename_i j want hg;rw[hg];simp only;split at h
 rotate_left
 .simp at h
 rename_i d hd;split at h
 .rename_i b0 he;have h3:=(hG j want d hg hd _ he).vg;have hb:tmps.getD d Go.undef=.bool b0:=by generalize tmps.getD d Go.undef=z at h3;cases h3;rfl
  have:tmps[d]? = some (.bool b0):=by
   by_cases h1:d<tmps.size
   .simp only[Array.getD,h1,dite_true]at hb;rw[a3Q h1];exact congrArg some hb
   simp[Array.getD,h1,Go.undef]at hb
  simp only[yielded,hd,a4l,this];simpa using h
 .rename_i he;have h2:=hG j want d hg hd _ he;have hb:tmps.getD d Go.undef=Go.undef:=by generalize tmps.getD d Go.undef=z at h2;cases h2;rfl
  have:tmps[d]? = some Go.undef∨tmps[d]? = none:=by
   by_cases h1:d<tmps.size
   .simp only[Array.getD,h1,dite_true]at hb;rw[a3Q h1];exact .inl (congrArg some hb)
   right;simpa using h1
  simp at h;subst h;rcases this with this|this<;>simp only[yielded,hd,a4l,this]<;>rfl
 simp at h
def JW(M:Mp)(D:Key->Prop)(s:St)(w:LI4)(o:Oper)(i:lN)(s':St)(x:LI3)(w':LI4):Prop:=
 ∃v M',s'=St.put { s' with env:=s.env } o.dst v∧Na M D s.get w v s'.get i.ws x w' M'
theorem TT(s:St)(env:List (Nat×EV))(d:Option Nat)(v:EV)(h:s.env=env):s.put d v=St.put { s.put d v with env:=env } d v:=by subst h;cases d<;>rfl
theorem a0k(hC:iC P call){site:Nat->Bool}{fl nt:Nat}{ops:Array Oper}{o:Oper}{s s':St}{i:lN}{M:Mp}{D:Key->Prop}{w:LI4}{a:Act}
  (hS:um P call site fl nt ops o s i s') (hV:Valid M D s.get w) (yM:M (.h s.heap.length)=none) (hnl:M (.l s.loc.length)=none)
  (yQ:∀j l,M (.l j)=some l->∀k' l',Key.l j≠k'->M k'=some l'->∀c∈aI l,c∉aI l')
  (hE:Gh M s.env a o.op.operands) (hG:Ll M s.env a.tmps ops o) (hD:∀k,o9 i k->(M k).isSome=true->D k) :
  (∃x w',JW M D s w o i s' x w') ∧
   ∀(r:Option Nat) (n:Nat) (Q:Exit->Act->LI4->Prop) (idx:Nat) (K:Act->LI4->Prop),ops[idx]? = some o ->
    (∀x w',JW M D s w o i s' x w'->K (a.put o.dst x) w')->wpOpIn (nJ r) n P ops Q idx K a w:=by
 obtain⟨_,⟨hw,v,s1,kH,rfl⟩|⟨hw,rfl,rfl⟩⟩:=hS
 .have a0l:=Lm hG hw;by_cases hc:Gl o.op=true
  .-- a call
   have:∃f args ats,o.op=.call { callee:=.value f,args:=args,argTypes:=ats }:=by
    unfold Gl at hc;split at hc
    .rename_i f args ats ho;exact⟨_,_,_,ho⟩
    .cases hc
   obtain⟨f,args,ats,ho⟩:=this;simp only[oP,ho,MV]at kH;split at kH
   .rename_i b az hb has;cases hb
   .rename_i f' az hf has;injection hf with hf;subst hf;split at kH
    .rename_i fv hfv;split at kH
     .rename_i v0 h' ws xO;simp only[a00,a0i]at kH;obtain⟨rfl,rfl,rfl⟩:=kH;have hh:∀b l,M (.h b)=some l->D (.h b):=fun b l hb=>hD _ (.inr (.inr ⟨rfl,rfl⟩)) (by simp[hb]);have hVo:=F9 hV hh;have hfx:VR M.only.h fv (a.eval f):=gX hE (by simp[ho,Op.operands,Call.operands]) hfv;have hax:bU M.only.h az (args.toList.map a.eval):=Gi hE (fun x hx=>by simp[ho,Op.operands,Call.operands];exact .inr (by simpa using hx)) has;have conv:∀y w',jJ M.only s.heap w v0 h' ws y w'->JW M D s w o ⟨true,[],ws.map .h⟩ (St.put { s with heap:=h',ws:=jT fl (ws.map .h) s.ws } o.dst (.val v0)) y w':=by intro y w' hr;obtain⟨M',hp⟩:=QU hV yQ hr;refine⟨.val v0,M',TT _ _ _ _ rfl,?_⟩;rw[YC];exact hp
      obtain⟨d,hd,Bf⟩:=hC _ _ _ _ _ _ xO M.only w (a.eval f) (args.toList.map a.eval) hVo (fun _=>rfl) hfx hax;refine⟨?_,?_⟩
      .obtain⟨y,w',hr⟩:=iC.ex hC xO hVo (fun _=>rfl) hfx hax;exact⟨y,w',conv y w' hr⟩
      .intro r n Q idx K TU hK;unfold wpOpIn;simp only[TU,a0l,a1U];refine⟨fun _ _=>trivial,?_⟩;have a4P:∀nx,(invoke d.target d.args).run P w=.ok nx w->(o.semAt (nJ r).round a.eval).run P w=.ok nx w:=by intro nx hnx;rw[Oper.semAt_eq _ _ _ (fun c=>by rw[ho];simp)];unfold execOp;rw[ho];have:=hd w;rw[show(List.map a.eval args.toList).toArray=args.map a.eval from by apply adC;simp]at this;simp[resolve,this,hnx]
       rcases Bf with⟨⟨f1,as1,hinv,pF⟩,_⟩|⟨⟨l1,f1,tm1,ag1,bd1,hinv,hrd⟩,_⟩
       .rw[a4P _ hinv];refine⟨fun h=>by simp[Fence.wide]at h,CallsIn.mono (F:=nJ r) (pF (n-1)) fun e w' he=>?_⟩;cases e with
        |returned y=>exact hK y w' (conv y w' he)
        |panicked c=>exact he.elim
        |outgrown=>exact he.elim
       .rw[a4P _ hinv];refine⟨fun h=>by simp[Fence.wide]at h,RoundIn.mono (F:=nJ r) (hrd (n-1)) fun e w' he=>?_⟩;cases e with
        |returned y=>exact hK y w' (conv y w' he)
        |panicked c=>exact he.elim
        |outgrown=>exact he.elim
     .simp at kH
    .simp at kH
   .simp at kH
  .-- no call
   have Vp:Gl o.op=false:=(by simpa using hc);have Yz:Valid M (fun k=>D k∨M k=none) s.get w:=⟨fun k l hk hd=>hV.ok k l hk (hd.resolve_right (by simp[hk])),fun k k' l l' b a1 a2 a3 hd=>hV.own k k' l l' b a1 a2 a3 (hd.resolve_right (by simp[a2])),hV.inb⟩;obtain⟨he,x,w',M',hr,hp⟩:=ahA Yz hE yM hnl kH Vp (fun k hk=>by
    cases hm:M k with
    |none=>exact .inr rfl
    |some l=>exact .inl (hD k (.inl hk) (by simp[hm])))
   have uN:JW M D s w o i (St.put { s1 with ws:=jT fl i.ws s.ws } o.dst v) x w':=by refine⟨v,M',TT _ _ _ _ he,?_⟩;have hg:St.get { s1 with ws:=jT fl i.ws s.ws }=s1.get:=getEnv s1 s1.env _;rw[YC,hg];exact⟨hp.val.sub fun k hk=>hk.imp .inl id,hp.ext,hp.er,hp.loc⟩
   refine⟨⟨x,w',uN⟩,fun r n Q idx K TU hK=>?_⟩;unfold wpOpIn;simp only[TU,a0l,a1U];refine⟨fun _ _=>trivial,?_⟩;rw[Oper.semAt_eq _ _ _ (fun c ho=>by rw[a2l ho]at kH;cases kH)];rcases hr with hr|⟨rfl,hr⟩
   .rw[hr];exact hK x w' uN
   .rw[hr];exact hK _ w' uN
 .have a0l:=Lm hG hw;have uN:JW M D s w o bY (s.put o.dst .undef) Go.undef w:=by refine⟨.undef,M,TT _ _ _ _ rfl,?_⟩;rw[YC];exact .same hV .undef
  refine⟨⟨_,_,uN⟩,fun r n Q idx K TU hK=>?_⟩;unfold wpOpIn;simp only[TU,a0l,a2i,a3g];exact⟨fun _ _=>trivial,hK _ _ uN⟩
end
structure vZ(M0:Mp)(h0:List HB)(w0:LI4):Prop where
 val:Valid M0 uK (kQ h0) w0
 loc:∀k,M0 (.l k)=none
structure Rel(M0:Mp)(h0:List HB)(w0:LI4)(nt:Nat)(M:Mp)(s:St)(a:Act)(w:LI4):Prop where
 val:Valid M uK s.get w
 ext:Ext M0 (kQ h0) w0 M s.get w (s.ws.map .h)
 env:jS M s.env a.tmps
 size:nt<=a.tmps.size
 marks:∀d∈a.defers,∃k r,d=⟨.collected r,#[]⟩∧kQ h0 (.h k)=none∧(∃o,M (.h k)=some (.obj r o))∧s.get (.h k)=some .mark∧w.heap[r]? = some (.deferred (some []))
 apart:a.defers.Pairwise (·≠·)
theorem a4R{fl b c:Nat}{ws:List Nat}:c∈Ef fl b ws↔c∈ws∨(c=b∧b<fl):=by
 unfold Ef;split
 .rename_i h;split
  .rename_i hc;have hc:b∈ws:=(by simpa using hc);constructor
   .exact .inl
   rintro (h1|⟨rfl,_⟩)
   .exact h1
   exact hc
  simp only[a2d];constructor
  .rintro (rfl|h1)
   .exact .inr ⟨rfl,h⟩
   exact .inl h1
  rintro (h1|⟨rfl,_⟩)
  .exact .inr h1
  exact .inl rfl
 rename_i h;constructor
 .exact .inl
 rintro (h1|⟨_,h1⟩)
 .exact h1
 exact absurd h1 h
theorem og{fl c:Nat}:∀{ks:List Key} {ws:List Nat},c∈jT fl ks ws↔c∈ws∨(Key.h c∈ks∧c<fl)
 | [],ws=>by simp[jT]
 |.h b::ks,ws=>by
  rw[jT,og,a4R];simp only[a2d,Key.h.injEq];constructor
  .rintro ((h|⟨rfl,h⟩)|⟨h1,h2⟩)
   .exact .inl h
   .exact .inr ⟨.inl rfl,h⟩
   exact .inr ⟨.inr h1,h2⟩
  rintro (h|⟨rfl|h1,h2⟩)
  .exact .inl (.inl h)
  .exact .inl (.inr ⟨rfl,h2⟩)
  exact .inr ⟨h1,h2⟩
 |.l b::ks,ws=>by rw[jT,og];simp
theorem yR{t:Nat}{s:St}{d:Option Nat}{v:EV}:dL t (s.put d v).env=if d=some t then some v else dL t s.env:=by
 cases d with
 |none=>simp[St.put]
 |some d=>simp[St.put,dL]
theorem yS{a:Act}{d:Option Nat}{x:LI3}{t:Nat}:(a.put d x).tmps.getD t Go.undef=if d=some t∧t<a.tmps.size then x else a.tmps.getD t Go.undef:=by
 cases d with
 |none=>simp[Act.put]
 |some d=>
  simp only[Act.put,a00];simp only[<-adB,a8l,a8J];by_cases h:d=t
  .subst h;by_cases h1:d<a.tmps.size
   .simp[h1]
   simp[h1]
  simp[h]
theorem Gn{a:Act}{d:Option Nat}{x:LI3}:(a.put d x).tmps.size=a.tmps.size:=by cases d<;>simp[Act.put]
theorem jK{a:Act}{d:Option Nat}{x:LI3}:(a.put d x).defers=a.defers:=by cases d<;>rfl
section
variable {P:LI1} {call:aY} {site:Nat->Bool} {fl nt:Nat} {ops:Array Oper} {o:Oper} {s s':St} {i:lN}
theorem um.a0m(h:um P call site fl nt ops o s i s'):s'.ws=jT fl i.ws s.ws:=by
 obtain⟨_,⟨_,v,s1,_,rfl⟩|⟨_,rfl,rfl⟩⟩:=h
 .cases o.dst<;>rfl
 cases o.dst<;>rfl
theorem um.dst(h:um P call site fl nt ops o s i s'){d:Nat}(hd:o.dst=some d):d<nt:=by have:=h.1;simp only[MW,hd]at this;simpa using this
variable {M0:Mp} {h0:List HB} {w0:LI4} {M:Mp} {a:Act} {w:LI4}
theorem Rel.loc(hR:Rel M0 h0 w0 nt M s a w):∀j l,M (.l j)=some l->∀k' l',Key.l j≠k'->M k'=some l'->∀c∈aI l,c∉aI l':=by intro j l hj k' l' iq o8;obtain⟨b,h1,_⟩:=hR.val.ok _ _ hj trivial;refine hR.val.own _ _ _ _ b iq hj o8 trivial h1 ?_;simp only[St.get,a05]at h1;obtain⟨_,_,rfl⟩:=h1;rfl
theorem Rel.nh(hR:Rel M0 h0 w0 nt M s a w):M (.h s.heap.length)=none:=by
 cases h:M (.h s.heap.length)with
 |none=>rfl
 |some l=>have:=hR.val.has h;simp[St.get]at this
theorem Rel.nl(hR:Rel M0 h0 w0 nt M s a w):M (.l s.loc.length)=none:=by
 cases h:M (.l s.loc.length)with
 |none=>rfl
 |some l=>have:=hR.val.has h;simp[St.get]at this
theorem Ci{h:List HB}{k:Key}(hk:(kQ h k).isSome=true):∃b,k=.h b∧b<h.length:=by
 cases k with
 |h b=>exact⟨b,rfl,by simpa[kQ,St.get]using hk⟩
 |l j=>simp[kQ,St.get]at hk
theorem YD{h:List HB}{b:Nat}(hb:b<h.length):(kQ h (.h b)).isSome=true:=by simp[kQ,St.get,hb]
theorem QV(hR:Rel M0 h0 w0 nt M s a w){M':Mp}{C':Ct}{w':LI4}{ws:List Key}(hX:Ext M s.get w M' C' w' ws) :
  ∀d∈a.defers,∃k r,d=⟨.collected r,#[]⟩∧kQ h0 (.h k)=none∧(∃o,M' (.h k)=some (.obj r o))∧C' (.h k)=some .mark∧w'.heap[r]? = some (.deferred (some [])):=by
 intro d hd;obtain⟨k,r,h1,h2,⟨o,h3⟩,h4,h5⟩:=hR.marks d hd;have hn:Key.h k∉ws:=fun Ey=>by have:=(hX.wrote _ Ey).2 _ h4;cases this
 obtain⟨l',g1,g2⟩:=hX.Io _ _ h3;obtain⟨o',hl⟩:∃o',l'=.obj r o':=by
  cases l' with
  |cells ls=>exact g2.elim
  |obj r' o'=>cases g2.1;exact⟨o',rfl⟩
 refine⟨k,r,h1,h2,⟨o',by rw[g1,hl]⟩,by rw[hX.nD _ (by simp[h4]) hn,h4],?_⟩;rw[hX.frame r (a2h.1 h5).1 fun k' o8 l0 qB hc=>?_,h5];obtain⟨b,hb,_⟩:=hR.val.ok _ _ qB trivial;exact hR.val.own k' (.h k) l0 (.obj r o) b (fun e=>hn (e▸o8)) qB h3 trivial hb ((hX.wrote _ o8).2 b hb) r hc (by simp[aI])
theorem NC(hB:vZ M0 h0 w0)(hR:Rel M0 h0 w0 nt M s a w)(hS:um P call site h0.length nt ops o s i s'){x:LI3}{w':LI4}(uN:JW M uK s w o i s' x w') :
  ∃M',Rel M0 h0 w0 nt M' s' (a.put o.dst x) w':=by
 obtain⟨v,M',he,hp⟩:=uN;refine⟨M',hp.val.sub fun k _=>.inl trivial,?_,?_,by rw[Gn];exact hR.size,by rw[jK];exact QV hR hp.ext,by rw[jK];exact hR.apart⟩
 .refine hR.ext.trans hp.ext (fun k l hk=>hB.val.has hk) (fun k hk Ey=>?_) (fun k hk=>?_)
  .obtain⟨b,rfl,hb⟩:=Ci hk;rw[hS.a0m];refine a1g.2 ⟨b,og.2 ?_,rfl⟩;rcases Ey with h1|h1
   .obtain⟨b',h2,h3⟩:=a1g.1 h1;cases h3;exact .inl h2
   .exact .inr ⟨h1,hb⟩
  .rw[hS.a0m]at hk;obtain⟨b,hb,rfl⟩:=a1g.1 hk;rcases og.1 hb with h1|⟨h1,h2⟩
   .have:Key.h b∈s.ws.map .h:=a1g.2 ⟨b,h1,rfl⟩;exact⟨hR.ext.wsub _ this,.inl this⟩
   .exact⟨YD h2,.inr h1⟩
 .intro t e hl;rw[he,yR]at hl;rw[yS];by_cases hd:o.dst=some t
  .rw[a0g hd]at hl;have:=hS.dst hd;have:=hR.size;rw[a0g ⟨hd,by omega⟩];cases hl;exact hp.er
  .rw[a0c hd]at hl;rw[a0c (fun h=>hd h.1)];exact(hR.env t e hl).mono hp.ext.Io hp.loc
theorem Rel.guard(hR:Rel M0 h0 w0 nt M s a w):Ll M s.env a.tmps ops o:=fun _ _ d _ _ e he=>hR.env d e he
theorem Gp(hC:iC P call)(hR:Rel M0 h0 w0 nt M s a w)(hS:um P call site h0.length nt ops o s i s') :
  (∃x w',JW M uK s w o i s' x w') ∧
   ∀(r:Option Nat) (n:Nat) (Q:Exit->Act->LI4->Prop) (idx:Nat) (K:Act->LI4->Prop),ops[idx]? = some o ->
    (∀x w',JW M uK s w o i s' x w'->K (a.put o.dst x) w')->wpOpIn (nJ r) n P ops Q idx K a w:=
 a0k hC hS hR.val hR.nh hR.nl hR.loc (hR.env.on _) hR.guard fun _ _ _=>trivial
theorem Cj{o:Oper}{os:List Oper}{s s':St}{is:List lN}(h:kW P call site fl nt ops (o::os) s=some (s',is)) :
  ∃i s1 is',um P call site fl nt ops o s i s1∧kW P call site fl nt ops os s1=some (s',is')∧is=i::is':=by
 simp only[kW]at h;split at h
 .simp at h
 .rename_i hd;have hd:MW nt o=true:=by simpa using hd
  split at h
  .rename_i hw;split at h
   .rename_i v s1 i kH;split at h
    .rename_i s2 is2 hr;simp only[a00,a0i]at h;obtain⟨rfl,rfl⟩:=h;exact⟨i,_,_,⟨hd,.inl ⟨hw,v,s1,kH,rfl⟩⟩,hr,rfl⟩
    .simp at h
   .simp at h
  .rename_i hw;split at h
   .rename_i s2 is2 hr;simp only[a00,a0i]at h;obtain⟨rfl,rfl⟩:=h;exact⟨_,_,_,⟨hd,.inr ⟨hw,rfl,rfl⟩⟩,hr,rfl⟩
   .simp at h
  .simp at h
theorem a4S(hC:iC P call)(hB:vZ M0 h0 w0){r:Option Nat}{n:Nat}{Q:Exit->Act->LI4->Prop}:∀(os:List Oper) (k:Nat) (s s':St) (is:List lN) (M:Mp) (a:Act) (w:LI4),ops.toList.drop k=os ->
  kW P call site h0.length nt ops os s=some (s',is)->Rel M0 h0 w0 nt M s a w ->
  (∀M' a' w',Rel M0 h0 w0 nt M' s' a' w'->a'.defers=a.defers->Q .normal a' w')->wpOpsIn (nJ r) n P ops Q (List.range' k os.length) a w
 | [],k,s,s',is,M,a,w,_,h,hR,hQ=>by simp only[kW,a00,a0i]at h;obtain⟨rfl,rfl⟩:=h;exact hQ M a w hR rfl
 |o::os,k,s,s',is,M,a,w,hd,h,hR,hQ=>by
  obtain⟨i,s1,is',hS,hr,rfl⟩:=Cj h;have ho:ops[k]? = some o:=by have:=congrArg (fun l=>l[0]?) hd;simpa using this
  have YA:ops.toList.drop (k+1)=os:=by rw[<-afc,hd];rfl
  simp only[a4b,List.range'_succ];rw[wpOpsIn_cons];refine(Gp hC hR hS).2 r n Q k _ ho fun x w' uN=>?_;obtain⟨M',Fa⟩:=NC hB hR hS uN;exact a4S hC hB os (k+1) s1 s' is' M' _ w' YA hr Fa fun M2 a2 w2 h2 hdf=>hQ M2 a2 w2 h2 (hdf.trans jK)
theorem a2m(hC:iC P call)(hB:vZ M0 h0 w0){r:Option Nat}{n:Nat}{Q:Exit->Act->LI4->Prop}{id:Nat}{s s':St}{is:List lN}{M:Mp}{a:Act}{w:LI4}
  (h:kW P call site h0.length nt ops ops.toList s=some (s',is)) (hR:Rel M0 h0 w0 nt M s a w)
  (hQ:∀M' a' w',Rel M0 h0 w0 nt M' s' a' w'->a'.defers=a.defers->Q .normal a' w'):(Code.region id ops false).wpIn (nJ r) n P Q a w:=by
 refine wpIn_region ?_;have:=a4S (r:=r) (n:=n) (Q:=Q) hC hB ops.toList 0 s s' is M a w rfl h hR hQ;simpa[List.range_eq_range']using this
end
theorem ND{i:Nat}:∀{xs l:List Nat},i∈MX xs l->i∈xs∨i∈l
 | [],l,h=>.inr h
 |x::xs,l,h=>by
  simp only[MX]at h;rcases ND h with h1|h1
  .exact .inl (a2P _ h1)
  split at h1
  .exact .inr h1
  rcases a2d.1 h1 with rfl|h2
  .exact .inl a2O
  exact .inr h2
theorem Gq{acc:List (List Nat)}{i:Nat}:∀{es:List Edge} {l:List Nat},
  i∈es.foldl (fun l e=>if Region.binds .any e then MX (e.on::acc.getD e.on []) l else l) l->i∈l∨∃e∈es,Region.binds .any e=true∧(i=e.on∨i∈acc.getD e.on [])
 | [],l,h=>.inl h
 |e::es,l,h=>by
  simp only[adk]at h;rcases Gq h with h1|⟨e',h2,h3⟩
  .split at h1
   .rename_i hb;rcases ND h1 with h2|h2
    .refine .inr ⟨e,a2O,hb,?_⟩;exact a2d.1 h2
    .exact .inl h2
   .exact .inl h1
  .exact .inr ⟨e',a2P _ h2,h3⟩
theorem YE{acc:List (List Nat)}{o:Oper}{i:Nat}(h:i∈EO acc o):∃e∈o.after,Region.binds .any e=true∧(i=e.on∨i∈acc.getD e.on []):=by
 rcases Gq h with h1|⟨e,h2,h3⟩
 .cases h1
 exact⟨e,by simpa using h2,h3⟩
theorem Gs:∀(os:List Oper) (acc:List (List Nat)),∃t,Ep os acc=acc++t
 | [],acc=>⟨[],by simp[Ep]⟩
 |o::os,acc=>by obtain⟨t,ht⟩:=Gs os (acc++[EO acc o]);exact⟨EO acc o::t,by simp[Ep,ht]⟩
theorem QW:∀(os:List Oper) (acc:List (List Nat)) (k:Nat) (o:Oper),os[k]? = some o ->
  (Ep os acc)[acc.length+k]? = some (EO ((Ep os acc).take (acc.length+k)) o)
 | [],acc,k,o,h=>by simp at h
 |o'::os,acc,0,o,h=>by simp at h;subst h;obtain⟨t,ht⟩:=Gs os (acc++[EO acc o']);simp[Ep,ht]
 |o'::os,acc,k+1,o,h=>by
  have:=QW os (acc++[EO acc o']) k o (by simpa using h);simp only[Ep];simp only[a1I,a4b,a4Q]at this
  rwa [show acc.length+(0+1)+k=acc.length+(k+1) by omega]at this
def VN(ops:List Oper)(j:Nat):List Nat:=(Ep ops []).getD j []
theorem a4T{ops:List Oper}{j i:Nat}{o:Oper}(hj:ops[j]? = some o)(h:i∈VN ops j):∃e∈o.after,Region.binds .any e=true∧(i=e.on∨(e.on<j∧i∈VN ops e.on)):=by
 have:=QW ops [] j o hj;simp only[a4Q,a3T]at this;unfold VN at h;rw[a2N,this]at h;simp only[a4r]at h;obtain⟨e,h1,h2,h3⟩:=YE h;refine⟨e,h1,h2,h3.imp id fun h4=>?_⟩;rw[a2N,a4g]at h4;split at h4
 .rename_i aT;exact⟨aT,by unfold VN;rw[a2N];exact h4⟩
 simp at h4
def uo(D:Nat->Prop)(o:Oper):Prop:=∀e∈o.after,Region.binds .any e=true->D e.on
theorem TW{ops:List Oper}{D:Nat->Prop}(hc:∀j o,ops[j]? = some o->D j->uo D o):∀(j:Nat) (o:Oper),ops[j]? = some o->uo D o->∀i∈VN ops j,D i:=by
 intro j
 induction j using Nat.strongRecOn with
 |_ j ih=>
  intro o ho hw i hi;obtain⟨e,h1,h2,h3⟩:=a4T ho hi;rcases h3 with rfl|⟨aT,h4⟩
  .exact hw e h1 h2
  have hd:=hw e h1 h2;have hl:j<ops.length:=(a01.1 ho).1;have hoe:ops[e.on]? = some ops[e.on]:=a0a (by omega);exact ih e.on aT _ hoe (hc _ _ hoe hd) i h4
theorem yC{ops:List Oper}{i j:Nat}(zW:i<j)(hj:j<ops.length)(hn:i∉VN ops j):(i,j)∈nZ ops:=by simp only[nZ,adF,a4i,a1g,a7S];exact⟨j,hj,i,⟨zW,by simpa[VN]using hn⟩,rfl⟩
theorem VO{ops:List Oper}(h:nH ops=true){i:Nat}{o:Oper}(ho:ops[i]? = some o){e:Edge}(he:e∈o.after)(hb:Region.binds .any e=true):e.on<i:=by
 simp only[nH,a2f,a4o]at h;have:=h.1 (o,i) (by rw[a96];simpa using ho)
 simp only[acv]at this;have:=this e he;simpa[hb]using this
theorem zX{ops:List Oper}(h:nH ops=true){i j:Nat}{a b:Oper}(hp:(i,j)∈nZ ops)(ha:ops[i]? = some a)(hb:ops[j]? = some b):a.apart ops.toArray b=true∧b.apart ops.toArray a=true:=by simp only[nH,a2f,a4o]at h;have:=h.2 (i,j) hp;simpa[ha,hb]using this
theorem QX{wX:List lN}:∀{ps:List (Nat×Nat)},Ba wX ps=true->∀{i j:Nat} {a b:lN},(i,j)∈ps->wX[i]? = some a->wX[j]? = some b->calm a b=true
 | [],_,i,j,a,b,h,_,_=>by cases h
 |(x,y)::r,hd,i,j,a,b,h,ha,hb=>by
  simp only[Ba,a2f]at hd;rcases a2d.1 h with h1|h1
  .cases h1;simpa[ha,hb]using hd.1
  exact QX hd.2 h1 ha hb
section
variable {P:LI1} {call:aY} {site:Nat->Bool} {s s1:St} {o:Oper} {v:EV} {i:lN}
theorem a4U{t:LI2}{a:EV}{r:TV×lN}(h:loadT P t s a=some r):r.2.ws=[]:=by
 unfold loadT at h;split at h
 .split at h
  .simp only[a05]at h;obtain⟨_,_,rfl⟩:=h;rfl
  simp at h
 .split at h
  .split at h
   .simp only[a05]at h;obtain⟨_,_,rfl⟩:=h;rfl
   simp at h
  simp at h
 simp at h
theorem a97{at_:Array LI2}{h0:List HB}{x:TV}{r:TV×lN}(h:Yk P at_ h0 x=some r):r.2.ws=[]:=by
 unfold Yk at h
 repeat' (split at h)
 all_goals first
  |(simp at h;done)
  |(simp only[a00]at h;subst h;rfl)
theorem ahB(h:oP P call site s o=some (v,s1,i))(hm:Iy o.op=false):i.ws=[]:=by
 unfold oP at h;split at h
 all_goals first
  |(simp at h;done)
  |(rename_i ho;rw[ho]at hm;simp[Iy]at hm;done)
  |(simp only[a05,a0i]at h;obtain⟨_,_,_,_,rfl⟩:=h;rfl)
  |(split at h<;>first|(simp at h;done)|(simp only[a05,a0i,a00]at h;first|(obtain⟨_,_,_,_,rfl⟩:=h;rfl)|(obtain⟨_,_,rfl⟩:=h;rfl)))
  |skip
 .split at h
  .split at h
   .simp only[a00,a0i]at h;obtain⟨_,_,rfl⟩:=h;rfl
   simp at h
  simp at h
 .split at h
  .simp only[a05,a0i]at h;obtain⟨r,hr,_,_,rfl⟩:=h;exact a4U hr
  simp at h
 .split at h
  .split at h
   .simp only[a05,a0i]at h;obtain⟨_,_,_,_,rfl⟩:=h;rfl
   .simp only[a05,a0i]at h;obtain⟨_,_,_,_,rfl⟩:=h;rfl
   simp at h
  simp at h
 .rename_i c ho;rw[ho]at hm;obtain⟨callee,args,ats⟩:=c;unfold MV at h;simp only at h;split at h
  .rename_i b az;simp only[a05,a0i]at h;obtain⟨⟨v0,s0,i0⟩,hb,_,_,rfl⟩:=h;simp only[Iy]at hm;unfold qI at hb;split at hb
   .simp only[a05,a0i]at hb;obtain⟨r,hr,_,_,rfl⟩:=hb;exact a97 hr
   .simp at hm
   .simp at hm
   .simp only[a05,a0i]at hb;obtain⟨r,hr,_,_,rfl⟩:=hb;rfl
   .simp only[a05,a0i]at hb;obtain⟨r,hr,_,_,rfl⟩:=hb;rfl
   simp at hb
  .simp[Iy]at hm
  simp at h
 .split at h
  .split at h
   .simp only[a00,a0i]at h;obtain⟨_,_,rfl⟩:=h;rfl
   simp at h
  simp at h
 split at h
 .split at h
  .split at h
   .split at h
    .simp only[a05,a0i]at h;obtain⟨_,_,_,_,rfl⟩:=h;rfl
    simp at h
   simp at h
  simp at h
 simp at h
theorem ahC(h:oP P call site s o=some (v,s1,i))(hm:MZ o.op=false):i.ts=[]∧i.ws=[]∧i.all=false:=by
 unfold oP at h;split at h
 all_goals first
  |(simp at h;done)
  |(rename_i ho;rw[ho]at hm;simp[MZ]at hm;done)
  |(simp only[a05,a0i]at h;obtain⟨_,_,_,_,rfl⟩:=h;exact⟨rfl,rfl,rfl⟩)
  |(split at h<;>first|(simp at h;done)|(simp only[a05,a0i,a00]at h;first|(obtain⟨_,_,_,_,rfl⟩:=h;exact⟨rfl,rfl,rfl⟩)|(obtain⟨_,_,rfl⟩:=h;exact⟨rfl,rfl,rfl⟩)))
  |skip
 .split at h
  .split at h
   .simp only[a00,a0i]at h;obtain⟨_,_,rfl⟩:=h;exact⟨rfl,rfl,rfl⟩
   simp at h
  simp at h
 .split at h
  .split at h
   .simp only[a05,a0i]at h;obtain⟨_,_,_,_,rfl⟩:=h;exact⟨rfl,rfl,rfl⟩
   .simp only[a05,a0i]at h;obtain⟨_,_,_,_,rfl⟩:=h;exact⟨rfl,rfl,rfl⟩
   simp at h
  simp at h
 rename_i c ho;rw[ho]at hm;obtain⟨callee,args,ats⟩:=c;unfold MV at h;simp only at h;split at h
 .rename_i b az;simp only[a05,a0i]at h;obtain⟨⟨v0,s0,i0⟩,hb,_,_,rfl⟩:=h;simp only[MZ]at hm;unfold qI at hb;split at hb
  .simp at hm
  .simp at hm
  .simp at hm
  .simp only[a05,a0i]at hb;obtain⟨r,hr,_,_,rfl⟩:=hb;exact⟨rfl,rfl,rfl⟩
  .simp only[a05,a0i]at hb;obtain⟨r,hr,_,_,rfl⟩:=hb;exact⟨rfl,rfl,rfl⟩
  simp at hb
 .simp[MZ]at hm
 simp at h
variable {fl nt:Nat} {ops:Array Oper} {s':St}
theorem um.w(h:um P call site fl nt ops o s i s')(hm:Iy o.op=false):i.ws=[]:=by
 obtain⟨_,⟨_,v,s1,h1,_⟩|⟨_,rfl,_⟩⟩:=h
 .exact ahB h1 hm
 rfl
theorem um.t(h:um P call site fl nt ops o s i s')(hm:MZ o.op=false):i.ts=[]∧i.ws=[]∧i.all=false:=by
 obtain⟨_,⟨_,v,s1,h1,_⟩|⟨_,rfl,_⟩⟩:=h
 .exact ahC h1 hm
 exact⟨rfl,rfl,rfl⟩
theorem NG{ws:List Key}{b:lN}(h:N7 ws b=true){k:Key}(hk:k∈ws):¬o9 b k:=by
 simp only[N7,a4o]at h;have:=h k hk;simp only[a2f,a8C,agp]at this;obtain⟨⟨h1,h2⟩,h3⟩:=this;rintro (h4|h4|⟨h4,h5⟩)
 .simp[h4]at h2
 .simp[h4]at h3
 simp[h4,h5]at h1
theorem a2n{wX:List lN}{ol:List Oper}(hd:Ba wX (mG ol)=true){x y:Nat}{a b:Oper}{ia ib:lN}{sa sa' sb sb':St}(hp:(x,y)∈nZ ol)(ha:ol[x]? = some a)(hb:ol[y]? = some b)
  (hia:wX[x]? = some ia) (hib:wX[y]? = some ib) (sta:um P call site fl nt ops a sa ia sa') (stb:um P call site fl nt ops b sb ib sb') :
  AZ a b=true∨((∀k∈ia.ws,¬o9 ib k)∧(∀k∈ib.ws,¬o9 ia k)):=by
 cases hsp:AZ a b
 case true=>exact .inl rfl
 right;by_cases hh:((Iy a.op&&MZ b.op)||(MZ a.op&&Iy b.op))=true
 .have hm:(x,y)∈mG ol:=by simp only[mG,a7S];refine⟨hp,?_⟩;simp only[ha,hb,hsp,abp,ah0];exact hh
  have:=QX hd hm hia hib;simp only[calm,a2f]at this;exact⟨fun k hk=>NG this.1 hk,fun k hk=>NG this.2 hk⟩
 .simp only[a8Q,a2f,adl,not_and,adE]at hh;constructor
  .intro k hk ht;have h1:Iy a.op=true:=by
    cases h2:Iy a.op with
    |true=>rfl
    |false=>rw[sta.w h2]at hk;cases hk
   obtain⟨t1,t2,t3⟩:=stb.t (hh.1 h1);rcases ht with h|h|⟨h,_⟩
   .rw[t1]at h;cases h
   .rw[t2]at h;cases h
   .rw[t3]at h;cases h
  .intro k hk ht;have h1:Iy b.op=true:=by
    cases h2:Iy b.op with
    |true=>rfl
    |false=>rw[stb.w h2]at hk;cases hk
   have h2:MZ a.op=false:=by
    cases h3:MZ a.op with
    |false=>rfl
    |true=>have:=hh.2 h3;rw[h1]at this;cases this
   obtain⟨t1,t2,t3⟩:=sta.t h2;rcases ht with h|h|⟨h,_⟩
   .rw[t1]at h;cases h
   .rw[t2]at h;cases h
   .rw[t3]at h;cases h
end
end Tw
