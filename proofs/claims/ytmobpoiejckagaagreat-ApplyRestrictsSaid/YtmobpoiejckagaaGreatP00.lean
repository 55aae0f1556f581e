/- Part 1 of a proof: Any diagram with any digit for any choice is the document's, or the error is; for all diagrams, choices and digits. -/
import Derived.RangeFuncLeaves
import Derived.OrdersIn
import Derived.Laws.CopyRow
import Derived.Laws.Rows
import Derived.Laws.Entries
set_option linter.unusedVariables false
set_option linter.unusedSimpArgs false
set_option linter.unusedSectionVars false
open Go.IntKind (i64)
noncomputable section
abbrev a03:=@Option.some.injEq
abbrev a0d:=@List.getElem?_eq_some_iff
abbrev a0f:=@Option.map_eq_some_iff
abbrev a0g:=@List.getElem?_eq_getElem
abbrev a0k:=@List.getElem?_append_left
abbrev a0p:=@if_neg
abbrev a0q:=@if_pos
abbrev a0u:=@Prod.mk.injEq
abbrev a0w:=@Nat.le_refl
abbrev a1b:=@Option.map_some
abbrev a1d:=@List.getElem?_append_right
abbrev a1e:=@List.mem_map
abbrev a1n:=@List.getElem?_set_ne
abbrev a1o:=@decide_eq_true_eq
abbrev a1s:=@List.length_append
abbrev a1T:=@List.getElem?_set_self
abbrev a2n:=@Bool.and_eq_true
abbrev a2q:=@Array.getElem?_eq_some_iff
abbrev a2r:=@List.mem_cons
abbrev a2y:=@if_true
abbrev a2A:=@List.mem_singleton
abbrev a2Q:=@List.getElem?_cons_zero
abbrev a2V:=@Bool.false_eq_true
abbrev a2W:=@decide_eq_false_iff_not
abbrev a2X:=@List.getD_eq_getElem?_getD
abbrev a2Y:=@List.mem_append
abbrev a3k:=@Nat.add_mul
abbrev a3l:=@List.mem_cons_self
abbrev a3m:=@Nat.mul_le_mul_right
abbrev a3n:=@List.mem_cons_of_mem
abbrev a3F:=@List.length_singleton
abbrev a3U:=@if_false
abbrev a3Y:=@List.length_drop
abbrev a3Z:=@Nat.zero_add
abbrev a4a:=@Array.getElem?_eq_getElem
abbrev a4b:=@List.length_take
abbrev a4c:=@List.eq_nil_of_length_eq_zero
abbrev a4d:=@List.length_cons
abbrev a4e:=@List.getElem?_eq_none
abbrev a4f:=@List.map_append
abbrev a4g:=@List.map_cons
abbrev a4h:=@Nat.lt_or_ge
abbrev a4i:=@List.getElem?_take
abbrev a4j:=@List.getElem?_drop
abbrev a4k:=@List.getElem?_set_self'
abbrev a4l:=@List.length_map
abbrev a4m:=@List.nodup_cons
abbrev a4n:=@List.length_set
abbrev a4o:=@List.mem_range
abbrev a4p:=@Option.bind_some
abbrev a4q:=@List.getElem?_map
abbrev a4r:=@List.getElem_mem
abbrev a4s:=@List.mem_of_getElem?
abbrev a4t:=@List.prefix_rfl
abbrev a4w:=@List.idxOf_lt_length_iff
abbrev a4x:=@List.all_eq_true
abbrev a4C:=@Nat.zero_le
abbrev a4E:=@Bool.eq_iff_iff
abbrev a4G:=@List.mem_iff_getElem
abbrev a4H:=@List.length_nil
abbrev a4I:=@Int.toNat_natCast
abbrev a4M:=@Option.getD_some
abbrev a4O:=@List.map_congr_left
abbrev a4Q:=@List.mem_of_mem_drop
abbrev a4R:=@List.contains_eq_mem
abbrev a4T:=@Nat.le_trans
abbrev a5b:=@List.append_assoc
abbrev a5p:=@not_false_eq_true
abbrev a5v:=@Option.isSome_iff_exists
abbrev a5N:=@List.mem_append_left
abbrev a5R:=@List.take_succ_eq_append_getElem
abbrev a5T:=@List.append_nil
abbrev a6z:=@List.nodup_nil
abbrev a6D:=@List.drop_eq_getElem_cons
abbrev a7d:=@List.mem_filterMap
abbrev a7w:=@List.length_replicate
abbrev a7x:=@List.idxOf_eq_length
abbrev a7H:=@beq_iff_eq
abbrev a7S:=@List.eq_nil_iff_forall_not_mem
abbrev a8a:=@List.perm_ext_iff_of_nodup
abbrev a8d:=@List.length_eq_zero_iff
abbrev a8l:=@of_decide_eq_true
abbrev a8m:=@Nat.min_eq_left
abbrev a8o:=@List.map_map
abbrev a8p:=@not_true
abbrev a8z:=@Array.getD_eq_getD_getElem?
abbrev a8A:=@Int.emod_eq_of_lt
abbrev a8B:=@List.mem_filter
abbrev a8C:=@List.getElem?_of_mem
abbrev a8D:=@List.getElem_idxOf
abbrev a8E:=@List.prefix_append
abbrev a8F:=@Int.mul_le_mul_of_nonneg_left
abbrev a8G:=@List.nodup_append
abbrev a8H:=@Bool.not_eq_true'
abbrev a8I:=@List.mem_iff_getElem?
abbrev a8J:=@Array.getElem?_setIfInBounds
abbrev a8K:=@Nat.eq_of_beq_eq_true
abbrev a8L:=@List.mem_of_mem_take
abbrev a8M:=@List.getElem_map
abbrev a8N:=@Bool.not_true
abbrev a8O:=@List.take_of_length_le
abbrev a8P:=@List.length_range
abbrev a8Q:=@List.filterMap_cons
abbrev a8R:=@Bool.or_eq_true
abbrev a8V:=@Option.some.inj
abbrev a8X:=@Classical.choose_spec
abbrev a8Z:=@List.length_filter_le
abbrev a90:=@Nat.lt_of_lt_of_le
abbrev a99:=@Nat.le_of_lt
abbrev a9e:=@List.ext_getElem
abbrev a9m:=@Int.le_refl
abbrev a9n:=@List.mem_zipIdx_iff_getElem?
abbrev a9o:=@Bool.or_eq_false_iff
abbrev a9r:=@List.getElem?_cons_succ
abbrev a9v:=@List.getElem?_set
abbrev a9w:=@List.ext_getElem?
abbrev a9x:=@List.idxOf_append
abbrev a9B:=@Array.length_toList
abbrev a9D:=@Nat.one_mul
abbrev a9K:=@List.findIdx?_eq_some_iff_getElem
abbrev a9M:=@Nat.add_assoc
abbrev a9O:=@Array.getElem?_append_left
abbrev aa7:=@forall_congr'
abbrev aa8:=@List.getElem_inj
abbrev aa9:=@List.length_mergeSort
abbrev aad:=@List.nil_append
abbrev aas:=@Int.mul_le_mul_of_nonneg_right
abbrev aaF:=@List.length_pos_iff
abbrev aaN:=@List.getElem_of_mem
abbrev abt:=@Bool.not_false
abbrev abu:=@List.drop_zero
abbrev abv:=@List.take_length
abbrev aby:=@Nat.eq_zero_or_pos
abbrev abz:=@Bool.not_eq_false'
abbrev abA:=@List.map_nil
abbrev abC:=@Array.getElem?_modify
abbrev abE:=@List.mem_append_right
abbrev abG:=@List.range_succ
abbrev abM:=@List.all_cons
abbrev abN:=@Int.add_mul_emod_self_left
abbrev abQ:=@List.nodup_iff_pairwise_ne
abbrev abR:=@Classical.byContradiction
abbrev abT:=@List.pairwise_iff_getElem
abbrev abU:=@Int.mul_one
abbrev abV:=@Nat.zero_mul
abbrev acG:=@Array.all_eq_true_iff_forall_mem
abbrev acO:=@Nat.le_of_not_lt
abbrev acU:=@and_self
abbrev ad1:=@Prod.ext
abbrev ad7:=@List.filter_cons_of_neg
abbrev ad9:=@List.filter_cons_of_pos
abbrev ada:=@Bool.true_and
abbrev adh:=@List.any_cons
abbrev adi:=@List.foldl_cons
abbrev adn:=@not_or
abbrev ado:=@List.Nodup.length_le_of_subset
abbrev adt:=@List.idxOf_cons
abbrev adu:=@Nat.le_mul_of_pos_left
abbrev adv:=@Nat.add_zero
abbrev adx:=@List.getElem?_toArray
abbrev adz:=@Array.getElem?_toList
abbrev adA:=@Int.mul_nonneg
abbrev adB:=@Array.ext'
abbrev adC:=@List.mem_flatMap
abbrev adD:=@List.getElem?_modify
abbrev adE:=@List.nodup_range
abbrev adG:=@List.replicate_succ
abbrev adH:=@List.mergeSort_perm
abbrev adJ:=@List.length_zipWith
abbrev adL:=@Int.natCast_mul
abbrev adR:=@List.cons.injEq
abbrev adU:=@decide_eq_false
abbrev adW:=@Bool.true_eq_false
abbrev ae9:=@Int.le_of_lt
abbrev aea:=@List.find?_eq_none
abbrev aew:=@List.take_take
abbrev af5:=@List.drop_drop
abbrev af6:=@Option.map_map
abbrev afo:=@List.getElem?_replicate
abbrev afw:=@List.pairwise_map
abbrev afB:=@Int.add_mul
abbrev afM:=@List.drop_of_length_le
abbrev afS:=@Bool.false_or
abbrev ag4:=@List.prefix_refl
abbrev agm:=@Bool.not_eq_true
abbrev agq:=@List.any_eq_true
abbrev agH:=@Bool.and_eq_false_iff
abbrev agI:=@Nat.le_of_ble_eq_true
abbrev agJ:=@Nat.le_of_eq
abbrev agK:=@Nat.sub_self
abbrev agL:=@List.find?_cons
abbrev agM:=@Int.emod_nonneg
abbrev agN:=@Int.ediv_nonneg
abbrev agO:=@Int.add_comm
abbrev agP:=@List.getElem?_mapIdx
abbrev agQ:=@Nat.zero_lt_one
abbrev agR:=@Int.toNat_of_nonneg
abbrev agS:=@Nat.succ_eq_add_one
abbrev agT:=@beq_eq_false_iff_ne
abbrev agU:=@List.drop_take
abbrev agV:=@Int.mul_le_mul
abbrev agW:=@Nat.mul_le_mul
abbrev agX:=@Nat.mul_one
abbrev agY:=@List.contains_cons
abbrev agZ:=@List.getElem_range
abbrev ah0:=@Bool.and_true
abbrev ah1:=@Int.mul_assoc
abbrev ah2:=@List.cons.inj
namespace Tw
open Go
inductive NK where
 |ptr|slc|map|fn|ifc
 deriving DecidableEq
inductive TV where
 |bool (b:Bool)
 |int (k:IntKind) (n:Int)
 |str (s:ByteArray)
 |nil (k:NK)
 |ptr (b off lim:Nat)
 |slc (b off len cap sz:Nat) (ex:Bool)
 |map (r:Nat)
 |fn (f:FuncId) (first cap:List TV)
 |kW (l:Nat)
 |agg (cs:List TV)
 |dF (cs:List TV)
 |iter (b:Nat)
inductive EV where
 |val (v:TV)
 |loc (k off:Nat)
 |undef
 |ent (r j:Nat) (v:TV)
 |Et (r j:Nat)
inductive BK where
 |ro|own|grow|last
 deriving DecidableEq
inductive HB where
 |cells (k:BK) (cs:List TV)
 |map (es:List (TV×TV))
 |mZ (cs:List TV)
 |mark
 |dn (r n:Nat) (seen:List Nat)
 |loop (ready:Bool) (f:FuncId) (nt:Nat) (env:List (Nat×EV)) (ps:List Nat) (assign body:Code) (jI:Option Code)
structure St where
 env:List (Nat×EV)
 loc:List (List TV)
 heap:List HB
 ws:List Nat
inductive Key where
 |h (b:Nat)
 |l (k:Nat)
 deriving DecidableEq
def St.get(s:St):Key->Option HB
 |.h b=>s.heap[b]?
 |.l k=>(s.loc[k]?).map (.cells .own)
def TV.toC:TV->Option Value
 |.bool b=>some (.bool b)
 |.int k n=>some (.int k n)
 |.str s=>some (.string s)
 |.nil .ptr=>some (.pointer none)
 |.nil .slc=>some (.slice none 0 0)
 |.nil .map=>some (.map none)
 |.nil .fn=>some .nilFunc
 |.nil .ifc=>some .nilIface
 |_=>none
def TV.TF:List TV->Option (List Value)
 | []=>some []
 |c::cs=>match c.toC,TV.TF cs with
  |some v,some vs=>some (v::vs)
  |_,_=>none
def TV.yx:TV->Option Value
 |.agg cs=>(TV.TF cs).map fun vs=>.agg vs.toArray
 |v=>v.toC
def TV.ofC:Value->Option TV
 |.bool b=>some (.bool b)
 |.int k n=>some (.int k n)
 |.string s=>some (.str s)
 |.pointer none=>some (.nil .ptr)
 |.slice none 0 0=>some (.nil .slc)
 |.map none=>some (.nil .map)
 |.nilFunc=>some (.nil .fn)
 |.nilIface=>some (.nil .ifc)
 |_=>none
def TV.BZ:List Value->Option (List TV)
 | []=>some []
 |c::cs=>match TV.ofC c,TV.BZ cs with
  |some v,some vs=>some (v::vs)
  |_,_=>none
def TV.Vw:Value->Option TV
 |.agg cs=>(TV.BZ cs.toList).map .agg
 |v=>TV.ofC v
def TV.abq:TV->Bool
 |.bool _|.int _ _|.str _|.nil _=>true
 |_=>false
def TV.abr:TV->Bool
 |.agg cs=>cs.all TV.abq
 |v=>v.abq
def TV.flat:TV->Bool
 |.dF vs=>vs.all TV.abr
 |v=>v.abr
def TV.cells:TV->List TV
 |.agg cs=>cs
 |v=>[v]
def iU:TV->Bool
 |.agg _|.dF _=>false
 |_=>true
def aB{α:Type}(P:Program):Sem α->Option α
 |.pure a=>some a
 |.program k=>aB P (k P)
 |.mark _ k=>aB P k
 |_=>none
def dM(t:Nat):List (Nat×EV)->Option EV
 | []=>none
 |(k,v)::r=>if k=t then some v else dM t r
def St.put(s:St)(dst:Option Nat)(v:EV):St:=
 match dst with
 |some d=>{ s with env:=(d,v)::s.env }
 |none=>s
def pick(live:List Nat)(env:List (Nat×EV)):List (Nat×EV):=
 match live with
 | []=>[]
 |t::r=>match dM t env with
  |some v=>(t,v)::pick r env
  |none=>pick r env
def Ir(env:List (Nat×EV)):Operand->Option EV
 |.tmp t=>dM t env
 |.const v=>(TV.Vw v).map .val
 |.func f=>some (.val (.fn f [] []))
 |.global _=>none
def qK(env:List (Nat×EV))(x:Operand):Option TV:=
 match Ir env x with
 |some (.val v)=>some v
 |_=>none
def TG(env:List (Nat×EV)):List Operand->Option (List TV)
 | []=>some []
 |x::xs=>match qK env x,TG env xs with
  |some v,some vs=>some (v::vs)
  |_,_=>none
def VA(env:List (Nat×EV)):List (Nat×Operand)->Option (List (Nat×TV))
 | []=>some []
 |(i,x)::xs=>match qK env x,VA env xs with
  |some v,some vs=>some ((i,v)::vs)
  |_,_=>none
structure lZ where
 all:Bool
 ts:List Key
 ws:List Key
def cZ:lZ:=⟨false,[],[]⟩
def xq(k:Key):lZ:=⟨false,[k],[]⟩
def iq(k:List Key):lZ:=⟨false,k,[]⟩
def pq(k:Key):lZ:=⟨false,[k],[k]⟩
def sub(cs:List TV)(off n:Nat):Option (List TV):=
 if off+n<=cs.length then some ((cs.drop off).take n)else none
def vY(cs:List TV)(off:Nat)(new:List TV):Option (List TV):=
 if off+new.length<=cs.length then some (cs.take off++new++cs.drop (off+new.length))else none
def uJ(P:Program)(t:TypeId):Option Bool:=
 match P.underlying t with
 |some (.struct _)|some (.array _ _)=>some true
 |some _=>some false
 |none=>none
def dG(P:Program)(t:TypeId):Option Nat:=(P.info? t).map (·.size)
def uh(P:Program)(t:TypeId)(cs:List TV)(off:Nat):Option TV:=
 match uJ P t,dG P t with
 |some true,some n=>(sub cs off n).map .agg
 |some false,some n=>if n=1 then cs[off]? else none
 |_,_=>none
def JM(P:Program)(t:TypeId):Option (List TV):=
 match P.info? t with
 |some i=>match i.zero with
  |some z=>(TV.Vw z).map TV.cells
  |none=>none
 |none=>none
def aW(h:List HB)(b:Nat):Option (List TV):=
 match h[b]? with
 |some (.cells _ cs)=>some cs
 |_=>none
def mg(h:List HB)(b lim:Nat):Option (List TV):=
 match h[b]? with
 |some (.cells k cs)=>if k=.last∧lim≠cs.length then none else some cs
 |_=>none
def Eu(floor:Nat)(b:Nat)(ws:List Nat):List Nat:=
 if b<floor then(if ws.contains b then ws else b::ws)else ws
def jX(floor:Nat):List Key->List Nat->List Nat
 | [],ws=>ws
 |.h b::r,ws=>jX floor r (Eu floor b ws)
 |.l _::r,ws=>jX floor r ws
def zU(k:BK)(whole:Bool):Option BK:=
 match k,whole with
 |.own,_=>some .own
 |.grow,true=>some .last
 |.last,true=>some .last
 |_,_=>none
def TI(h:List HB)(b off lim:Nat)(new:List TV):Option (List HB):=
 match h[b]? with
 |some (.cells k cs)=>match zU k (lim==cs.length)with
  |some k'=>(vY cs off new).map fun cs'=>h.set b (.cells k' cs')
  |none=>none
 |_=>none
def BK.more:BK->BK
 |.last=>.last
 |_=>.grow
def rZ(place:Nat->Option (Nat×Nat)):List TV->List (Nat×TV)->Option (List TV)
 |cs,[]=>some cs
 |cs,(i,v)::r=>match place i with
  |some (off,size)=>if v.cells.length=size then(match vY cs off v.cells with|some cs'=>rZ place cs' r|none=>none)else none
  |none=>none
def TJ(P:Program)(fs:Array Field)(i:Nat):Option (Nat×Nat):=
 match fs[i]? with
 |some f=>(dG P f.type).map fun n=>(f.offset,n)
 |none=>none
def C9(P:Program)(fs:List Field):Bool:=fs.all fun f=>(dG P f.type).isSome
def N9(P:Program)(t:TypeId)(parts:List (Nat×TV)):Option TV:=
 match JM P t,P.underlying t with
 |some z,some (.struct fs)=>if C9 P fs.toList then(rZ (TJ P fs) z parts).map .agg else none
 |some z,some (.array _ e)=>match dG P e with
  |some n=>(rZ (fun i=>some (i*n,n)) z parts).map .agg
  |none=>none
 |_,_=>none
def times(z:List TV):Nat->List TV
 | 0=>[]
 |n+1=>z++times z n
def jG(P:Program)(t:TypeId):Option (TypeId×Nat):=
 match P.underlying t with
 |some (.slice e)=>match dG P e with
  |some n=>if n=0 then none else some (e,n)
  |none=>none
 |_=>none
def qL(site:Bool)(s:St)(cs:List TV):EV×St:=
 if site then(.val (.ptr s.heap.length 0 cs.length),{ s with heap:=s.heap++[.cells .own cs] })
 else(.loc s.loc.length 0,{ s with loc:=s.loc++[cs] })
def loadT(P:Program)(t:TypeId)(s:St):EV->Option (TV×lZ)
 |.loc k off=>match s.loc[k]? with
  |some cs=>(uh P t cs off).map fun v=>(v,xq (.l k))
  |none=>none
 |.val (.ptr b off lim)=>match mg s.heap b lim,dG P t with
  |some cs,some n=>if off+n<=lim then(uh P t cs off).map fun v=>(v,xq (.h b))else none
  |_,_=>none
 |_=>none
def storeT(P:Program)(t:TypeId)(s:St)(a:EV)(v:TV):Option (St×lZ):=
 match dG P t with
 |some n=>
  if v.cells.length=n∧v.cells.all iU=true then
   match a with
   |.loc k off=>match s.loc[k]? with
    |some cs=>(vY cs off v.cells).map fun cs'=>({ s with loc:=s.loc.set k cs' },pq (.l k))
    |none=>none
   |.val (.ptr b off lim)=>if off+n<=lim then(TI s.heap b off lim v.cells).map fun h=>({ s with heap:=h },pq (.h b))else none
   |_=>none
  else none
 |none=>none
def Qe(o:Nat):EV->Option EV
 |.loc k off=>some (.loc k (off+o))
 |.val (.ptr b off lim)=>if off+o<=lim then some (.val (.ptr b (off+o) lim))else none
 |_=>none
def Gf(P:Program)(t:TypeId)(i:Nat):Option Nat:=
 match P.underlying t with
 |some (.struct fs)=>match fs[i]? with
  |some f=>match dG P f.type with
   |some n=>if n=0 then none else some f.offset
   |none=>none
  |none=>none
 |_=>none
def idx(n:Nat):TV->Option Nat
 |.int _ i=>if 0<=i∧i<n then some i.toNat else none
 |_=>none
def mD(P:Program)(t:TypeId)(x:EV)(i:TV):Option EV:=
 match P.underlying t with
 |some (.slice e)=>match dG P e,x with
  |some n,.val (.slc b off len cap sz _)=>if n=sz then(idx len i).map fun j=>.val (.ptr b (off+j*n) (off+cap*n))else none
  |_,_=>none
 |some (.array len e)=>match dG P e with
  |some n=>match idx len i with
   |some j=>Qe (j*n) x
   |none=>none
  |none=>none
 |_=>none
def IC(P:Program)(t:TypeId)(x i:TV):Option TV:=
 match P.underlying t,x with
 |some (.array len e),.agg cs=>match dG P e,idx len i with
  |some n,some j=>uh P e cs (j*n)
  |_,_=>none
 |some .string,.str s=>match idx s.size i with
  |some j=>(s[j]?).map fun b=>.int .u8 b.toNat
  |none=>none
 |_,_=>none
def qM(n:Nat):TV->Option Nat
 |.int _ i=>if 0<=i∧i<=n then some i.toNat else none
 |_=>none
def jw(n d:Nat):Option TV->Option Nat
 |none=>some d
 |some v=>qM n v
def qN(P:Program)(t:TypeId)(x:TV)(lo hi mx:Option TV):Option TV:=
 match P.underlying t,x with
 |some .string,.str s=>match mx with
  |some _=>none
  |none=>match jw s.size s.size hi with
   |some h=>match jw h 0 lo with
    |some l=>some (.str (s.extract l h))
    |none=>none
   |none=>none
 |some (.slice e),.slc b off len cap sz ex=>match dG P e with
  |some n=>
   if n=sz then
    match mx with
    |some m=>match qM cap m,hi with
     |some m,some h=>match qM (min m len) h with
      |some h=>match jw h 0 lo with
       |some l=>some (.slc b (off+l*n) (h-l) (m-l) sz true)
       |none=>none
      |none=>none
     |_,_=>none
    |none=>match jw len len hi with
     |some h=>match jw h 0 lo with
      |some l=>some (.slc b (off+l*n) (h-l) (cap-l) sz ex)
      |none=>none
     |none=>none
   else none
  |none=>none
 |some (.slice e),.nil .slc=>match dG P e,jw 0 0 mx,jw 0 0 hi,jw 0 0 lo with
  |some _,some _,some _,some _=>if mx.isSome&&hi.isNone then none else some (.nil .slc)
  |_,_,_,_=>none
 |_,_=>none
def qy(P:Program)(t:TypeId)(x:EV)(lo hi mx:Option TV):Option TV:=
 match P.underlying t,x with
 |some (.array n e),.val (.ptr b off lim)=>match dG P e with
  |some size=>
   if size=0∨lim<off+n*size∨2^24<n then none else
   match jw n n mx with
   |some m=>match jw m n hi with
    |some h=>match jw h 0 lo with
     |some l=>if mx.isSome&&hi.isNone then none else some (.slc b (off+l*size) (h-l) (m-l) size true)
     |none=>none
    |none=>none
   |none=>none
  |none=>none
 |_,_=>none
def fH(size:Nat)(h:List HB):TV->Option (Nat×List TV)
 |.nil .slc=>some (0,[])
 |.slc b off len cap sz _=>if sz=size then(if len=0 then some (0,[])else match mg h b (off+cap*sz)with|some cs=>(sub cs off (len*size)).map fun l=>(len,l)|none=>none)else none
 |.str s=>if size=1 then some (s.size,s.data.toList.map fun b=>.int .u8 b.toNat)else none
 |_=>none
def dI:TV->List Key
 |.slc b _ _ _ _ _=>[.h b]
 |_=>[]
def TK(P:Program)(t:TypeId):Bool:=
 match P.underlying t with
 |some (.int _)=>true
 |_=>false
def a4u(i:TypeInfo):Bool:=
 match i.zero with
 |some z=>z.cells.size==i.size
 |none=>false
def tY(P:Program)(e:TypeId)(n:Nat):Bool:=
 match P.info? e with
 |some i=>decide (n*i.bytes<=2^40)&&decide (n<=2^40)&&decide (i.bytes<=2^20)&&decide (0<i.bytes)&&a4u i
 |none=>false
def kH(P:Program)(at_:Array TypeId)(s:St)(d x:TV):Option (TV×St×lZ):=
 match at_[0]?,at_[1]? with
 |some st,some xt=>
  if TK P xt||(P.underlying xt).isNone then none else
  match jG P st with
  |some (e,size)=>match fH size s.heap x with
   |some (n,new)=>
    if n=0 then(match d with
     |.nil .slc=>some (d,s,iq (dI x))
     |.slc _ _ _ _ sz _=>if sz=size then some (d,s,iq (dI x))else none
     |_=>none)
    else if new.length=n*size then
     match d with
     |.nil .slc=>if tY P e n then some (.slc s.heap.length 0 n n size false,{ s with heap:=s.heap++[.cells .own new] },iq (dI x))else none
     |.slc b off len cap sz ex=>
      if sz=size then
       if len+n<=cap then
        (TI s.heap b (off+len*size) (off+cap*size) new).map fun h=>(.slc b off (len+n) cap sz ex,{ s with heap:=h },⟨false,.h b::dI x,[.h b]⟩)
       else if tY P e (len+n)then
        if ex then
         (fH size s.heap (.slc b off len cap sz ex)).map fun r=>(.slc s.heap.length 0 (len+n) (len+n) size false,{ s with heap:=s.heap++[.cells .own (r.2++new)] },iq (.h b::dI x))
        else match s.heap[b]? with
         |some (.cells k cs)=>
          if k=.ro∨off≠0∨len≠cap∨cs.length≠len*size∨len=0 then none
          else some (.slc b 0 (len+n) (len+n) size false,{ s with heap:=s.heap.set b (.cells k.more (cs++new))},⟨false,.h b::dI x,[.h b]⟩)
         |_=>none
       else none
      else none
     |_=>none
    else none
   |none=>none
  |none=>none
 |_,_=>none
def isStr:TV->Bool
 |.str _=>true
 |_=>false
def Gg(P:Program)(at_:Array TypeId)(s:St)(d x:TV):Option (TV×St×lZ):=
 match at_[0]? with
 |some st=>match jG P st with
  |some (_,size)=>match fH size s.heap x with
   |some (n,new)=>
    if new.length=n*size∧isStr x=false then
     match d with
     |.nil .slc=>some (.int .i64 0,s,iq (dI x))
     |.slc b off len cap sz _=>
      if sz=size then
       if min n len=0 then some (.int .i64 0,s,iq (dI x))
       else(TI s.heap b off (off+cap*size) (new.take (min n len*size))).map fun h=>(.int .i64 (min n len:Nat),{ s with heap:=h },⟨false,.h b::dI x,[.h b]⟩)
      else none
     |_=>none
    else none
   |none=>none
  |none=>none
 |none=>none
def Yw(P:Program)(at_:Array TypeId)(h:List HB)(x:TV):Option (TV×lZ):=
 match at_[0]? with
 |some t=>match P.underlying t,x with
  |some .string,.str s=>some (.int .i64 s.size,cZ)
  |some (.array n _),_=>some (.int .i64 n,cZ)
  |some (.slice _),.slc _ _ len _ _ _=>some (.int .i64 len,cZ)
  |some (.slice _),.nil .slc=>some (.int .i64 0,cZ)
  |some (.map _ _),.nil .map=>some (.int .i64 0,cZ)
  |some (.map _ _),.map r=>match h[r]? with
   |some (.map es)=>some (.int .i64 es.length,xq (.h r))
   |_=>none
  |_,_=>none
 |none=>none
def BI:List TV->Option (List Value)
 | []=>some []
 |c::cs=>match c.yx,BI cs with
  |some v,some vs=>some (v::vs)
  |_,_=>none
def VB(P:Program)(kt:TypeId)(k:Value)(ks:List Value)(r:Option Nat):Bool:=
 match aB P (underlying kt)with
 |some kind=>(match r with|some j=>decide (j<ks.length)|none=>true)&&((ks.zipIdx.all fun(x,i)=>Instr.sameNow kind k x==some (some i==r)) ||
   (ks.zipIdx.all fun(x,i)=>Instr.sameNow kind k x==none&&aB P (Op.equal kt k x)==some (some i==r)))
 |none=>false
def EG(P:Program)(kt:TypeId)(k:Value)(es:List (TV×TV)):Option (Option Nat):=
 match BI (es.map (·.1))with
 |some ks=>match aB P (do Instr.checkKey es.isEmpty 10000 kt k;Instr.findKey kt k (ks.map fun x=>⟨x,.bool false,0⟩))with
  |some r=>if VB P kt k ks (r.map (·.1))then some (r.map (·.1))else none
  |none=>none
 |none=>none
def JO:TV->Option NK
 |.ptr _ _ _=>some .ptr
 |.slc _ _ _ _ _ _=>some .slc
 |.map _=>some .map
 |.fn _ _ _|.kW _=>some .fn
 |_=>none
def Yx:TV->Option NK
 |.nil k=>some k
 |_=>none
def JQ(P:Program)(t:TypeId):Option NK:=
 match P.underlying t with
 |some (.pointer _)=>some .ptr
 |some (.slice _)=>some .slc
 |some (.map _ _)=>some .map
 |some (.func _ _ _)=>some .fn
 |_=>none
def Cb(P:Program)(t:TypeId)(x y:TV):Bool:=
 match JQ P t with
 |some k=>(Yx x==some k&&JO y==some k)||(JO x==some k&&Yx y==some k)
 |none=>false
def sF(P:Program)(op:BinOp)(t:TypeId)(x y:Operand)(a b:TV):Option TV:=
 match a.yx,b.yx with
 |some u,some v=>match aB P (do eqGuard op t x y u v;binOp op t u v)with
  |some r=>TV.Vw r
  |none=>none
 |_,_=>if Cb P t a b then(match op with
  |.eql=>some (.bool false)
  |.neq=>some (.bool true)
  |_=>none)else none
def unT(P:Program)(op:UnOp)(a:TV):Option TV:=
 match a.yx with
 |some u=>match aB P (Op.unary op u)with
  |some r=>TV.Vw r
  |none=>none
 |none=>none
def QF(P:Program)(src dst:TypeId)(a:TV):Option TV:=
 match a.yx with
 |some u=>match aB P (convert src dst u)with
  |some r=>TV.Vw r
  |none=>none
 |none=>none
def DU(P:Program)(mx:Bool)(at_:Array TypeId)(t:TypeId)(az:List TV):Option TV:=
 match BI az with
 |some vs=>match aB P (if mx then Builtin.max_ at_ t vs.toArray else Builtin.min_ at_ t vs.toArray)with
  |some r=>TV.Vw r
  |none=>none
 |none=>none
def Na(P:Program)(t:TypeId)(x:TV)(i:Nat):Option TV:=
 match P.underlying t,x with
 |some (.struct fs),.agg cs=>match fs[i]? with
  |some f=>uh P f.type cs f.offset
  |none=>none
 |_,_=>none
def qA(P:Program)(t:TypeId)(len:Nat)(s:St)(ps:List (Nat×TV)):Option (TV×St):=
 match jG P t with
 |some (e,n)=>if len*n<=2^24∧ps.all (fun p=>p.2.cells.all iU)=true then
   match JM P e with
   |some z=>if z.length=n then
     match rZ (fun i=>some (i*n,n)) (times z len) ps with
     |some cs=>some (.slc s.heap.length 0 len len n true,{ s with heap:=s.heap++[.cells .own cs] })
     |none=>none
    else none
   |none=>none
  else none
 |none=>none
def a2i:TV->Option Nat
 |.int _ i=>if 0<=i∧i<=2^40 then some i.toNat else none
 |_=>none
def sG(P:Program)(t:TypeId)(s:St)(l c:TV):Option (TV×St):=
 match jG P t,a2i l,a2i c with
 |some (e,n),some l,some c=>
  if l<=c∧tY P e c then
   match JM P e with
   |some z=>if z.length=n then some (.slc s.heap.length 0 l c n true,{ s with heap:=s.heap++[.cells .own (times z c)] })else none
   |none=>none
  else none
 |_,_,_=>none
def gZ(P:Program)(t:TypeId)(h:List HB)(m k:TV)(ok:Bool):Option TV:=
 match P.underlying t,k.yx with
 |some (.map kt e),some kv=>
  let es:=match m with
   |.nil .map=>some []
   |.map r=>match h[r]? with
    |some (.map es)=>some es
    |_=>none
   |_=>none
  match es with
  |some es=>match EG P kt kv es with
   |some (some i)=>match es[i]? with
    |some (_,v)=>some (if ok then .dF [v,.bool true]else v)
    |none=>none
   |some none=>match P.info? e with
    |some i=>match i.zero with
     |some z=>(TV.Vw z).map fun z=>if ok then .dF [z,.bool false]else z
     |none=>none
    |none=>none
   |none=>none
  |none=>none
 |_,_=>none
def xJ(P:Program)(t:TypeId)(s:St)(m k v:TV):Option (St×lZ):=
 match P.underlying t,k.yx,m with
 |some (.map kt _),some kv,.map r=>match s.heap[r]?,aB P (Instr.checkKey false 10000 kt kv)with
  |some (.map es),some ()=>match EG P kt kv es with
   |some (some i)=>match es[i]? with
    |some (old,_)=>match old.yx with
     |some ov=>if Instr.sameBits 10000 ov kv then some ({ s with heap:=s.heap.set r (.map (es.set i (k,v))) },pq (.h r))else none
     |none=>none
    |none=>none
   |some none=>some ({ s with heap:=s.heap.set r (.map (es++[(k,v)])) },pq (.h r))
   |none=>none
  |_,_=>none
 |_,_,_=>none
def zV(P:Program)(t:TypeId)(s:St)(m k:TV):Option (EV×St×lZ):=
 match P.underlying t,k.yx,m with
 |some (.map kt e),some kv,.map r=>match s.heap[r]?,aB P (Instr.checkKey false 10000 kt kv)with
  |some (.map es),some ()=>match EG P kt kv es with
   |some (some i)=>match es[i]? with
    |some (old,v)=>match old.yx with
     |some ov=>if Instr.sameBits 10000 ov kv then some (.ent r i v,{ s with heap:=s.heap.set r (.map (es.set i (k,v))) },pq (.h r))else none
     |none=>none
    |none=>none
   |some none=>match P.info? e with
    |some i=>match i.zero with
     |some z=>match TV.Vw z with
      |some z=>some (.ent r es.length z,{ s with heap:=s.heap.set r (.map (es++[(k,z)])) },pq (.h r))
      |none=>none
     |none=>none
    |none=>none
   |none=>none
  |_,_=>none
 |_,_,_=>none
def a0e(P:Program)(t:TypeId)(h h':List HB)(m k:TV):Bool:=
 match gZ P t h m k false,gZ P t h' m k false with
 |some (.int a x),some (.int b y)=>decide (a=b)&&x==y
 |_,_=>false
def Cc(P:Program)(t:TypeId)(s:St)(m k:TV):Option (EV×St×lZ):=
 match zV P t s m k with
 |some (e,s1,i)=>if a0e P t s.heap s1.heap m k then some (e,s1,i)else none
 |none=>none
def Gh(s:St)(m:TV)(e:EV)(v:TV):Option (St×lZ):=
 match m,e with
 |.map r,.Et r' j=>if r=r' then match s.heap[r]? with
  |some (.map es)=>match es[j]? with
   |some (k,_)=>some ({ s with heap:=s.heap.set r (.map (es.set j (k,v))) },pq (.h r))
   |none=>none
  |_=>none
  else none
 |_,_=>none
def yJ(e:EV)(i:Nat):Option EV:=
 match e with
 |.val (.dF vs)=>(vs[i]?).map .val
 |.ent r j v=>match i with
  | 0=>some (.val v)
  | 1=>some (.Et r j)
  |_=>none
 |_=>none
abbrev aY:=TV->List TV->List HB->Option (TV×List HB×List Nat)
def qO(P:Program)(b:Builtin)(at_:Array TypeId)(t:TypeId)(s:St)(az:List TV):Option (TV×St×lZ):=
 match b,az with
 |.len,[x]=>(Yw P at_ s.heap x).map fun(v,i)=>(v,s,i)
 |.append,[d,x]=>kH P at_ s d x
 |.copy,[d,x]=>Gg P at_ s d x
 |.min,az=>(DU P false at_ t az).map fun v=>(v,s,cZ)
 |.max,az=>(DU P true at_ t az).map fun v=>(v,s,cZ)
 |_,_=>none
def VD(env:List (Nat×EV)):Option Operand->Option (Option TV)
 |none=>some none
 |some x=>match qK env x with
  |some v=>some (some v)
  |none=>none
def Nb(P:Program)(call:aY)(s:St)(c:Call)(t:TypeId):Option (EV×St×lZ):=
 match c.callee,TG s.env c.args.toList with
 |.builtin b,some az=>(qO P b c.argTypes t s az).map fun(v,s,i)=>(.val v,s,i)
 |.value f,some az=>match qK s.env f with
  |some fv=>match call fv az s.heap with
   |some (v,h,ws)=>some (.val v,{ s with heap:=h },⟨true,[],ws.map .h⟩)
   |none=>none
  |none=>none
 |_,_=>none
def pz(P:Program)(call:aY)(site:Nat->Bool)(s:St)(o:Oper):Option (EV×St×lZ):=
 match o.op with
 |.move x|.assign x=>(Ir s.env x).map fun v=>(v,s,cZ)
 |.pick c a b=>match qK s.env c with
  |some (.bool t)=>(Ir s.env (if t then a else b)).map fun v=>(v,s,cZ)
  |_=>none
 |.alloc e=>(JM P e).map fun z=>let (v,s):=qL (site (o.dst.getD 0)) s z;(v,s,cZ)
 |.box _ x=>match qK s.env x with
  |some v=>if v.cells.all iU then let (v,s):=qL (site (o.dst.getD 0)) s v.cells;some (v,s,cZ)else none
  |none=>none
 |.build t ps=>match VA s.env ps.toList with
  |some ps=>(N9 P t ps).map fun v=>(.val v,s,cZ)
  |none=>none
 |.buildSlice t len ps=>match VA s.env ps.toList with
  |some ps=>(qA P t len s ps).map fun(v,s)=>(.val v,s,cZ)
  |none=>none
 |.load t a=>match Ir s.env a with
  |some a=>(loadT P t s a).map fun(v,i)=>(.val v,s,i)
  |none=>none
 |.store t a x=>match Ir s.env a,qK s.env x with
  |some a,some v=>(storeT P t s a v).map fun(s,i)=>(.undef,s,i)
  |_,_=>none
 |.nilCheck x=>match Ir s.env x with
  |some (.loc k o)=>some (.loc k o,s,cZ)
  |some (.val (.ptr b o lim))=>some (.val (.ptr b o lim),s,cZ)
  |some (.val (.fn f a b))=>some (.val (.fn f a b),s,cZ)
  |some (.val (.kW l))=>some (.val (.kW l),s,cZ)
  |_=>none
 |.binOp op t x y _=>match qK s.env x,qK s.env y with
  |some a,some b=>(sF P op t x y a b).map fun v=>(.val v,s,cZ)
  |_,_=>none
 |.unOp op _ x=>match qK s.env x with
  |some a=>(unT P op a).map fun v=>(.val v,s,cZ)
  |none=>none
 |.convert src dst x=>match qK s.env x with
  |some a=>(QF P src dst a).map fun v=>(.val v,s,cZ)
  |none=>none
 |.makeFunc (.func f) first cap=>match TG s.env first.toList,TG s.env cap.toList with
  |some a,some b=>some (.val (.fn f a b),s,cZ)
  |_,_=>none
 |.makeMap t r=>match VD s.env r,P.underlying t with
  |some none,_=>some (.val (.map s.heap.length),{ s with heap:=s.heap++[.map []] },cZ)
  |some (some (.int _ _)),some (.map _ _)=>some (.val (.map s.heap.length),{ s with heap:=s.heap++[.map []] },cZ)
  |_,_=>none
 |.makeSlice t l c=>match qK s.env l,qK s.env c with
  |some l,some c=>(sG P t s l c).map fun(v,s)=>(.val v,s,cZ)
  |_,_=>none
 |.slice t x lo hi mx=>match Ir s.env x,VD s.env lo,VD s.env hi,VD s.env mx with
  |some x,some lo,some hi,some mx=>match P.underlying t,x with
   |some (.array _ _),x=>(qy P t x lo hi mx).map fun v=>(.val v,s,cZ)
   |_,.val x=>(qN P t x lo hi mx).map fun v=>(.val v,s,cZ)
   |_,_=>none
  |_,_,_,_=>none
 |.fieldAddr t x f=>match Ir s.env x,Gf P t f with
  |some a,some n=>(Qe n a).map fun v=>(v,s,cZ)
  |_,_=>none
 |.field t x f=>match qK s.env x with
  |some a=>(Na P t a f).map fun v=>(.val v,s,cZ)
  |none=>none
 |.indexAddr t x i=>match Ir s.env x,qK s.env i with
  |some a,some i=>(mD P t a i).map fun v=>(v,s,cZ)
  |_,_=>none
 |.index t x i=>match qK s.env x,qK s.env i with
  |some a,some i=>(IC P t a i).map fun v=>(.val v,s,cZ)
  |_,_=>none
 |.lookup t m k ok=>match qK s.env m,qK s.env k with
  |some m,some k=>(gZ P t s.heap m k ok).map fun v=>(.val v,s,iq (match m with|.map r=>[.h r] |_=>[]))
  |_,_=>none
 |.mapUpdate t m k x|.insert t m k x=>match qK s.env m,qK s.env k,qK s.env x with
  |some m,some k,some v=>(xJ P t s m k v).map fun(s,i)=>(.undef,s,i)
  |_,_,_=>none
 |.mapEntry t m k=>match qK s.env m,qK s.env k with
  |some m,some k=>Cc P t s m k
  |_,_=>none
 |.entryStore _ m e x=>match qK s.env m,Ir s.env e,qK s.env x with
  |some m,some e,some v=>(Gh s m e v).map fun(s,i)=>(.undef,s,i)
  |_,_,_=>none
 |.extract t i=>match Ir s.env t with
  |some e=>(yJ e i).map fun v=>(v,s,cZ)
  |none=>none
 |.call c=>Nb P call s c o.type
 |.range t x=>match qK s.env x,P.underlying t with
  |some (.map r),some (.map _ _)=>match s.heap[r]? with
   |some (.map es)=>some (.val (.iter s.heap.length),{ s with heap:=s.heap++[.dn r es.length []] },xq (.h r))
   |_=>none
  |_,_=>none
 |.entry x=>match qK s.env x with
  |some (.iter b)=>match s.heap[b]? with
   |some (.dn r n (i::_))=>match s.heap[r]? with
    |some (.map es)=>if es.length=n then(es[i]?).map fun e=>(.val (.dF [e.1,e.2]),s,iq [.h b,.h r])else none
    |_=>none
   |_=>none
  |_=>none
 |_=>none
def Ce(ops:Array Oper)(env:List (Nat×EV))(o:Oper):Option Bool:=
 match o.guard with
 |none=>some true
 |some (j,want)=>match(ops[j]?).bind (·.dst)with
  |some d=>match dM d env with
   |some (.val (.bool b))=>some (b==want)
   |some .undef=>some false
   |_=>none
  |none=>none
def Nc(nt:Nat)(o:Oper):Bool:=
 match o.dst with
 |some d=>decide (d<nt)
 |none=>true
def lC(P:Program)(call:aY)(site:Nat->Bool)(fl nt:Nat)(ops:Array Oper):List Oper->St->Option (St×List lZ)
 | [],s=>some (s,[])
 |o::os,s=>if !Nc nt o then none else match Ce ops s.env o with
  |some true=>match pz P call site s o with
   |some (v,s1,i)=>match lC P call site fl nt ops os ({ s1 with ws:=jX fl i.ws s.ws }.put o.dst v)with
    |some (s,is)=>some (s,i::is)
    |none=>none
   |none=>none
  |some false=>match lC P call site fl nt ops os (s.put o.dst .undef)with
   |some (s,is)=>some (s,cZ::is)
   |none=>none
  |none=>none
def Nh:List Nat->List Nat->List Nat
 | [],l=>l
 |x::xs,l=>Nh xs (if l.contains x then l else x::l)
def F9(acc:List (List Nat))(o:Oper):List Nat:=
 o.after.toList.foldl (fun l e=>if Region.binds .any e then Nh (e.on::acc.getD e.on []) l else l) []
def EH:List Oper->List (List Nat)->List (List Nat)
 | [],acc=>acc
 |o::os,acc=>EH os (acc++[F9 acc o])
def IE:Op->Bool
 |.store .. |.mapUpdate .. |.insert .. |.mapEntry .. |.entryStore ..=>true
 |.call { callee:=.builtin b,.. }=>match b with
  |.len|.min|.max=>false
  |_=>true
 |.call _=>true
 |_=>false
def Nj:Op->Bool
 |.store .. |.mapUpdate .. |.insert .. |.mapEntry .. |.entryStore .. |.load .. |.lookup .. |.range .. |.entry ..=>true
 |.call { callee:=.builtin b,.. }=>match b with
  |.min|.max=>false
  |_=>true
 |.call _=>true
 |_=>false
def o7(ops:List Oper):List (Nat×Nat):=
 let pr:=EH ops []
 (List.range ops.length).flatMap fun j=>((List.range j).filter fun i=>!(pr.getD j []).contains i).map fun i=>(i,j)
def nI(ops:List Oper):Bool:=
 (ops.zipIdx.all fun(o,i)=>o.after.all fun e=>!Region.binds .any e||decide (e.on<i)) &&
 (o7 ops).all fun(i,j)=>match ops[i]?,ops[j]? with
  |some a,some b=>a.apart ops.toArray b&&b.apart ops.toArray a
  |_,_=>false
def Bh(a b:Oper):Bool:=match a.op,b.op,a.guard,b.guard with
 |.lookup t (.tmp m) (.tmp k) false,.mapEntry t' (.tmp m') (.tmp k'),none,none=>t==t'&&m==m'&&k==k'
 |_,_,_,_=>false
def mV(ops:List Oper):List (Nat×Nat):=
 (o7 ops).filter fun(i,j)=>match ops[i]?,ops[j]? with
  |some a,some b=>((IE a.op&&Nj b.op)||(Nj a.op&&IE b.op))&&!Bh a b
  |_,_=>false
def Key.isH:Key->Bool
 |.h _=>true
 |.l _=>false
def Nk(ws:List Key)(b:lZ):Bool:=
 ws.all fun k=>!(b.all&&k.isH)&&!b.ts.contains k&&!b.ws.contains k
def calm(a b:lZ):Bool:=Nk a.ws b&&Nk b.ws a
def Bj(xu:List lZ):List (Nat×Nat)->Bool
 | []=>true
 |(i,j)::r=>(match xu[i]?,xu[j]? with
  |some a,some b=>calm a b
  |_,_=>false)&&Bj xu r
inductive Ex where
 |norm|exit (id:Nat)|ret
structure FnT where
 nt:Nat
 body:Code
 results:List ResultVar
def TL(P:Program)(f:Nat):Option FnT:=
 match P.funcs[f]? with
 | some fn => if fn.name == "runtime.NumGoroutine" then none else match fn.body with
  |some b=>some ⟨fn.ntmps,b,fn.results.toList⟩
  |none=>none
 |none=>none
structure qH where
 live:List (Nat×List (Nat×List Nat))
 head:List (Nat×List (Nat×List Nat))
 site:List (Nat×List Nat)
 exts:List Nat:=[]
 ext:TV->List TV->List HB->Option (TV×List HB×List Nat):=fun _ _ _=>none
 dem:List Nat:=[]
 din:List Nat:=[]
 a8S:List Nat:=[]
def QG{α:Type}(k:Nat):List (Nat×List α)->List α
 | []=>[]
 |(j,l)::r=>if j=k then l else QG k r
def qH.iD(T:qH)(f id:Nat):List Nat:=QG id (QG f T.live)
def qH.eP(T:qH)(f id:Nat):List Nat:=QG id (QG f T.head)
def qH.TM(T:qH)(f d:Nat):Bool:=(QG f T.site).contains d
def Ci:List (Nat×EV)->Nat
 | []=>0
 |(_,.loc k _)::r=>max (k+1) (Ci r)
 |_::r=>Ci r
def kE(live:List Nat)(s:St):St:=
 let env:=pick live s.env
 { s with env:=env,loc:=s.loc.take (Ci env) }
def dU:Code->Nat
 |.region id _ _=>id
 |.seq a _=>dU a
 |.block _ b=>dU b
 |.loop b=>dU b
 |.scope b=>dU b
 |_=>0
def iter(g:St->Option (Ex×St)):Nat->St->Option (Ex×St)
 | 0,_=>none
 |n+1,s=>match g s with
  |some (.norm,s)=>iter g n s
  |r=>r
def isVal:Nat×EV->Bool
 |(_,.loc _ _)|(_,.ent _ _ _)|(_,.Et _ _)=>false
 |_=>true
def QH:Bool->Option Code->Option Ex
 |true,none=>some .norm
 |false,some .ret=>some .ret
 |false,some (.exit id)=>some (.exit id)
 |_,_=>none
def exec(P:Program)(T:qH)(call:aY)(L:Nat)(f:Nat)(gY:Bool)(fl nt:Nat):Code->St->Option (Ex×St)
 |.skip,s=>some (.norm,s)
 |.label _,s=>some (.norm,s)
 |.region id ops draw,s=>match lC P call (fun d=>gY||T.TM f d) fl nt ops ops.toList s with
  |some (s,xu)=>if !draw||(nI ops.toList&&Bj xu (mV ops.toList))then some (.norm,{ s with env:=pick (T.iD f id) s.env })else none
  |none=>none
 |.seq a b,s=>match exec P T call L f gY fl nt a s with
  |some (.norm,s)=>exec P T call L f gY fl nt b s
  |r=>r
 |.cond c a b,s=>match qK s.env c with
  |some (.bool true)=>exec P T call L f gY fl nt a s
  |some (.bool false)=>exec P T call L f gY fl nt b s
  |_=>none
 |.block id b,s=>match exec P T call L f gY fl nt b s with
  |some (.exit i,s)=>some (if i=id then .norm else .exit i,s)
  |r=>r
 |.scope b,s=>exec P T call L f gY fl nt b s
 |.loop b,s=>iter (fun s=>exec P T call L f gY fl nt b (kE (T.eP f (dU b)) s)) L s
 |.exit id,s=>some (.exit id,s)
 |.ret,s=>some (.ret,s)
 |.rangeFunc g ps assign body,s=>match qK s.env g with
  |some (.fn f1 a1 b1)=>
   if s.env.all isVal&&!gY then
    match call (.fn f1 a1 b1) [.kW (s.heap.length+1)] (s.heap++[.mark,.loop true f nt s.env ps.toList assign body none])with
    |some (_,h,ws)=>match h[s.heap.length+1]? with
     |some (.loop rd f2 Qg e2 Cj a2 b2 jI)=>match QH rd jI with
      |some e=>some (e,{ s with heap:=h.set (s.heap.length+1) (.loop false f2 Qg e2 Cj a2 b2 (some .skip)),ws:=jX fl (ws.map .h) s.ws })
      |none=>none
     |_=>none
    |none=>none
   else none
  |_=>none
 |_,_=>none
def a4v(P:Program)(s:St):ResultVar->Option TV
 |.tmp t=>match dM t s.env with
  |some (.val v)=>some v
  |_=>none
 |.cell a t=>match dM a s.env with
  |some a=>(loadT P t s a).map (·.1)
  |none=>none
def xK(P:Program)(s:St):List ResultVar->Option (List TV)
 | []=>some []
 |r::rs=>match a4v P s r,xK P s rs with
  |some v,some vs=>some (v::vs)
  |_,_=>none
def one:List TV->TV
 | [v]=>v
 |vs=>.dF vs
def nJ:Nat->List TV->List (Nat×EV)
 |_,[]=>[]
 |k,v::vs=>(k,.val v)::nJ (k+1) vs
def sJ(env:List (Nat×EV)):List Nat->List TV->List (Nat×EV)
 |p::ps,v::vs=>sJ ((p,.val v)::env) ps vs
 |_,_=>env
def amX(P:Program)(T:qH)(call:aY)(L:Nat)(f:Nat)(args:List TV)(h:List HB):Option (TV×List HB×List Nat):=
 match TL P f with
 |some t=>match exec P T call L f false h.length t.nt t.body ⟨nJ 0 args,[],h,[]⟩with
  |some (.norm,s)|some (.ret,s)=>match xK P s t.results with
   |some vs=>if s.ws.isEmpty&&(one vs).flat then some (one vs,h,[])else some (one vs,s.heap,s.ws)
   |none=>none
  |_=>none
 |none=>none
def sK:Ex->Option Code
 |.norm=>none
 |.ret=>some .ret
 |.exit id=>some (.exit id)
def pF:Ex->Bool
 |.norm=>true
 |_=>false
def Nl(P:Program)(T:qH)(call:aY)(L:Nat)(l:Nat)(args:List TV)(h:List HB):Option (TV×List HB×List Nat):=
 match h[l]? with
 |some (.loop true f nt env ps assign body _)=>
  if args.length=ps.length∧ps.all (fun p=>decide (p<nt))then
   match exec P T call L f true h.length nt assign ⟨sJ env ps args,[],h,[]⟩with
   |some (.norm,s)=>match s.heap[l]? with
    |some (.loop true f' nt' env' ps' a' b' _)=>
     match exec P T call L f true h.length nt body { s with heap:=s.heap.set l (.loop false f' nt' env' ps' a' b' none),ws:=Eu h.length l s.ws }with
     |some (e,s)=>match s.heap[l]? with
      |some (.loop false f' nt' env' ps' a' b' none)=>some (.bool (pF e),s.heap.set l (.loop (pF e) f' nt' env' ps' a' b' (sK e)),Eu h.length l s.ws)
      |_=>none
     |none=>none
    |_=>none
   |_=>none
  else none
 |_=>none
def ap(P:Program)(T:qH)(L:Nat):Nat->aY
 | 0,_,_,_=>none
 |n+1,.fn f first cap,args,h=>amX P T (ap P T L n) L f (first++args++cap) h
 |n+1,.kW l,args,h=>Nl P T (ap P T L n) L l args h
 |_,_,_,_=>none
def run(P:Program)(T:qH)(L n f:Nat)(args:List TV)(h:List HB):Option (TV×List HB×List Nat):=ap P T L n (.fn f [] []) args h
structure Pl where
 c:Nat
 base:Nat
 ext:Nat
 tot:Nat
inductive Lc where
 |cells (ls:List Pl)
 |obj (r:Nat) (o:List Nat)
abbrev Mp:=Key->Option Lc
abbrev Np:=Nat->Option Lc
def Mp.h(M:Mp):Np:=fun b=>M (.h b)
inductive VR(M:Np):TV->Value->Prop
 |bool (b:Bool):VR M (.bool b) (.bool b)
 |int (k:IntKind) (n:Int):VR M (.int k n) (.int k n)
 |str (s:ByteArray):VR M (.str s) (.string s)
 |a2j:VR M (.nil .ptr) (.pointer none)
 |TN:VR M (.nil .slc) (.slice none 0 0)
 |Yy:VR M (.nil .map) (.map none)
 |nfn:VR M (.nil .fn) .nilFunc
 |a2k:VR M (.nil .ifc) .nilIface
 |ptr {b off lim:Nat} {ls:List Pl} {p:Pl} (hb:M b=some (.cells ls)) (hp:p∈ls) (h:lim<=p.ext) (ht:p.base+lim<=p.tot) :
   VR M (.ptr b off lim) (.pointer (some ⟨p.c,p.base+off,none⟩))
 |slc {b off len cap sz:Nat} {ex:Bool} {ls:List Pl} {p:Pl} {a:Addr} {cap':Nat} (hb:M b=some (.cells ls)) (hp:cap'=0∨p∈ls)
   (h:off+cap*sz<=p.ext) (hl:len<=cap) (hc:cap<=cap') (hx:ex=true->cap'=cap)
   (ha:cap'=0∨(a=⟨p.c,p.base+off,none⟩∧p.base+off+cap'*sz<=p.tot)) (hk:cap'<2^63) :
   VR M (.slc b off len cap sz ex) (.slice (some a) len cap')
 |map {r r':Nat} {o:List Nat} (h:M r=some (.obj r' o)):VR M (.map r) (.map (some r'))
 |kW {l l':Nat} {o:List Nat} (h:M l=some (.obj l' o)):VR M (.kW l) (.func (.yield l') #[] #[])
 |iter {l l':Nat} {o:List Nat} (h:M l=some (.obj l' o)):VR M (.iter l) (.pointer (some ⟨l',0,none⟩))
 |fn {f:FuncId} {az bs:List TV} {xs ys:List Value} (h1:az.length=xs.length) (h2:∀(i:Nat) (c:TV) (v:Value),az[i]? = some c->xs[i]? = some v->VR M c v)
   (h3:bs.length=ys.length) (h4:∀(i:Nat) (c:TV) (v:Value),bs[i]? = some c->ys[i]? = some v->VR M c v):VR M (.fn f az bs) (.func (.func f) xs.toArray ys.toArray)
 |agg {az:List TV} {xs:List Value} (h1:az.length=xs.length) (h2:∀(i:Nat) (c:TV) (v:Value),az[i]? = some c->xs[i]? = some v->VR M c v):VR M (.agg az) (.agg xs.toArray)
 |dF {az:List TV} {xs:List Value} (h1:az.length=xs.length) (h2:∀(i:Nat) (c:TV) (v:Value),az[i]? = some c->xs[i]? = some v->VR M c v):VR M (.dF az) (.tuple xs.toArray)
structure bZ(M:Np)(az:List TV)(xs:List Value):Prop where
 len:az.length=xs.length
 at_:∀(i:Nat) (c:TV) (v:Value),az[i]? = some c->xs[i]? = some v->VR M c v
theorem VR.agg'{M:Np}{az:List TV}{xs:List Value}(h:bZ M az xs):VR M (.agg az) (.agg xs.toArray):=.agg h.len h.at_
theorem VR.Qh{M:Np}{az:List TV}{xs:List Value}(h:bZ M az xs):VR M (.dF az) (.tuple xs.toArray):=.dF h.len h.at_
theorem bZ.nil{M:Np}:bZ M [] []:=⟨rfl,fun i c v h=>by simp at h⟩
theorem bZ.cons{M:Np}{c:TV}{v:Value}{az:List TV}{xs:List Value}(h:VR M c v)(hs:bZ M az xs):bZ M (c::az) (v::xs):=
 ⟨by simp[hs.len],fun i c' v' h1 h2=>by
  cases i with
  |zero=>simp at h1 h2;subst h1;subst h2;exact h
  |succ i=>simp at h1 h2;exact hs.at_ i _ _ h1 h2⟩
theorem bZ.qc{M:Np}{xs:List Value}(h:bZ M [] xs):xs=[]:=by
 have:=h.len;simp at this;exact a4c this.symm
theorem bZ.iO{M:Np}{c:TV}{az:List TV}{xs:List Value}(h:bZ M (c::az) xs):∃v vs,xs=v::vs∧VR M c v∧bZ M az vs:=by
 cases xs with
 |nil=>have:=h.len;simp at this
 |cons v vs=>exact⟨v,vs,rfl,h.at_ 0 c v rfl rfl,⟨by have:=h.len;simpa using this,fun i c' v' h1 h2=>h.at_ (i+1) c' v' (by simpa using h1) (by simpa using h2)⟩⟩
theorem bZ.append{M:Np}{az bs:List TV}{xs ys:List Value}(h:bZ M az xs)(h':bZ M bs ys):bZ M (az++bs) (xs++ys):=by
 induction az generalizing xs with
 |nil=>have:=h.qc;subst this;simpa using h'
 |cons c az ih=>
  obtain⟨v,vs,rfl,hv,hvs⟩:=h.iO;exact .cons hv (ih hvs)
theorem bZ.take{M:Np}{az:List TV}{xs:List Value}(h:bZ M az xs)(n:Nat):bZ M (az.take n) (xs.take n):=
 ⟨by simp[h.len],fun i c v h1 h2=>by
  rw[a4i]at h1 h2;split at h1
  .rename_i hi;rw[a0q hi]at h2;exact h.at_ i c v h1 h2
  .simp at h1⟩
theorem bZ.drop{M:Np}{az:List TV}{xs:List Value}(h:bZ M az xs)(n:Nat):bZ M (az.drop n) (xs.drop n):=
 ⟨by simp[h.len],fun i c v h1 h2=>by
  rw[a4j]at h1 h2;exact h.at_ _ c v h1 h2⟩
theorem bZ.get{M:Np}{az:List TV}{xs:List Value}(h:bZ M az xs){i:Nat}{c:TV}(hc:az[i]? = some c):∃v,xs[i]? = some v∧VR M c v:=by
 have hi:i<az.length:=(a0d.1 hc).1;have vZ:i<xs.length:=by rw[<-h.len];exact hi
 exact⟨xs[i],by simp[vZ],h.at_ i c _ hc (by simp[vZ])⟩
def KT:Lc->Lc->Prop
 |.cells ls,.cells xM=>∀p∈ls,∃q∈xM,q.c=p.c∧q.base=p.base∧p.ext<=q.ext∧q.tot=p.tot
 |.obj r o,.obj r' o'=>r=r'∧o <+: o'
 |_,_=>False
def su{α:Type}(M M':α->Option Lc):Prop:=∀k l,M k=some l->∃l',M' k=some l'∧KT l l'
theorem KT.refl(l:Lc):KT l l:=by
 cases l with
 |cells ls=>exact fun p hp=>⟨p,hp,rfl,rfl,a0w _,rfl⟩
 |obj r o=>exact⟨rfl,ag4 o⟩
theorem KT.trans{a b c:Lc}(h:KT a b)(h':KT b c):KT a c:=by
 cases a<;>cases b<;>cases c<;>simp only[KT]at *
 .intro p hp;obtain⟨q,hq,h1,h2,h3,h4⟩:=h p hp;obtain⟨r,hr,g1,g2,g3,g4⟩:=h' q hq;exact⟨r,hr,g1.trans h1,g2.trans h2,a4T h3 g3,g4.trans h4⟩
 exact⟨h.1.trans h'.1,h.2.trans h'.2⟩
theorem su.refl{α:Type}(M:α->Option Lc):su M M:=fun _ l h=>⟨l,h,.refl l⟩
theorem su.trans{α:Type}{a b c:α->Option Lc}(h:su a b)(h':su b c):su a c:=fun k l hl=>
 let ⟨l',h1,h2⟩:=h k l hl
 let ⟨l'',g1,g2⟩:=h' k l' h1
 ⟨l'',g1,h2.trans g2⟩
theorem su.h{M M':Mp}(hm:su M M'):su M.h M'.h:=fun b l hl=>hm (.h b) l hl
theorem VR.mono{M M':Np}(hm:su M M'){v:TV}{x:Value}(h:VR M v x):VR M' v x:=by
 induction h with
 |bool b=>exact .bool b
 |int k n=>exact .int k n
 |str s=>exact .str s
 |a2j=>exact .a2j
 |TN=>exact .TN
 |Yy=>exact .Yy
 |nfn=>exact .nfn
 |a2k=>exact .a2k
 |ptr hb hp h ht=>
  obtain⟨l',h1,h2⟩:=hm _ _ hb;cases l' with
  |obj r _=>exact h2.elim
  |cells xM=>
   obtain⟨q,hq,e1,e2,e3,e4⟩:=h2 _ hp;rw[<-e1,<-e2];exact .ptr h1 hq (a4T h e3) (by rw[e2,e4];exact ht)
 |slc hb hp h hl hc hx ha hk=>
  obtain⟨l',h1,h2⟩:=hm _ _ hb;cases l' with
  |obj r _=>exact h2.elim
  |cells xM=>
   rcases hp with hp|hp
   .exact .slc h1 (.inl hp) h hl hc hx (.inl hp) hk
   obtain⟨q,hq,e1,e2,e3,e4⟩:=h2 _ hp;exact .slc h1 (.inr hq) (a4T h e3) hl hc hx (by rw[e1,e2,e4];exact ha) hk
 |map h=>
  obtain⟨l',h1,h2⟩:=hm _ _ h;cases l' with
  |obj r _=>cases h2.1;exact .map h1
  |cells xM=>exact h2.elim
 |kW h=>
  obtain⟨l',h1,h2⟩:=hm _ _ h;cases l' with
  |obj r _=>cases h2.1;exact .kW h1
  |cells xM=>exact h2.elim
 |iter h=>
  obtain⟨l',h1,h2⟩:=hm _ _ h;cases l' with
  |obj r _=>cases h2.1;exact .iter h1
  |cells xM=>exact h2.elim
 |fn h1 _ h3 _ ih2 ih4=>exact .fn h1 ih2 h3 ih4
 |agg h1 _ ih=>exact .agg h1 ih
 |dF h1 _ ih=>exact .dF h1 ih
theorem bZ.mono{M M':Np}(hm:su M M'){az:List TV}{xs:List Value}(h:bZ M az xs):bZ M' az xs:=
 ⟨h.len,fun i c v h1 h2=>(h.at_ i c v h1 h2).mono hm⟩
theorem a4y{M:Np}{v:TV}{x y:Value}(h:v.toC=some x)(hy:VR M v y):y=x:=by
 cases hy<;>simp[TV.toC]at h<;>first|exact h|exact h.symm|skip
theorem a0h{M:Np}:∀{az:List TV} {xs ys:List Value},TV.TF az=some xs->bZ M az ys->ys=xs
 | [],xs,ys,h,hy=>by simp[TV.TF]at h;subst h;exact hy.qc
 |c::az,xs,ys,h,hy=>by
  simp only[TV.TF]at h;split at h
  .rename_i v vs h1 h2;simp at h;subst h;obtain⟨w,ws,rfl,hw,Yz⟩:=hy.iO;rw[a4y h1 hw,a0h h2 Yz]
  simp at h
theorem wo{M:Np}{v:TV}{x y:Value}(h:v.yx=some x)(hy:VR M v y):y=x:=by
 unfold TV.yx at h;split at h
 .simp only[a0f]at h;obtain⟨vs,h1,rfl⟩:=h;cases hy with
  |agg g1 g2=>rw[a0h h1 ⟨g1,g2⟩]
 exact a4y h hy
theorem VR.a4z{M:Np}{v:TV}{x:Value}(h:TV.ofC x=some v):VR M v x:=by
 unfold TV.ofC at h;split at h<;>simp at h<;>subst h<;>constructor
theorem bZ.a0i{M:Np}:∀{xs:List Value} {az:List TV},TV.BZ xs=some az->bZ M az xs
 | [],az,h=>by simp[TV.BZ]at h;subst h;exact .nil
 |x::xs,az,h=>by
  simp only[TV.BZ]at h;split at h
  .rename_i v vs h1 h2;simp at h;subst h;exact .cons (.a4z h1) (bZ.a0i h2)
  simp at h
theorem VR.yA{M:Np}{v:TV}{x:Value}(h:TV.Vw x=some v):VR M v x:=by
 unfold TV.Vw at h;split at h
 .rename_i cs;simp only[a0f]at h;obtain⟨vs,h1,rfl⟩:=h;have:=VR.agg' (bZ.a0i (M:=M) h1);simpa using this
 exact .a4z h
theorem VR.cells{M:Np}{v:TV}{x:Value}(h:VR M v x):bZ M v.cells x.cells.toList:=by
 cases h with
 |agg h1 h2=>exact⟨by simpa[TV.cells,Value.cells]using h1,by simpa[TV.cells,Value.cells]using h2⟩
 |_=>exact .cons (by first|assumption|constructor<;>assumption) .nil
theorem iZ{α:Type}{P:Program}:∀{s:Sem α} {a:α},aB P s=some a->∀w,s.run P w=.ok a w
 |.pure b,a,h,w=>by simp[aB]at h;simp[Sem.run,h]
 |.program k,a,h,w=>by simp only[aB]at h;simp only[Sem.run];exact iZ h w
 |.mark _ k,a,h,w=>by simp only[aB]at h;simp only[Sem.run];exact iZ h w
 |.load ..,a,h,w=>by simp[aB]at h
 |.store ..,a,h,w=>by simp[aB]at h
 |.new ..,a,h,w=>by simp[aB]at h
 |.shape ..,a,h,w=>by simp[aB]at h
 |.freeze ..,a,h,w=>by simp[aB]at h
 |.frozen ..,a,h,w=>by simp[aB]at h
 |.getObj ..,a,h,w=>by simp[aB]at h
 |.setObj ..,a,h,w=>by simp[aB]at h
 |.choose ..,a,h,w=>by simp[aB]at h
 |.sys ..,a,h,w=>by simp[aB]at h
 |.halt ..,a,h,w=>by simp[aB]at h
def wr:HB->Bool
 |.cells .ro _=>false
 |.mark=>false
 |_=>true
def aI:Lc->List Nat
 |.cells ls=>ls.map (·.c)
 |.obj r _=>[r]
structure Nq(N:Np)(w:World)(k:BK)(cs:List TV)(p:Pl):Prop where
 row:∃(arr:Array Value) (ty:TypeId) (fz:Nat×Nat),w.heap[p.c]? = some (.cells arr ty fz)∧arr.size=p.tot∧(k≠.ro->fz=(0,0)) ∧
  ((k=.last->p.ext=cs.length)->∀(i:Nat) (c:TV) (v:Value),i<p.ext->cs[i]? = some c->arr[p.base+i]? = some v->VR N c v)
 fit:p.base+p.ext<=p.tot
 ext:p.ext<=cs.length
 base:k≠.ro->p.base=0
inductive ER(M:Mp):EV->Value->Prop
 |val {v:TV} {x:Value} (h:VR M.h v x):ER M (.val v) x
 |loc {k off:Nat} {p:Pl} (h:M (.l k)=some (.cells [p])) (hb:p.base=0):ER M (.loc k off) (.pointer (some ⟨p.c,off,none⟩))
 |undef:ER M .undef Go.undef
 |ent {r j:Nat} {v:TV} {r1 i:Nat} {o:List Nat} {x:Value} (h:M (.h r)=some (.obj r1 o)) (hi:o[i]? = some j) (hv:VR M.h v x):ER M (.ent r j v) (.tuple #[x,Go.goInt i])
 |Et {r j r1 i:Nat} {o:List Nat} (h:M (.h r)=some (.obj r1 o)) (hi:o[i]? = some j):ER M (.Et r j) (Go.goInt i)
theorem ER.vC{M:Mp}{v:TV}{x:Value}(h:ER M (.val v) x):VR M.h v x:=by cases h;assumption
def jV(M:Mp)(env:List (Nat×EV))(tmps:Array Value):Prop:=∀t e,dM t env=some e->ER M e (tmps.getD t Go.undef)
structure a8T(N:Np)(rd:Bool)(f nt:Nat)(env:List (Nat×EV))(ps:List Nat)(a b:Code)(jI:Option Code)(lp:Loop):Prop where
 ps:lp.params.toList=ps
 uI:lp.assign=a
 body:lp.body=b
 size:nt<=lp.tmps.size
 KU:∀t v,dM t env=some (.val v)->VR N v (lp.tmps.getD t Go.undef)
 TP:∀t,dM t env=some .undef->lp.tmps.getD t Go.undef=Go.undef
 nol:∀t e,dM t env=some e->isVal (t,e)=true
 ready:rd=true->lp.state=.ready∧lp.pending=none
 busy:rd=false->jI=none->lp.state=.busy
 done:rd=false->∀j,jI=some j->j≠.skip->lp.state=.done∧lp.pending=some j
structure wu(N:Np)(o:List Nat)(es:List (TV×TV))(xs:Array MapEntry):Prop where
 len:es.length=xs.size
 ord:o.length=xs.size
 nod:o.Nodup
 sur:∀j,j<es.length->j∈o
 at_:∀(i:Nat) (x:MapEntry),xs[i]? = some x->x.born=i∧∃j e,o[i]? = some j∧es[j]? = some e∧VR N e.1 x.key∧VR N e.2 x.val
def ahh(N:Np)(w:World)(es:List (TV×TV))(r:Nat)(o:List Nat):Prop:=
 ∃xs:Array MapEntry,w.heap[r]? = some (.map xs xs.size)∧wu N o es xs
theorem wu.mono{N N':Np}{o:List Nat}{es:List (TV×TV)}{xs:Array MapEntry}(hm:su N N')(h:wu N o es xs):wu N' o es xs:=
 ⟨h.len,h.ord,h.nod,h.sur,fun i x hx=>let ⟨b,j,e,h1,h2,h3,h4⟩:=h.at_ i x hx;⟨b,j,e,h1,h2,h3.mono hm,h4.mono hm⟩⟩
def mF(N:Np)(w:World)(k:BK)(cs:List TV)(ls:List Pl):Prop:=
 (∀c∈cs,iU c=true)∧(∀p∈ls,Nq N w k cs p)∧(k=.own->∃p,ls=[p]∧p.ext=cs.length) ∧
   ((k=.grow∨k=.last)->(ls.map (·.c)).Nodup∧∀p∈ls,∀q∈ls,p.ext=cs.length->q.ext=cs.length->p=q)
def pO(N:Np)(w:World):HB->Lc->Prop
 |.cells k cs,.cells ls=>mF N w k cs ls
 |.mZ cs,.cells ls=>∃cs',cs'.Perm cs∧mF N w .last cs' ls
 |.map es,.obj r o=>ahh N w es r o
 |.mark,.obj r _=>r<w.heap.size
 |.dn m n seen,.obj r _=>∃(b:Nat) (o:List Nat) (sa:Array Nat),N m=some (.obj b o)∧w.heap[r]? = some (.mapIter (some b) n sa n)∧n<=o.length∧sa.toList.map (fun i=>o[i]?)=seen.reverse.map some
 |.loop rd f nt env ps a b jI,.obj r _=>∃lp,w.heap[r]? = some (.loop lp)∧a8T N rd f nt env ps a b jI lp
 |_,_=>False
theorem Nq.mono{N N':Np}{w w':World}{k:BK}{cs:List TV}{p:Pl}(hm:su N N')(hw:w'.heap[p.c]? = w.heap[p.c]?)(h:Nq N w k cs p):Nq N' w' k cs p:=
 ⟨let ⟨arr,ty,fz,h1,h2,h3,h4⟩:=h.row;⟨arr,ty,fz,hw.trans h1,h2,h3,fun z i c v a b d=>(h4 z i c v a b d).mono hm⟩,h.fit,h.ext,h.base⟩
theorem a8T.mono{N N':Np}{rd:Bool}{f nt:Nat}{env:List (Nat×EV)}{ps:List Nat}{a b:Code}{jI:Option Code}{lp:Loop}(hm:su N N')(h:a8T N rd f nt env ps a b jI lp):a8T N' rd f nt env ps a b jI lp:=
 { h with KU:=fun t v e=>(h.KU t v e).mono hm }
theorem mF.mono{N N':Np}{w w':World}{k:BK}{cs:List TV}{ls:List Pl}(hm:su N N')(hw:∀p∈ls,w'.heap[p.c]? = w.heap[p.c]?)(h:mF N w k cs ls):mF N' w' k cs ls:=
 ⟨h.1,fun p hp=>(h.2.1 p hp).mono hm (hw p hp),h.2.2⟩
theorem pO.mono{N N':Np}{w w':World}{b:HB}{l:Lc}(hm:su N N')(hw:∀c∈aI l,w'.heap[c]? = w.heap[c]?)(h:pO N w b l):pO N' w' b l:=by
 cases b with
 |cells k cs=>
  cases l with
  |obj r _=>exact h.elim
  |cells ls=>exact mF.mono hm (fun p hp=>hw p.c (a1e.2 ⟨p,hp,rfl⟩)) h
 |mZ cs=>
  cases l with
  |obj r _=>exact h.elim
  |cells ls=>
   obtain⟨cs',h1,h2⟩:=h;exact⟨cs',h1,h2.mono hm fun p hp=>hw p.c (a1e.2 ⟨p,hp,rfl⟩)⟩
 |map es=>
  cases l with
  |cells ls=>exact h.elim
  |obj r _=>
   obtain⟨xs,h1,h2⟩:=h;exact⟨xs,(hw r (by simp[aI])).trans h1,h2.mono hm⟩
 |mark=>
  cases l with
  |cells ls=>exact h.elim
  |obj r _=>
   have h':r<w.heap.size:=h;have:=hw r (by simp[aI]);rw[a4a h']at this;exact(a2q.1 this).1
 |dn m n seen=>
  cases l with
  |cells ls=>exact h.elim
  |obj r _=>
   obtain⟨b,o,sa,h1,h2,h3,h4⟩:=h;obtain⟨l',g1,g2⟩:=hm _ _ h1;cases l' with
   |cells xM=>exact g2.elim
   |obj b' o'=>
    obtain⟨rfl,g3⟩:=g2;refine⟨b,o',sa,g1,(hw r (by simp[aI])).trans h2,a4T h3 g3.length_le,?_⟩;rw[<-h4];refine a4O fun i hi=>?_;have:o[i]?∈sa.toList.map (fun i=>o[i]?):=a1e.2 ⟨i,hi,rfl⟩;rw[h4]at this;obtain⟨j,_,hj⟩:=a1e.1 this;have aQ:=(a0d.1 hj.symm).1;obtain⟨t,rfl⟩:=g3;rw[a0k aQ]
 |loop rd f nt env ps a b jI=>
  cases l with
  |cells ls=>exact h.elim
  |obj r _=>
   obtain⟨lp,h1,h2⟩:=h;exact⟨lp,(hw r (by simp[aI])).trans h1,h2.mono hm⟩
theorem pO.inb{N:Np}{w:World}{b:HB}{l:Lc}(h:pO N w b l):∀c∈aI l,c<w.heap.size:=by
 intro c hc;cases b with
 |cells k cs=>
  cases l with
  |obj r _=>exact h.elim
  |cells ls=>
   obtain⟨p,hp,rfl⟩:=a1e.1 hc;obtain⟨arr,ty,fz,h1,_⟩:=(h.2.1 p hp).row;exact(a2q.1 h1).1
 |mZ cs=>
  cases l with
  |obj r _=>exact h.elim
  |cells ls=>
   obtain⟨p,hp,rfl⟩:=a1e.1 hc;obtain⟨cs',_,h⟩:=h;obtain⟨arr,ty,fz,h1,_⟩:=(h.2.1 p hp).row;exact(a2q.1 h1).1
 |map es=>
  cases l with
  |cells ls=>exact h.elim
  |obj r _=>
   obtain⟨xs,h1,_⟩:=h;simp[aI]at hc;subst hc;exact(a2q.1 h1).1
 |mark=>
  cases l with
  |cells ls=>exact h.elim
  |obj r _=>
   simp[aI]at hc;subst hc;exact h
 |dn m n seen=>
  cases l with
  |cells ls=>exact h.elim
  |obj r _=>
   obtain⟨b,o,sa,_,h1,_⟩:=h;simp[aI]at hc;subst hc;exact(a2q.1 h1).1
 |loop rd f nt env ps a b jI=>
  cases l with
  |cells ls=>exact h.elim
  |obj r _=>
   obtain⟨lp,h1,_⟩:=h;simp[aI]at hc;subst hc;exact(a2q.1 h1).1
abbrev Ct:=Key->Option HB
structure Valid(M:Mp)(D:Key->Prop)(C:Ct)(w:World):Prop where
 ok:∀k l,M k=some l->D k->∃b,C k=some b∧pO M.h w b l
 own:∀k k' l l' b,k≠k'->M k=some l->M k'=some l'->D k->C k=some b->wr b=true->∀c∈aI l,c∉aI l'
 inb:∀k l,M k=some l->∀c∈aI l,c<w.heap.size
def uK:Key->Prop:=fun _=>True
theorem Valid.has{M:Mp}{C:Ct}{w:World}(h:Valid M uK C w){k:Key}{l:Lc}(hk:M k=some l):(C k).isSome=true:=
 let ⟨_,h1,_⟩:=h.ok k l hk trivial;by simp[h1]
theorem Valid.of_heap{M:Mp}{D:Key->Prop}{C:Ct}{w w':World}(h:Valid M D C w)(hw:w'.heap=w.heap):Valid M D C w':=
 ⟨fun k l hk hd=>let ⟨b,h1,h2⟩:=h.ok k l hk hd;⟨b,h1,h2.mono (.refl _) (fun c _=>by rw[hw])⟩,h.own,by rw[hw];exact h.inb⟩
def dK(M:Mp)(k:Key)(l:Lc):Mp:=fun j=>if j=k then some l else M j
def lT(C:Ct)(k:Key)(b:HB):Ct:=fun j=>if j=k then some b else C j
theorem mG{M:Mp}{k:Key}{l:Lc}(h:∀l0,M k=some l0->KT l0 l):su M (dK M k l):=by
 intro j l0 hj;by_cases hjk:j=k
 .subst hjk;exact⟨l,by simp[dK],h l0 hj⟩
 exact⟨l0,by simp[dK,hjk,hj],.refl _⟩
theorem Valid.upd{M:Mp}{D D':Key->Prop}{C:Ct}{w w':World}(h:Valid M D C w)(k:Key)(b:HB)(l:Lc)
  (hD:∀j,D' j->D j∨j=k)
  (hold:∀l0,M k=some l0->D k∧KT l0 l∧∀b0,C k=some b0->wr b0=true)
  (gJ:∀c,c<w.heap.size->c∉aI l->w'.heap[c]? = w.heap[c]?)
  (gq:∀c∈aI l,(∃l0,M k=some l0∧c∈aI l0)∨w.heap.size<=c)
  (EI:w.heap.size<=w'.heap.size)
  (QI:pO (dK M k l).h w' b l):Valid (dK M k l) D' (lT C k b) w':=by
 have hle:su M (dK M k l):=mG fun l0 h0=>(hold l0 h0).2.1;refine⟨?_,?_,?_⟩
 .intro j l0 hj hd;by_cases hjk:j=k
  .subst hjk;simp only[dK,a2y,a03]at hj;subst hj;exact⟨b,by simp[lT],QI⟩
  .simp only[dK,hjk,a3U]at hj;obtain⟨b0,h1,h2⟩:=h.ok j l0 hj ((hD j hd).resolve_right hjk);refine⟨b0,by simp[lT,hjk,h1],h2.mono hle.h fun c hc=>?_⟩;have aQ:=h.inb j l0 hj c hc;refine gJ c aQ fun qm=>?_;rcases gq c qm with⟨l1,VE,hc1⟩|EJ
   .obtain⟨hDk,_,hw⟩:=hold l1 VE;obtain⟨b1,Cm,_⟩:=h.ok k l1 VE hDk;exact h.own k j l1 l0 b1 (fun e=>hjk e.symm) VE hj hDk Cm (hw b1 Cm) c hc1 hc
   .omega
 .intro j j' l0 l0' b0 iE hj DV hd hb hw c hc Qi;by_cases hjk:j=k
  .subst hjk;have a8U:j'≠j:=fun e=>iE e.symm;simp only[dK,a2y,a03]at hj;subst hj;simp only[dK,a8U,a3U]at DV;have aQ:=h.inb j' l0' DV c Qi;rcases gq c hc with⟨l1,VE,hc1⟩|EJ
   .obtain⟨hDk,_,hw⟩:=hold l1 VE;obtain⟨b1,Cm,_⟩:=h.ok j l1 VE hDk;exact h.own j j' l1 l0' b1 iE VE DV hDk Cm (hw b1 Cm) c hc1 Qi
   .omega
  .simp only[dK,hjk,a3U]at hj;simp only[lT,hjk,a3U]at hb;have hdj:=(hD j hd).resolve_right hjk;have aQ:=h.inb j l0 hj c hc;by_cases a8U:j'=k
   .subst a8U;simp only[dK,a2y,a03]at DV;subst DV;rcases gq c Qi with⟨l1,VE,hc1⟩|EJ
    .exact h.own j j' l0 l1 b0 iE hj VE hdj hb hw c hc hc1
    .omega
   .simp only[dK,a8U,a3U]at DV;exact h.own j j' l0 l0' b0 iE hj DV hdj hb hw c hc Qi
 .intro j l0 hj c hc;by_cases hjk:j=k
  .subst hjk;simp only[dK,a2y,a03]at hj;subst hj;exact QI.inb c hc
  .simp only[dK,hjk,a3U]at hj;exact a90 (h.inb j l0 hj c hc) EI
structure Ext(M0:Mp)(C0:Ct)(w0:World)(M:Mp)(C:Ct)(w:World)(ws:List Key):Prop where
 Iu:su M0 M
 frame:∀c,c<w0.heap.size->(∀k∈ws,∀l,M0 k=some l->c∉aI l)->w.heap[c]? = w0.heap[c]?
 nD:∀k,(C0 k).isSome=true->k∉ws->C k=C0 k
 lD:∀k,((C0 k).isSome=true∨C k=none)->k∉ws->M k=M0 k
 fresh:∀k l,M k=some l->∀c∈aI l,c<w0.heap.size->∃l0,M0 k=some l0∧c∈aI l0
 size:w0.heap.size<=w.heap.size
 has:∀k,(C0 k).isSome=true->(C k).isSome=true
 wsub:∀k∈ws,(C0 k).isSome=true
 wrote:∀k∈ws,(M0 k).isSome=true∧∀b,C0 k=some b->wr b=true
 os:w.os=w0.os
 output:w.output=w0.output
 tape:w.tape=w0.tape
theorem Ext.refl(M:Mp)(C:Ct)(w:World):Ext M C w M C w []:=
 ⟨.refl _,fun _ _ _=>rfl,fun _ _ _=>rfl,fun _ _ _=>rfl,fun _ l h c hc _=>⟨l,h,hc⟩,a0w _,fun _ h=>h,(by simp),(by simp),rfl,rfl,rfl⟩
theorem Ext.drew{M0:Mp}{C0:Ct}{w0:World}{M:Mp}{C:Ct}{w w':World}{ws:List Key}(h:Ext M0 C0 w0 M C w ws)
  (hh:w'.heap=w.heap) (ho:w'.os=w.os) (hu:w'.output=w.output) (ht:w'.tape=w.tape):Ext M0 C0 w0 M C w' ws:=
 { h with frame:=(by rw[hh];exact h.frame),size:=(by rw[hh];exact h.size),os:=ho.trans h.os,output:=hu.trans h.output,tape:=ht.trans h.tape }
theorem Ext.trans{M0 M M':Mp}{C0 C C':Ct}{w0 w w':World}{ws TQ adF:List Key}(h:Ext M0 C0 w0 M C w ws)(h':Ext M C w M' C' w' TQ)
  (hd:∀k l,M0 k=some l->(C0 k).isSome=true) (hs:∀k,(C0 k).isSome=true->(k∈ws∨k∈TQ)->k∈adF) (hb:∀k∈adF,(C0 k).isSome=true∧(k∈ws∨k∈TQ)) :
  Ext M0 C0 w0 M' C' w' adF where
 Iu:=h.Iu.trans h'.Iu
 frame:=by
  intro c hc hf;have h1:w.heap[c]? = w0.heap[c]?:=h.frame c hc fun k hk l hl=>hf k (hs k (h.wsub k hk) (.inl hk)) l hl;rw[<-h1];refine h'.frame c (a90 hc h.size) fun k hk l hl qm=>?_;obtain⟨l0,h2,h3⟩:=h.fresh k l hl c qm hc;exact hf k (hs k (hd k l0 h2) (.inr hk)) l0 h2 h3
 nD:=fun k hk hn=>by
  have hn1:k∉ws:=fun e=>hn (hs k hk (.inl e));have DW:k∉TQ:=fun e=>hn (hs k hk (.inr e));rw[h'.nD k (h.has k hk) DW,h.nD k hk hn1]
 lD:=fun k hk hn=>by
  rcases hk with hk|hk
  .have hn1:k∉ws:=fun e=>hn (hs k hk (.inl e));have DW:k∉TQ:=fun e=>hn (hs k hk (.inr e));rw[h'.lD k (.inl (h.has k hk)) DW,h.lD k (.inl hk) hn1]
  .have hC:C k=none:=by
    cases hc:C k with
    |none=>rfl
    |some b=>have:=h'.has k (by simp[hc]);simp[hk]at this
   have DW:k∉TQ:=fun e=>by have:=h'.wsub k e;simp[hC]at this
   have hn1:k∉ws:=fun e=>by have:=h.has k (h.wsub k e);simp[hC]at this
   rw[h'.lD k (.inr hk) DW,h.lD k (.inr hC) hn1]
 fresh:=fun k l hl c hc aQ=>by
  obtain⟨l1,h1,h2⟩:=h'.fresh k l hl c hc (a90 aQ h.size);exact h.fresh k l1 h1 c h2 aQ
 size:=a4T h.size h'.size
 has:=fun k hk=>h'.has k (h.has k hk)
 wsub:=fun k hk=>(hb k hk).1
 wrote:=fun k hk=>by
  by_cases h1:k∈ws
  .exact h.wrote k h1
  .have h2:=h'.wrote k ((hb k hk).2.resolve_left h1);rw[h.lD k (.inl (hb k hk).1) h1,h.nD k (hb k hk).1 h1]at h2;exact h2
 os:=h'.os.trans h.os
 output:=h'.output.trans h.output
 tape:=h'.tape.trans h.tape
theorem Ext.upd{M:Mp}{C:Ct}{w w':World}(k:Key)(b:HB)(l:Lc)(ws:List Key)
  (Yz:((C k).isSome=true∧ws=[k]∧(M k).isSome=true∧∀b,C k=some b->wr b=true)∨(C k=none∧M k=none∧ws=[]))
  (hle:su M (dK M k l))
  (gJ:∀c,c<w.heap.size->c∉aI l->w'.heap[c]? = w.heap[c]?)
  (gq:∀c∈aI l,(∃l0,M k=some l0∧c∈aI l0)∨w.heap.size<=c)
  (EI:w.heap.size<=w'.heap.size) (ho:w'.os=w.os) (hou:w'.output=w.output) (ht:w'.tape=w.tape) :
  Ext M C w (dK M k l) (lT C k b) w' ws where
 Iu:=hle
 frame:=by
  intro c hc hf;refine gJ c hc fun qm=>?_;rcases gq c qm with⟨l0,h1,h2⟩|EJ
  .rcases Yz with⟨_,rfl,_⟩|⟨_,hn,_⟩
   .exact hf k (by simp) l0 h1 h2
   .rw[hn]at h1;cases h1
  .omega
 nD:=fun j hj hn=>by
  have:j≠k:=by
   rintro rfl;rcases Yz with⟨_,rfl,_⟩|⟨h1,_⟩
   .simp at hn
   .simp[h1]at hj
  simp[lT,this]
 lD:=fun j hj hn=>by
  have:j≠k:=by
   rintro rfl;rcases Yz with⟨_,rfl,_⟩|⟨h1,_⟩
   .simp at hn
   .rcases hj with hj|hj
    .simp[h1]at hj
    .simp[lT]at hj
  simp[dK,this]
 fresh:=fun j l0 hj c hc aQ=>by
  by_cases hjk:j=k
  .subst hjk;simp only[dK,a2y,a03]at hj;subst hj;rcases gq c hc with h1|EJ
   .exact h1
   .omega
  .simp only[dK,hjk,a3U]at hj;exact⟨l0,hj,hc⟩
 size:=EI
 has:=fun j hj=>by
  by_cases hjk:j=k
  .simp[lT,hjk]
  .simpa[lT,hjk]using hj
 wsub:=by
  rcases Yz with⟨h1,rfl,_⟩|⟨_,_,rfl⟩
  .intro j hj;simp at hj;subst hj;exact h1
  .simp
 wrote:=by
  rcases Yz with⟨_,rfl,h1⟩|⟨_,_,rfl⟩
  .intro j hj;simp at hj;subst hj;exact h1
  .simp
 os:=ho
 output:=hou
 tape:=ht
theorem ER.mono{M M':Mp}(hm:su M M')(hl:∀k l,M (.l k)=some l->M' (.l k)=some l){e:EV}{x:Value}(h:ER M e x):ER M' e x:=by
 cases h with
 |val h=>exact .val (h.mono hm.h)
 |loc h hb=>exact .loc (hl _ _ h) hb
 |undef=>exact .undef
 |ent h hi hv=>
  obtain⟨l',h1,h2⟩:=hm _ _ h;cases l' with
  |cells _=>exact h2.elim
  |obj r1 o'=>
   obtain⟨rfl,t,rfl⟩:=h2;exact .ent h1 (by rw[a0k (a0d.1 hi).1];exact hi) (hv.mono hm.h)
 |Et h hi=>
  obtain⟨l',h1,h2⟩:=hm _ _ h;cases l' with
  |cells _=>exact h2.elim
  |obj r1 o'=>
   obtain⟨rfl,t,rfl⟩:=h2;exact .Et h1 (by rw[a0k (a0d.1 hi).1];exact hi)
structure Nr(M:Mp)(D:Key->Prop)(C:Ct)(w:World)(v:EV)(C1:Ct)(ws:List Key)(x:Value)(w':World)(M':Mp):Prop where
 val:Valid M' (fun k=>D k∨(C k=none∧(C1 k).isSome=true)) C1 w'
 ext:Ext M C w M' C1 w' ws
 er:ER M' v x
 loc:∀k l,M (.l k)=some l->M' (.l k)=some l
theorem Nr.same{M:Mp}{D:Key->Prop}{C:Ct}{w:World}{v:EV}{x:Value}(h:Valid M D C w)(he:ER M v x):Nr M D C w v C [] x w M:=
 ⟨⟨fun k l hk hd=>h.ok k l hk (hd.elim id fun⟨a,b⟩=>by simp[a]at b),fun k k' l l' b a1 a2 a3 hd=>h.own k k' l l' b a1 a2 a3 (hd.elim id fun⟨a,b⟩=>by simp[a]at b),h.inb⟩,.refl M C w,he,fun _ _ h=>h⟩
theorem wz(w:World)(o:Obj)(i:Nat)(h:i<w.heap.size):(w.alloc o).heap[i]? = w.heap[i]?:=by
 show(w.heap.push o)[i]? = w.heap[i]?;rw[Array.getElem?_push,a0p (Nat.ne_of_lt h)]
section
variable {P:Program} {w:World}
theorem iV{t:TypeId}{i:TypeInfo}(h:P.info? t=some i):(typeInfo t).run P w=.ok i w:=by simp[typeInfo,h]
theorem Fa{t:TypeId}{n:Nat}(h:dG P t=some n):∃i,P.info? t=some i∧i.size=n:=by
 simpa[dG]using h
theorem dh{t:TypeId}{n:Nat}(h:dG P t=some n):(Go.sizeOf t).run P w=.ok n w:=by
 obtain⟨i,h1,h2⟩:=Fa h;simp[Go.sizeOf,iV h1,h2]
theorem zW{t:TypeId}{b:Bool}(h:uJ P t=some b):(isAgg t).run P w=.ok b w:=by
 unfold uJ at h;split at h<;>simp at h<;>subst h
 .simp[isAgg,run_underlying ‹_›]
 .simp[isAgg,run_underlying ‹_›]
 rename_i d _ _ hu;simp only[isAgg,Sem.run_bind,run_underlying hu,Result.andThen_ok];cases d<;>simp_all
theorem uj(c o n:Nat):(⟨c,o,none⟩:Addr).add n=⟨c,o+n,none⟩:=by
 unfold Addr.add;split<;>simp_all
theorem IG{N:Np}{c:TV}{v:Value}(h:VR N c v)(ho:iU c=true):v.oneCell'=true:=by
 cases h<;>first|rfl|simp[iU]at ho
theorem um{cs:List TV}{off n:Nat}{r:List TV}(h:sub cs off n=some r):off+n<=cs.length∧r=(cs.drop off).take n∧r.length=n:=by
 unfold sub at h;split at h
 .rename_i hl;simp at h;subst h;exact⟨hl,rfl,by simp;omega⟩
 simp at h
theorem vS{cs:List TV}{off:Nat}{new r:List TV}(h:vY cs off new=some r) :
  off+new.length<=cs.length∧r=cs.take off++new++cs.drop (off+new.length)∧r.length=cs.length:=by
 unfold vY at h;split at h
 .rename_i hl;simp at h;subst h;exact⟨hl,by simp,by simp;omega⟩
 .simp at h
theorem Nq.slice{N:Np}{k:BK}{cs:List TV}{p:Pl}(h:Nq N w k cs p){off n:Nat}{r:List TV}(hr:sub cs off n=some r)(he:off+n<=p.ext)(hz:k=.last->p.ext=cs.length) :
  ∃xs:List Value,bZ N r xs∧∀(j:Nat) (v:Value),xs[j]? = some v->w.cell? ⟨p.c,p.base+off+j,none⟩=some v:=by
 obtain⟨arr,ty,fz,h1,h2,_,h4⟩:=h.row;obtain⟨s1,s2,s3⟩:=um hr;have hf:=h.fit;refine⟨(arr.toList.drop (p.base+off)).take n,⟨by rw[s3];simp;omega,fun i c v a b=>?_⟩,fun j v hj=>?_⟩
 .rw[s2,a4i]at a;rw[a4i]at b;split at a
  .rename_i hi;rw[a0q hi,a4j]at b;rw[a4j]at a;exact h4 hz (off+i) c v (by omega) a (by simpa[a9M]using b)
  .simp at a
 .rw[a4i]at hj;split at hj
  .rw[a4j]at hj;simp only[World.cell?,h1];simpa using hj
  .simp at hj
theorem yB{N:Np}{k:BK}{cs:List TV}{p:Pl}(h:Nq N w k cs p){off n:Nat}{r:List TV}(hr:sub cs off n=some r)(he:off+n<=p.ext)(hz:k=.last->p.ext=cs.length) :
  ∃xs:List Value,bZ N r xs∧∀w':World,w'.heap=w.heap->(loadCells ⟨p.c,p.base+off,none⟩ n).run P w'=.ok xs.toArray w':=by
 obtain⟨xs,h1,h2⟩:=h.slice hr he hz;refine⟨xs,h1,fun w' hw'=>?_⟩;have hl:xs.length=n:=by rw[<-h1.len];exact(um hr).2.2
 have:=run_loadCells_list (P:=P) w' ⟨p.c,p.base+off,none⟩ xs (fun j v hj=>by
  rw[uj];have e:=h2 j v hj;simp only[World.cell?,hw']at e ⊢;exact e)
 rwa [hl]at this
theorem JR{N:Np}{k:BK}{cs:List TV}{p:Pl}(h:Nq N w k cs p){t:TypeId}{off n:Nat}{v:TV}(hs:dG P t=some n)
  (hv:uh P t cs off=some v) (he:off+n<=p.ext) (hz:k=.last->p.ext=cs.length) :
  ∃x,VR N v x∧(loadVar t ⟨p.c,p.base+off,none⟩).run P w=.ok x w:=by
 unfold uh at hv;rw[hs]at hv;cases ha:uJ P t with
 |none=>simp[ha]at hv
 |some b=>
  cases b with
  |true=>
   simp only[ha,a0f]at hv;obtain⟨r,hr,rfl⟩:=hv;obtain⟨xs,g1,g2⟩:=yB (P:=P) h hr he hz;exact⟨_,.agg' g1,by simp[loadVar,zW ha,dh hs,g2 w rfl]⟩
  |false=>
   simp only[ha]at hv;split at hv
   case isFalse=>simp at hv
   rename_i hn1;have he1:off+1<=p.ext:=(by omega);have aQ:=(a0d.1 hv).1;have hr:sub cs off 1=some [v]:=by
    unfold sub;rw[a0q (by omega)];congr 1;rw[a6D aQ];have:=(a0d.1 hv).2;simp[this]
   obtain⟨xs,g1,g2⟩:=h.slice hr he1 hz;obtain⟨x,xs',rfl,gx,_⟩:=g1.iO;have:=g2 0 x rfl;simp only[adv]at this;exact⟨x,gx,by simp[loadVar,zW ha,this]⟩
end
theorem II{M:Mp}{k:Key}{l:Lc}(h:M k=some l):dK M k l=M:=by
 funext j;unfold dK;split
 .rename_i e;rw[e,h]
 rfl
theorem kJ(s:St)(b:HB)(e:List (Nat×EV))(ws:List Nat):St.get { s with heap:=s.heap++[b],env:=e,ws:=ws }=lT s.get (.h s.heap.length) b:=by
 funext k
 cases k with
 |h j=>
  simp only[St.get,lT,Key.h.injEq];split
  .rename_i e;subst e;simp
  rename_i e;by_cases hj:j<s.heap.length
  .rw[a0k hj]
  rw[a4e (by simp;omega),a4e (by omega)]
 |l j=>simp[St.get,lT]
theorem jy(s:St)(i:Nat)(b:HB)(h:i<s.heap.length)(e:List (Nat×EV))(ws:List Nat):St.get { s with heap:=s.heap.set i b,env:=e,ws:=ws }=lT s.get (.h i) b:=by
 funext k
 cases k with
 |h j=>
  simp only[St.get,lT,Key.h.injEq];rw[a9v];by_cases hj:i=j
  .subst hj;simp[h]
  rw[a0p hj,a0p (fun e=>hj e.symm)]
 |l j=>simp[St.get,lT]
theorem QJ(s:St)(cs:List TV)(e:List (Nat×EV))(ws:List Nat):St.get { s with loc:=s.loc++[cs],env:=e,ws:=ws }=lT s.get (.l s.loc.length) (.cells .own cs):=by
 funext k
 cases k with
 |l j=>
  simp only[St.get,lT,Key.l.injEq];split
  .rename_i e;subst e;simp
  rename_i e;by_cases hj:j<s.loc.length
  .rw[a0k hj]
  rw[a4e (by simp;omega),a4e (by omega)]
 |h j=>simp[St.get,lT]
theorem Ns(s:St)(i:Nat)(cs:List TV)(h:i<s.loc.length)(e:List (Nat×EV))(ws:List Nat):St.get { s with loc:=s.loc.set i cs,env:=e,ws:=ws }=lT s.get (.l i) (.cells .own cs):=by
 funext k
 cases k with
 |l j=>
  simp only[St.get,lT,Key.l.injEq];rw[a9v];by_cases hj:i=j
  .subst hj;simp[h]
  rw[a0p hj,a0p (fun e=>hj e.symm)]
 |h j=>simp[St.get,lT]
theorem xO{h:List HB}{b lim:Nat}{cs:List TV}(e:mg h b lim=some cs):∃k,h[b]? = some (.cells k cs)∧(k=.last->lim=cs.length):=by
 unfold mg at e;split at e
 .rename_i k cs' hb;split at e
  .cases e
  rename_i hn;simp at e;subst e;exact⟨k,hb,fun hk=>Decidable.not_not.1 fun hl=>hn ⟨hk,hl⟩⟩
 simp at e
theorem JU{k k':BK}{b:Bool}(e:zU k b=some k'):(k=.own∧k'=.own)∨((k=.grow∨k=.last)∧k'=.last∧b=true):=by
 unfold zU at e;split at e<;>simp_all
theorem IJ{h h':List HB}{b off lim:Nat}{new:List TV}(e:TI h b off lim new=some h') :
  ∃k k' cs cs',h[b]? = some (.cells k cs)∧((k=.own∧k'=.own)∨((k=.grow∨k=.last)∧k'=.last∧lim=cs.length))∧vY cs off new=some cs'∧h'=h.set b (.cells k' cs'):=by
 unfold TI at e;split at e
 .rename_i k cs hb;split at e
  .rename_i k' hk;simp only[a0f]at e;obtain⟨cs',h1,h2⟩:=e;refine⟨k,k',cs,cs',hb,?_,h1,h2.symm⟩;rcases JU hk with h|⟨a,b,c⟩
   .exact .inl h
   .exact .inr ⟨a,b,by simpa using c⟩
  .cases e
 .simp at e
theorem VF{arr:Array Value}{off:Nat}{xs:List Value}(i:Nat)(h:off+xs.length<=arr.size) :
  (arr.toList.take off++xs++arr.toList.drop (off+xs.length)).toArray[i]? = if i<off then arr[i]? else if i<off+xs.length then xs[i-off]? else arr[i]?:=by
 have hl:(arr.toList.take off).length=off:=by simp;omega
 simp only[adx];by_cases h1:i<off
 .rw[a0q h1,a5b,a0k (by omega),a4i,a0q h1];simp
 .rw[a0p h1];by_cases h2:i<off+xs.length
  .rw[a0q h2,a5b,a1d (by omega),hl,a0k (by omega)]
  .rw[a0p h2,a1d (by simp;omega),a4j];have:off+xs.length+(i-(List.take off arr.toList++xs).length)=i:=by simp;omega
   rw[this];simp
theorem a2l{cs new r:List TV}{off:Nat}(h:vY cs off new=some r)(i:Nat) :
  r[i]? = if i<off then cs[i]? else if i<off+new.length then new[i-off]? else cs[i]?:=by
 obtain⟨h1,h2,_⟩:=vS h;have hl:(cs.take off).length=off:=by simp;omega
 rw[h2];by_cases h1:i<off
 .rw[a0q h1,a5b,a0k (by omega),a4i,a0q h1]
 .rw[a0p h1];by_cases h2:i<off+new.length
  .rw[a0q h2,a5b,a1d (by omega),hl,a0k (by omega)]
  .rw[a0p h2,a1d (by simp;omega),a4j];congr 1;simp;omega
theorem VG{cs new r:List TV}{off:Nat}(h:vY cs off new=some r)(hc:∀c∈cs,iU c=true)(hn:∀c∈new,iU c=true):∀c∈r,iU c=true:=by
 obtain⟨_,h2,_⟩:=vS h;intro c hcr;rw[h2]at hcr;simp only[a2Y]at hcr;rcases hcr with(h|h)|h
 .exact hc c (a8L h)
 .exact hn c h
 exact hc c (a4Q h)
theorem vG(w:World)(g:Nat)(arr:Array Value)(c:Nat)(h:c≠g):(w.setRow g arr).heap[c]? = w.heap[c]?:=by
 simp only[World.setRow,abC];rw[a0p (fun e=>h e.symm)]
theorem Nu(w:World)(g:Nat)(arr cur:Array Value)(ty:TypeId)(fz:Nat×Nat)(h:w.heap[g]? = some (.cells cur ty fz)):(w.setRow g arr).heap[g]? = some (.cells arr ty fz):=by
 simp[World.setRow,abC,h]
theorem Valid.widen{M:Mp}{D:Key->Prop}{C C1:Ct}{w':World}(h:Valid M D C1 w')(hn:∀k,C k=none->C1 k=none):Valid M (fun j=>D j∨(C j=none∧(C1 j).isSome=true)) C1 w':=
 have aux:∀j,(D j∨(C j=none∧(C1 j).isSome=true))->D j:=fun j hj=>hj.elim id fun⟨a,b⟩=>by rw[hn j a]at b;cases b
 ⟨fun k l hk hd=>h.ok k l hk (aux k hd),fun k k' l l' b a1 a2 a3 hd=>h.own k k' l l' b a1 a2 a3 (aux k hd),h.inb⟩
theorem DX{C:Ct}{k:Key}{b:HB}(hk:(C k).isSome=true):∀j,C j=none->lT C k b j=none:=by
 intro j hj;unfold lT;split
 .rename_i e;subst e;rw[hj]at hk;cases hk
 exact hj
theorem Valid.wrB{M:Mp}{D:Key->Prop}{C:Ct}{w:World}(h:Valid M D C w){k:Key}{ls:List Pl}{p:Pl}{cs:List TV}{kk Bo:BK}(hk:M k=some (.cells ls))(hd:D k)
  (hc:C k=some (.cells kk cs)) (hp:p∈ls) (xP:(kk=.own∧Bo=.own)∨((kk=.grow∨kk=.last)∧Bo=.last∧p.ext=cs.length)) :
  p.base=0∧p.ext=cs.length∧(∀c∈cs,iU c=true)∧(∀q∈ls,Nq M.h w kk cs q)∧(ls.map (·.c)).Nodup∧(∀q∈ls,q.ext=cs.length->q=p) ∧
  ∃(arr:Array Value) (ty:TypeId),w.heap[p.c]? = some (.cells arr ty (0,0))∧arr.size=p.tot∧cs.length<=p.tot ∧
   ∀(i:Nat) (c:TV) (v:Value),cs[i]? = some c->arr[i]? = some v->VR M.h c v:=by
 obtain⟨b,h1,h2⟩:=h.ok k _ hk hd;rw[hc]at h1;cases h1;obtain⟨g1,g2,g3,g4⟩:=h2;have iE:kk≠.ro:=by rcases xP with⟨e,_⟩|⟨e|e,_⟩<;>rw[e]<;>simp
 have DY:=g2 p hp;have hb:=DY.base iE;have hx:p.ext=cs.length∧(ls.map (·.c)).Nodup∧∀q∈ls,q.ext=cs.length->q=p:=by
  rcases xP with⟨e,_⟩|⟨e,_,he⟩
  .obtain⟨q,rfl,hq⟩:=g3 e;simp at hp;subst hp;exact⟨hq,by simp,fun q' hq' _=>by simpa using hq'⟩
  .obtain⟨n1,n2⟩:=g4 e;exact⟨he,n1,fun q hq hqe=>n2 q hq p hp hqe he⟩
 obtain⟨arr,ty,fz,r1,r2,r3,r4⟩:=DY.row;have:=r3 iE;subst this;have hf:=DY.fit;refine⟨hb,hx.1,g1,g2,hx.2.1,hx.2.2,arr,ty,r1,r2,by omega,fun i c v a b=>?_⟩;have hi:=(a0d.1 a).1;exact r4 (fun _=>hx.1) i c v (by omega) a (by simpa[hb]using b)
theorem Valid.YA{M:Mp}{D:Key->Prop}{C:Ct}{w:World}(h:Valid M D C w){k:Key}{ls:List Pl}{p:Pl}{cs:List TV}{kk Bo:BK}{lim:Nat}(hk:M k=some (.cells ls))(hd:D k)
  (hc:C k=some (.cells kk cs)) (hp:p∈ls) (hl:lim<=p.ext) (xP:(kk=.own∧Bo=.own)∨((kk=.grow∨kk=.last)∧Bo=.last∧lim=cs.length)) :
  (kk=.own∧Bo=.own)∨((kk=.grow∨kk=.last)∧Bo=.last∧p.ext=cs.length):=by
 rcases xP with e|⟨e1,e2,e3⟩
 .exact .inl e
 .obtain⟨b,h1,h2⟩:=h.ok k _ hk hd;rw[hc]at h1;cases h1;have:=(h2.2.1 p hp).ext;exact .inr ⟨e1,e2,by omega⟩
theorem Nv:∀{ls:List Pl},(ls.map (·.c)).Nodup->∀{p q:Pl},p∈ls->q∈ls->q.c=p.c->q=p
 | [],_,p,q,hp,_,_=>by simp at hp
 |a::ls,h,p,q,hp,hq,e=>by
  simp only[a4g,a4m]at h;rcases a2r.1 hp with h1|h1<;>rcases a2r.1 hq with h2|h2
  .rw[h1,h2]
  .exact(h.1 (a1e.2 ⟨q,h2,by rw[e,h1]⟩)).elim
  .exact(h.1 (a1e.2 ⟨p,h1,by rw[<-e,h2]⟩)).elim
  exact Nv h.2 h1 h2 e
theorem yK{P:Program}{M:Mp}{D:Key->Prop}{C:Ct}{w:World}(h:Valid M D C w){k:Key}{ls:List Pl}{p:Pl}{cs cs' new:List TV}{off:Nat}{xs:List Value}{kk Bo:BK}
  (hk:M k=some (.cells ls)) (hd:D k) (hc:C k=some (.cells kk cs)) (hp:p∈ls) (xP:(kk=.own∧Bo=.own)∨((kk=.grow∨kk=.last)∧Bo=.last∧p.ext=cs.length))
  (ho:vY cs off new=some cs') (hx:bZ M.h new xs) (hn:∀c∈new,iU c=true) :
  ∃w',(storeCells ⟨p.c,p.base+off,none⟩ xs).run P w=.ok () w'∧Valid M D (lT C k (.cells Bo cs')) w'∧Ext M C w M (lT C k (.cells Bo cs')) w' [k]:=by
 obtain⟨hb,he,h1,DY,jA,huq,arr,ty,hr,hs,hle,hv⟩:=h.wrB hk hd hc hp xP;obtain⟨o1,o2,o3⟩:=vS ho;have hlen:=hx.len;have iE:kk≠.ro:=by rcases xP with⟨e,_⟩|⟨e|e,_⟩<;>rw[e]<;>simp
 have ahj:Bo≠.ro:=by rcases xP with⟨_,e⟩|⟨_,e,_⟩<;>rw[e]<;>simp
 have Yn:∀b0,C k=some b0->wr b0=true:=fun b0 zO=>by rw[hc]at zO;cases zO;cases kk<;>simp_all [wr]
 have Fb:∀v∈xs,v.oneCell'=true:=by
  intro v hv;obtain⟨i,hi,rfl⟩:=a4G.1 hv;have vZ:i<new.length:=by omega
  exact IG (hx.at_ i new[i] xs[i] (by simp[vZ]) (by simp[hi])) (hn _ (a4r vZ))
 have vH:=run_storeCells_at (P:=P) p.c (p.base+off) ty xs 0 arr w hr (by omega) Fb;simp only[adv,hb,a3Z]at vH
 let w':World:=w.setRow p.c (arr.toList.take off++xs++arr.toList.drop (off+xs.length)).toArray
 have qB:dK M k (.cells ls)=M:=II hk;have gJ:∀c,c<w.heap.size->c∉aI (.cells ls)->w'.heap[c]? = w.heap[c]?:=fun c _ hc=>vG w p.c _ c (fun e=>hc (by rw[e];exact a1e.2 ⟨p,hp,rfl⟩));have gq:∀c∈aI (.cells ls),(∃l0,M k=some l0∧c∈aI l0)∨w.heap.size<=c:=fun c hc=>.inl ⟨_,hk,hc⟩;have uT:w.heap.size<=w'.heap.size:=by simp[w']
 have IK:su M (dK M k (.cells ls)):=by rw[qB];exact .refl _
 refine⟨w',by rw[hb,a3Z];exact vH,?_,?_⟩
 .have:=h.upd (D':=D) (w':=w') k (.cells Bo cs') (.cells ls) (fun j hj=>.inl hj) (fun l0 h0=>by
   rw[hk]at h0;cases h0;exact⟨hd,.refl _,Yn⟩) gJ gq uT (by
   rw[qB];refine⟨VG ho h1 hn,fun q hq=>?_,fun e=>?_,fun e=>⟨jA,fun q1 JV q2 Gi e1 e2=>by rw[huq q1 JV (by omega),huq q2 Gi (by omega)]⟩⟩
   .have YB:=DY q hq;by_cases Yo:q.c=p.c
    .have:=Nv jA hp hq Yo;subst this;refine⟨⟨_,ty,(0,0),Nu w q.c _ arr ty (0,0) hr,by simp;omega,fun _=>rfl,fun _ i c v hi a b=>?_⟩,by omega,by omega,fun _=>hb⟩;rw[hb,a3Z,VF i (by omega)]at b;rw[a2l ho i,hlen]at a;split at a
     .rename_i hi1;rw[a0q hi1]at b;exact hv i c v a b
     .rename_i hi1;rw[a0p hi1]at b;split at a
      .rename_i KW;rw[a0q KW]at b;exact hx.at_ _ c v a b
      .rename_i KW;rw[a0p KW]at b;exact hv i c v a b
    .obtain⟨uM,ty',fz',t1,t2,t3,t4⟩:=YB.row;refine⟨⟨uM,ty',fz',(vG w p.c _ q.c Yo).trans t1,t2,fun _=>t3 iE,fun hz i c v hi a b=>?_⟩,YB.fit,by have:=YB.ext;omega,fun _=>YB.base iE⟩;exfalso;apply Yo;rcases xP with⟨e,_⟩|⟨_,e,_⟩
     .obtain⟨b',g1,g2⟩:=h.ok k _ hk hd;rw[hc]at g1;cases g1;obtain⟨q',g3,_⟩:=g2.2.2.1 e;rw[g3]at hq hp;simp at hq hp;rw[hq,hp]
     .rw[huq q hq (by rw[hz e];omega)]
   .rcases xP with⟨e0,_⟩|⟨_,e1,_⟩
    .obtain⟨b',g1,g2⟩:=h.ok k _ hk hd;rw[hc]at g1;cases g1;obtain⟨q',g3,g4⟩:=g2.2.2.1 e0;exact⟨q',g3,by omega⟩
    .rw[e1]at e;cases e)
  rwa [qB]at this
 .have:=Ext.upd (M:=M) (C:=C) (w:=w) (w':=w') k (.cells Bo cs') (.cells ls) [k] (.inl ⟨by simp[hc],rfl,by simp[hk],Yn⟩) IK gJ gq uT rfl rfl rfl
  rwa [qB]at this
theorem Nw{M:Mp}{D:Key->Prop}{C:Ct}{w:World}(h:Valid M D C w){k:Key}{cs:List TV}{arr:Array Value}(ty:TypeId)
  (hk:M k=none) (hc:C k=none) (hl:cs.length<=arr.size) (hx:∀(i:Nat) (c:TV) (v:Value),cs[i]? = some c->arr[i]? = some v->VR M.h c v) (hn:∀c∈cs,iU c=true) :
  Valid (dK M k (.cells [⟨w.heap.size,0,cs.length,arr.size⟩])) (fun j=>D j∨(C j=none∧(lT C k (.cells .own cs) j).isSome=true)) (lT C k (.cells .own cs)) (w.alloc (.cells arr ty)) ∧
  Ext M C w (dK M k (.cells [⟨w.heap.size,0,cs.length,arr.size⟩])) (lT C k (.cells .own cs)) (w.alloc (.cells arr ty)) []:=by
 have hle:su M (dK M k (.cells [⟨w.heap.size,0,cs.length,arr.size⟩])):=mG fun l0 h0=>by rw[hk]at h0;cases h0
 have gJ:∀c,c<w.heap.size->c∉aI (.cells [⟨w.heap.size,0,cs.length,arr.size⟩])->(w.alloc (.cells arr ty)).heap[c]? = w.heap[c]?:=fun c hc _=>wz w _ c hc;have gq:∀c∈aI (.cells [⟨w.heap.size,0,cs.length,arr.size⟩]),(∃l0,M k=some l0∧c∈aI l0)∨w.heap.size<=c:=fun c hc=>.inr (by simp[aI]at hc;omega);refine⟨h.upd k _ _ (fun j hj=>?_) (fun l0 h0=>by rw[hk]at h0;cases h0) gJ gq (by simp) ?_,Ext.upd k _ _ [] (.inr ⟨hc,hk,rfl⟩) hle gJ gq (by simp) rfl rfl rfl⟩
 .rcases hj with hj|⟨a,b⟩
  .exact .inl hj
  .right;unfold lT at b;split at b
   .assumption
   .simp[a]at b
 .refine⟨hn,fun q hq=>?_,fun _=>⟨_,rfl,rfl⟩,by simp⟩;simp at hq;subst hq;exact⟨⟨arr,ty,(0,0),heap_alloc_new w _,rfl,fun _=>rfl,fun _ i c v _ a b=>(hx i c v a (by simpa using b)).mono hle.h⟩,by simpa using hl,a0w _,fun _=>rfl⟩
theorem a4A{M:Mp}{env:List (Nat×EV)}{a:Act}(hE:jV M env a.tmps){x:Operand}{e:EV}(h:Ir env x=some e):ER M e (a.eval x):=by
 cases x with
 |tmp t=>exact hE t e h
 |const v=>
  simp only[Ir,a0f]at h;obtain⟨t,h1,rfl⟩:=h;exact .val (.yA h1)
 |func f=>
  simp only[Ir,a03]at h;subst h;exact .val (VR.fn (xs:=[]) (ys:=[]) rfl (by simp) rfl (by simp))
 |global g=>simp[Ir]at h
theorem YC{M:Mp}{env:List (Nat×EV)}{a:Act}(hE:jV M env a.tmps){x:Operand}{v:TV}(h:qK env x=some v):VR M.h v (a.eval x):=by
 unfold qK at h;split at h
 .rename_i v' he;simp at h;subst h;exact(a4A hE he).vC
 simp at h
structure PR(N:Np)(ps:List (Nat×TV))(qs:List (Nat×Value)):Prop where
 len:ps.length=qs.length
 at_:∀(i:Nat) (p:Nat×TV) (q:Nat×Value),ps[i]? = some p->qs[i]? = some q->p.1=q.1∧VR N p.2 q.2
theorem PR.nil{N:Np}:PR N [] []:=⟨rfl,by simp⟩
theorem PR.cons{N:Np}{i:Nat}{v:TV}{x:Value}{ps:List (Nat×TV)}{qs:List (Nat×Value)}(h:VR N v x)(hs:PR N ps qs):PR N ((i,v)::ps) ((i,x)::qs):=
 ⟨by simp[hs.len],fun j p q a b=>by
  cases j with
  |zero=>simp at a b;subst a;subst b;exact⟨rfl,h⟩
  |succ j=>simp at a b;exact hs.at_ j p q a b⟩
theorem PR.iO{N:Np}{i:Nat}{v:TV}{ps:List (Nat×TV)}{qs:List (Nat×Value)}(h:PR N ((i,v)::ps) qs):∃x qs',qs=(i,x)::qs'∧VR N v x∧PR N ps qs':=by
 cases qs with
 |nil=>have:=h.len;simp at this
 |cons q qs'=>
  have h0:=h.at_ 0 (i,v) q rfl rfl;obtain⟨j,x⟩:=q;obtain⟨h1,h2⟩:=h0;simp only at h1;subst h1;exact⟨x,qs',rfl,h2,⟨by have:=h.len;simpa using this,fun j p q a b=>h.at_ (j+1) p q (by simpa using a) (by simpa using b)⟩⟩
theorem PR.qc{N:Np}{qs:List (Nat×Value)}(h:PR N [] qs):qs=[]:=by
 have:=h.len;simp at this;exact a4c this.symm
def ahm(P:Program)(c:Sem Next)(w:World)(x:Value)(w':World):Prop:=
 c.run P w=.ok (.value x) w'∨(x=Go.undef∧c.run P w=.ok .skip w')
def Gj(P:Program)(M:Mp)(D:Key->Prop)(C:Ct)(w:World)(c:Sem Next)(v:EV)(C1:Ct)(ws:List Key):Prop:=
 ∃x w' M',ahm P c w x w'∧Nr M D C w v C1 ws x w' M'
section
variable {P:Program} {M:Mp} {D:Key->Prop} {w:World} {s:St}
theorem Gj.same{C:Ct}{c:Sem Next}{v:EV}{x:Value}(hV:Valid M D C w)(hr:c.run P w=.ok (.value x) w)(he:ER M v x):Gj P M D C w c v C []:=
 ⟨x,w,M,.inl hr,.same hV he⟩
theorem qP{k:Key}{l:Lc}(hk:M k=none):∀j l',M (.l j)=some l'->dK M k l (.l j)=some l':=by
 intro j l' h;unfold dK;rw[a0p (fun e=>by rw[<-e,h]at hk;cases hk)];exact h
theorem a4B(hV:Valid M D s.get w)(yL:M (.h s.heap.length)=none)(hnl:M (.l s.loc.length)=none)(site:Bool){cs:List TV}{xs:Array Value}(ty:TypeId)
  (hx:bZ M.h cs xs.toList) (hn:∀c∈cs,iU c=true) {v:EV} {s1:St} (h:qL site s cs=(v,s1)) :
  ∃M',Nr M D s.get w v s1.get [] (.pointer (some ⟨w.heap.size,0,none⟩)) (w.alloc (.cells xs ty)) M':=by
 have hlen:cs.length<=xs.size:=by have:=hx.len;simpa using agJ this
 have JW:∀(i:Nat) (c:TV) (v:Value),cs[i]? = some c->xs[i]? = some v->VR M.h c v:=fun i c v a b=>hx.at_ i c v a (by simpa using b);unfold qL at h;cases site with
 |true=>
  simp only[a2y,a0u]at h;obtain⟨rfl,rfl⟩:=h;have hc:s.get (.h s.heap.length)=none:=by simp[St.get]
  have:=Nw hV ty yL hc hlen JW hn;refine⟨dK M (.h s.heap.length) (.cells [⟨w.heap.size,0,cs.length,xs.size⟩]),⟨?_,?_,?_,qP yL⟩⟩
  .rw[kJ];exact this.1
  .rw[kJ];exact this.2
  .exact .val (VR.ptr (p:=⟨w.heap.size,0,cs.length,xs.size⟩) (ls:=[⟨w.heap.size,0,cs.length,xs.size⟩]) (by simp[Mp.h,dK]) (by simp) (a0w _) (by simpa using hlen))
 |false=>
  simp only[a2V,a3U,a0u]at h;obtain⟨rfl,rfl⟩:=h;have hc:s.get (.l s.loc.length)=none:=by simp[St.get]
  have:=Nw hV ty hnl hc hlen JW hn;refine⟨dK M (.l s.loc.length) (.cells [⟨w.heap.size,0,cs.length,xs.size⟩]),⟨?_,?_,?_,qP hnl⟩⟩
  .rw[QJ];exact this.1
  .rw[QJ];exact this.2
  .exact ER.loc (p:=⟨w.heap.size,0,cs.length,xs.size⟩) (by simp[dK]) rfl
theorem a0j{x:Value}{c:TV}(h:TV.ofC x=some c):iU c=true:=by
 unfold TV.ofC at h;split at h<;>simp at h<;>subst h<;>rfl
theorem VH:∀{xs:List Value} {cs:List TV},TV.BZ xs=some cs->∀c∈cs,iU c=true
 | [],cs,h=>by simp[TV.BZ]at h;subst h;simp
 |x::xs,cs,h=>by
  simp only[TV.BZ]at h;split at h
  .rename_i v vs h1 h2;simp at h;subst h;intro c hc;rcases a2r.1 hc with rfl|hc
   .exact a0j h1
   exact VH h2 c hc
  simp at h
theorem a2m{x:Value}{v:TV}(h:TV.Vw x=some v):∀c∈v.cells,iU c=true:=by
 unfold TV.Vw at h;split at h
 .simp only[a0f]at h;obtain⟨vs,h1,rfl⟩:=h;exact VH h1
 have h1:=a0j h;cases v<;>simp[iU]at h1<;>simp[TV.cells,iU]
theorem wB{t:TypeId}{z:List TV}(h:JM P t=some z):∃i x v,P.info? t=some i∧i.zero=some x∧TV.Vw x=some v∧z=v.cells∧(∀c∈z,iU c=true) ∧
  (∀N:Np,bZ N z x.cells.toList)∧∀w,(zeroValue t).run P w=.ok x w:=by
 unfold JM at h;split at h
 .rename_i i hi;split at h
  .rename_i x hx;simp only[a0f]at h;obtain⟨v,h1,rfl⟩:=h;exact⟨i,x,v,hi,hx,h1,rfl,a2m h1,fun N=>(VR.yA h1).cells,fun w=>by simp[zeroValue,iV hi,hx]⟩
  .simp at h
 .simp at h
theorem YD(vs:List Value):∀(k off:Nat) (arr:Array Value),off+k+vs.length<=arr.size ->
  ((vs.zipIdx k).foldl (fun(cs:Array Value) (c:Value×Nat)=>cs.setIfInBounds (off+c.2) c.1) arr).toList=arr.toList.take (off+k)++vs++arr.toList.drop (off+k+vs.length):=by
 induction vs with
 |nil=>intro k off arr h;simp
 |cons v vs ih=>
  intro k off arr h;simp only[a4d]at h;simp only[List.zipIdx_cons,adi];rw[ih (k+1) off _ (by simp;omega)];have e:=list_seg_step arr.toList (off+k) v vs (by simp;omega);simpa[Array.toList_setIfInBounds,a9M]using e
theorem Lu{N:Np}{place place':Nat->Option (Nat×Nat)}(hp:∀i x,place i=some x->place' i=some x):∀{ps:List (Nat×TV)} {qs:List (Nat×Value)} {cs r:List TV} {arr:Array Value},rZ place cs ps=some r->PR N ps qs ->
  bZ N cs arr.toList->∃uM,Instr.fill place' arr qs=some uM∧bZ N r uM.toList
 | [],qs,cs,r,arr,h,hq,hc=>by
  have:=hq.qc;subst this;simp[rZ]at h;subst h;exact⟨arr,rfl,hc⟩
 |(i,v)::ps,qs,cs,r,arr,h,hq,hc=>by
  obtain⟨x,qs',rfl,hx,hq'⟩:=hq.iO;simp only[rZ]at h;split at h
  .rename_i off size DY;split at h
   .rename_i uT;split at h
    .rename_i cs' ho;obtain⟨o1,o2,o3⟩:=vS ho;have hxc:=hx.cells;have hl1:=hxc.len;have QK:=hc.len;simp only[a9B]at hl1 QK;have e:(x.cells.zipIdx.foldl (fun(cs:Array Value) (c:Value×Nat)=>cs.setIfInBounds (off+c.2) c.1) arr).toList=arr.toList.take off++x.cells.toList++arr.toList.drop (off+x.cells.toList.length):=by
      rw[<-Array.foldl_toList,Array.toList_zipIdx];have:=YD x.cells.toList 0 off arr (by simp;omega);simpa using this
     have Qi:bZ N cs' (x.cells.zipIdx.foldl (fun(cs:Array Value) (c:Value×Nat)=>cs.setIfInBounds (off+c.2) c.1) arr).toList:=by
      have hlx:x.cells.toList.length=v.cells.length:=(by simp[hl1]);rw[e,o2,hlx];exact((hc.take off).append hxc).append (hc.drop _)
     obtain⟨uM,g1,g2⟩:=Lu hp h hq' Qi;refine⟨uM,?_,g2⟩;simp only[Instr.fill,hp i _ DY];rw[a0p (by simp;omega)];exact g1
    .simp at h
   .simp at h
  .simp at h
theorem Ny{w:World}:∀(fs:List Field),C9 P fs=true->(fs.mapM (fun f=>Functor.map (Prod.mk f.offset) (Go.sizeOf f.type):Field->Sem (Nat×Nat))).run P w=.ok (fs.map fun f=>(f.offset,(dG P f.type).getD 0)) w
 | [],_=>by simp
 |f::fs,h=>by
  simp only[C9,abM,a2n]at h;obtain⟨n,hn⟩:=a5v.1 h.1;have ih:=Ny (w:=w) fs (by simpa[C9]using h.2);simp only[List.mapM_cons,Sem.run_bind,Sem.run_map,dh hn,Result.andThen_ok,Sem.run_pure,ih,a4g,hn,a4M]
theorem a4D{N:Np}{t:TypeId}{ps:List (Nat×TV)}{qs:List (Nat×Value)}{v:TV}(h:N9 P t ps=some v)(hq:PR N ps qs) :
  ∃x,VR N v x∧∀w,(Instr.build t qs.toArray).run P w=.ok x w:=by
 unfold N9 at h;split at h
 .rename_i z fs hz hu;split at h
  .rename_i ha;simp only[a0f]at h;obtain⟨r,hr,rfl⟩:=h;obtain⟨i,x,v,_,_,_,_,_,hvr,hzr⟩:=wB hz;obtain⟨uM,g1,g2⟩:=Lu (place':=fun i=>(fs.map fun f=>(f.offset,(dG P f.type).getD 0))[i]?) (fun i x hx=>by
    unfold TJ at hx;split at hx
    .rename_i f hf;simp only[a0f]at hx;obtain⟨n,hn,rfl⟩:=hx;simp[hf,hn]
    .simp at hx) hr hq (hvr N)
   refine⟨_,.agg' g2,fun w=>?_⟩;have hm:(fs.mapM (fun f=>Functor.map (Prod.mk f.offset) (Go.sizeOf f.type):Field->Sem (Nat×Nat))).run P w=.ok (fs.map fun f=>(f.offset,(dG P f.type).getD 0)) w:=by
    rw[Array.mapM_eq_mapM_toList,Sem.run_map,Ny fs.toList ha];simp only[Result.andThen_ok];congr 1;apply adB;simp
   simp only[Array.getElem?_map]at g1;simp[Instr.build,hzr w,run_underlying hu,hm,g1]
  .simp at h
 .rename_i z n e hz hu;split at h
  .rename_i n hn;simp only[a0f]at h;obtain⟨r,hr,rfl⟩:=h;obtain⟨i,x,v,_,_,_,_,_,hvr,hzr⟩:=wB hz;obtain⟨uM,g1,g2⟩:=Lu (place':=fun i=>some (i*n,n)) (fun i x hx=>hx) hr hq (hvr N);exact⟨_,.agg' g2,fun w=>by simp[Instr.build,hzr w,run_underlying hu,dh hn,g1]⟩
  .simp at h
 .simp at h
end
section
variable {P:Program} {M:Mp} {D:Key->Prop} {w:World} {s:St}
theorem VI{t:TypeId}{cs:List TV}{off:Nat}{v:TV}(h:uh P t cs off=some v):∃n,dG P t=some n∧off+n<=cs.length:=by
 unfold uh at h;split at h
 .rename_i n _ hn;simp only[a0f]at h;obtain⟨r,hr,_⟩:=h;exact⟨n,hn,(um hr).1⟩
 .rename_i n _ hn;split at h
  .rename_i h1;subst h1;exact⟨1,hn,(a0d.1 h).1⟩
  simp at h
 simp at h
theorem a0l{N:Np}{t:TypeId}{cs:List TV}{off:Nat}{v:TV}{xs:List Value}(h:uh P t cs off=some v)(hx:bZ N cs xs) :
  ∃x,VR N v x∧(Go.part t xs.toArray off).run P w=.ok x w:=by
 unfold uh at h;split at h
 .rename_i n ha hn;simp only[a0f]at h;obtain⟨r,hr,rfl⟩:=h;obtain⟨s1,s2,s3⟩:=um hr;have hl:=hx.len;refine⟨.agg ((xs.drop off).take n).toArray,.agg' (by rw[s2];exact(hx.drop off).take n),?_⟩;simp[Go.part,zW ha,dh hn]
 .rename_i n ha hn;split at h
  .obtain⟨x,h1,h2⟩:=hx.get h;exact⟨x,h2,by simp[Go.part,zW ha,h1]⟩
  .simp at h
 .simp at h
theorem Gl{t:TypeId}{e:EV}{v:TV}{i:lZ}{x:Value}(hV:Valid M D s.get w)(h:loadT P t s e=some (v,i))(hx:ER M e x)(hD:∀k∈i.ts,D k) :
  i.ws=[]∧∃y,VR M.h v y∧(Instr.loadAt t x).run P w=.ok y w:=by
 unfold loadT at h;split at h
 .rename_i k off;split at h
  .rename_i cs hk;simp only[a0f,a0u]at h;obtain⟨v',hv,rfl,rfl⟩:=h;cases hx with
   |loc hm hb=>
    rename_i p;have hg:s.get (.l k)=some (.cells .own cs):=(by simp[St.get,hk]);have hd:=hD (.l k) (by simp[xq]);obtain⟨b,h1,h2⟩:=hV.ok _ _ hm hd;rw[hg]at h1;cases h1;obtain⟨_,h3,h4,_⟩:=h2;obtain⟨q,hq,he⟩:=h4 rfl;simp at hq;subst hq;obtain⟨n,hn,hle⟩:=VI hv;obtain⟨y,g1,g2⟩:=JR (P:=P) (h3 p (by simp)) hn hv (by omega) (fun e=>by cases e);rw[hb,a3Z]at g2;exact⟨rfl,y,g1,by simp[Instr.loadAt,Instr.sureAddr,g2]⟩
  .simp at h
 .rename_i b off lim;split at h
  .rename_i cs n hb hn;split at h
   .rename_i KX;simp only[a0f,a0u]at h;obtain⟨v',hv,rfl,rfl⟩:=h;cases hx with
    |val hx=>
     cases hx with
     |ptr hm hp hl ht=>
      rename_i ls p;obtain⟨k,hk,VJ⟩:=xO hb;have hd:=hD (.h b) (by simp[xq]);obtain⟨gy,h1,h2⟩:=hV.ok _ _ hm hd;simp only[St.get,hk,a03]at h1;subst h1;obtain⟨_,h3,_⟩:=h2;obtain⟨y,g1,g2⟩:=JR (P:=P) (h3 p hp) hn hv (by omega) (fun e=>by have:=VJ e;have:=(h3 p hp).ext;omega);exact⟨rfl,y,g1,by simp[Instr.loadAt,Instr.sureAddr,g2]⟩
   .simp at h
  .simp at h
 .simp at h
theorem LC{l:List TV}(h:l.all iU=true):∀c∈l,iU c=true:=by simpa using h
theorem YE{t:TypeId}{e:EV}{v:TV}{i:lZ}{x y:Value}{s1:St}(hV:Valid M D s.get w)(h:storeT P t s e v=some (s1,i))(hx:ER M e x)(hy:VR M.h v y)(hD:∀k∈i.ts,D k) :
  s1.env=s.env∧∃w',(Instr.storeAt t x y).run P w=.ok () w'∧Valid M D s1.get w'∧Ext M s.get w M s1.get w' i.ws∧∀k,s.get k=none->s1.get k=none:=by
 unfold storeT at h;split at h
 case h_2=>simp at h
 rename_i n hn;split at h
 case isFalse=>simp at h
 rename_i hc;obtain⟨hlen,Fb⟩:=hc;have hyc:=hy.cells;have hyl:y.cells.size=n:=by have:=hyc.len;simp at this;omega
 split at h
 .rename_i k off;split at h
  .rename_i cs hk;simp only[a0f,a0u]at h;obtain⟨cs',ho,rfl,rfl⟩:=h;cases hx with
   |loc hm hb=>
    rename_i p;have hg:s.get (.l k)=some (.cells .own cs):=(by simp[St.get,hk]);obtain⟨w',r1,r2,r3⟩:=yK (P:=P) hV hm (hD _ (by simp[pq])) hg (a2A.2 rfl) (.inl ⟨rfl,rfl⟩) ho hyc (LC Fb);have JX:=(a0d.1 hk).1;refine⟨rfl,w',?_,?_,?_,?_⟩
    .rw[hb,a3Z]at r1;simp[Instr.storeAt,Instr.sureAddr,storeVar,dh hn,hyl,r1]
    .rw[Ns s k cs' JX];exact r2
    .rw[Ns s k cs' JX];exact r3
    .rw[Ns s k cs' JX];exact DX (by simp[hg])
  .simp at h
 .rename_i b off lim;split at h
  .rename_i KX;simp only[a0f,a0u]at h;obtain⟨h',hs,rfl,rfl⟩:=h;cases hx with
   |val hx=>
    cases hx with
    |ptr hm hp hl ht=>
     rename_i ls p;obtain⟨kk,Bo,cs,cs',hb,xP,ho,rfl⟩:=IJ hs;have hg:s.get (.h b)=some (.cells kk cs):=(by simp[St.get,hb]);obtain⟨w',r1,r2,r3⟩:=yK (P:=P) hV hm (hD _ (by simp[pq])) hg hp (hV.YA hm (hD _ (by simp[pq])) hg hp hl xP) ho hyc (LC Fb);have JX:=(a0d.1 hb).1;refine⟨rfl,w',?_,?_,?_,?_⟩
     .simp[Instr.storeAt,Instr.sureAddr,storeVar,dh hn,hyl,r1]
     .rw[jy s b _ JX];exact r2
     .rw[jy s b _ JX];exact r3
     .rw[jy s b _ JX];exact DX (by simp[hg])
  .simp at h
 .simp at h
theorem Gm{n:Nat}{v:TV}{j:Nat}{N:Np}{x:Value}(h:idx n v=some j)(hx:VR N v x):∃k i,x=.int k i∧0<=i∧i<n∧j=i.toNat∧j<n:=by
 unfold idx at h;split at h
 .rename_i k i;split at h
  .rename_i hc;simp at h;subst h;cases hx;exact⟨k,i,rfl,hc.1,hc.2,rfl,by omega⟩
  simp at h
 simp at h
theorem Nz{o:Nat}{e e':EV}{x:Value}(h:Qe o e=some e')(hx:ER M e x):∃a,x=.pointer (some a)∧ER M e' (.pointer (some (a.add o))):=by
 unfold Qe at h;split at h
 .simp at h;subst h;cases hx with
  |loc hm hb=>exact⟨_,rfl,by rw[uj];exact .loc hm hb⟩
 .rename_i b off lim;split at h
  .rename_i hl;simp at h;subst h;cases hx with
   |val hx=>
    cases hx with
    |ptr hm hp hl ht=>exact⟨_,rfl,by rw[uj,a9M];exact .val (.ptr hm hp hl ht)⟩
  simp at h
 simp at h
theorem TR{t:TypeId}{f n:Nat}{e e':EV}{x:Value}(h1:Gf P t f=some n)(h:Qe n e=some e')(hx:ER M e x) :
  ∃y,ER M e' y∧(Instr.fieldAt t x f).run P w=.ok y w:=by
 obtain⟨a,rfl,he⟩:=Nz h hx;unfold Gf at h1;split at h1
 .rename_i fs hu;split at h1
  .rename_i fd hf;split at h1
   .rename_i m hm;split at h1
    .simp at h1
    .rename_i hz;simp at h1;subst h1;refine⟨_,he,?_⟩;simp[Instr.fieldAt,run_underlying hu,hf,Instr.sureAddr,fieldPlace,dh hm,hz]
   .simp at h1
  .simp at h1
 .simp at h1
theorem NC{N:Np}{t:TypeId}{f:Nat}{v v':TV}{x:Value}(h:Na P t v f=some v')(hx:VR N v x) :
  ∃y,VR N v' y∧(Instr.field t x f).run P w=.ok y w:=by
 unfold Na at h;split at h
 .rename_i fs cs hu;split at h
  .rename_i fd hf;cases hx with
   |agg g1 g2=>
    obtain⟨y,r1,r2⟩:=a0l (P:=P) (w:=w) h ⟨g1,g2⟩;exact⟨y,r1,by simp[Instr.field,run_underlying hu,hf,asAgg,r2]⟩
  .simp at h
 .simp at h
theorem zX{t:TypeId}{e e':EV}{v:TV}{x y:Value}(h:mD P t e v=some e')(hx:ER M e x)(hy:VR M.h v y) :
  ∃z,ER M e' z∧(Instr.indexAt t x y).run P w=.ok z w:=by
 unfold mD at h;split at h
 .rename_i el hu;split at h
  .rename_i n b off len cap sz ex hn;split at h
   .rename_i uT;simp only[a0f]at h;obtain⟨j,hj,rfl⟩:=h;subst uT;obtain⟨k,i,rfl,h0,h1,rfl,h2⟩:=Gm hj hy;cases hx with
    |val hx=>
     cases hx with
     |slc hb hp hl hle hc hex ha hk=>
      rename_i ls p a cap';rcases ha with ha|⟨rfl,ha⟩
      .omega
      .have hmul:i.toNat*n+n<=len*n:=by
        have:=a3m n (show i.toNat+1<=len by omega)
        rwa [a3k,a9D]at this
       have abw:cap*n<=cap'*n:=a3m n (by omega);have hp:=hp.resolve_left (by omega);refine⟨_,.val (.ptr hb hp (lim:=off+cap*n) (off:=off+i.toNat*n) (by omega) (by omega)),?_⟩;simp[Instr.indexAt,asIntOf,run_underlying hu,h0,h1,dh hn,uj,a9M]
   .simp at h
  .simp at h
 .rename_i len el hu;split at h
  .rename_i n hn;split at h
   .rename_i j hj;obtain⟨k,i,rfl,h0,h1,rfl,h2⟩:=Gm hj hy;obtain⟨a,rfl,he⟩:=Nz h hx;refine⟨_,he,?_⟩;simp[Instr.indexAt,asIntOf,run_underlying hu,Instr.sureAddr,h0,h1,dh hn]
   .simp at h
  .simp at h
 .simp at h
theorem ND{N:Np}{t:TypeId}{v u r:TV}{x y:Value}(h:IC P t v u=some r)(hx:VR N v x)(hy:VR N u y) :
  ∃z,VR N r z∧(Instr.index t x y).run P w=.ok z w:=by
 unfold IC at h;split at h
 .rename_i len el cs hu;split at h
  .rename_i n j hn hj;obtain⟨k,i,rfl,h0,h1,rfl,h2⟩:=Gm hj hy;cases hx with
   |agg g1 g2=>
    obtain⟨z,r1,r2⟩:=a0l (P:=P) (w:=w) h ⟨g1,g2⟩;exact⟨z,r1,by simp[Instr.index,asIntOf,run_underlying hu,h0,h1,dh hn,r2]⟩
  .simp at h
 .rename_i bs hu;split at h
  .rename_i j hj;obtain⟨k,i,rfl,h0,h1,rfl,h2⟩:=Gm hj hy;simp only[a0f]at h;obtain⟨b,hb,rfl⟩:=h;cases hx;exact⟨_,.int _ _,by simp[Instr.index,asIntOf,run_underlying hu,h0,hb]⟩
  .simp at h
 .simp at h
end
section
variable {P:Program} {M:Mp} {D:Key->Prop} {w:World} {s:St}
theorem a0m{N:Np}:∀{az:List TV} {xs ys:List Value},BI az=some xs->bZ N az ys->ys=xs
 | [],xs,ys,h,hy=>by simp[BI]at h;subst h;exact hy.qc
 |c::az,xs,ys,h,hy=>by
  simp only[BI]at h;split at h
  .rename_i v vs h1 h2;simp at h;subst h;obtain⟨u,us,rfl,hu,hus⟩:=hy.iO;rw[wo h1 hu,a0m h2 hus]
  simp at h
def Gn:NK->Value->Prop
 |.ptr,x=>x=.pointer none
 |.slc,x=>x=.slice none 0 0
 |.map,x=>x=.map none
 |.fn,x=>x=.nilFunc
 |.ifc,x=>x=.nilIface
def yC:NK->Value->Prop
 |.ptr,x=>∃a,x=.pointer (some a)
 |.slc,x=>∃a l c,x=.slice (some a) l c
 |.map,x=>∃r,x=.map (some r)
 |.fn,x=>∃f a c,x=.func f a c
 |.ifc,_=>False
theorem a0n{N:Np}{v:TV}{k:NK}{x:Value}(h:Yx v=some k)(hx:VR N v x):Gn k x:=by
 cases hx<;>simp[Yx]at h<;>subst h<;>rfl
theorem VK{N:Np}{v:TV}{k:NK}{x:Value}(h:JO v=some k)(hx:VR N v x):yC k x:=by
 cases hx<;>simp[JO]at h<;>subst h<;>simp[yC]
theorem a4F{t:TypeId}{k:NK}(h:JQ P t=some k):match k with
  |.ptr=>∃e,P.underlying t=some (.pointer e)
  |.slc=>∃e,P.underlying t=some (.slice e)
  |.map=>∃e f,P.underlying t=some (.map e f)
  |.fn=>∃e f g,P.underlying t=some (.func e f g)
  |.ifc=>False:=by
 unfold JQ at h;split at h<;>simp at h<;>subst h<;>simp_all
theorem a2o{t:TypeId}{k:NK}{x y:Value}(h:JQ P t=some k)(hxy:(Gn k x∧yC k y)∨(yC k x∧Gn k y))(d:Nat) :
  (Op.equalIn (d+1) t x y).run P w=.ok false w:=by
 have hk:=a4F h;cases k with
 |ptr=>
  obtain⟨e,hu⟩:=hk;rcases hxy with⟨hx,a,rfl⟩|⟨⟨a,rfl⟩,hy⟩
  .cases hx;simp[Op.equalIn,run_underlying hu]
  .cases hy;simp[Op.equalIn,run_underlying hu]
 |slc=>
  obtain⟨e,hu⟩:=hk;rcases hxy with⟨hx,a,l,c,rfl⟩|⟨⟨a,l,c,rfl⟩,hy⟩
  .cases hx;simp[Op.equalIn,run_underlying hu]
  .cases hy;simp[Op.equalIn,run_underlying hu]
 |map=>
  obtain⟨e,f,hu⟩:=hk;rcases hxy with⟨hx,a,rfl⟩|⟨⟨a,rfl⟩,hy⟩
  .cases hx;simp[Op.equalIn,run_underlying hu]
  .cases hy;simp[Op.equalIn,run_underlying hu]
 |fn=>
  obtain⟨e,f,g,hu⟩:=hk;rcases hxy with⟨hx,a,b,c,rfl⟩|⟨⟨a,b,c,rfl⟩,hy⟩
  .cases hx;simp[Op.equalIn,run_underlying hu]
  .cases hy;simp[Op.equalIn,run_underlying hu]
 |ifc=>exact hk.elim
theorem a0o{t:TypeId}{k:NK}{ox oy:Operand}{x y:Value}(h:JQ P t=some k)(hxy:(Gn k x∧yC k y)∨(yC k x∧Gn k y))(b:Bool)(op:BinOp)(hb:(op=.eql∧b=false)∨(op=.neq∧b=true)) :
  (do eqGuard op t ox oy x y;binOp op t x y:Sem Value).run P w=.ok (.bool b) w:=by
 have he:(Op.equal t x y).run P w=.ok false w:=a2o h hxy 9999;have hg:(eqGuard op t ox oy x y).run P w=.ok () w:=by
  cases k<;>rcases hxy with⟨hx,hy⟩|⟨hx,hy⟩<;>simp only[Gn,yC]at hx hy <;>
   (first|(exact hy.elim)|(exact hx.elim)|skip)<;>(try obtain⟨_,rfl⟩:=hx)<;>(try obtain⟨_,rfl⟩:=hy)<;>(try obtain⟨_,_,rfl⟩:=hx)<;>(try obtain⟨_,_,rfl⟩:=hy)<;>(try subst hx)<;>(try subst hy) <;>
   (try obtain⟨_,_,_,rfl⟩:=hx)<;>(try obtain⟨_,_,_,rfl⟩:=hy)<;>rcases hb with⟨rfl,rfl⟩|⟨rfl,rfl⟩<;>simp[eqGuard]
 have Qj:(binOp op t x y).run P w=.ok (.bool b) w:=by
  cases k<;>rcases hxy with⟨hx,hy⟩|⟨hx,hy⟩<;>simp only[Gn,yC]at hx hy <;>
   (first|(exact hy.elim)|(exact hx.elim)|skip)<;>(try obtain⟨_,rfl⟩:=hx)<;>(try obtain⟨_,rfl⟩:=hy)<;>(try obtain⟨_,_,rfl⟩:=hx)<;>(try obtain⟨_,_,rfl⟩:=hy)<;>(try subst hx)<;>(try subst hy) <;>
   (try obtain⟨_,_,_,rfl⟩:=hx)<;>(try obtain⟨_,_,_,rfl⟩:=hy)<;>rcases hb with⟨rfl,rfl⟩|⟨rfl,rfl⟩<;>simp only[binOp,Sem.run_bind,he,Result.andThen_ok,Sem.run_pure,abt]
 simp only[Sem.run_bind,hg,Result.andThen_ok,Qj]
theorem YF{N:Np}{op:BinOp}{t:TypeId}{ox oy:Operand}{a b r:TV}{x y:Value}(h:sF P op t ox oy a b=some r)(hx:VR N a x)(hy:VR N b y) :
  ∃z,VR N r z∧(do eqGuard op t ox oy x y;binOp op t x y:Sem Value).run P w=.ok z w:=by
 unfold sF at h;split at h
 .rename_i u v hu hv;split at h
  .rename_i z hz;have e1:=wo hu hx;have e2:=wo hv hy;subst e1;subst e2;exact⟨z,.yA h,iZ hz w⟩
  .simp at h
 .split at h
  .rename_i hn;unfold Cb at hn;split at hn
   case h_2=>simp at hn
   rename_i k hk;have hxy:(Gn k x∧yC k y)∨(yC k x∧Gn k y):=by
    simp only[a8R,a2n,a7H]at hn;rcases hn with⟨h1,h2⟩|⟨h1,h2⟩
    .exact .inl ⟨a0n h1 hx,VK h2 hy⟩
    .exact .inr ⟨VK h1 hx,a0n h2 hy⟩
   split at h
   .simp at h;subst h;exact⟨_,.bool false,a0o hk hxy false _ (.inl ⟨rfl,rfl⟩)⟩
   .simp at h;subst h;exact⟨_,.bool true,a0o hk hxy true _ (.inr ⟨rfl,rfl⟩)⟩
   .simp at h
  .simp at h
theorem iT{N:Np}{op:UnOp}{a r:TV}{x:Value}(h:unT P op a=some r)(hx:VR N a x):∃z,VR N r z∧(Op.unary op x).run P w=.ok z w:=by
 unfold unT at h;split at h
 .rename_i u hu;split at h
  .rename_i z hz;have e1:=wo hu hx;subst e1;exact⟨z,.yA h,iZ hz w⟩
  simp at h
 simp at h
theorem TT{N:Np}{t u:TypeId}{a r:TV}{x:Value}(h:QF P t u a=some r)(hx:VR N a x):∃z,VR N r z∧(convert t u x).run P w=.ok z w:=by
 unfold QF at h;split at h
 .rename_i u hu;split at h
  .rename_i z hz;have e1:=wo hu hx;subst e1;exact⟨z,.yA h,iZ hz w⟩
  simp at h
 simp at h
theorem yM{N:Np}{mx:Bool}{at_:Array TypeId}{t:TypeId}{az:List TV}{r:TV}{xs:List Value}(h:DU P mx at_ t az=some r)(hx:bZ N az xs) :
  ∃z,VR N r z∧(if mx then Builtin.max_ at_ t xs.toArray else Builtin.min_ at_ t xs.toArray).run P w=.ok z w:=by
 unfold DU at h;split at h
 .rename_i us hu;split at h
  .rename_i z hz;have e1:=a0m hu hx;subst e1;exact⟨z,.yA h,iZ hz w⟩
  .simp at h
 .simp at h
theorem lF{n j:Nat}{v:TV}(h:qM n v=some j):j<=n:=by
 unfold qM at h;split at h
 .split at h
  .simp at h;omega
  simp at h
 simp at h
theorem sN{N:Np}{n j m:Nat}{v:TV}{x:Value}{code:BoundsCode}(h:qM n v=some j)(hx:VR N v x)(hm:j<=m) :
  (Instr.sliceBound x m code).run P w=.ok j w:=by
 unfold qM at h;split at h
 .rename_i k i;split at h
  .rename_i hc;simp at h;subst h;cases hx;have:i<=(m:Int):=(by omega);simp[Instr.sliceBound,asIntOf,hc.1,this]
  .simp at h
 .simp at h
inductive OR(N:Np):Option TV->Option Value->Prop
 |none:OR N none none
 |some {v:TV} {x:Value} (h:VR N v x):OR N (some v) (some x)
theorem xQ{N:Np}{is:Bool}{len cap' n l0 hg:Nat}{lo hi:Option TV}{YG vZ:Option Value}(hl:OR N lo YG)(hh:OR N hi vZ)
  (h1:jw n len hi=some hg) (h2:jw hg 0 lo=some l0) (h3:hg<=cap'):(Instr.sliceBounds is len cap' YG vZ none).run P w=.ok (l0,hg,cap') w:=by
 cases hh with
 |none=>
  simp only[jw,a03]at h1;subst h1;cases hl with
  |none=>simp only[jw,a03]at h2;subst h2;simp[Instr.sliceBounds]
  |some hv=>simp only[jw]at h2;simp[Instr.sliceBounds,sN (P:=P) (w:=w) h2 hv (lF h2)]
 |some hv'=>
  simp only[jw]at h1;cases hl with
  |none=>simp only[jw,a03]at h2;subst h2;simp[Instr.sliceBounds,sN (P:=P) (w:=w) h1 hv' h3]
  |some hv=>simp only[jw]at h2;simp[Instr.sliceBounds,sN (P:=P) (w:=w) h1 hv' h3,sN (P:=P) (w:=w) h2 hv (lF h2)]
theorem Fe{N:Np}{is:Bool}{len cap' n k l0 hg m:Nat}{lo:Option TV}{hi mx:TV}{YG:Option Value}{vZ mx':Value}(hl:OR N lo YG)(hh:VR N hi vZ)(hm:VR N mx mx')
  (h0:qM k mx=some m) (h1:qM n hi=some hg) (h2:jw hg 0 lo=some l0) (h3:hg<=m) (h4:m<=cap'):(Instr.sliceBounds is len cap' YG (some vZ) (some mx')).run P w=.ok (l0,hg,m) w:=by
 have r1:=fun code=>sN (P:=P) (w:=w) (code:=code) h0 hm h4;have r2:=fun code=>sN (P:=P) (w:=w) (code:=code) h1 hh h3;cases hl with
 |none=>simp only[jw,a03]at h2;subst h2;simp[Instr.sliceBounds,r1,r2]
 |some hv=>simp only[jw]at h2;simp[Instr.sliceBounds,r1,r2,sN (P:=P) (w:=w) h2 hv (lF h2)]
theorem NG{N:Np}{t:TypeId}{v r:TV}{lo hi mx:Option TV}{x:Value}{YG vZ mx':Option Value}(h:qN P t v lo hi mx=some r)(hx:VR N v x)
  (hl:OR N lo YG) (hh:OR N hi vZ) (hm:OR N mx mx'):∃z,VR N r z∧(Instr.sliceAt t x YG vZ mx').run P w=.ok z w:=by
 unfold qN at h;split at h
 .-- strings
  rename_i bs hu;split at h
  .simp at h
  .cases hm;split at h
   .rename_i h0 QL;split at h
    .rename_i l0 qJ;simp at h;subst h;cases hx;refine⟨_,.str _,?_⟩;have hle:h0<=bs.size:=by
      cases hi with
      |none=>simp only[jw,a03]at QL;omega
      |some v=>simp only[jw]at QL;exact lF QL
     have e1:=xQ (P:=P) (w:=w) (is:=false) (cap':=bs.size) hl hh QL qJ hle;simp[Instr.sliceAt,Instr.slice,run_underlying hu,e1]
    .simp at h
   .simp at h
 .-- slices
  rename_i e b off len cap sz ex hu;split at h
  .rename_i n hn;split at h
   case isFalse=>simp at h
   rename_i uT;subst uT;cases hx with
   |slc hb hp Fg hle wC hex ha hk=>
    rename_i ls p a cap';have fin:∀(l hgh m:Nat) (ex':Bool),l<=hgh->hgh<=len->hgh<=m->m<=cap'->(m':Nat)->m'<=m->m'<=cap->hgh<=m'->(ex'=true->m=m') ->
      VR N (.slc b (off+l*n) (hgh-l) (m'-l) n ex') (.slice (if m=l then some a else(some a).map (·.add (l*n))) (hgh-l) (m-l)):=by
     intro l hgh m ex' h1 h2 h3 h4 m' h5 h5' h6 h7;have hmul:l*n+(hgh-l)*n=hgh*n:=by rw[<-a3k];congr 1;omega
     have abw:m'*n<=cap*n:=a3m n h5';have ard:l*n+(m'-l)*n=m'*n:=by rw[<-a3k];congr 1;omega
     have Bq:(if m=l then some a else(some a).map (·.add (l*n)))=some (if m=l then a else a.add (l*n)):=by split<;>rfl
     rw[Bq];refine .slc hb (hp.imp (fun e=>by omega) id) (by omega) (by omega) (by omega) (fun e=>by have:=h7 e;omega) ?_ (by omega);by_cases hml:m=l
     .left;omega
     .right;rcases ha with ha|⟨rfl,ha⟩
      .omega
      .rw[a0p hml,uj];have arf:l*n+(m-l)*n=m*n:=by rw[<-a3k];congr 1;omega
       have arh:m*n<=cap'*n:=a3m n h4;exact⟨by rw[a9M],by omega⟩
    split at h
    .rename_i m0;cases hm with
     |some Qk=>
      split at h
      .rename_i m h0 hm1;split at h
       .rename_i hg hh1;split at h
        .rename_i l0 qJ;simp at h;subst h;cases hh with
         |some hhv=>
          have b1:=lF hm1;have b2:=lF hh1;have b3:l0<=hg:=by
           cases lo with
           |none=>simp only[jw,a03]at qJ;omega
           |some v=>simp only[jw]at qJ;exact lF qJ
          have e1:=Fe (P:=P) (w:=w) (is:=true) (len:=len) (cap':=cap') hl hhv Qk hm1 hh1 qJ (by omega) (by omega);exact⟨_,fin l0 hg m true b3 (by omega) (by omega) (by omega) m (by omega) (by omega) (by omega) (fun _=>rfl),by simp[Instr.sliceAt,Instr.slice,run_underlying hu,e1,dh hn]⟩
        .simp at h
       .simp at h
      .simp at h
    .cases hm;split at h
     .rename_i hg QL;split at h
      .rename_i l0 qJ;simp at h;subst h;have hgl:hg<=len:=by
        cases hi with
        |none=>simp only[jw,a03]at QL;omega
        |some v=>simp only[jw]at QL;exact lF QL
       have hlg:l0<=hg:=by
        cases lo with
        |none=>simp only[jw,a03]at qJ;omega
        |some v=>simp only[jw]at qJ;exact lF qJ
       refine⟨_,fin l0 hg cap' ex hlg hgl (by omega) (by omega) cap wC (by omega) (by omega) hex,?_⟩;have e1:=xQ (P:=P) (w:=w) (is:=true) (cap':=cap') hl hh QL qJ (by omega);simp[Instr.sliceAt,Instr.slice,run_underlying hu,e1,dh hn]
      .simp at h
     .simp at h
  .simp at h
 .-- nil
  rename_i e hu;split at h
  .rename_i x0 x1 x2 x3 hn QM QL qJ;split at h
   .simp at h
   .rename_i hg;simp at h;subst h;cases hx;refine⟨_,.TN,?_⟩;have z1:∀{o:Option TV} {k:Nat},jw 0 0 o=some k->k=0:=fun{o k} e=>by
     cases o with
     |none=>simp only[jw,a03]at e;omega
     |some v=>simp only[jw]at e;have:=lF e;omega
    have e2:=z1 QL;subst e2;have e3:=z1 qJ;subst e3;have e1:(Instr.sliceBounds true 0 0 YG vZ mx').run P w=.ok (0,0,0) w:=by
     cases hm with
     |none=>exact xQ hl hh QL qJ (by omega)
     |some Qk=>
      have e4:=z1 QM;subst e4;cases hh with
      |none=>simp at hg
      |some hhv=>exact Fe hl hhv Qk QM QL qJ (by omega) (by omega)
    simp[Instr.sliceAt,Instr.slice,run_underlying hu,e1,dh hn]
  .simp at h
 .simp at h
theorem CB{t:TypeId}{e:EV}{r:TV}{lo hi mx:Option TV}{x:Value}{YG vZ mx':Option Value}(h:qy P t e lo hi mx=some r)(hx:ER M e x)
  (hl:OR M.h lo YG) (hh:OR M.h hi vZ) (hm:OR M.h mx mx'):∃z,VR M.h r z∧(Instr.sliceAt t x YG vZ mx').run P w=.ok z w:=by
 unfold qy at h;split at h
 .rename_i n el b off lim hu;split at h
  .rename_i size hn;split at h
   .simp at h
   .rename_i hc;cases hx with
    |val hx=>
    cases hx with
    |ptr hb hp Fg an5=>
    rename_i ls p;split at h
    .rename_i m QM;split at h
     .rename_i hg QL;split at h
      .rename_i l0 qJ;split at h
       .simp at h
       .rename_i hs;simp at h;subst h;have hmn:m<=n:=by
         cases mx with
         |none=>simp only[jw,a03]at QM;omega
         |some v=>simp only[jw]at QM;exact lF QM
        have hgm:hg<=m:=by
         cases hi with
         |none=>
          cases mx with
          |some v=>simp at hs
          |none=>simp only[jw,a03]at QL QM;omega
         |some v=>simp only[jw]at QL;exact lF QL
        have hlg:l0<=hg:=by
         cases lo with
         |none=>simp only[jw,a03]at qJ;omega
         |some v=>simp only[jw]at qJ;exact lF qJ
        have e1:(Instr.sliceBounds false n n YG vZ mx').run P w=.ok (l0,hg,m) w:=by
         cases hm with
         |none=>
          simp only[jw,a03]at QM;subst QM;exact xQ hl hh QL qJ (by omega)
         |some Qk=>
          cases hh with
          |none=>simp at hs
          |some hhv=>
           simp only[jw]at QM QL;exact Fe hl hhv Qk QM QL qJ (by omega) hmn
        have m1:l0*size+(hg-l0)*size=hg*size:=by rw[<-a3k];congr 1;omega
        have m2:l0*size+(m-l0)*size=m*size:=by rw[<-a3k];congr 1;omega
        have m3:hg*size<=n*size:=a3m size (by omega);have m4:m*size<=n*size:=a3m size (by omega);refine⟨.slice (some (if m=l0 then(⟨p.c,p.base+off,none⟩:Addr)else(⟨p.c,p.base+off,none⟩:Addr).add (l0*size))) (hg-l0) (m-l0),?_,?_⟩
        .refine .slc hb (.inr hp) (by omega) (by omega) (by omega) (fun _=>rfl) ?_ (by omega);by_cases hml:m=l0
         .left;omega
         .right;rw[a0p hml,uj];exact⟨by rw[a9M],by omega⟩
        .simp[Instr.sliceAt,run_underlying hu,Instr.sureAddr,e1,dh hn]
      .simp at h
     .simp at h
    .simp at h
  .simp at h
 .simp at h
theorem o8(z:List TV):∀n,(times z n).length=n*z.length
 | 0=>by simp[times]
 |n+1=>by simp[times,o8 z n,a3k,Nat.add_comm]
theorem QN(z:List TV)(hz:0<z.length):∀(n i:Nat),i<n*z.length->(times z n)[i]? = z[i%z.length]?
 | 0,i,h=>by simp at h
 |n+1,i,h=>by
  simp only[times];by_cases hi:i<z.length
  .rw[a0k hi,Nat.mod_eq_of_lt hi]
  rw[a1d (by omega),QN z hz n (i-z.length) (by rw[a3k]at h;omega)];congr 1;rw[Nat.mod_eq_sub_mod (a:=i) (by omega)]
theorem IL{z:List TV}(h:∀c∈z,iU c=true):∀n,∀c∈times z n,iU c=true
 | 0=>by simp[times]
 |n+1=>by
  intro c hc;simp only[times,a2Y]at hc;rcases hc with hc|hc
  .exact h c hc
  exact IL h n c hc
theorem VL{N:Np}{z:List TV}{x:Array Value}(h:bZ N z x.toList)(n m:Nat)(hm:m=n*z.length) :
  bZ N (times z n) ((Array.range m).map (x[·%x.size]!)).toList:=by
 have hl:=h.len;simp only[a9B]at hl;refine⟨by simp[o8,hm],fun i c v a b=>?_⟩;have hi:i<n*z.length:=by have:=(a0d.1 a).1;rwa [o8]at this
 have hz:0<z.length:=by
  rcases aby z.length with e|e
  .rw[e]at hi;simp at hi
  .exact e
 rw[QN z hz n i hi]at a;have ahp:i%x.size<x.size:=Nat.mod_lt _ (by omega);have hb:v=x[i%x.size]:=by
  rw[adz,Array.getElem?_map]at b;simp only[Array.getElem?_range]at b;rw[a0q (by omega)]at b;simp only[a1b,a03]at b;rw[<-b,getElem!_pos x _ ahp]
 rw[hl]at a;exact h.at_ (i%x.size) c v a (by simp[hb,ahp])
theorem qQ{t e:TypeId}{n:Nat}(h:jG P t=some (e,n)):P.underlying t=some (.slice e)∧dG P e=some n∧0<n:=by
 unfold jG at h;split at h
 .rename_i e' hu;split at h
  .rename_i n' hn;split at h
   .simp at h
   simp at h;obtain⟨rfl,rfl⟩:=h;exact⟨hu,hn,by omega⟩
  simp at h
 simp at h
theorem QO{place:Nat->Option (Nat×Nat)}:∀{ps:List (Nat×TV)} {cs r:List TV},rZ place cs ps=some r->r.length=cs.length
 | [],cs,r,h=>by simp[rZ]at h;rw[h]
 |(i,v)::ps,cs,r,h=>by
  simp only[rZ]at h;split at h
  .split at h
   .split at h
    .rename_i cs' ho;rw[QO h,(vS ho).2.2]
    simp at h
   simp at h
  simp at h
theorem QS{place:Nat->Option (Nat×Nat)}:∀{ps:List (Nat×TV)} {cs r:List TV},rZ place cs ps=some r->(∀c∈cs,iU c=true) ->
  (∀p∈ps,∀c∈p.2.cells,iU c=true)->∀c∈r,iU c=true
 | [],cs,r,h,h1,_=>by simp[rZ]at h;subst h;exact h1
 |(i,v)::ps,cs,r,h,h1,h2=>by
  simp only[rZ]at h;split at h
  .split at h
   .split at h
    .rename_i cs' ho;exact QS h (VG ho h1 (h2 (i,v) (by simp))) (fun p hp=>h2 p (by simp[hp]))
    .simp at h
   .simp at h
  .simp at h
theorem tZ{t:TypeId}{len:Nat}{ps:List (Nat×TV)}{qs:List (Nat×Value)}{r:TV}{s1:St}(hV:Valid M D s.get w)(yL:M (.h s.heap.length)=none)
  (h:qA P t len s ps=some (r,s1)) (hq:PR M.h ps qs) :
  s1.env=s.env∧∃x w' M',(Instr.buildSlice t len qs.toArray).run P w=.ok x w'∧Nr M D s.get w (.val r) s1.get [] x w' M':=by
 unfold qA at h;split at h
 case h_2=>simp at h
 rename_i e n zQ;obtain⟨hu,hn,hn0⟩:=qQ zQ;split at h
 case isFalse=>simp at h
 rename_i hc;obtain⟨hc1,JY⟩:=hc;split at h
 case h_2=>simp at h
 rename_i z hz;split at h
 case isFalse=>simp at h
 rename_i Yp;split at h
 case h_2=>simp at h
 rename_i cs hf;simp at h;obtain⟨rfl,rfl⟩:=h;obtain⟨i,x,v,_,_,_,_,hz1,hvr,hzr⟩:=wB hz;have hx0:=(hvr M.h).len;simp only[a9B]at hx0;have ht:=VL (hvr M.h) len (len*n) (by rw[Yp]);obtain⟨uM,g1,g2⟩:=Lu (place':=fun i=>some (i*n,n)) (fun i x hx=>hx) hf hq ht;have Fb:∀c∈cs,iU c=true:=QS hf (IL hz1 len) (fun p hp=>by
  have:=a4x.1 JY p hp;exact LC this)
 have hlen:cs.length=uM.size:=by have:=g2.len;simpa using this
 have qm:cs.length=len*n:=by rw[QO hf,o8,Yp]
 have yD:s.get (.h s.heap.length)=none:=by simp[St.get]
 have JW:∀(i:Nat) (c:TV) (v:Value),cs[i]? = some c->uM[i]? = some v->VR M.h c v:=fun i c v a b=>g2.at_ i c v a (by simpa using b);have gq:=Nw hV e yL yD (agJ hlen) JW Fb;refine⟨rfl,.slice (some ⟨w.heap.size,0,none⟩) len len,w.alloc (.cells uM e),dK M (.h s.heap.length) (.cells [⟨w.heap.size,0,cs.length,uM.size⟩]),?_,⟨?_,?_,?_,qP yL⟩⟩
 .have hle:¬(len*n>2^24):=by omega
  by_cases h0:len*n=0
  .have an7:cs=[]:=a4c (by omega);have g1':Instr.fill (fun i=>some (i*n,n)) ((Array.range (len*n)).map ((#[]:Array Value)[·%(#[]:Array Value).size]!)) qs=some uM:=by
    rw[h0]at g1 ⊢;have e0:Array.range 0=#[]:=rfl;rw[e0]at g1 ⊢;simpa using g1
   simp only[Instr.buildSlice,Sem.run_bind,run_underlying hu,Result.andThen_ok,dh hn];rw[a0p hle,a0q h0];simp only[Sem.run_pure,Sem.run_bind,Result.andThen_ok,g1',newRow,run_newObj,World.alloc]
  .simp only[Instr.buildSlice,Sem.run_bind,run_underlying hu,Result.andThen_ok,dh hn];rw[a0p hle,a0p h0];simp only[Sem.run_pure,Sem.run_bind,Result.andThen_ok,hzr w,g1,newRow,run_newObj,World.alloc]
 .rw[kJ];exact gq.1
 .rw[kJ];exact gq.2
 .have hlb:len<2^63:=by
   have:=Nat.le_mul_of_pos_right len (show 0<n by omega);omega
  refine .val (.slc (ls:=[⟨w.heap.size,0,cs.length,uM.size⟩]) (p:=⟨w.heap.size,0,cs.length,uM.size⟩) (by simp[Mp.h,dK]) (by simp) (by simp[qm]) (a0w _) (a0w _) (fun _=>rfl) (.inr ⟨by simp,by simp;omega⟩) hlb)
end
section
variable {P:Program} {M:Mp} {D:Key->Prop} {w:World} {s:St}
theorem a0r{i:Int}(h0:0<=i)(h1:i<=2^40):i64.wrap i=i:=by
 have h2:i%(2^64:Int)=i:=a8A h0 (by omega);simp only[IntKind.wrap,IntKind.bits,IntKind.signed,h2];rw[a0p];simp only[ada,a1o,ge_iff_le];omega
theorem QU{N:Np}{v:TV}{n:Nat}{x:Value}(h:a2i v=some n)(hx:VR N v x):∃k i,x=.int k i∧0<=i∧i<=2^40∧n=i.toNat:=by
 unfold a2i at h;split at h
 .split at h
  .rename_i k i hc;simp at h;subst h;cases hx;exact⟨k,i,rfl,hc.1,hc.2,rfl⟩
  simp at h
 simp at h
theorem zY{e:TypeId}{n:Nat}(h:tY P e n=true):∃i x,P.info? e=some i∧i.zero=some x∧x.cells.size=i.size∧n*i.bytes<=2^40∧n<=2^40∧i.bytes<=2^20∧0<i.bytes:=by
 unfold tY at h;split at h
 .rename_i i hi;simp only[a2n,a1o]at h;obtain⟨⟨⟨⟨h1,h2⟩,h3⟩,h4⟩,h5⟩:=h;unfold a4u at h5;split at h5
  .rename_i x hx;exact⟨i,x,hi,hx,by simpa using h5,h1,h2,h3,h4⟩
  simp at h5
 simp at h
theorem zZ{t:TypeId}{a b r:TV}{x y:Value}{s1:St}(hV:Valid M D s.get w)(yL:M (.h s.heap.length)=none)
  (h:sG P t s a b=some (r,s1)) (hx:VR M.h a x) (hy:VR M.h b y) :
  s1.env=s.env∧∃z w' M',(Instr.makeSlice t x y).run P w=.ok z w'∧Nr M D s.get w (.val r) s1.get [] z w' M':=by
 unfold sG at h;split at h
 case h_2=>simp at h
 rename_i e n l c zQ hl hc;obtain⟨hu,hn,hn0⟩:=qQ zQ;obtain⟨_,li,rfl,l0,l1,rfl⟩:=QU hl hx;obtain⟨_,ci,rfl,c0,c1,rfl⟩:=QU hc hy;split at h
 case isFalse=>simp at h
 rename_i QV;obtain⟨hlc,JZ⟩:=QV;obtain⟨i,zx,hi,hzx,hzs,Cm,xR,hb3,hb4⟩:=zY JZ;split at h
 case h_2=>simp at h
 rename_i z hz;split at h
 case isFalse=>simp at h
 rename_i Yp;simp at h;obtain⟨rfl,rfl⟩:=h;obtain⟨i',x,v,vZ,Fh,_,_,hz1,hvr,hzr⟩:=wB hz;rw[hi]at vZ;cases vZ;have ht:=VL (hvr M.h) ci.toNat (ci.toNat*n) (by rw[Yp])
 let arr:Array Value:=(Array.range (ci.toNat*n)).map (x.cells[·%x.cells.size]!)
 have hlen:(times z ci.toNat).length=arr.size:=by have:=ht.len;simpa[arr]using this
 have qm:(times z ci.toNat).length=ci.toNat*n:=by rw[o8,Yp]
 have yD:s.get (.h s.heap.length)=none:=by simp[St.get]
 have JW:∀(i:Nat) (c:TV) (v:Value),(times z ci.toNat)[i]? = some c->arr[i]? = some v->VR M.h c v:=fun i c v a b=>ht.at_ i c v a (by rw[adz];exact b);have gq:=Nw hV e yL yD (agJ hlen) JW (IL hz1 _);have hmul:(li.toNat)*n<=ci.toNat*n:=a3m n hlc;refine⟨rfl,.slice (some ⟨w.heap.size,0,none⟩) li.toNat ci.toNat,w.alloc (.cells arr e),dK M (.h s.heap.length) (.cells [⟨w.heap.size,0,(times z ci.toNat).length,arr.size⟩]),?_,⟨?_,?_,?_,qP yL⟩⟩
 .have hwl:=a0r l0 l1;have hwc:=a0r c0 c1;have KY:¬((i.bytes:Int)*ci>2^48):=by
   have e1:(ci.toNat*i.bytes:Nat)<=2^40:=Cm;have e2:((i.bytes:Int)*ci)=((ci.toNat*i.bytes:Nat):Int):=by
    rw[Nat.mul_comm,adL,agR c0]
   omega
  simp only[Instr.makeSlice,Sem.run_bind,run_underlying hu,Result.andThen_ok,asInt,asIntOf,Sem.run_pure,iV hi,hwl,hwc];rw[a0p (by simp;exact⟨⟨⟨c0,by omega⟩,l0⟩,by omega⟩)];simp only[Sem.run_bind,run_askRoom,Result.andThen_ok,dh hn];by_cases h0:ci.toNat*n=0
  .rw[a0q h0];have e0:arr=#[]:=Array.eq_empty_of_size_eq_zero (by omega);have e1:(Array.range (ci.toNat*n)).map ((#[]:Array Value)[·%(#[]:Array Value).size]!)=#[]:=by
    rw[h0];have e0:Array.range 0=#[]:=rfl;rw[e0];simp
   simp only[Sem.run_pure,Result.andThen_ok,e1,newRow,Sem.run_bind,run_newObj,World.alloc,e0]
  .rw[a0p h0];simp only[Sem.run_bind,hzr w,Sem.run_pure,Result.andThen_ok,newRow,run_newObj,World.alloc,arr]
 .rw[kJ];exact gq.1
 .rw[kJ];exact gq.2
 .refine .val (.slc (ls:=[⟨w.heap.size,0,(times z ci.toNat).length,arr.size⟩]) (p:=⟨w.heap.size,0,(times z ci.toNat).length,arr.size⟩) (by simp[Mp.h,dK]) (by simp) (by simp[qm]) hlc (a0w _) (fun _=>rfl) (.inr ⟨by simp,by simp;omega⟩) (by omega))
theorem YH{at_:Array TypeId}{t:TypeId}{v r:TV}{i:lZ}{x:Value}(hV:Valid M D s.get w)(h:Yw P at_ s.heap v=some (r,i))(hx:VR M.h v x)(hD:∀k∈i.ts,D k) :
  i.ws=[]∧∃z,VR M.h r z∧(Builtin.len_ at_ t #[x]).run P w=.ok z w:=by
 unfold Yw at h;split at h
 case h_2=>simp at h
 rename_i t0 ht0;split at h
 .rename_i b hu;simp at h;obtain⟨rfl,rfl⟩:=h;cases hx;exact⟨rfl,_,.int _ _,by simp[Builtin.len_,ht0,run_underlying hu,goInt]⟩
 .rename_i n el _ hu;simp at h;obtain⟨rfl,rfl⟩:=h;exact⟨rfl,_,.int _ _,by simp[Builtin.len_,ht0,run_underlying hu,goInt]⟩
 .rename_i el b off len cap sz ex hu;simp at h;obtain⟨rfl,rfl⟩:=h;cases hx;exact⟨rfl,_,.int _ _,by simp[Builtin.len_,ht0,run_underlying hu,goInt]⟩
 .rename_i el hu;simp at h;obtain⟨rfl,rfl⟩:=h;cases hx;exact⟨rfl,_,.int _ _,by simp[Builtin.len_,ht0,run_underlying hu,goInt]⟩
 .rename_i k el hu;simp at h;obtain⟨rfl,rfl⟩:=h;cases hx;exact⟨rfl,_,.int _ _,by simp[Builtin.len_,ht0,run_underlying hu,goInt]⟩
 .rename_i k el r0 hu;split at h
  .rename_i es he;simp at h;obtain⟨rfl,rfl⟩:=h;cases hx with
   |map hm=>
    obtain⟨gy,h1,h2⟩:=hV.ok _ _ hm (hD _ (by simp[xq]));simp only[St.get,he,a03]at h1;subst h1;obtain⟨xs,g1,g2⟩:=h2;have g2:=g2.len;refine⟨rfl,_,.int _ _,?_⟩;simp[Builtin.len_,ht0,run_underlying hu,goInt,getObj,Sem.run,g1,g2]
  .simp at h
 .simp at h
end
section
variable {P:Program} {M:Mp} {D:Key->Prop} {w:World} {s:St}
theorem CG{C:Ct}{size n:Nat}{v:TV}{l:List TV}{x:Value}{h:List HB}(hh:∀b,C (.h b)=h[b]?)(hV:Valid M D C w)(hs:fH size h v=some (n,l))(hx:VR M.h v x)(hD:∀k∈dI v,D k) :
  (Builtin.lenOf x).run P w=.ok n w∧(∀c∈l,iU c=true)∧∃arr,(∀w':World,w'.heap=w.heap->(Builtin.firstCells size n x).run P w'=.ok arr w')∧bZ M.h l arr.toList:=by
 unfold fH at hs;split at hs
 .simp at hs;obtain⟨rfl,rfl⟩:=hs;cases hx;exact⟨by simp[Builtin.lenOf],by simp,#[],fun w' _=>by simp[Builtin.firstCells],.nil⟩
 .rename_i b off len cap sz ex;split at hs
  .rename_i uT;subst uT;split at hs
   .rename_i hz;subst hz;simp at hs;obtain⟨rfl,rfl⟩:=hs;cases hx with
    |slc hm hp Fg hle wC hex ha hk=>
     exact⟨by simp[Builtin.lenOf],by simp,#[],fun w' _=>by simp[Builtin.firstCells,loadCells,loadCellsFrom],.nil⟩
   split at hs
   .rename_i cs hb;simp only[a0f,a0u]at hs;obtain⟨r,hr,rfl,rfl⟩:=hs;cases hx with
    |slc hm hp Fg hle wC hex ha hk=>
     rename_i ls p a cap';obtain⟨k,hk,VJ⟩:=xO hb;obtain⟨gy,h1,h2⟩:=hV.ok _ _ hm (hD _ (by simp[dI]));rw[hh,hk]at h1;cases h1;obtain⟨g1,g2,_⟩:=h2;obtain⟨s1,s2,s3⟩:=um hr;refine⟨by simp[Builtin.lenOf],fun c hc=>g1 c (by rw[s2]at hc;exact a4Q (a8L hc)),?_⟩;by_cases h0:cap'=0
     .have qJ:len=0:=(by omega);subst qJ;have:r=[]:=a4c (by rw[s3];simp);subst this;exact⟨#[],fun w' _=>by simp[Builtin.firstCells,loadCells,loadCellsFrom],.nil⟩
     .rcases ha with ha|⟨rfl,ha⟩
      .exact absurd ha h0
      .obtain⟨xs,x1,x2⟩:=yB (P:=P) (g2 p (hp.resolve_left h0)) hr (by have:=a3m sz hle;omega) (fun e=>by have:=VJ e;have:=(g2 p (hp.resolve_left h0)).ext;omega);exact⟨xs.toArray,fun w' hw'=>by simp[Builtin.firstCells,x2 w' hw'],x1⟩
   .simp at hs
  .simp at hs
 .rename_i bs;split at hs
  .rename_i uT;simp at hs;obtain⟨rfl,rfl⟩:=hs;cases hx;refine⟨by simp[Builtin.lenOf],by simp[iU],(bs.extract 0 bs.size).data.map fun b=>.int .u8 b.toNat,fun w' _=>rfl,?_⟩;refine⟨by simp,fun i c v a b=>?_⟩;simp only[a4q,a0f]at a;obtain⟨y,hy,rfl⟩:=a;rw[show bs.extract 0 bs.size=bs from by simp]at b;simp only[Array.toList_map,a4q,hy,a1b,a03]at b;rw[<-b];exact .int _ _
  .simp at hs
 .simp at hs
theorem TU{size n b off len cap sz:Nat}{ex:Bool}{l:List TV}{h:List HB}(hs:fH size h (.slc b off len cap sz ex)=some (n,l)):sz=size∧n=len∧l.length=len*size:=by
 simp only[fH]at hs;split at hs
 .rename_i hz;split at hs
  .rename_i h0;cases hs;exact⟨hz,h0.symm,by simp[h0]⟩
  split at hs
  .simp only[a0f,a0u]at hs;obtain⟨r,hr,rfl,rfl⟩:=hs;exact⟨hz,rfl,(um hr).2.2⟩
  cases hs
 cases hs
theorem QW(N:Nat):∀(r c:Nat),c<=2*N+192->Builtin.growBy N r c<=2*N+192
 | 0,c,h=>by simpa[Builtin.growBy]using h
 |r+1,c,h=>by
  simp only[Builtin.growBy];split
  .exact h
  exact QW N r _ (by omega)
theorem YI{KZ c:Nat}(h:c<KZ):Builtin.nextslicecap KZ c<=2*KZ+192:=by
 unfold Builtin.nextslicecap;split
 .omega
 split
 .omega
 exact QW KZ 4 c (by omega)
theorem a8W{KZ c b:Nat}(h:c<KZ)(h1:KZ*b<=2^40)(h2:b<=2^20):¬(Builtin.nextslicecap KZ c*b>2^48):=by
 have e1:=YI h;have e2:Builtin.nextslicecap KZ c*b<=(2*KZ+192)*b:=a3m b e1;have e3:(2*KZ+192)*b=2*(KZ*b)+192*b:=by rw[a3k,Nat.mul_assoc]
 omega
theorem wE(z:Array Value)(n:Nat):(Builtin.zeroCells z n).size=n*z.size:=by simp[Builtin.zeroCells]
def wF:TypeDesc->Bool
 |.int _=>true
 |_=>false
theorem YJ{t:TypeId}(h:¬(TK P t||(P.underlying t).isNone)=true):∃d,P.underlying t=some d∧wF d=false:=by
 simp only[a8R,adn,agm]at h;obtain⟨h1,h2⟩:=h;cases hu:P.underlying t with
 |none=>simp[hu]at h2
 |some d=>
  refine⟨d,rfl,?_⟩;unfold TK at h1;rw[hu]at h1;cases d<;>simp_all [wF]
theorem Fj{at_:Array TypeId}{st xt e:TypeId}{size n sLen sCap:Nat}{i:TypeInfo}{z sv xv:Value}{base:Option Addr}{d:TypeDesc}{old new:Array Value}{ty:TypeId}
  (h0:at_[0]? = some st) (h1:at_[1]? = some xt) (hu:P.underlying st=some (.slice e)) (hn:dG P e=some size) (Ko:P.underlying xt=some d) (hd:wF d=false)
  (hi:P.info? e=some i) (hz:i.zero=some z) (hsv:sv=.slice base sLen sCap)
  (hl:(Builtin.lenOf xv).run P w=.ok n w) (wC:sCap<sLen+n) (Cm:(sLen+n)*i.bytes<=2^40) (xR:sLen+n<=2^40) (hb3:i.bytes<=2^20)
  (hold:∀w':World,w'.heap=w.heap->(Builtin.firstCells size sLen sv).run P w'=.ok old w') (gq:∀w':World,w'.heap=w.heap->(Builtin.firstCells size n xv).run P w'=.ok new w') :
  ∃kP,sLen+n<=kP∧kP<2^63∧(Builtin.append_ at_ ty #[sv,xv]).run P w=.ok (.slice (some ⟨w.heap.size,0,none⟩) (sLen+n) kP) (w.drew.alloc (.cells (old++new++Builtin.zeroCells z.cells (kP-(sLen+n))) e)):=by
 subst hsv;refine⟨(Question.appendCap (sLen+n) sCap e).cut (w.tape w.drawn (.appendCap (sLen+n) sCap e)),by simp[Question.cut],?_,?_⟩
 .have:=Nat.mod_lt (w.tape w.drawn (.appendCap (sLen+n) sCap e)) (show 0<2^63-(sLen+n) by omega);simp only[Question.cut];omega
 have hz':∀w,(zeroValue e).run P w=.ok z w:=fun w=>by simp[zeroValue,iV hi,hz]
 have hq:(Question.appendCap (sLen+n) sCap e).forced=false:=rfl;have hle:¬(sLen+n<=sCap):=by omega
 have KY:¬(((sLen+n:Nat):Int)>i64.max):=by
  have:i64.max=2^63-1:=rfl;rw[this];omega
 have JZ:=a8W wC Cm hb3;have e1:=hold w.drew rfl;have e2:=gq w.drew rfl;unfold Builtin.append_;simp only[adx,a2Q,a9r,h0,h1];simp only[Sem.run_bind,run_underlying hu,Result.andThen_ok,dh hn,run_underlying Ko,Sem.run_pure];rw[a0p (by cases d<;>simp_all [wF])];simp only[Sem.run_bind,hl,Result.andThen_ok];rw[a0p hle];simp only[Sem.run_bind,iV hi,Result.andThen_ok];rw[a0p (fun h=>KY h.1)];simp only[Sem.run_bind,iV hi,Result.andThen_ok];rw[a0p JZ];simp only[Sem.run_bind,Sem.run_pure,run_choose,hq,a2V,a3U,Result.andThen_ok,iV hi,run_askRoom,World.drew_eq,e1];rw[a0q (by cases d<;>simp_all [wF])];simp only[Sem.run_bind,Sem.run_pure,Result.andThen_ok,e2,hz',newRow,run_newObj,World.size_drew,World.alloc_eq]
theorem QX{at_:Array TypeId}{st xt e:TypeId}{size n sLen sCap:Nat}{a:Addr}{sv xv:Value}{d:TypeDesc}{new:Array Value}{ty:TypeId}{w':World}
  (h0:at_[0]? = some st) (h1:at_[1]? = some xt) (hu:P.underlying st=some (.slice e)) (hn:dG P e=some size) (Ko:P.underlying xt=some d) (hd:wF d=false)
  (hsv:sv=.slice (some a) sLen sCap) (hl:(Builtin.lenOf xv).run P w=.ok n w) (wC:sLen+n<=sCap)
  (gq:(Builtin.firstCells size n xv).run P w=.ok new w) (vT:(storeCells (a.add (sLen*size)) new.toList).run P w=.ok () w') :
  (Builtin.append_ at_ ty #[sv,xv]).run P w=.ok (.slice (some a) (sLen+n) sCap) w':=by
 subst hsv;unfold Builtin.append_;simp only[adx,a2Q,a9r,h0,h1];simp only[Sem.run_bind,run_underlying hu,Result.andThen_ok,dh hn,run_underlying Ko,Sem.run_pure];rw[a0p (by cases d<;>simp_all [wF])];simp only[Sem.run_bind,hl,Result.andThen_ok];rw[a0q wC];rw[a0q (by cases d<;>simp_all [wF])];simp only[Sem.run_bind,gq,Result.andThen_ok,vT,Sem.run_pure]
theorem VN{at_:Array TypeId}{st xt e:TypeId}{size sLen sCap:Nat}{base:Option Addr}{sv xv:Value}{d:TypeDesc}{new:Array Value}{ty:TypeId}
  (h0:at_[0]? = some st) (h1:at_[1]? = some xt) (hu:P.underlying st=some (.slice e)) (hn:dG P e=some size) (Ko:P.underlying xt=some d) (hd:wF d=false)
  (hsv:sv=.slice base sLen sCap) (hl:(Builtin.lenOf xv).run P w=.ok 0 w) (wC:sLen<=sCap)
  (gq:(Builtin.firstCells size 0 xv).run P w=.ok new w) (iE:new.toList=[]) :
  (Builtin.append_ at_ ty #[sv,xv]).run P w=.ok sv w:=by
 subst hsv;unfold Builtin.append_;simp only[adx,a2Q,a9r,h0,h1];simp only[Sem.run_bind,run_underlying hu,Result.andThen_ok,dh hn,run_underlying Ko,Sem.run_pure];rw[a0p (by cases d<;>simp_all [wF])];simp only[Sem.run_bind,hl,Result.andThen_ok];rw[a0q (by omega)];rw[a0q (by cases d<;>simp_all [wF])];simp only[Sem.run_bind,gq,Result.andThen_ok];cases base<;>simp[iE,storeCells]
end
section
variable {P:Program} {M:Mp} {D:Key->Prop} {w:World} {s:St}
def BOk(P:Program)(M:Mp)(D:Key->Prop)(C:Ct)(w:World)(c:Sem Value)(v:TV)(C1:Ct)(ws:List Key):Prop:=
 ∃x w' M',c.run P w=.ok x w'∧Nr M D C w (.val v) C1 ws x w' M'
theorem Ext.drew'{M0:Mp}{C0:Ct}{w0:World}{M:Mp}{C:Ct}{w:World}{ws:List Key}(h:Ext M0 C0 w0.drew M C w ws):Ext M0 C0 w0 M C w ws:=
 ⟨h.Iu,h.frame,h.nD,h.lD,h.fresh,h.size,h.has,h.wsub,h.wrote,h.os,h.output,h.tape⟩
theorem bZ.TW{N:Np}{l:List TV}{arr:Array Value}(h:bZ N l arr.toList){i:Nat}{c:TV}{v:Value}(a:l[i]? = some c)(b:arr[i]? = some v):VR N c v:=
 h.at_ i c v a (by rw[adz];exact b)
theorem VO(hV:Valid M D s.get w)(yL:M (.h s.heap.length)=none){cs:List TV}{pre rest:Array Value}{e:TypeId}(hx:bZ M.h cs pre.toList)(hn:∀c∈cs,iU c=true)
  {len kP size:Nat} (QY:cs.length=len*size) (hle:len<=kP) (hk:kP<2^63) (NH:rest.size=(kP-len)*size) :
  ∃M',Nr M D s.get w (.val (.slc s.heap.length 0 len len size false)) (St.get { s with heap:=s.heap++[.cells .own cs] }) [] (.slice (some ⟨w.heap.size,0,none⟩) len kP) (w.drew.alloc (.cells (pre++rest) e)) M':=by
 have yD:s.get (.h s.heap.length)=none:=by simp[St.get]
 have DY:pre.size=cs.length:=by have:=hx.len;simp at this;omega
 have an5:(pre++rest).size=kP*size:=by
  have:len*size+(kP-len)*size=kP*size:=by rw[<-a3k];congr 1;omega
  simp;omega
 have hmul:len*size<=kP*size:=a3m size hle;have YK:Valid M D s.get w.drew:=hV.of_heap rfl;have gq:=Nw YK (cs:=cs) (arr:=pre++rest) e yL yD (by omega) (fun i c v a b=>by
  have hi:=(a0d.1 a).1;rw[a9O (by omega)]at b;exact hx.TW a b) hn
 refine⟨dK M (.h s.heap.length) (.cells [⟨w.heap.size,0,cs.length,(pre++rest).size⟩]),⟨?_,?_,?_,qP yL⟩⟩
 .rw[kJ];exact gq.1
 .rw[kJ];exact gq.2.drew'
 .exact .val (.slc (ls:=[⟨w.heap.size,0,cs.length,(pre++rest).size⟩]) (p:=⟨w.heap.size,0,cs.length,(pre++rest).size⟩) (by simp[Mp.h,dK]) (by simp) (by simp[QY]) (a0w _) hle (fun h=>by simp at h) (.inr ⟨by simp,by simp only[a3Z];omega⟩) hk)
theorem EK:∀{ls:List Pl},(ls.map (·.c)).Nodup->∀{p q:Pl},p∈ls->q∈ls->q.c=p.c->q=p
 | [],_,p,q,hp,_,_=>by simp at hp
 |a::ls,h,p,q,hp,hq,e=>by
  simp only[a4g,a4m]at h;rcases a2r.1 hp with h1|h1<;>rcases a2r.1 hq with h2|h2
  .rw[h1,h2]
  .exact(h.1 (a1e.2 ⟨q,h2,by rw[e,h1]⟩)).elim
  .exact(h.1 (a1e.2 ⟨p,h1,by rw[<-e,h2]⟩)).elim
  exact EK h.2 h1 h2 e
theorem a0s(hV:Valid M D s.get w){b:Nat}{k:BK}{cs new:List TV}{ls:List Pl}{p:Pl}{x:Array Value}(hm:M (.h b)=some (.cells ls))(hd:D (.h b))(hb:s.heap[b]? = some (.cells k cs))
  (hk:k≠.ro) (hp:p∈ls) (Fg:cs.length<=p.ext) (hx:bZ M.h new x.toList) (hn:∀c∈new,iU c=true) (iE:new≠[]) {w':World}
  (fl:Bool) (old rest:Array Value) (ty0:TypeId)
  (hw:(fl=true∧cs.length+new.length<=p.tot∧(storeCells ⟨p.c,cs.length,none⟩ x.toList).run P w=.ok () w') ∨
   (fl=false∧bZ M.h cs old.toList∧w'=w.drew.alloc (.cells (old++x++rest) ty0))) :
  ∃M' q,Valid M' D (St.get { s with heap:=s.heap.set b (.cells k.more (cs++new)) }) w'∧Ext M s.get w M' (St.get { s with heap:=s.heap.set b (.cells k.more (cs++new)) }) w' [.h b] ∧
   (∀j l,M (.l j)=some l->M' (.l j)=some l)∧(∃xM,M' (.h b)=some (.cells xM)∧q∈xM)∧cs.length+new.length<=q.ext∧q.base=0 ∧
   ((fl=true∧q.c=p.c∧q.tot=p.tot)∨(fl=false∧q.c=w.heap.size∧q.tot=(old++x++rest).size)):=by
 have hg:s.get (.h b)=some (.cells k cs):=by simp[St.get,hb]
 have yN:=(a0d.1 hb).1;obtain⟨gy,h1,h2⟩:=hV.ok _ _ hm hd;rw[hg]at h1;cases h1;obtain⟨ho,DY,ahr,a0t⟩:=h2;have hxl:=hx.len;simp only[a9B]at hxl;have jA:(ls.map (·.c)).Nodup:=by
  cases k with
  |ro=>exact absurd rfl hk
  |own=>obtain⟨q,rfl,_⟩:=ahr rfl;simp
  |grow=>exact(a0t (.inl rfl)).1
  |last=>exact(a0t (.inr rfl)).1
 have arl:∀q∈ls,q.ext=cs.length->q=p:=by
  intro q hq he;cases k with
  |ro=>exact absurd rfl hk
  |own=>
   obtain⟨q',e',_⟩:=ahr rfl;rw[e']at hp hq;simp at hp hq;rw[hq,hp]
  |grow=>
   have:=(DY p hp).ext;exact(a0t (.inl rfl)).2 q hq p hp he (by omega)
  |last=>
   have:=(DY p hp).ext;exact(a0t (.inr rfl)).2 q hq p hp he (by omega)
 have hpe:p.ext=cs.length:=by have:=(DY p hp).ext;omega
 have hpb:p.base=0:=(DY p hp).base hk;have hmr:k.more≠.own:=by cases k<;>simp[BK.more]
 have hml:k.more=.last->k=.last:=by cases k<;>simp[BK.more]
 have Fb:∀c∈cs++new,iU c=true:=by
  intro c hc;rcases a2Y.1 hc with h|h
  .exact ho c h
  .exact hn c h
 rcases hw with⟨hfl,JZ,vT⟩|⟨hfl,hold,rfl⟩
 .-- in place
  let p':Pl:={ p with ext:=cs.length+new.length }
  let xM:List Pl:=ls.map fun q=>if q.c=p.c then p' else q
  have hqp:∀q∈ls,q.c=p.c->q=p:=by
   intro q hq he;exact EK jA hp hq he
  have hp':p'∈xM:=a1e.2 ⟨p,hp,by simp⟩;have a4J:xM.map (·.c)=ls.map (·.c):=by
   simp only[xM,a8o];apply a4O;intro q hq;simp only[Function.comp];split
   .rename_i he;exact he.symm
   .rfl
  have hlc:KT (.cells ls) (.cells xM):=by
   intro q hq;by_cases he:q.c=p.c
   .have:=hqp q hq he;subst this;exact⟨p',hp',rfl,rfl,by simp[p'];omega,rfl⟩
   .exact⟨q,a1e.2 ⟨q,hq,by simp[he]⟩,rfl,rfl,a0w _,rfl⟩
  obtain⟨arr,ty,fz,r1,r2,r3,r4⟩:=(DY p hp).row;have:=r3 hk;subst this;have ahu:∀v∈x.toList,v.oneCell'=true:=by
   intro v hv;obtain⟨i,hi,rfl⟩:=a4G.1 hv;have vZ:i<new.length:=by simp at hi;omega
   exact IG (hx.at_ i new[i] x.toList[i] (by simp[vZ]) (by simp)) (hn _ (a4r vZ))
  have vH:=run_storeCells_at (P:=P) p.c cs.length ty x.toList 0 arr w r1 (by simp;omega) ahu;simp only[adv,a9B]at vH;rw[vH]at vT;have anc:=Result.ok.inj vT;obtain⟨_,rfl⟩:=anc
  let w':World:=w.setRow p.c (arr.toList.take cs.length++x.toList++arr.toList.drop (cs.length+x.size)).toArray
  have gJ:∀c,c<w.heap.size->c∉aI (.cells xM)->w'.heap[c]? = w.heap[c]?:=fun c _ hc=>vG w p.c _ c (fun e=>hc (by rw[e];exact a1e.2 ⟨p',hp',rfl⟩));have gq:∀c∈aI (.cells xM),(∃l0,M (.h b)=some l0∧c∈aI l0)∨w.heap.size<=c:=fun c hc=>.inl ⟨_,hm,by simp only[aI]at hc ⊢;rwa [a4J]at hc⟩;have IK:su M (dK M (.h b) (.cells xM)):=mG fun l0 h0=>by rw[hm]at h0;cases h0;exact hlc
  have VP:∀i,(arr.toList.take cs.length++x.toList++arr.toList.drop (cs.length+x.size)).toArray[i]? = if i<cs.length then arr[i]? else if i<cs.length+x.size then x[i-cs.length]? else arr[i]?:=by
   intro i;have:=VF (arr:=arr) (off:=cs.length) (xs:=x.toList) i (by simp;omega);simpa using this
  have QI:pO (dK M (.h b) (.cells xM)).h w' (.cells k.more (cs++new)) (.cells xM):=by
   refine⟨Fb,fun q hq=>?_,fun e=>absurd e hmr,fun _=>⟨by rw[a4J];exact jA,fun q1 JV q2 Gi e1 e2=>?_⟩⟩
   .obtain⟨q0,YB,rfl⟩:=a1e.1 hq;by_cases he:q0.c=p.c
    .simp only[he,a2y];refine⟨⟨_,ty,(0,0),Nu w p.c _ arr ty (0,0) r1,by simp[p'];omega,fun _=>rfl,fun _ i c v hi a b=>?_⟩,by simp[p',hpb];omega,by simp[p'],fun _=>hpb⟩;simp only[p',hpb,a3Z]at b hi;rw[VP i]at b;by_cases h1:i<cs.length
     .rw[a0q h1]at b;rw[a0k h1]at a;exact(r4 (fun _=>hpe) i c v (by omega) a (by simpa[hpb]using b)).mono IK.h
     .rw[a0p h1,a0q (by omega)]at b;rw[a1d (by omega)]at a;exact(hx.TW a b).mono IK.h
    .simp only[he,a3U];have JV:=DY q0 YB;obtain⟨uM,ty',fz',t1,t2,t3,t4⟩:=JV.row;refine⟨⟨uM,ty',fz',(vG w p.c _ q0.c he).trans t1,t2,fun _=>t3 hk,fun hz i c v hi a b=>?_⟩,JV.fit,by have:=JV.ext;simp;omega,fun _=>JV.base hk⟩;have:=JV.ext;rw[a0k (by omega)]at a;exact(t4 (fun e=>by have:=hz (by rw[e];rfl);have:0<new.length:=aaF.2 iE;simp at *;omega) i c v hi a b).mono IK.h
   .have aux:∀q∈xM,q.ext=(cs++new).length->new≠[]->q=p':=by
     intro q hq e iE;obtain⟨q0,YB,rfl⟩:=a1e.1 hq;by_cases he:q0.c=p.c
     .simp[he]
     .simp only[he,a3U]at e;have:=(DY q0 YB).ext;have:0<new.length:=aaF.2 iE;simp at e;omega
    rw[aux q1 JV e1 iE,aux q2 Gi e2 iE]
  refine⟨dK M (.h b) (.cells xM),p',?_,?_,?_,⟨xM,by simp[dK],hp'⟩,a0w _,hpb,.inl ⟨hfl,rfl,rfl⟩⟩
  .rw[jy s b _ yN];exact hV.upd (.h b) _ _ (fun j hj=>.inl hj) (fun l0 h0=>by
    rw[hm]at h0;cases h0;exact⟨hd,hlc,fun b0 zO=>by rw[hg]at zO;cases zO;cases k<;>simp_all [wr]⟩) gJ gq (by simp) QI
  .rw[jy s b _ yN];exact Ext.upd (.h b) _ _ [.h b] (.inl ⟨by simp[hg],rfl,by simp[hm],fun b0 zO=>by rw[hg]at zO;cases zO;cases k<;>simp_all [wr]⟩) IK gJ gq (by simp) rfl rfl rfl
  .intro j l hj;simp[dK,hj]
 .-- a new row
  let p':Pl:=⟨w.heap.size,0,cs.length+new.length,(old++x++rest).size⟩
  let xM:List Pl:=p'::ls
  let w':World:=w.drew.alloc (.cells (old++x++rest) ty0)
  have Qc:=hold.len;simp only[a9B]at Qc;have aQ:∀q∈ls,q.c<w.heap.size:=fun q hq=>hV.inb _ _ hm q.c (a1e.2 ⟨q,hq,rfl⟩);have hlc:KT (.cells ls) (.cells xM):=fun q hq=>⟨q,a3n _ hq,rfl,rfl,a0w _,rfl⟩;have gJ:∀c,c<w.heap.size->c∉aI (.cells xM)->w'.heap[c]? = w.heap[c]?:=fun c hc _=>wz w.drew _ c hc;have gq:∀c∈aI (.cells xM),(∃l0,M (.h b)=some l0∧c∈aI l0)∨w.heap.size<=c:=by
   intro c hc;simp only[aI,xM,a4g,a2r]at hc;rcases hc with rfl|hc
   .exact .inr (a0w _)
   .exact .inl ⟨_,hm,hc⟩
  have IK:su M (dK M (.h b) (.cells xM)):=mG fun l0 h0=>by rw[hm]at h0;cases h0;exact hlc
  have QI:pO (dK M (.h b) (.cells xM)).h w' (.cells k.more (cs++new)) (.cells xM):=by
   refine⟨Fb,fun q hq=>?_,fun e=>absurd e hmr,fun _=>⟨?_,fun q1 JV q2 Gi e1 e2=>?_⟩⟩
   .rcases a2r.1 hq with rfl|hq
    .refine⟨⟨_,ty0,(0,0),heap_alloc_new w.drew _,rfl,fun _=>rfl,fun _ i c v hi a b=>?_⟩,by simp[p'];omega,by simp[p'],fun _=>rfl⟩;simp only[p',a3Z]at b hi;by_cases h1:i<cs.length
     .rw[a0k h1]at a;rw[Array.append_assoc,a9O (by omega)]at b;exact(hold.TW a b).mono IK.h
     .rw[a1d (by omega)]at a;rw[Array.append_assoc,Array.getElem?_append_right (by omega),a9O (by omega),<-Qc]at b;exact(hx.TW a b).mono IK.h
    .have JV:=DY q hq;obtain⟨uM,ty',fz',t1,t2,t3,t4⟩:=JV.row;refine⟨⟨uM,ty',fz',(wz w.drew _ q.c (aQ q hq)).trans t1,t2,fun _=>t3 hk,fun hz i c v hi a b=>?_⟩,JV.fit,by have:=JV.ext;simp;omega,fun _=>JV.base hk⟩;have:=JV.ext;rw[a0k (by omega)]at a;exact(t4 (fun e=>by have:=hz (by rw[e];rfl);have:0<new.length:=aaF.2 iE;simp at *;omega) i c v hi a b).mono IK.h
   .simp only[xM,a4g,a4m];refine⟨fun a2p=>?_,jA⟩;obtain⟨q,hq,he⟩:=a1e.1 a2p;have:=aQ q hq;simp only[p']at he;omega
   .have ahv:0<new.length:=aaF.2 iE;have aux:∀q∈xM,q.ext=(cs++new).length->q=p':=by
     intro q hq e;rcases a2r.1 hq with rfl|hq
     .rfl
     .have:=(DY q hq).ext;simp at e;omega
    rw[aux q1 JV e1,aux q2 Gi e2]
  refine⟨dK M (.h b) (.cells xM),p',?_,?_,?_,⟨xM,by simp[dK],a3l⟩,a0w _,rfl,.inr ⟨hfl,rfl,rfl⟩⟩
  .rw[jy s b _ yN];exact hV.upd (.h b) _ _ (fun j hj=>.inl hj) (fun l0 h0=>by
    rw[hm]at h0;cases h0;exact⟨hd,hlc,fun b0 zO=>by rw[hg]at zO;cases zO;cases k<;>simp_all [wr]⟩) gJ gq (by simp) QI
  .rw[jy s b _ yN];exact Ext.upd (.h b) _ _ [.h b] (.inl ⟨by simp[hg],rfl,by simp[hm],fun b0 zO=>by rw[hg]at zO;cases zO;cases k<;>simp_all [wr]⟩) IK gJ gq (by simp) rfl rfl rfl
  .intro j l hj;simp[dK,hj]
end
section
variable {P:Program} {M:Mp} {D:Key->Prop} {w:World} {s:St}
theorem IQ{at_:Array TypeId}{ty:TypeId}{d x r:TV}{s1:St}{i:lZ}{dv xv:Value}(hV:Valid M D s.get w)(yL:M (.h s.heap.length)=none)
  (h:kH P at_ s d x=some (r,s1,i)) (hd:VR M.h d dv) (hx:VR M.h x xv) (hD:∀k∈i.ts,D k) :
  s1.env=s.env∧BOk P M D s.get w (Builtin.append_ at_ ty #[dv,xv]) r s1.get i.ws:=by
 unfold kH at h;split at h
 case h_2=>simp at h
 rename_i st xt h0 h1;split at h
 .simp at h
 rename_i hint;obtain⟨dd,Ko,hdd⟩:=YJ hint;split at h
 case h_2=>simp at h
 rename_i e size zQ;obtain⟨hu,hn,hn0⟩:=qQ zQ;split at h
 case h_2=>simp at h
 rename_i n new mJ;split at h
 .-- nothing
  rename_i hz;subst hz;have key:∀(base:Option Addr) (l c:Nat),dv=.slice base l c->l<=c->(∀k∈dI x,D k)->(Builtin.append_ at_ ty #[dv,xv]).run P w=.ok dv w:=by
   intro base l c e hlc hDk;obtain⟨s1',s2',arr,TY,s4'⟩:=CG (P:=P) (fun b=>rfl) hV mJ hx hDk;refine VN h0 h1 hu hn Ko hdd e s1' hlc (TY w rfl) ?_;have a4K:new=[]:=by
    unfold fH at mJ;split at mJ
    .simp at mJ;exact mJ
    .split at mJ
     .split at mJ
      .simpa using mJ
      split at mJ
      .simp only[a0f,a0u]at mJ;obtain⟨r',hr',e1,e2⟩:=mJ;subst e2;exact a4c (by rw[(um hr').2.2,e1];simp)
      .simp at mJ
     .simp at mJ
    .split at mJ
     .simp at mJ;obtain⟨e1,e2⟩:=mJ;rw[<-e2];rename_i bs _;have:bs.data.toList=[]:=a4c (by simpa using e1);simp[this]
     .simp at mJ
    .simp at mJ
   rw[a4K]at s4';exact s4'.qc
  split at h
  .simp at h;obtain⟨rfl,rfl,rfl⟩:=h;have YL:=hd;cases hd;exact⟨rfl,_,w,M,key none 0 0 rfl (a0w _) hD,.same hV (.val YL)⟩
  .split at h
   .simp at h;obtain⟨rfl,rfl,rfl⟩:=h;have YL:=hd;cases hd with
    |slc hb hp Fg hle wC hex ha hk=>
     exact⟨rfl,_,w,M,key _ _ _ rfl (by omega) hD,.same hV (.val YL)⟩
   .simp at h
  .simp at h
 rename_i hz;split at h
 case isFalse=>simp at h
 rename_i hlen;have abx:new≠[]:=by
  intro e;have:0<n*size:=Nat.mul_pos (by omega) hn0;rw[e]at hlen;simp only[a4H]at hlen;omega
 split at h
 .-- nil
  split at h
  case isFalse=>simp at h
  rename_i JZ;simp at h;obtain⟨rfl,rfl,rfl⟩:=h;obtain⟨inf,z,hi,hiz,hzs,Cm,xR,hb3,hb4⟩:=zY JZ;obtain⟨s1',s2',arr,TY,s4'⟩:=CG (P:=P) (fun b=>rfl) hV mJ hx hD;have uT:inf.size=size:=by obtain⟨i',e1,e2⟩:=Fa hn;rw[hi]at e1;cases e1;exact e2
  cases hd;obtain⟨kP,c1,c1',c2⟩:=Fj (P:=P) (w:=w) (ty:=ty) (base:=none) (sLen:=0) (sCap:=0) (old:=#[]) (new:=arr) h0 h1 hu hn Ko hdd hi hiz rfl s1' (by omega) (by simpa using Cm) (by omega) hb3
   (fun w' hw'=>by simp[Builtin.firstCells]) TY
  simp only[a3Z]at c1 c2;obtain⟨M',hp⟩:=VO (size:=size) (len:=n) (rest:=Builtin.zeroCells z.cells (kP-n)) (e:=e) (pre:=#[]++arr) hV yL (by simpa using s4') s2' hlen c1 c1' (by rw[wE,hzs,uT]);exact⟨rfl,_,_,M',c2,hp⟩
 .-- a slice
  rename_i b off len cap sz ex;split at h
  case isFalse=>simp at h
  rename_i adI;subst adI;have hd0:=hd;cases hd with
  |slc hb hp Fg hle wC hex ha hk=>
  rename_i ls p a cap';split at h
  .-- room
   rename_i ang;simp only[a0f,a0u]at h;obtain⟨hp',Fq,rfl,rfl,rfl⟩:=h;obtain⟨kk,Bo,cs,cs',hbc,xP,ho,rfl⟩:=IJ Fq;have hDs:∀k∈dI x,D k:=fun k hk=>hD k (a3n _ hk);obtain⟨s1',s2',arr,TY,s4'⟩:=CG (P:=P) (fun b=>rfl) hV mJ hx hDs;have hg:s.get (.h b)=some (.cells kk cs):=(by simp[St.get,hbc]);have yN:=(a0d.1 hbc).1;rcases ha with ha|⟨rfl,ha⟩
   .omega
   have hDb:=hD (.h b) (by simp);have hp:=hp.resolve_left (by omega);obtain⟨w',r1,r2,r3⟩:=yK (P:=P) hV hb hDb hg hp (hV.YA hb hDb hg hp Fg xP) ho s4' s2';obtain⟨o1,o2,o3⟩:=vS ho;have hmul:len*sz+n*sz=(len+n)*sz:=(by rw[a3k]);refine⟨rfl,_,w',M,QX (P:=P) (w:=w) (ty:=ty) (a:=⟨p.c,p.base+off,none⟩) h0 h1 hu hn Ko hdd rfl s1' (by omega) (TY w rfl) (by rw[uj,a9M];exact r1),⟨?_,?_,?_,fun _ _ h=>h⟩⟩
   .rw[jy s b _ yN];exact⟨fun k l hk hd=>r2.ok k l hk (hd.elim id fun⟨x1,x2⟩=>by
      simp only[lT]at x2;split at x2
      .rename_i e;subst e;rw[hg]at x1;cases x1
      .simp[x1]at x2),fun k k' l l' b' a1 a2 a3 hd=>r2.own k k' l l' b' a1 a2 a3 (hd.elim id fun⟨x1,x2⟩=>by
      simp only[lT]at x2;split at x2
      .rename_i e;subst e;rw[hg]at x1;cases x1
      .simp[x1]at x2),r2.inb⟩
   .rw[jy s b _ yN];exact r3
   .exact .val (.slc hb (.inr hp) (by omega) (by omega) wC hex (.inr ⟨rfl,ha⟩) hk)
  .rename_i ang;split at h
   case isFalse=>simp at h
   rename_i JZ;obtain⟨inf,z,hi,hiz,hzs,Cm,xR,hb3,hb4⟩:=zY JZ;have uT:inf.size=sz:=by obtain⟨i',e1,e2⟩:=Fa hn;rw[hi]at e1;cases e1;exact e2
   have hmul:len*sz+n*sz=(len+n)*sz:=(by rw[a3k]);split at h
   .-- exact: always a new row
    rename_i ahx;have NJ:=hex ahx;simp only[a0f,a0u]at h;obtain⟨⟨l0,old⟩,qB,rfl,rfl,rfl⟩:=h;obtain⟨_,qJ,hold⟩:=TU qB;rw[qJ]at qB;have hDs:∀k∈dI x,D k:=fun k hk=>hD k (a3n _ hk);obtain⟨s1',s2',arr,TY,s4'⟩:=CG (P:=P) (fun b=>rfl) hV mJ hx hDs;obtain⟨t1',t2',a4L,t3',t4'⟩:=CG (P:=P) (fun b=>rfl) hV qB hd0 (fun k hk=>hD k (by simp[dI]at hk;simp[hk,iq]));obtain⟨kP,c1,c1',c2⟩:=Fj (P:=P) (w:=w) (ty:=ty) (base:=some a) (sLen:=len) (sCap:=cap') (old:=a4L) (new:=arr) h0 h1 hu hn Ko hdd hi hiz rfl s1' (by omega) Cm xR hb3 t3' TY;obtain⟨M',ahy⟩:=VO (size:=sz) (len:=len+n) (rest:=Builtin.zeroCells z.cells (kP-(len+n))) (e:=e) (pre:=a4L++arr) hV yL (by simpa using t4'.append s4') (fun c hc=>(a2Y.1 hc).elim (t2' c) (s2' c)) (by simp[hold,hlen,hmul]) c1 c1' (by rw[wE,hzs,uT]);exact⟨rfl,_,_,M',c2,ahy⟩
   .-- it grows
    split at h
    case h_2=>simp at h
    rename_i ahx _ k cs hbc;split at h
    .simp at h
    .rename_i QV;simp only[adn,ne_eq,Decidable.not_not]at QV;have hkc:=hk;obtain⟨hk,rfl,rfl,qm,qJ⟩:=QV;have hp:=hp.resolve_left (by omega);simp only[a03,a0u]at h;obtain⟨rfl,rfl,rfl⟩:=h;have hDs:∀k∈dI x,D k:=fun k hk=>hD k (a3n _ hk);have hDb:=hD (.h b) (by simp);obtain⟨s1',s2',arr,TY,s4'⟩:=CG (P:=P) (fun b=>rfl) hV mJ hx hDs;have hg:s.get (.h b)=some (.cells k cs):=(by simp[St.get,hbc]);have hnb:∀(M':Mp) (w':World),Valid M' D (St.get { s with heap:=s.heap.set b (.cells k.more (cs++new)) }) w' ->
       Valid M' (fun j=>D j∨(s.get j=none∧(St.get { s with heap:=s.heap.set b (.cells k.more (cs++new)) } j).isSome=true)) (St.get { s with heap:=s.heap.set b (.cells k.more (cs++new)) }) w':=by
      intro M' w' hv;have aux:∀j,(D j∨(s.get j=none∧(St.get { s with heap:=s.heap.set b (.cells k.more (cs++new)) } j).isSome=true))->D j:=by
       intro j hj;rcases hj with hj|⟨x1,x2⟩
       .exact hj
       .rw[jy s b _ (a0d.1 hbc).1]at x2;simp only[lT]at x2;split at x2
        .rename_i e;subst e;exact hDb
        .simp[x1]at x2
      exact⟨fun k l hk hd=>hv.ok k l hk (aux k hd),fun k k' l l' b' a1 a2 a3 hd=>hv.own k k' l l' b' a1 a2 a3 (aux k hd),hv.inb⟩
     have arp:arr.size=n*sz:=by have:=s4'.len;simp at this;omega
     have ahz:p.base=0∧p.ext<=cs.length:=by
      obtain⟨gy,q1,q2⟩:=hV.ok _ _ hb hDb;rw[hg]at q1;cases q1;exact⟨(q2.2.1 p hp).base hk,(q2.2.1 p hp).ext⟩
     by_cases CJ:len+n<=cap'
     .-- in place
      rcases ha with ha|⟨rfl,ha⟩
      .omega
      have abw:(len+n)*sz<=cap'*sz:=a3m sz CJ;have Fb:∀v∈arr.toList,v.oneCell'=true:=by
       intro v hv;obtain⟨i,hi,rfl⟩:=a4G.1 hv;have vZ:i<new.length:=by simp at hi;omega
       exact IG (s4'.at_ i new[i] arr.toList[i] (by simp[vZ]) (by simp)) (s2' _ (a4r vZ))
      obtain⟨gy,q1,q2⟩:=hV.ok _ _ hb hDb;rw[hg]at q1;cases q1;obtain⟨row,rty,rfz,z1,z2,z3,z4⟩:=(q2.2.1 p hp).row;have:=z3 hk;subst this;have vH:=run_storeCells_at (P:=P) p.c cs.length rty arr.toList 0 row w z1 (by simp;omega) Fb;obtain⟨M',q,v1,v2,v3,⟨xM,v4,v5⟩,v6,v7,v8⟩:=a0s (P:=P) hV hb hDb hbc hk hp (by omega) s4' s2' abx true #[] #[] 0 (.inl ⟨rfl,by omega,vH⟩);rcases v8 with⟨_,v9,v10⟩|⟨v9,_⟩
      .refine⟨rfl,_,_,M',QX (P:=P) (w:=w) (ty:=ty) (a:=⟨p.c,p.base+0,none⟩) h0 h1 hu hn Ko hdd rfl s1' CJ (TY w rfl) (by rw[uj,ahz.1];simp only[a3Z,adv];rw[<-qm];exact vH),⟨hnb _ _ v1,v2,?_,v3⟩⟩;refine .val (.slc v4 (.inr v5) (by omega) (a0w _) CJ (fun h=>by simp at h) (.inr ⟨by rw[v9,v7,ahz.1],by rw[v7,v10];omega⟩) hkc)
      .cases v9
     .-- a new row
      have qB:fH sz s.heap (.slc b 0 len len sz ex)=some (len,cs):=by
       have:sub cs 0 (len*sz)=some cs:=by
        unfold sub;rw[a0q (by omega)];simp[<-qm]
       simp[fH,mg,hbc,this,qm,qJ]
      obtain⟨t1',t2',a4L,t3',t4'⟩:=CG (P:=P) (fun b=>rfl) hV qB hd0 (fun k hk=>by simp[dI]at hk;rw[hk];exact hDb);obtain⟨kP,c1,c1',c2⟩:=Fj (P:=P) (w:=w) (ty:=ty) (base:=some a) (sLen:=len) (sCap:=cap') (old:=a4L) (new:=arr) h0 h1 hu hn Ko hdd hi hiz rfl s1' (by omega) Cm xR hb3 t3' TY;obtain⟨M',q,v1,v2,v3,⟨xM,v4,v5⟩,v6,v7,v8⟩:=a0s (P:=P) hV hb hDb hbc hk hp (by omega) s4' s2' abx false a4L (Builtin.zeroCells z.cells (kP-(len+n))) e (.inr ⟨rfl,t4',rfl⟩);rcases v8 with⟨v9,_⟩|⟨_,v10,v11⟩
      .cases v9
      .refine⟨rfl,_,_,M',c2,⟨hnb _ _ v1,v2,?_,v3⟩⟩;refine .val (.slc v4 (.inr v5) (by omega) (a0w _) c1 (fun h=>by simp at h) (.inr ⟨by rw[v10,v7],?_⟩) c1');rw[v11,v7];have Qc:=t4'.len;simp only[a9B]at Qc;have hm3:(len+n)*sz+(kP-(len+n))*sz=kP*sz:=by rw[<-a3k];congr 1;omega
       simp only[Array.size_append,wE,hzs,uT];omega
 .simp at h
end
section
variable {P:Program} {M:Mp} {D:Key->Prop} {w:World} {s:St}
theorem a4N{cs l:List TV}{off n m:Nat}(h:sub cs off n=some l)(hm:m<=n):sub cs off m=some (l.take m):=by
 obtain⟨h1,h2,h3⟩:=um h;unfold sub;rw[a0q (by omega),h2,aew,a8m hm]
theorem U0{at_:Array TypeId}{ty:TypeId}{d x r:TV}{s1:St}{i:lZ}{dv xv:Value}(hV:Valid M D s.get w)
  (h:Gg P at_ s d x=some (r,s1,i)) (hd:VR M.h d dv) (hx:VR M.h x xv) (hD:∀k∈i.ts,D k) :
  s1.env=s.env∧BOk P M D s.get w (Builtin.copy_ at_ ty #[dv,xv]) r s1.get i.ws:=by
 unfold Gg at h;split at h
 case h_2=>simp at h
 rename_i st h0;split at h
 case h_2=>simp at h
 rename_i e size zQ;obtain⟨hu,hn,hn0⟩:=qQ zQ;split at h
 case h_2=>simp at h
 rename_i n new mJ;split at h
 case isFalse=>simp at h
 rename_i hlen;obtain⟨hlen,NM⟩:=hlen;have first:∀(m:Nat),m<=n->(∀k∈dI x,D k)->(Builtin.lenOf xv).run P w=.ok n w∧(∀c∈new.take (m*size),iU c=true) ∧
   ∃arr,(Builtin.firstCells size m xv).run P w=.ok arr w∧bZ M.h (new.take (m*size)) arr.toList:=by
  intro m hm hDs;obtain⟨s1',s2',arr,TY,s4'⟩:=CG (P:=P) (fun b=>rfl) hV mJ hx hDs;refine⟨s1',fun c hc=>s2' c (a8L hc),?_⟩;have hmul:m*size<=n*size:=a3m size hm;cases hx with
  |TN=>
   unfold fH at mJ;simp at mJ;obtain⟨rfl,rfl⟩:=mJ;exact⟨#[],by simp[Builtin.firstCells],by simpa using bZ.nil⟩
  |slc hb hp Fg hle wC hex ha hk=>
   rename_i b off len cap sz ex ls p a cap';unfold fH at mJ;simp only at mJ;split at mJ
   case isFalse=>simp at mJ
   rename_i uT;subst uT;split at mJ
   .rename_i hz;simp at mJ;obtain⟨rfl,rfl⟩:=mJ;have:m=0:=(by omega);subst this;exact⟨#[],by simp[Builtin.firstCells,loadCells,loadCellsFrom],by simpa using bZ.nil⟩
   split at mJ
   case h_2=>simp at mJ
   rename_i cs hbc;simp only[a0f,a0u]at mJ;obtain⟨r',hr,rfl,rfl⟩:=mJ;obtain⟨k,hk,VJ⟩:=xO hbc;obtain⟨gy,h1,h2⟩:=hV.ok _ _ hb (hDs _ (by simp[dI]));simp only[St.get,hk,a03]at h1;subst h1;by_cases h00:cap'=0
   .have qJ:len=0:=(by omega);subst qJ;have:m=0:=(by omega);subst this;exact⟨#[],by simp[Builtin.firstCells,loadCells,loadCellsFrom],by simpa using bZ.nil⟩
   .rcases ha with ha|⟨rfl,ha⟩
    .exact absurd ha h00
    .obtain⟨xs,x1,x2⟩:=yB (P:=P) (h2.2.1 p (hp.resolve_left h00)) (a4N hr hmul) (by have:=a3m sz hle;omega) (fun e=>by have:=VJ e;have:=(h2.2.1 p (hp.resolve_left h00)).ext;omega);exact⟨xs.toArray,by simp[Builtin.firstCells,x2 w rfl],x1⟩
  |str bs=>simp[isStr]at NM
  |_=>simp[fH]at mJ
 split at h
 .simp at h;obtain⟨rfl,rfl,rfl⟩:=h;cases hd;obtain⟨f1,f2,arr,f3,f4⟩:=first 0 (a4C _) hD
  have f5:=f4.len;simp at f5;exact⟨rfl,.int .i64 0,w,M,by simp[Builtin.copy_,h0,run_underlying hu,f1,dh hn,f3,goInt],.same hV (.val (.int _ _))⟩
 .rename_i b off len cap sz ex;split at h
  case isFalse=>simp at h
  rename_i uT;subst uT;have hd0:=hd;cases hd with
  |slc hb hp Fg hle wC hex ha hk=>
  rename_i ls p a cap';split at h
  .rename_i hm;simp at h;obtain⟨rfl,rfl,rfl⟩:=h;obtain⟨f1,f2,arr,f3,f4⟩:=first 0 (a4C _) hD
   have f5:arr.toList=[]:=by
    have:=f4.len;simp only[abV,List.take_zero,a4H]at this;exact a4c this.symm
   refine⟨rfl,.int .i64 0,w,M,?_,.same hV (.val (.int _ _))⟩;have e1:Nat.min n len=0:=hm;simp[Builtin.copy_,h0,run_underlying hu,f1,dh hn,e1,f3,goInt,f5,storeCells]
  .rename_i hm;simp only[a0f,a0u]at h;obtain⟨hp',Fq,rfl,rfl,rfl⟩:=h;obtain⟨kk,Bo,cs,cs',hbc,xP,ho,rfl⟩:=IJ Fq;obtain⟨f1,f2,arr,f3,f4⟩:=first (min n len) (Nat.min_le_left _ _) (fun k hk=>hD k (a3n _ hk))
   have hg:s.get (.h b)=some (.cells kk cs):=(by simp[St.get,hbc]);have yN:=(a0d.1 hbc).1;rcases ha with ha|⟨rfl,ha⟩
   .omega
   obtain⟨w',r1,r2,r3⟩:=yK (P:=P) hV hb (hD (.h b) (by simp)) hg (hp.resolve_left (by omega)) (hV.YA hb (hD (.h b) (by simp)) hg (hp.resolve_left (by omega)) Fg xP) ho f4 f2;refine⟨rfl,.int .i64 (min n len:Nat),w',M,?_,⟨?_,?_,.val (.int _ _),fun _ _ h=>h⟩⟩
   .have e1:Nat.min n len=min n len:=rfl;simp[Builtin.copy_,h0,run_underlying hu,f1,dh hn,e1,f3,goInt,r1]
   .rw[jy s b _ yN];exact r2.widen (DX (by simp[hg]))
   .rw[jy s b _ yN];exact r3
 .simp at h
end
section
variable {P:Program} {M:Mp} {D:Key->Prop} {w:World} {s:St} {N:Np}
theorem bI{α β:Type}(x:Sem α)(f:α->Sem β):aB P (x >>= f)=(aB P x).bind fun a=>aB P (f a):=by
 show aB P (x.bind f)=_
 induction x with
 |pure a=>rfl
 |program k ih=>exact ih P
 |mark m k ih=>exact ih
 |_=>rfl
def IU(b:Nat->Bool)(L:List MapEntry)(i0:Nat):Option (Nat×Value)->Prop
 |none=>∀i,i<L.length->b i=false
 |some (i,v)=>i0<=i∧b (i-i0)=true∧∃x,L[i-i0]? = some x∧v=x.val
theorem IU.succ{b:Nat->Bool}{e:MapEntry}{L:List MapEntry}{i0:Nat}{r:Option (Nat×Value)}(hb:b 0=false)(h:IU (fun i=>b (i+1)) L (i0+1) r):IU b (e::L) i0 r:=by
 cases r with
 |none=>
  intro i hi;cases i with
  |zero=>exact hb
  |succ i=>exact h i (by simpa using hi)
 |some r=>
  obtain⟨h1,h2,x,h3,h4⟩:=h;have e1:r.1-i0=(r.1-(i0+1))+1:=by omega
  refine⟨by omega,by rw[e1];exact h2,x,by rw[e1];simpa using h3,h4⟩
theorem Kq(kind:TypeDesc)(k:Value):∀(L:List MapEntry) (i0:Nat) (b:Nat->Bool),(∀i x,L[i]? = some x->Instr.sameNow kind k x.key=some (b i)) ->
  ∃r,Instr.findNow kind k L i0=some r∧IU b L i0 r
 | [],i0,b,_=>⟨none,rfl,fun i hi=>absurd hi (by simp)⟩
 |e::L,i0,b,h=>by
  have h0:=h 0 e rfl;obtain⟨r,g1,g2⟩:=Kq kind k L (i0+1) (fun i=>b (i+1)) fun i x hx=>h (i+1) x (by simpa using hx);simp only[Instr.findNow,h0];cases hb:b 0 with
  |true=>exact⟨_,rfl,a0w _,by simpa using hb,e,by simp,rfl⟩
  |false=>exact⟨r,g1,g2.succ hb⟩
theorem CO(kt:TypeId)(k:Value):∀(L:List MapEntry) (i0:Nat) (b:Nat->Bool),(∀i x,L[i]? = some x->aB P (Op.equal kt k x.key)=some (b i)) ->
  ∃r,(∀w,(Instr.findAsking kt k L i0).run P w=.ok r w)∧IU b L i0 r
 | [],i0,b,_=>⟨none,fun w=>rfl,fun i hi=>absurd hi (by simp)⟩
 |e::L,i0,b,h=>by
  have h0:=fun w=>iZ (h 0 e rfl) w;obtain⟨r,g1,g2⟩:=CO kt k L (i0+1) (fun i=>b (i+1)) fun i x hx=>h (i+1) x (by simpa using hx);cases hb:b 0 with
  |true=>exact⟨some (i0,e.val),fun w=>by simp[Instr.findAsking,h0 w,hb],a0w _,by simpa using hb,e,by simp,rfl⟩
  |false=>exact⟨r,fun w=>by simp[Instr.findAsking,h0 w,hb,g1 w],g2.succ hb⟩
theorem a0v:∀{l:List TV} {vs:List Value},BI l=some vs->∀(i:Nat) (c:TV),l[i]? = some c->∃v,vs[i]? = some v∧c.yx=some v
 | [],vs,h,i,c,hc=>by simp at hc
 |a::l,vs,h,i,c,hc=>by
  simp only[BI]at h;split at h
  .rename_i v ws h1 h2;cases h;cases i with
   |zero=>simp at hc;subst hc;exact⟨v,rfl,h1⟩
   |succ i=>simpa using a0v h2 i c (by simpa using hc)
  cases h
def FR(N:Np)(o:List Nat)(es:List (TV×TV))(xs:Array MapEntry):Option Nat->Option (Nat×Value)->Prop
 |none,none=>True
 |some j,some (i,v)=>o[i]? = some j∧∃e x,es[j]? = some e∧xs[i]? = some x∧v=x.val∧VR N e.1 x.key∧VR N e.2 x.val
 |_,_=>False
theorem Gp{o:List Nat}{kt:TypeId}{k:Value}{es:List (TV×TV)}{r:Option Nat}{xs:Array MapEntry}(h:EG P kt k es=some r)(hx:wu N o es xs) :
  (∀w,(Instr.checkKey xs.isEmpty 10000 kt k).run P w=.ok () w)∧∃r',(∀w,(Instr.findKey kt k xs.toList).run P w=.ok r' w) ∧
   FR N o es xs r r':=by
 unfold EG at h;split at h
 case h_2=>simp at h
 rename_i ks EL;split at h
 case h_2=>simp at h
 rename_i r0 hr;split at h
 case isFalse=>simp at h
 rename_i QZ;cases h;generalize r0.map (·.1)=r at QZ ⊢;have hl:es.isEmpty=xs.isEmpty:=by
  rw[a4E];simp[List.isEmpty_iff,<-a8d,hx.len]
 have JX:ks.length=es.length:=by
  have:∀{l:List TV} {vs:List Value},BI l=some vs->vs.length=l.length:=by
   intro l
   induction l with
   |nil=>intro vs h;simp[BI]at h;subst h;rfl
   |cons a l ih=>
    intro vs h;simp only[BI]at h;split at h
    .rename_i v ws h1 h2;cases h;simp[ih h2]
    .cases h
  simpa using this EL
 rw[bI]at hr;cases hc:aB P (Instr.checkKey es.isEmpty 10000 kt k)with
 |none=>simp[hc]at hr
 |some u=>
  refine⟨fun w=>by rw[<-hl];exact iZ hc w,?_⟩;unfold VB at QZ;split at QZ
  case h_2=>simp at QZ
  rename_i kind hd;have hdr:=fun w=>iZ hd w;simp only[a2n]at QZ;obtain⟨hj,hs⟩:=QZ;have a8Y:∀(i:Nat) (x:MapEntry),xs.toList[i]? = some x->∃(j:Nat) (e:TV×TV),o[i]? = some j∧es[j]? = some e∧VR N e.1 x.key∧VR N e.2 x.val∧ks[j]? = some x.key:=by
   intro i x hi;obtain⟨_,j,e,h1,h2,h3,h4⟩:=hx.at_ i x (by simpa using hi);obtain⟨v,g1,g2⟩:=a0v EL j e.1 (by simp[h2]);exact⟨j,e,h1,h2,h3,h4,by rw[g1,wo g2 h3]⟩
  let b:Nat->Bool:=fun i=>o[i]? == r
  have hb:∀i j,o[i]? = some j->b i=(some j==r):=fun i j h=>by simp only[b,h]
  have fin:∀r',IU b xs.toList 0 r'->FR N o es xs r r':=by
   intro r' hf;cases r' with
   |none=>
    cases r with
    |none=>trivial
    |some j=>
     simp only[a1o]at hj;obtain⟨i,hi⟩:=a8I.1 (hx.sur j (by omega));have h1:=hf i (by have:=(a0d.1 hi).1;have:=hx.ord;simp;omega);rw[hb i j hi]at h1;simp at h1
   |some q=>
    obtain⟨i,v⟩:=q;obtain⟨_,h1,x,h2,h3⟩:=hf;simp only[Nat.sub_zero]at h1 h2;obtain⟨j,e,g1,g2,g3,g4,_⟩:=a8Y i x h2;rw[hb i j g1]at h1;simp only[a7H]at h1;subst h1;exact⟨g1,e,x,g2,by simpa using h2,h3,g3,g4⟩
  have Fv:∀{p:Value×Nat->Bool},ks.zipIdx.all p=true->∀j x,ks[j]? = some x->p (x,j)=true:=by
   intro p hp j x hjx;exact a4x.1 hp (x,j) (a9n.2 (by simpa using hjx))
  unfold Instr.findKey;rcases a8R _ _▸hs with hs|hs
  .obtain⟨r',g1,g2⟩:=Kq kind k xs.toList 0 b fun i x hi=>by
    obtain⟨j,e,h1,_,_,_,h5⟩:=a8Y i x hi;have:=Fv hs j _ h5;simp only[a7H]at this;rw[this,hb i j h1]
   exact⟨r',fun w=>by simp[hdr w,g1],fin r' g2⟩
  .by_cases h0:xs.toList=[]
   .refine⟨none,fun w=>by simp[hdr w,h0,Instr.findNow],fin none (by rw[h0];intro i hi;simp at hi)⟩
   .have Yq:Instr.findNow kind k xs.toList 0=none:=by
     cases hL:xs.toList with
     |nil=>exact absurd hL h0
     |cons x L=>
      obtain⟨j,e,h1,_,_,_,h5⟩:=a8Y 0 x (by rw[hL];rfl);have:=Fv hs j _ h5;simp only[a2n,a7H]at this;simp only[Instr.findNow,this.1]
    obtain⟨r',g1,g2⟩:=CO (P:=P) kt k xs.toList 0 b fun i x hi=>by
     obtain⟨j,e,h1,_,_,_,h5⟩:=a8Y i x hi;have:=Fv hs j _ h5;simp only[a2n,a7H]at this;rw[this.2,hb i j h1]
    exact⟨r',fun w=>by simp[hdr w,Yq,g1 w],fin r' g2⟩
theorem DZ{t:TypeId}{m k r:TV}{ok:Bool}{mv kv:Value}(hV:Valid M D s.get w)(h:gZ P t s.heap m k ok=some r)(hm:VR M.h m mv)(hk:VR M.h k kv)
  (hD:∀j∈(match m with|.map r=>[Key.h r] |_=>[]),D j):∃z,VR M.h r z∧(Instr.lookup t mv kv ok).run P w=.ok z w:=by
 unfold gZ at h;split at h
 case h_2=>simp at h
 rename_i kt e kx hu hkx;have:=wo hkx hk;subst this;simp only at h;have main:∀(o:List Nat) (es:List (TV×TV)) (xs:Array MapEntry),wu M.h o es xs->((mv=.map none∧xs=#[])∨∃r1 ck,mv=.map (some r1)∧w.heap[r1]? = some (.map xs ck)) ->
   (match EG P kt kv es with
   |some (some i)=>match es[i]? with
    |some (_,v)=>some (if ok then .dF [v,.bool true]else v)
    |none=>none
   |some none=>match P.info? e with
    |some i=>match i.zero with
     |some z=>(TV.Vw z).map fun z=>if ok then .dF [z,.bool false]else z
     |none=>none
    |none=>none
   |none=>none)=some r->∃z,VR M.h r z∧(Instr.lookup t mv kv ok).run P w=.ok z w:=by
  intro o es xs hx vH h;cases hf:EG P kt kv es with
  |none=>simp[hf]at h
  |some r0=>
   rw[hf]at h;obtain⟨c1,r',c2,c3⟩:=Gp hf hx;cases r0 with
   |some j=>
    cases r' with
    |none=>exact c3.elim
    |some jv=>
     obtain⟨j',v⟩:=jv;obtain⟨_,e',x',e1,e2,rfl,_,hv⟩:=c3;simp only[e1,a03]at h;subst h;refine⟨if ok then .tuple #[x'.val,.bool true]else x'.val,?_,?_⟩
     .cases ok
      .exact hv
      .exact .Qh (.cons hv (.cons (.bool true) .nil))
     .rcases vH with⟨rfl,rfl⟩|⟨r1,ck,rfl,hmp⟩
      .simp only[Instr.lookup,Sem.run_bind,run_underlying hu,Result.andThen_ok,c1 w,c2 w,Sem.run_pure]
      .simp only[Instr.lookup,Sem.run_bind,run_underlying hu,Result.andThen_ok,getObj,Sem.run,hmp,c1 w,c2 w,Sem.run_pure]
   |none=>
    cases r' with
    |some jv=>exact c3.elim
    |none=>
     simp only at h;split at h
     case h_2=>simp at h
     rename_i inf hi;split at h
     case h_2=>simp at h
     rename_i z hz;simp only[a0f]at h;obtain⟨zt,hzt,rfl⟩:=h;have hv:VR M.h zt z:=.yA hzt;refine⟨if ok then .tuple #[z,.bool false]else z,?_,?_⟩
     .cases ok
      .exact hv
      .exact .Qh (.cons hv (.cons (.bool false) .nil))
     .have hzr:(zeroValue e).run P w=.ok z w:=(by simp[zeroValue,iV hi,hz]);rcases vH with⟨rfl,rfl⟩|⟨r1,ck,rfl,hmp⟩
      .simp only[Instr.lookup,Sem.run_bind,run_underlying hu,Result.andThen_ok,c1 w,c2 w,Sem.run_pure,hzr]
      .simp only[Instr.lookup,Sem.run_bind,run_underlying hu,Result.andThen_ok,getObj,Sem.run,hmp,c1 w,c2 w,Sem.run_pure,hzr]
 cases hm with
 |Yy=>exact main [] [] #[] ⟨rfl,rfl,.nil,by simp,by simp⟩ (.inl ⟨rfl,rfl⟩) h
 |map hmm=>
  rename_i r0 r1 o1;obtain⟨gy,b1,b2⟩:=hV.ok _ _ hmm (hD _ (by simp));simp only[St.get]at b1;simp only[b1]at h;cases gy with
  |map es=>
   obtain⟨xs,g1,g2⟩:=b2;exact main o1 es xs g2 (.inr ⟨r1,xs.size,rfl,g1⟩) h
  |cells k cs=>exact b2.elim
  |loop=>simp at h
  |mark=>simp at h
  |mZ=>simp at h
  |dn=>simp at h
 |_=>simp at h
end
section
variable {P:Program} {M:Mp} {D:Key->Prop} {w:World} {s:St}
theorem yO(hV:Valid M D s.get w){r r1:Nat}{o o':List Nat}{es gu:List (TV×TV)}{xs xs':Array MapEntry}(hm:M (.h r)=some (.obj r1 o))(hd:D (.h r))(hb:s.heap[r]? = some (.map es))
  (hr:w.heap[r1]? = some (.map xs xs.size)) (ho:o <+: o') (hx:wu (dK M (.h r) (.obj r1 o')).h o' gu xs') :
  Valid (dK M (.h r) (.obj r1 o')) (fun j=>D j∨(s.get j=none∧(St.get { s with heap:=s.heap.set r (.map gu) } j).isSome=true)) (St.get { s with heap:=s.heap.set r (.map gu) }) { w with heap:=w.heap.setIfInBounds r1 (.map xs' xs'.size) } ∧
  Ext M s.get w (dK M (.h r) (.obj r1 o')) (St.get { s with heap:=s.heap.set r (.map gu) }) { w with heap:=w.heap.setIfInBounds r1 (.map xs' xs'.size) } [.h r]:=by
 have hg:s.get (.h r)=some (.map es):=by simp[St.get,hb]
 have yN:=(a0d.1 hb).1;have hle:su M (dK M (.h r) (.obj r1 o')):=mG fun l0 h0=>by rw[hm]at h0;cases h0;exact⟨rfl,ho⟩
 have aQ:r1<w.heap.size:=(a2q.1 hr).1;have gJ:∀c,c<w.heap.size->c∉aI (.obj r1 o')->(w.heap.setIfInBounds r1 (Obj.map xs' xs'.size))[c]? = w.heap[c]?:=fun c _ hc=>by
  rw[a8J,a0p (by simp[aI]at hc;omega)]
 have gq:∀c∈aI (.obj r1 o'),(∃l0,M (.h r)=some l0∧c∈aI l0)∨w.heap.size<=c:=fun c hc=>.inl ⟨_,hm,hc⟩;constructor
 .rw[jy s r _ yN];refine Valid.widen ?_ (DX (by simp[hg]));exact hV.upd (D':=D) (w':={ w with heap:=w.heap.setIfInBounds r1 (.map xs' xs'.size) }) (.h r) (.map gu) (.obj r1 o') (fun j hj=>.inl hj) (fun l0 h0=>by
   rw[hm]at h0;cases h0;exact⟨hd,⟨rfl,ho⟩,fun b0 zO=>by rw[hg]at zO;cases zO;rfl⟩) gJ gq (by simp) ⟨xs',by simp[aQ],hx⟩
 .rw[jy s r _ yN];exact Ext.upd (M:=M) (C:=s.get) (w:=w) (w':={ w with heap:=w.heap.setIfInBounds r1 (.map xs' xs'.size) }) (.h r) (.map gu) (.obj r1 o') [.h r] (.inl ⟨by simp[hg],rfl,by simp[hm],fun b0 zO=>by rw[hg]at zO;cases zO;rfl⟩) hle gJ gq (by simp) rfl rfl rfl
theorem wu.lt{N:Np}{o:List Nat}{es:List (TV×TV)}{xs:Array MapEntry}(g2:wu N o es xs):∀j∈o,j<es.length:=fun j hj=>by
 obtain⟨i,hi⟩:=a8I.1 hj;have:i<xs.size:=by rw[<-g2.ord];exact(a0d.1 hi).1
 obtain⟨_,j',e,z1,z2,_⟩:=g2.at_ i _ (a4a this);rw[hi]at z1;cases z1;exact(a0d.1 z2).1
theorem wu.upd{N N':Np}{o:List Nat}{es:List (TV×TV)}{xs:Array MapEntry}(g2:wu N o es xs)(hle:su N N'){i j:Nat}{x':MapEntry}{f:MapEntry->MapEntry}{k v:TV}
  (q1:o[i]? = some j) (e2:xs[i]? = some x') (hb:(f x').born=x'.born) (hk:VR N' k (f x').key) (hv:VR N' v (f x').val):wu N' o (es.set j (k,v)) (xs.modify i f):=by
 have g3:=g2.mono hle;refine⟨by simp[g2.len],by simp[g2.ord],g2.nod,fun j' DV=>g2.sur j' (by simpa using DV),fun a x h2=>?_⟩;rw[abC]at h2;by_cases ha:i=a
 .subst ha;rw[a0q rfl,e2]at h2;simp only[a1b,a03]at h2;subst h2;obtain⟨z1,j2,e2',z2,z3,_⟩:=g2.at_ i x' e2;rw[q1]at z2;cases z2;exact⟨hb.trans z1,j,(k,v),q1,by rw[a9v];simp[(a0d.1 z3).1],hk,hv⟩
 .rw[a0p ha]at h2;obtain⟨z1,j2,e2',z2,z3,z4,z5⟩:=g3.at_ a x h2;refine⟨z1,j2,e2',z2,?_,z4,z5⟩;have iE:j≠j2:=fun e=>by
   subst e;have i1:=a0d.1 q1;have i2:=a0d.1 z2;exact ha ((aa8 g2.nod (h₀:=i1.1) (h₁:=i2.1)).1 (i1.2.trans i2.2.symm))
  rw[a9v,a0p iE];exact z3
theorem wu.push{N N':Np}{o:List Nat}{es:List (TV×TV)}{xs:Array MapEntry}(g2:wu N o es xs)(hle:su N N'){k v:TV}{kv vv:Value}
  (hk:VR N' k kv) (hv:VR N' v vv):wu N' (o++[es.length]) (es++[(k,v)]) (xs.push { key:=kv,val:=vv,born:=xs.size }):=by
 have aQ:=g2.lt;have g3:=g2.mono hle;refine⟨by simp[g2.len],by simp[g2.ord],?_,fun j hj=>?_,fun a x h2=>?_⟩
 .rw[a8G];exact⟨g2.nod,by simp,fun x hx y hy=>by simp at hy;subst hy;have:=aQ x hx;omega⟩
 .simp only[a1s,a4d,a4H]at hj;rcases a4h j es.length with h1|h1
  .exact a5N _ (g2.sur j h1)
  .exact abE _ (by simp;omega)
 .rw[Array.getElem?_push]at h2;by_cases ha:a=xs.size
  .rw[a0q ha]at h2;simp only[a03]at h2;subst h2;exact⟨ha.symm,es.length,(k,v),by rw[a1d (by rw[g2.ord];omega),g2.ord,ha];simp,by simp,hk,hv⟩
  .rw[a0p ha]at h2;obtain⟨z1,j2,e2',z2,z3,z4,z5⟩:=g3.at_ a x h2;exact⟨z1,j2,e2',by rw[a0k (a0d.1 z2).1];exact z2,by rw[a0k (a0d.1 z3).1];exact z3,z4,z5⟩
theorem Rf{t:TypeId}{m k v:TV}{s1:St}{i:lZ}{mv kv vv:Value}(hV:Valid M D s.get w)(h:xJ P t s m k v=some (s1,i))(hm:VR M.h m mv)(hk:VR M.h k kv)(hv:VR M.h v vv)
  (hD:∀j∈i.ts,D j):s1.env=s.env∧∃w' M',(Instr.mapUpdate t mv kv vv).run P w=.ok () w' ∧
   Valid M' (fun j=>D j∨(s.get j=none∧(s1.get j).isSome=true)) s1.get w'∧Ext M s.get w M' s1.get w' i.ws∧(∀k l,M (.l k)=some l->M' (.l k)=some l):=by
 unfold xJ at h;split at h
 case h_2=>simp at h
 rename_i kt et kx r hu hkx;have:=wo hkx hk;subst this;split at h
 case h_2=>simp at h
 rename_i es LD hck;have c0:=iZ hck w;cases hm with
 |map hmm=>
 rename_i r1 o1;have yP:∀o',∀k l,M (.l k)=some l->dK M (.h r) (.obj r1 o') (.l k)=some l:=fun o' k l h=>by simp[dK,h]
 have go:D (.h r)->∃xs,w.heap[r1]? = some (.map xs xs.size)∧wu M.h o1 es xs:=by
  intro hd;obtain⟨gy,b1,b2⟩:=hV.ok _ _ hmm hd;simp only[St.get,LD,a03]at b1;subst b1;exact b2
 split at h
 .-- an entry that is there
  rename_i j hf;split at h
  case h_2=>simp at h
  rename_i old ov0 hj;split at h
  case h_2=>simp at h
  rename_i ov hov;split at h
  case isFalse=>simp at h
  rename_i VQ;simp only[a03,a0u]at h;obtain⟨rfl,rfl⟩:=h;have hd:=hD (.h r) (by simp[pq]);obtain⟨xs,g1,g2⟩:=go hd;obtain⟨c1,r',c2,c3⟩:=Gp hf g2;cases r' with
  |none=>exact c3.elim
  |some jv=>
   obtain⟨i,v'⟩:=jv;obtain⟨q1,e',x',e1,e2,rfl,q2,_⟩:=c3;rw[hj]at e1;cases e1;have hold:x'.key=ov:=wo hov q2;have hle:su M (dK M (.h r) (.obj r1 o1)):=mG fun l0 h0=>by
    have h0':M (.h r)=some l0:=h0;have Ql:M (.h r)=some (.obj r1 o1):=hmm;rw[Ql]at h0';cases h0';exact .refl _
   have Fh:=g2.upd (f:=fun e=>{ e with key:=kv,val:=vv }) hle.h q1 e2 rfl (hk.mono hle.h) (hv.mono hle.h);obtain⟨v1,v2⟩:=yO hV hmm hd LD g1 (ag4 _) Fh;refine⟨rfl,_,_,?_,v1,v2,yP _⟩;simp only[Instr.mapUpdate,Sem.run_bind,run_underlying hu,Result.andThen_ok,getObj,Sem.run,g1];simp only[c0,c2 w,Result.andThen_ok,e2,a1b,a4M,Instr.keyThatStays,hold,VQ,a2y,setObj];simp only[Sem.run_bind,Sem.run_pure,Result.andThen_ok,Sem.run,g1,Array.size_modify]
 .-- a new entry
  rename_i hf;simp only[a03,a0u]at h;obtain⟨rfl,rfl⟩:=h;have hd:=hD (.h r) (by simp[pq]);obtain⟨xs,g1,g2⟩:=go hd;obtain⟨c1,r',c2,c3⟩:=Gp hf g2;cases r' with
  |some jv=>exact c3.elim
  |none=>
   have Ew:o1 <+: o1++[es.length]:=⟨_,rfl⟩;have hle:su M (dK M (.h r) (.obj r1 (o1++[es.length]))):=mG fun l0 h0=>by
    have h0':M (.h r)=some l0:=h0;have Ql:M (.h r)=some (.obj r1 o1):=hmm;rw[Ql]at h0';cases h0';exact⟨rfl,Ew⟩
   have Fh:=g2.push hle.h (hk.mono hle.h) (hv.mono hle.h);obtain⟨v1,v2⟩:=yO hV hmm hd LD g1 Ew Fh;refine⟨rfl,_,_,?_,v1,v2,yP _⟩;simp only[Instr.mapUpdate,Sem.run_bind,run_underlying hu,Result.andThen_ok,getObj,Sem.run,g1];simp only[c0,c2 w,Result.andThen_ok,setObj,Sem.run,g1,Array.size_push]
 .simp at h
theorem a2s{t:TypeId}{m k:TV}{e:EV}{s1:St}{i:lZ}{mv kv:Value}(hV:Valid M D s.get w)(h:zV P t s m k=some (e,s1,i))(hm:VR M.h m mv)(hk:VR M.h k kv)
  (hD:∀j∈i.ts,D j):s1.env=s.env∧∃x w' M',(Instr.mapEntry t mv kv).run P w=.ok x w'∧ER M' e x ∧
   Valid M' (fun j=>D j∨(s.get j=none∧(s1.get j).isSome=true)) s1.get w'∧Ext M s.get w M' s1.get w' i.ws∧(∀k l,M (.l k)=some l->M' (.l k)=some l):=by
 unfold zV at h;split at h
 case h_2=>simp at h
 rename_i kt et kx r hu hkx;have:=wo hkx hk;subst this;split at h
 case h_2=>simp at h
 rename_i es LD hck;have c0:=iZ hck w;cases hm with
 |map hmm=>
 rename_i r1 o1;have yP:∀o',∀k l,M (.l k)=some l->dK M (.h r) (.obj r1 o') (.l k)=some l:=fun o' k l h=>by simp[dK,h]
 have go:D (.h r)->∃xs,w.heap[r1]? = some (.map xs xs.size)∧wu M.h o1 es xs:=by
  intro hd;obtain⟨gy,b1,b2⟩:=hV.ok _ _ hmm hd;simp only[St.get,LD,a03]at b1;subst b1;exact b2
 have Iw:∀o',dK M (.h r) (.obj r1 o') (.h r)=some (.obj r1 o'):=fun o'=>by simp[dK]
 split at h
 .rename_i j hf;split at h
  case h_2=>simp at h
  rename_i old v0 hj;split at h
  case h_2=>simp at h
  rename_i ov hov;split at h
  case isFalse=>simp at h
  rename_i VQ;simp only[a03,a0u]at h;obtain⟨rfl,rfl,rfl⟩:=h;have hd:=hD (.h r) (by simp[pq]);obtain⟨xs,g1,g2⟩:=go hd;obtain⟨c1,r',c2,c3⟩:=Gp hf g2;cases r' with
  |none=>exact c3.elim
  |some jv=>
   obtain⟨i,v'⟩:=jv;obtain⟨q1,e',x',e1,e2,rfl,q2,q3⟩:=c3;rw[hj]at e1;cases e1;have hold:x'.key=ov:=wo hov q2;have hle:su M (dK M (.h r) (.obj r1 o1)):=mG fun l0 h0=>by
    have h0':M (.h r)=some l0:=h0;have Ql:M (.h r)=some (.obj r1 o1):=hmm;rw[Ql]at h0';cases h0';exact .refl _
   have Fh:=g2.upd (f:=fun e=>{ e with key:=kv }) hle.h q1 e2 rfl (hk.mono hle.h) (q3.mono hle.h);obtain⟨v1,v2⟩:=yO hV hmm hd LD g1 (ag4 _) Fh;refine⟨rfl,.tuple #[x'.val,Go.goInt i],_,_,?_,.ent (Iw _) q1 (q3.mono hle.h),v1,v2,yP _⟩;simp only[Instr.mapEntry,Sem.run_bind,run_underlying hu,Result.andThen_ok,getObj,Sem.run,g1];simp only[c0,c2 w,Result.andThen_ok,e2,a1b,a4M,Instr.keyThatStays,hold,VQ,a2y,setObj,(g2.at_ i x' e2).1];simp only[Sem.run_bind,Sem.run_pure,Result.andThen_ok,Sem.run,g1,Array.size_modify]
 .rename_i hf;split at h
  case h_2=>simp at h
  rename_i inf hi;split at h
  case h_2=>simp at h
  rename_i z hz;split at h
  case h_2=>simp at h
  rename_i zt hzt;simp only[a03,a0u]at h;obtain⟨rfl,rfl,rfl⟩:=h;have hd:=hD (.h r) (by simp[pq]);obtain⟨xs,g1,g2⟩:=go hd;obtain⟨c1,r',c2,c3⟩:=Gp hf g2;have hzr:(zeroValue et).run P w=.ok z w:=by simp[zeroValue,iV hi,hz]
  cases r' with
  |some jv=>exact c3.elim
  |none=>
   have Ew:o1 <+: o1++[es.length]:=⟨_,rfl⟩;have hle:su M (dK M (.h r) (.obj r1 (o1++[es.length]))):=mG fun l0 h0=>by
    have h0':M (.h r)=some l0:=h0;have Ql:M (.h r)=some (.obj r1 o1):=hmm;rw[Ql]at h0';cases h0';exact⟨rfl,Ew⟩
   have Fh:=g2.push hle.h (hk.mono hle.h) (.yA hzt);obtain⟨v1,v2⟩:=yO hV hmm hd LD g1 Ew Fh;refine⟨rfl,.tuple #[z,Go.goInt xs.size],_,_,?_,.ent (Iw _) (by rw[a1d (by rw[g2.ord];omega),g2.ord];simp) (.yA hzt),v1,v2,yP _⟩;simp only[Instr.mapEntry,Sem.run_bind,run_underlying hu,Result.andThen_ok,getObj,Sem.run,g1];simp only[c0,c2 w,hzr,Result.andThen_ok,setObj,Sem.run,g1,Array.size_push,Sem.run_bind,Sem.run_pure]
 .simp at h
theorem a4P{t:TypeId}{m k:TV}{e:EV}{s1:St}{i:lZ}{mv kv:Value}(hV:Valid M D s.get w)(h:Cc P t s m k=some (e,s1,i))(hm:VR M.h m mv)(hk:VR M.h k kv)
  (hD:∀j∈i.ts,D j):s1.env=s.env∧∃x w' M',(Instr.mapEntry t mv kv).run P w=.ok x w'∧ER M' e x ∧
   Valid M' (fun j=>D j∨(s.get j=none∧(s1.get j).isSome=true)) s1.get w'∧Ext M s.get w M' s1.get w' i.ws∧(∀k l,M (.l k)=some l->M' (.l k)=some l):=by
 unfold Cc at h;split at h
 .rename_i h0;split at h
  .cases h;exact a2s hV h0 hm hk hD
  .cases h
 .cases h
theorem U1{xs:Array MapEntry}{i:Nat}(h:∀(a:Nat) (x:MapEntry),xs[a]? = some x->x.born=a)(hi:i<xs.size):xs.findIdx? (fun e=>(e.born:Int)==(i:Int))=some i:=by
 rw[Array.findIdx?_eq_some_iff_getElem];refine⟨hi,?_,fun j hj=>?_⟩
 .have:=h i _ (a4a hi);simp[this]
 have:=h j _ (a4a (Nat.lt_trans hj hi));simp[this];omega
theorem a2t{t:TypeId}{m v:TV}{e:EV}{s1:St}{i:lZ}{mv ev vv:Value}(hV:Valid M D s.get w)(h:Gh s m e v=some (s1,i))(hm:VR M.h m mv)(he:ER M e ev)(hv:VR M.h v vv)
  (hD:∀j∈i.ts,D j):s1.env=s.env∧∃w' M',(Instr.entryStore t mv ev vv).run P w=.ok () w' ∧
   Valid M' (fun j=>D j∨(s.get j=none∧(s1.get j).isSome=true)) s1.get w'∧Ext M s.get w M' s1.get w' i.ws∧(∀k l,M (.l k)=some l->M' (.l k)=some l):=by
 unfold Gh at h;split at h
 case h_2=>simp at h
 rename_i r r' j;split at h
 case isFalse=>simp at h
 rename_i hrr;subst hrr;split at h
 case h_2=>simp at h
 rename_i es LD;split at h
 case h_2=>simp at h
 rename_i k v0 hj;simp only[a03,a0u]at h;obtain⟨rfl,rfl⟩:=h;cases hm with
 |map hmm=>
 rename_i r1 o1;cases he with
 |Et h1 q1=>
 rename_i r2 i o2;have Ql:M (.h r)=some (.obj r1 o1):=hmm;rw[Ql]at h1;cases h1;have hd:=hD (.h r) (by simp[pq]);obtain⟨gy,b1,b2⟩:=hV.ok _ _ hmm hd;simp only[St.get,LD,a03]at b1;subst b1;obtain⟨xs,g1,g2⟩:=b2;have aQ:i<xs.size:=by rw[<-g2.ord];exact(a0d.1 q1).1
 obtain⟨z1,j2,e2',z2,z3,z4,z5⟩:=g2.at_ i _ (a4a aQ);rw[q1]at z2;cases z2;rw[hj]at z3;cases z3;have hle:su M (dK M (.h r) (.obj r1 o1)):=mG fun l0 h0=>by
  have h0':M (.h r)=some l0:=h0;rw[Ql]at h0';cases h0';exact .refl _
 have Fh:=g2.upd (f:=fun e=>{ e with val:=vv }) hle.h q1 (a4a aQ) rfl (z4.mono hle.h) (hv.mono hle.h);obtain⟨v1,v2⟩:=yO hV hmm hd LD g1 (ag4 _) Fh;refine⟨rfl,_,_,?_,v1,v2,fun k l h=>by simp[dK,h]⟩;have hf:=U1 (fun a x hx=>(g2.at_ a x hx).1) aQ;simp only[Instr.entryStore,Sem.run_bind,Result.andThen_ok,getObj,Sem.run,g1,asInt,asIntOf,Go.goInt,hf,setObj];simp only[Sem.run_bind,Sem.run_pure,Result.andThen_ok,Sem.run,hf,g1,Array.size_modify]
end
def Gq(M:Mp)(env:List (Nat×EV))(a:Act)(X:Array Operand):Prop:=∀x∈X,∀e,Ir env x=some e->ER M e (a.eval x)
theorem jV.on{M:Mp}{env:List (Nat×EV)}{a:Act}(hE:jV M env a.tmps)(X:Array Operand):Gq M env a X:=fun _ _ _ he=>a4A hE he
section
variable {M:Mp} {env:List (Nat×EV)} {a:Act} {X:Array Operand}
theorem pG(hE:Gq M env a X){x:Operand}(hx:x∈X){e:EV}(h:Ir env x=some e):ER M e (a.eval x):=hE x hx e h
theorem iw(hE:Gq M env a X){x:Operand}(hx:x∈X){v:TV}(h:qK env x=some v):VR M.h v (a.eval x):=by
 unfold qK at h;split at h
 .rename_i v' he;simp at h;subst h;exact(pG hE hx he).vC
 simp at h
theorem Gs(hE:Gq M env a X):∀{xs:List Operand} {vs:List TV},(∀x∈xs,x∈X)->TG env xs=some vs->bZ M.h vs (xs.map a.eval)
 | [],vs,_,h=>by simp[TG]at h;subst h;exact .nil
 |x::xs,vs,hx,h=>by
  simp only[TG]at h;split at h
  .rename_i v vs' h1 h2;simp at h;subst h;exact .cons (iw hE (hx x (by simp)) h1) (Gs hE (fun y hy=>hx y (by simp[hy])) h2)
  simp at h
theorem U2(hE:Gq M env a X):∀{xs:List (Nat×Operand)} {vs:List (Nat×TV)},(∀p∈xs,p.2∈X)->VA env xs=some vs ->
  PR M.h vs (xs.map fun(i,x)=>(i,a.eval x))
 | [],vs,_,h=>by simp[VA]at h;subst h;exact .nil
 |(i,x)::xs,vs,hx,h=>by
  simp only[VA]at h;split at h
  .rename_i v vs' h1 h2;simp at h;subst h;exact .cons (iw hE (hx (i,x) (by simp)) h1) (U2 hE (fun y hy=>hx y (by simp[hy])) h2)
  .simp at h
theorem Gt(hE:Gq M env a X){o:Option Operand}(hx:∀x,o=some x->x∈X){v:Option TV}(h:VD env o=some v):OR M.h v (o.map a.eval):=by
 unfold VD at h;split at h
 .simp at h;subst h;exact .none
 rename_i x;split at h
 .rename_i v' hv;simp at h;subst h;exact .some (iw hE (hx x rfl) hv)
 simp at h
end
section
variable {P:Program} {M:Mp} {D:Key->Prop} {w:World} {s:St}
def Gu:Op->Bool
 |.call { callee:=.value _,.. }=>true
 |_=>false
theorem Gj.mM{C:Ct}{c:Sem Next}{v:TV}{S:Sem Value}(hV:Valid M D C w)(hc:c=(do pure (.value (<-S))))(h:∃z,VR M.h v z∧S.run P w=.ok z w):Gj P M D C w c (.val v) C []:=by
 obtain⟨z,h1,h2⟩:=h;exact .same hV (by rw[hc];simp[h2]) (.val h1)
theorem Gj.NP{C:Ct}{c:Sem Next}{v:EV}{S:Sem Value}(hV:Valid M D C w)(hc:c=(do pure (.value (<-S))))(h:∃z,ER M v z∧S.run P w=.ok z w):Gj P M D C w c v C []:=by
 obtain⟨z,h1,h2⟩:=h;exact .same hV (by rw[hc];simp[h2]) h1
theorem Gj.ahA{C:Ct}{c:Sem Next}{v:TV}{S:Sem Value}{C1:Ct}{ws:List Key}(hc:c=(do pure (.value (<-S))))(h:BOk P M D C w S v C1 ws):Gj P M D C w c (.val v) C1 ws:=by
 obtain⟨x,w',M',h1,h2⟩:=h;exact⟨x,w',M',.inl (by rw[hc];simp[h1]),h2⟩
theorem Gj.adK{C:Ct}{c:Sem Next}{S:Sem Unit}{C1:Ct}{ws:List Key}(hc:c=(do S;pure .skip))(h:∃w' M',S.run P w=.ok () w'∧Valid M' (fun j=>D j∨(C j=none∧(C1 j).isSome=true)) C1 w'∧Ext M C w M' C1 w' ws∧(∀k l,M (.l k)=some l->M' (.l k)=some l)):Gj P M D C w c .undef C1 ws:=by
 obtain⟨w',M',h1,h2,h3,h4⟩:=h;exact⟨Go.undef,w',M',.inr ⟨rfl,by rw[hc];simp[h1]⟩,⟨h2,h3,.undef,h4⟩⟩
theorem Gj.anl{C:Ct}{c:Sem Next}{S:Sem Unit}{C1:Ct}{ws:List Key}(hc:c=(do S;pure .skip))(h:∃w',S.run P w=.ok () w'∧Valid M (fun j=>D j∨(C j=none∧(C1 j).isSome=true)) C1 w'∧Ext M C w M C1 w' ws):Gj P M D C w c .undef C1 ws:=by
 obtain⟨w',h1,h2,h3⟩:=h;exact⟨Go.undef,w',M,.inr ⟨rfl,by rw[hc];simp[h1]⟩,⟨h2,h3,.undef,fun _ _ h=>h⟩⟩
theorem YM{b:Builtin}{at_:Array TypeId}{t:TypeId}{cs:Array Bool}{az:List TV}{xs:List Value}{v:TV}{s1:St}{i:lZ}(hV:Valid M D s.get w)(yL:M (.h s.heap.length)=none)
  (h:qO P b at_ t s az=some (v,s1,i)) (hx:bZ M.h az xs) (hD:∀k∈i.ts,D k):s1.env=s.env∧Gj P M D s.get w (builtin b at_ t cs xs.toArray) (.val v) s1.get i.ws:=by
 unfold qO at h;split at h
 .simp only[a0f,a0u]at h;obtain⟨⟨v',i'⟩,h1,rfl,rfl,rfl⟩:=h;obtain⟨x,xs',rfl,hx1,hx2⟩:=hx.iO;have:=hx2.qc;subst this;obtain⟨e1,e2⟩:=YH (t:=t) hV h1 hx1 hD;refine⟨rfl,?_⟩;simp only;rw[e1];exact .mM hV rfl e2
 .obtain⟨x,xs',rfl,hx1,hx2⟩:=hx.iO;obtain⟨y,ys',rfl,hy1,hy2⟩:=hx2.iO;have:=hy2.qc;subst this;obtain⟨e1,e2⟩:=IQ (ty:=t) hV yL h hx1 hy1 hD;exact⟨e1,.ahA rfl e2⟩
 .obtain⟨x,xs',rfl,hx1,hx2⟩:=hx.iO;obtain⟨y,ys',rfl,hy1,hy2⟩:=hx2.iO;have:=hy2.qc;subst this;obtain⟨e1,e2⟩:=U0 (ty:=t) hV h hx1 hy1 hD;exact⟨e1,.ahA rfl e2⟩
 .simp only[a0f,a0u]at h;obtain⟨v',h1,rfl,rfl,rfl⟩:=h;exact⟨rfl,.mM hV rfl (yM h1 hx)⟩
 .simp only[a0f,a0u]at h;obtain⟨v',h1,rfl,rfl,rfl⟩:=h;exact⟨rfl,.mM hV rfl (yM h1 hx)⟩
 .simp at h
theorem ahB{call:aY}{site:Nat->Bool}{o:Oper}{a:Act}{v:EV}{s1:St}{i:lZ}(hV:Valid M D s.get w)(hE:Gq M s.env a o.op.operands)(yL:M (.h s.heap.length)=none)(hnl:M (.l s.loc.length)=none)
  (h:pz P call site s o=some (v,s1,i)) (hc:Gu o.op=false) (hD:∀k∈i.ts,D k):s1.env=s.env∧Gj P M D s.get w (execOp a.eval o) v s1.get i.ws:=by
 unfold pz at h;unfold execOp;split at h
 .-- move
  rename_i x ho;rw[ho];simp only[a0f,a0u]at h;obtain⟨e,he,rfl,rfl,rfl⟩:=h;exact⟨rfl,.same hV rfl (pG hE (by simp[ho,Op.operands]) he)⟩
 .rename_i x ho;rw[ho];simp only[a0f,a0u]at h;obtain⟨e,he,rfl,rfl,rfl⟩:=h;exact⟨rfl,.same hV rfl (pG hE (by simp[ho,Op.operands]) he)⟩
 .-- pick
  rename_i c x y ho;rw[ho];split at h
  .rename_i t ht;simp only[a0f,a0u]at h;obtain⟨e,he,rfl,rfl,rfl⟩:=h;have hb:=iw hE (by simp[ho,Op.operands]) ht;have qI:a.eval c=.bool t:=by cases qI:a.eval c<;>rw[qI]at hb<;>cases hb;rfl
   have:=pG hE (by cases t<;>simp[ho,Op.operands]) he;refine⟨rfl,.same hV (x:=a.eval (if t then x else y)) ?_ this⟩;simp only[Sem.run_bind,qI,asBool,Sem.run_pure,Result.andThen_ok];cases t<;>rfl
  .simp at h
 .-- alloc
  rename_i e ho;rw[ho];simp only[a0f]at h;obtain⟨z,hz,h⟩:=h;obtain⟨i',x,v',_,_,_,_,hz1,hvr,hzr⟩:=wB hz;simp only[a0u]at h;obtain⟨rfl,rfl,rfl⟩:=h;obtain⟨M',hp⟩:=a4B hV yL hnl (site (o.dst.getD 0)) e (hvr M.h) hz1 rfl;refine⟨by unfold qL;split<;>rfl,_,_,M',.inl ?_,hp⟩;simp[Instr.alloc,hzr w,newVar,newRow]
 .-- box
  rename_i t x ho;rw[ho];split at h
  .rename_i v0 hv0;split at h
   .rename_i Fb;simp only[a03,a0u]at h;obtain⟨rfl,rfl,rfl⟩:=h;obtain⟨M',hp⟩:=a4B hV yL hnl (site (o.dst.getD 0)) t (iw hE (by simp[ho,Op.operands]) hv0).cells (LC Fb) rfl;refine⟨by unfold qL;split<;>rfl,_,_,M',.inl ?_,hp⟩;simp[Instr.box,newVar,newRow]
   .simp at h
  .simp at h
 .-- build
  rename_i t ps ho;rw[ho];split at h
  .rename_i qs hq;simp only[a0f,a0u]at h;obtain⟨v0,hb,rfl,rfl,rfl⟩:=h;obtain⟨x,h1,h2⟩:=a4D hb (U2 hE (fun p hp=>by simp[ho,Op.operands];exact⟨p.1,by simpa using hp⟩) hq);refine⟨rfl,.mM hV rfl ⟨x,h1,?_⟩⟩;have:=h2 w
   rwa [show(List.map (fun x=>(x.1,a.eval x.2)) ps.toList).toArray=ps.map (fun x=>(x.1,a.eval x.2))from by apply adB;simp]at this
  .simp at h
 .-- buildSlice
  rename_i t len ps ho;rw[ho];split at h
  .rename_i qs hq;simp only[a0f,a0u]at h;obtain⟨⟨v0,s0⟩,hb,rfl,rfl,rfl⟩:=h;obtain⟨e1,x,w',M',h1,h2⟩:=tZ hV yL hb (U2 hE (fun p hp=>by simp[ho,Op.operands];exact⟨p.1,by simpa using hp⟩) hq);refine⟨e1,x,w',M',.inl ?_,h2⟩;rw[show(List.map (fun x=>(x.1,a.eval x.2)) ps.toList).toArray=ps.map (fun x=>(x.1,a.eval x.2))from by apply adB;simp]at h1;simp[h1]
  .simp at h
 .-- load
  rename_i t x ho;rw[ho];split at h
  .rename_i e he;simp only[a0f,a0u]at h;obtain⟨⟨v0,i0⟩,hl,rfl,rfl,rfl⟩:=h;obtain⟨e1,e2⟩:=Gl hV hl (pG hE (by simp[ho,Op.operands]) he) hD;refine⟨rfl,?_⟩;simp only;rw[e1];exact .mM hV rfl e2
  .simp at h
 .-- store
  rename_i t x y ho;rw[ho];split at h
  .rename_i e v0 he hv0;simp only[a0f,a0u]at h;obtain⟨⟨s0,i0⟩,hl,rfl,rfl,rfl⟩:=h;obtain⟨e1,w',e2,e3,e4,e5⟩:=YE hV hl (pG hE (by simp[ho,Op.operands]) he) (iw hE (by simp[ho,Op.operands]) hv0) hD;exact⟨e1,.anl rfl ⟨w',e2,e3.widen e5,e4⟩⟩
  .simp at h
 .-- nilCheck
  rename_i x ho;rw[ho];split at h
  .rename_i k off he;simp only[a03,a0u]at h;obtain⟨rfl,rfl,rfl⟩:=h;have hx:=pG hE (by simp[ho,Op.operands]) he;refine⟨rfl,.same hV (x:=a.eval x) ?_ hx⟩;cases hxe:a.eval x<;>rw[hxe]at hx<;>cases hx
   simp[hxe]
  .rename_i b off lim he;simp only[a03,a0u]at h;obtain⟨rfl,rfl,rfl⟩:=h;have hx:=pG hE (by simp[ho,Op.operands]) he;refine⟨rfl,.same hV (x:=a.eval x) ?_ hx⟩;have Fh:=hx.vC;cases hxe:a.eval x<;>rw[hxe]at Fh<;>cases Fh
   simp[hxe]
  .rename_i f b c he;simp only[a03,a0u]at h;obtain⟨rfl,rfl,rfl⟩:=h;have hx:=pG hE (by simp[ho,Op.operands]) he;refine⟨rfl,.same hV (x:=a.eval x) ?_ hx⟩;have Fh:=hx.vC;cases hxe:a.eval x<;>rw[hxe]at Fh<;>cases Fh
   simp[hxe]
  .rename_i l he;simp only[a03,a0u]at h;obtain⟨rfl,rfl,rfl⟩:=h;have hx:=pG hE (by simp[ho,Op.operands]) he;refine⟨rfl,.same hV (x:=a.eval x) ?_ hx⟩;have Fh:=hx.vC;cases hxe:a.eval x<;>rw[hxe]at Fh<;>cases Fh
   simp[hxe]
  .simp at h
 .-- binOp
  rename_i op t x y t' ho;rw[ho];split at h
  .rename_i u v0 hu hv;simp only[a0f,a0u]at h;obtain⟨r,hb,rfl,rfl,rfl⟩:=h;exact⟨rfl,.mM hV rfl (YF hb (iw hE (by simp[ho,Op.operands]) hu) (iw hE (by simp[ho,Op.operands]) hv))⟩
  .simp at h
 .-- unOp
  rename_i op t x ho;rw[ho];split at h
  .rename_i u hu;simp only[a0f,a0u]at h;obtain⟨r,hb,rfl,rfl,rfl⟩:=h;exact⟨rfl,.mM hV rfl (iT hb (iw hE (by simp[ho,Op.operands]) hu))⟩
  .simp at h
 .-- convert
  rename_i t t' x ho;rw[ho];split at h
  .rename_i u hu;simp only[a0f,a0u]at h;obtain⟨r,hb,rfl,rfl,rfl⟩:=h;exact⟨rfl,.mM hV rfl (TT hb (iw hE (by simp[ho,Op.operands]) hu))⟩
  .simp at h
 .-- makeFunc
  rename_i f az bs ho;rw[ho];split at h
  .rename_i us vs hu hv;simp only[a03,a0u]at h;obtain⟨rfl,rfl,rfl⟩:=h;have h1:=Gs hE (fun x hx=>by simp[ho,Op.operands];exact .inl (by simpa using hx)) hu;have h2:=Gs hE (fun x hx=>by simp[ho,Op.operands];exact .inr (by simpa using hx)) hv;refine⟨rfl,.mM hV rfl ⟨.func (.func f) (az.map a.eval) (bs.map a.eval),?_,rfl⟩⟩;have:=VR.fn (f:=f) h1.len h1.at_ h2.len h2.at_
   rwa [show(List.map a.eval az.toList).toArray=az.map a.eval from by apply adB;simp,show(List.map a.eval bs.toList).toArray=bs.map a.eval from by apply adB;simp]at this
  .simp at h
 .-- makeMap
  rename_i t r ho;rw[ho];have yD:s.get (.h s.heap.length)=none:=by simp[St.get]
  have hle:su M (dK M (.h s.heap.length) (.obj w.heap.size [])):=mG fun l0 h0=>by rw[yL]at h0;cases h0
  have gJ:∀c,c<w.heap.size->c∉aI (.obj w.heap.size [])->(w.alloc (.map #[] 0)).heap[c]? = w.heap[c]?:=fun c hc _=>wz w _ c hc;have gq:∀c∈aI (.obj w.heap.size []),(∃l0,M (.h s.heap.length)=some l0∧c∈aI l0)∨w.heap.size<=c:=fun c hc=>.inr (by simp[aI]at hc;omega);have key:Nr M D s.get w (.val (.map s.heap.length)) (St.get { s with heap:=s.heap++[.map []] }) [] (.map (some w.heap.size)) (w.alloc (.map #[] 0)) (dK M (.h s.heap.length) (.obj w.heap.size [])):=by
   refine⟨?_,?_,.val (.map (o:=[]) (by simp[Mp.h,dK])),qP yL⟩
   .rw[kJ];refine hV.upd _ _ _ (fun j hj=>?_) (fun l0 h0=>by rw[yL]at h0;cases h0) gJ gq (by simp) ⟨#[],heap_alloc_new w _,rfl,rfl,.nil,by simp,by simp⟩;rcases hj with hj|⟨x1,x2⟩
    .exact .inl hj
    .right;unfold lT at x2;split at x2
     .assumption
     .simp[x1]at x2
   .rw[kJ];exact Ext.upd _ _ _ [] (.inr ⟨yD,yL,rfl⟩) hle gJ gq (by simp) rfl rfl rfl
  split at h
  .rename_i _ hr;simp only[a03,a0u]at h;obtain⟨rfl,rfl,rfl⟩:=h;have:=Gt hE (fun x hx=>by simp[ho,Op.operands,hx]) hr;refine⟨rfl,_,_,_,.inl ?_,key⟩;cases hrr:r.map a.eval with
   |none=>simp[hrr,Instr.makeMap]
   |some y=>rw[hrr]at this;cases this
  .rename_i k n _ _ hr hu;simp only[a03,a0u]at h;obtain⟨rfl,rfl,rfl⟩:=h;have:=Gt hE (fun x hx=>by simp[ho,Op.operands,hx]) hr;refine⟨rfl,_,_,_,.inl ?_,key⟩;cases hrr:r.map a.eval with
   |none=>rw[hrr]at this;cases this
   |some y=>
    rw[hrr]at this;cases this with
    |some hy=>
     cases hy;simp[hrr,Instr.makeMap,run_underlying hu,asInt,asIntOf]
  .simp at h
 .-- makeSlice
  rename_i t l c ho;rw[ho];split at h
  .rename_i u v0 hu hv;simp only[a0f,a0u]at h;obtain⟨⟨r,s0⟩,hb,rfl,rfl,rfl⟩:=h;obtain⟨e1,z,w',M',e2,e3⟩:=zZ hV yL hb (iw hE (by simp[ho,Op.operands]) hu) (iw hE (by simp[ho,Op.operands]) hv);exact⟨e1,z,w',M',.inl (by simp[e2]),e3⟩
  .simp at h
 .-- slice
  rename_i t x lo hi mx ho;rw[ho];split at h
  .rename_i e YG vZ mx' he Gv hhi hmx;have h1:=Gt hE (fun x hx=>by simp[ho,Op.operands,hx]) Gv;have h2:=Gt hE (fun x hx=>by simp[ho,Op.operands,hx]) hhi;have h3:=Gt hE (fun x hx=>by simp[ho,Op.operands,hx]) hmx;split at h
   .simp only[a0f,a0u]at h;obtain⟨r,hb,rfl,rfl,rfl⟩:=h;exact⟨rfl,.mM hV rfl (CB hb (pG hE (by simp[ho,Op.operands]) he) h1 h2 h3)⟩
   .simp only[a0f,a0u]at h;obtain⟨r,hb,rfl,rfl,rfl⟩:=h;exact⟨rfl,.mM hV rfl (NG hb (pG hE (by simp[ho,Op.operands]) he).vC h1 h2 h3)⟩
   .simp at h
  .simp at h
 .-- fieldAddr
  rename_i t x f ho;rw[ho];split at h
  .rename_i e n he hn;simp only[a0f,a0u]at h;obtain⟨r,hb,rfl,rfl,rfl⟩:=h;exact⟨rfl,.NP hV rfl (TR hn hb (pG hE (by simp[ho,Op.operands]) he))⟩
  .simp at h
 .-- field
  rename_i t x f ho;rw[ho];split at h
  .rename_i u hu;simp only[a0f,a0u]at h;obtain⟨r,hb,rfl,rfl,rfl⟩:=h;exact⟨rfl,.mM hV rfl (NC hb (iw hE (by simp[ho,Op.operands]) hu))⟩
  .simp at h
 .-- indexAddr
  rename_i t x y ho;rw[ho];split at h
  .rename_i e u he hu;simp only[a0f,a0u]at h;obtain⟨r,hb,rfl,rfl,rfl⟩:=h;exact⟨rfl,.NP hV rfl (zX hb (pG hE (by simp[ho,Op.operands]) he) (iw hE (by simp[ho,Op.operands]) hu))⟩
  .simp at h
 .-- index
  rename_i t x y ho;rw[ho];split at h
  .rename_i u v0 hu hv;simp only[a0f,a0u]at h;obtain⟨r,hb,rfl,rfl,rfl⟩:=h;exact⟨rfl,.mM hV rfl (ND hb (iw hE (by simp[ho,Op.operands]) hu) (iw hE (by simp[ho,Op.operands]) hv))⟩
  .simp at h
 .-- lookup
  rename_i t m k ok ho;rw[ho];split at h
  .rename_i u v0 hu hv;simp only[a0f,a0u]at h;obtain⟨r,hb,rfl,rfl,rfl⟩:=h;exact⟨rfl,.mM hV rfl (DZ hV hb (iw hE (by simp[ho,Op.operands]) hu) (iw hE (by simp[ho,Op.operands]) hv) hD)⟩
  .simp at h
 .-- mapUpdate
  rename_i t m k x ho;rw[ho];split at h
  .rename_i u v0 y hu hv hy;simp only[a0f,a0u]at h;obtain⟨⟨s0,i0⟩,hb,rfl,rfl,rfl⟩:=h;obtain⟨e1,e2⟩:=Rf hV hb (iw hE (by simp[ho,Op.operands]) hu) (iw hE (by simp[ho,Op.operands]) hv) (iw hE (by simp[ho,Op.operands]) hy) hD;exact⟨e1,.adK rfl e2⟩
  .simp at h
 .-- insert
  rename_i t m k x ho;rw[ho];split at h
  .rename_i u v0 y hu hv hy;simp only[a0f,a0u]at h;obtain⟨⟨s0,i0⟩,hb,rfl,rfl,rfl⟩:=h;obtain⟨e1,e2⟩:=Rf hV hb (iw hE (by simp[ho,Op.operands]) hu) (iw hE (by simp[ho,Op.operands]) hv) (iw hE (by simp[ho,Op.operands]) hy) hD;exact⟨e1,.adK rfl e2⟩
  .simp at h
 .-- mapEntry
  rename_i t m k ho;rw[ho];split at h
  .rename_i u v0 hu hv;obtain⟨e1,z,w',M',h1,h2,h3,h4,h5⟩:=a4P hV h (iw hE (by simp[ho,Op.operands]) hu) (iw hE (by simp[ho,Op.operands]) hv) hD;exact⟨e1,z,w',M',.inl (by show(do pure (.value (<-Instr.mapEntry t _ _)):Sem Next).run P w=_;simp[h1]),h3,h4,h2,h5⟩
  .simp at h
 .-- entryStore
  rename_i t m k x ho;rw[ho];split at h
  .rename_i u v0 y hu hv hy;simp only[a0f,a0u]at h;obtain⟨⟨s0,i0⟩,hb,rfl,rfl,rfl⟩:=h;obtain⟨e1,e2⟩:=a2t (t:=t) hV hb (iw hE (by simp[ho,Op.operands]) hu) (pG hE (by simp[ho,Op.operands]) hv) (iw hE (by simp[ho,Op.operands]) hy) hD;exact⟨e1,.adK rfl e2⟩
  .simp at h
 .-- extract
  rename_i x n ho;rw[ho];split at h
  .rename_i e he;simp only[a0f,a0u]at h;obtain⟨r,hb,rfl,rfl,rfl⟩:=h;have hx:=pG hE (by simp[ho,Op.operands]) he;refine⟨rfl,.NP hV rfl ?_⟩;generalize a.eval x=xv at hx;unfold yJ at hb;split at hb
   .simp only[a0f]at hb;obtain⟨y0,hb,rfl⟩:=hb;cases hx with
    |val hx=>
     cases hx with
     |dF g1 g2=>
      obtain⟨y,y1,y2⟩:=(bZ.mk g1 g2).get hb;exact⟨y,.val y2,by simp[Instr.extract,y1]⟩
   .cases hx with
    |ent q1 q2 q3=>
     split at hb<;>cases hb
     .exact⟨_,.val q3,by simp[Instr.extract]⟩
     .exact⟨_,.Et q1 q2,by simp[Instr.extract]⟩
   .cases hb
  .simp at h
 .-- call
  rename_i c ho;rw[ho]at hc ⊢;unfold Nb at h;split at h
  .rename_i b az hb has;simp only[a0f,a0u]at h;obtain⟨⟨v0,s0,i0⟩,qI,rfl,rfl,rfl⟩:=h;obtain⟨e1,e2⟩:=YM (cs:=c.args.map fun|.const _=>true|_=>false) hV yL qI (Gs hE (fun x hx=>by simp[ho,Op.operands,Call.operands,hb];simpa using hx) has) hD;refine⟨e1,?_⟩;obtain⟨x,w',M',r1,r2⟩:=e2;refine⟨x,w',M',?_,r2⟩;rw[show(List.map a.eval c.args.toList).toArray=c.args.map a.eval from by apply adB;simp]at r1;unfold ahm at r1 ⊢;simp only[resolve,hb,Sem.run_bind,Sem.run_pure,Result.andThen_ok,invoke];exact r1
  .rename_i f az hf has;obtain⟨callee,args,ats⟩:=c;simp only at hf;subst hf;simp[Gu]at hc
  .simp at h
 .-- range
  rename_i t x ho;rw[ho];split at h
  .rename_i r k el hv hu;split at h
   .rename_i es LD;simp only[a03,a0u]at h;obtain⟨rfl,rfl,rfl⟩:=h;have hx:=iw hE (by simp[ho,Op.operands]) hv;refine⟨rfl,?_⟩;generalize hxv:a.eval x=xv at hx;cases hx with
    |map hm=>
    rename_i r1 o1;obtain⟨gy,b1,b2⟩:=hV.ok _ _ hm (hD (.h r) (by simp[xq]));simp only[St.get,LD,a03]at b1;subst b1;obtain⟨xs,g1,g2⟩:=b2;have yD:s.get (.h s.heap.length)=none:=(by simp[St.get]);have hrl:r<s.heap.length:=(a0d.1 LD).1;have hle:su M (dK M (.h s.heap.length) (.obj w.heap.size [])):=mG fun l0 h0=>by rw[yL]at h0;cases h0
    have gJ:∀c,c<w.heap.size->c∉aI (.obj w.heap.size [])->(w.alloc (.mapIter (some r1) xs.size #[] xs.size)).heap[c]? = w.heap[c]?:=fun c hc _=>wz w _ c hc;have gq:∀c∈aI (.obj w.heap.size []),(∃l0,M (.h s.heap.length)=some l0∧c∈aI l0)∨w.heap.size<=c:=fun c hc=>.inr (by simp[aI]at hc;omega);refine⟨.pointer (some ⟨w.heap.size,0,none⟩),w.alloc (.mapIter (some r1) xs.size #[] xs.size),dK M (.h s.heap.length) (.obj w.heap.size []),.inl ?_,?_,?_,.val (.iter (o:=[]) (by simp[Mp.h,dK])),qP yL⟩
    .simp[hxv,Instr.range,run_underlying hu,getObj,Sem.run,g1,newObj]
    .rw[kJ];refine hV.upd _ _ _ (fun j hj=>?_) (fun l0 h0=>by rw[yL]at h0;cases h0) gJ gq (by simp) ⟨r1,o1,#[],?_,?_,?_,rfl⟩
     .rcases hj with hj|⟨x1,x2⟩
      .exact .inl hj
      .right;unfold lT at x2;split at x2
       .assumption
       .simp[x1]at x2
     .have:(Key.h r)≠.h s.heap.length:=fun e=>by cases e;omega
      simp only[Mp.h,dK,a0p this];exact hm
     .rw[g2.len];exact heap_alloc_new w _
     .rw[g2.len,g2.ord];exact a0w _
    .rw[kJ];exact Ext.upd _ _ _ [] (.inr ⟨yD,yL,rfl⟩) hle gJ gq (by simp) rfl rfl rfl
   .simp at h
  .simp at h
 .-- entry
  rename_i x ho;rw[ho];split at h
  .rename_i b hv;split at h
   .rename_i r n i seen hb;split at h
    .rename_i es LD;split at h
     case isFalse=>simp at h
     rename_i hn;simp only[a0f,a0u]at h;obtain⟨e,he,rfl,rfl,rfl⟩:=h;have hx:=iw hE (by simp[ho,Op.operands]) hv;refine⟨rfl,.mM hV rfl ?_⟩;generalize a.eval x=xv at hx;cases hx with
     |iter hm=>
     rename_i b1 o1;obtain⟨gy,c1,c2⟩:=hV.ok _ _ hm (hD (.h b) (by simp[iq]));simp only[St.get,hb,a03]at c1;subst c1;obtain⟨r1,o,sa,d1,d2,d3,d4⟩:=c2;obtain⟨gy,c1,c2⟩:=hV.ok (.h r) _ d1 (hD (.h r) (by simp[iq]));simp only[St.get,LD,a03]at c1;subst c1;obtain⟨xs,g1,g2⟩:=c2;have iE:sa.toList≠[]:=fun e=>by rw[e]at d4;simp at d4
     obtain⟨k,hk⟩:∃k,sa.back? = some k∧o[k]? = some i:=by
      have h1:(sa.toList.map fun i=>o[i]?).getLast? = some (some i):=by rw[d4];simp
      rw[List.getLast?_map]at h1;simp only[a0f]at h1;obtain⟨k,h2,h3⟩:=h1;exact⟨k,by rw[<-Array.getLast?_toList];exact h2,h3⟩
     have kQ:k<xs.size:=by rw[<-g2.ord];exact(a0d.1 hk.2).1
     obtain⟨q1,j,e',q2,q3,q4,q5⟩:=g2.at_ k _ (a4a kQ);rw[hk.2]at q2;cases q2;rw[he]at q3;cases q3;refine⟨.tuple #[xs[k].key,xs[k].val],.Qh (.cons q4 (.cons q5 .nil)),?_⟩;have hf:xs.find? (·.born==k)=some xs[k]:=by
      rw[<-Array.find?_toList];have:xs[k].born==k:=(by simpa using q1);rw[List.find?_eq_some_iff_getElem];refine⟨this,k,by simpa using kQ,by simp,fun j hj=>?_⟩;have rX:j<xs.size:=(by omega);have:=(g2.at_ j _ (a4a rX)).1;simp only[Array.getElem_toList];rw[this];simp;omega
     have hc:xs.size=n:=by rw[<-g2.len];exact hn
     simp only[Instr.entry,getObj,Sem.run_bind,Sem.run,d2,g1,Result.andThen_ok,hk.1,hc,bne_self_eq_false,a2V,a3U,hf];rfl
    .simp at h
   .simp at h
  .simp at h
 .simp at h
end
abbrev l9(h:List HB):Ct:=St.get ⟨[],[],h,[]⟩
def Mp.only(M:Mp):Mp
 |.h b=>M (.h b)
 |.l _=>none
abbrev nK(r:Option Nat):Fence:={ Fence.wide with round:=r }
def L6(R:Value->World->Prop):Ending->World->Prop
 |.returned v,w=>R v w
 |_,_=>False
def jJ(M:Mp)(h:List HB)(w:World)(v:TV)(h':List HB)(ws:List Nat)(y:Value)(w':World):Prop:=
 ∃M',Valid M' uK (l9 h') w'∧(∀k,M' (.l k)=none)∧Ext M (l9 h) w M' (l9 h') w' (ws.map .h)∧VR M'.h v y
def LG(P:Program)(d:Deferred)(w:World)(R:Value->World->Prop):Prop:=
 ∃f az,(invoke d.target d.args).run P w=.ok (.enter f az) w∧∀n,CallsIn Fence.wide n P f az w (L6 R)
def U3(P:Program)(d:Deferred)(w:World)(R:Value->World->Prop):Prop:=
 ∃l f tmps uI body,(invoke d.target d.args).run P w=.ok (.round l f tmps uI body) w∧∀n,RoundIn Fence.wide n P l f tmps uI body w (L6 R)
def iF(P:Program)(call:aY):Prop:=
 ∀fv args h v h' ws,call fv args h=some (v,h',ws)->∀(M:Mp) (w:World) (x:Value) (xs:List Value),Valid M uK (l9 h) w->(∀k,M (.l k)=none)->VR M.h fv x->bZ M.h args xs ->
  ∃d,(∀w,(Deferred.ofValue x xs.toArray).run P w=.ok d w)∧((LG P d w (jJ M h w v h' ws)∧∃f a b,fv=.fn f a b)∨(U3 P d w (jJ M h w v h' ws)∧∃l,fv=.kW l))
theorem CallsIn.ex{n:Nat}{P:Program}{f:FuncId}{az:Array Value}{w:World}{R:Value->World->Prop}(h:CallsIn Fence.wide n P f az w (L6 R)):∃y w',R y w':=by
 obtain⟨e,w',fr,hR,_⟩:=h.2 [] (room_wide _);cases e with
 |returned v=>exact⟨v,w',hR⟩
 |panicked c=>exact hR.elim
 |outgrown=>exact hR.elim
theorem RoundIn.ex{n:Nat}{P:Program}{l:Nat}{f:FuncId}{tmps:Array Value}{uI body:Code}{w:World}{R:Value->World->Prop}(h:RoundIn Fence.wide n P l f tmps uI body w (L6 R)):∃y w',R y w':=by
 obtain⟨e,w',hR,_⟩:=h.2 default [] (room_wide _);cases e with
 |returned v=>exact⟨v,w',hR⟩
 |panicked c=>exact hR.elim
 |outgrown=>exact hR.elim
section
variable {P:Program} {call:aY}
theorem iF.ex(hC:iF P call){fv:TV}{args:List TV}{h:List HB}{v:TV}{h':List HB}{ws:List Nat}(hc:call fv args h=some (v,h',ws)){M:Mp}{w:World}{x:Value}{xs:List Value}
  (hV:Valid M uK (l9 h) w) (hl:∀k,M (.l k)=none) (hx:VR M.h fv x) (NQ:bZ M.h args xs):∃y w',jJ M h w v h' ws y w':=by
 obtain⟨d,_,h1|h1⟩:=hC _ _ _ _ _ _ hc M w x xs hV hl hx NQ
 .obtain⟨⟨f,az,_,h2⟩,_⟩:=h1;exact CallsIn.ex (h2 0)
 .obtain⟨⟨l,f,tmps,uI,body,_,h2⟩,_⟩:=h1;exact RoundIn.ex (h2 0)
def abB(M' M:Mp):Mp
 |.h b=>M' (.h b)
 |.l j=>M (.l j)
theorem Fz{M:Mp}{D:Key->Prop}{s:St}{w:World}(hV:Valid M D s.get w)(hh:∀b l,M (.h b)=some l->D (.h b)):Valid M.only uK (l9 s.heap) w:=by
 refine⟨?_,?_,?_⟩
 .intro k l hk _;cases k with
  |l j=>cases hk
  |h b=>exact hV.ok (.h b) l hk (hh b l hk)
 .intro k k' l l' b iE hk o9 _ hc hw;cases k with
  |l j=>cases hk
  |h b=>
   cases k' with
   |l j=>cases o9
   |h b'=>exact hV.own _ _ _ _ _ iE hk o9 (hh b l hk) hc hw
 intro k l hk;cases k with
 |l j=>cases hk
 |h b=>exact hV.inb _ _ hk
theorem Rh{M:Mp}{D:Key->Prop}{s:St}{w:World}(hV:Valid M D s.get w)
  (yP:∀j l,M (.l j)=some l->∀k' l',Key.l j≠k'->M k'=some l'->∀c∈aI l,c∉aI l')
  {v:TV} {h':List HB} {ws:List Nat} {y:Value} {w':World} (hr:jJ M.only s.heap w v h' ws y w') :
  ∃M',Nr M D s.get w (.val v) (St.get { s with heap:=h' }) (ws.map .h) y w' M':=by
 obtain⟨M',YK,hl',hX,hy⟩:=hr;have qm:∀(b j:Nat) (l l':Lc),M' (.h b)=some l->M (.l j)=some l'->∀c∈aI l,c∉aI l':=by
  intro b j l l' hb hj c hc Qi;have aQ:=hV.inb _ _ hj c Qi;obtain⟨l0,h1,h2⟩:=hX.fresh _ _ hb c hc aQ;exact yP j l' hj (.h b) l0 (by simp) h1 c Qi h2
 refine⟨abB M' M,⟨⟨?_,?_,?_⟩,?_,.val hy,fun _ _ h=>h⟩⟩
 .intro k l hk hd;cases k with
  |h b=>exact YK.ok (.h b) l hk trivial
  |l j=>
   rcases hd with hd|⟨h1,h2⟩
   .obtain⟨b0,h1,h2⟩:=hV.ok (.l j) l hk hd;refine⟨b0,h1,h2.mono (N:=M.h) (N':=(abB M' M).h) (hX.Iu.h) fun c hc=>?_⟩;refine hX.frame c (hV.inb _ _ hk c hc) fun k' o9 l' hl' anp=>?_;obtain⟨b',_,rfl⟩:=a1e.1 o9;exact yP j l hk (.h b') l' (by simp) hl' c hc anp
   .simp only[St.get]at h1 h2;rw[h1]at h2;cases h2
 .intro k k' l l' b0 iE hk o9 hd hc hw;cases k with
  |h b=>
   cases k' with
   |h b'=>exact YK.own (.h b) (.h b') l l' b0 iE hk o9 trivial hc hw
   |l j=>exact qm b j l l' hk o9
  |l j=>
   cases k' with
   |h b'=>exact fun c hc Qi=>qm b' j l' l o9 hk c Qi hc
   |l j'=>exact yP j l hk (.l j') l' iE o9
 .intro k l hk c hc;cases k with
  |h b=>exact YK.inb (.h b) l hk c hc
  |l j=>exact a90 (hV.inb (.l j) l hk c hc) hX.size
 .exact
  {Iu:=by
    intro k l hk;cases k with
    |h b=>exact hX.Iu (.h b) l hk
    |l j=>exact⟨l,hk,.refl l⟩
   frame:=fun c hc hf=>hX.frame c hc fun k hk l hl=>by
    obtain⟨b',_,rfl⟩:=a1e.1 hk;exact hf _ hk l hl
   nD:=fun k hk hn=>by
    cases k with
    |h b=>exact hX.nD (.h b) hk hn
    |l j=>rfl
   lD:=fun k hk hn=>by
    cases k with
    |h b=>exact hX.lD (.h b) hk hn
    |l j=>rfl
   fresh:=fun k l hk c hc aQ=>by
    cases k with
    |h b=>exact hX.fresh (.h b) l hk c hc aQ
    |l j=>exact⟨l,hk,hc⟩
   size:=hX.size
   has:=fun k hk=>by
    cases k with
    |h b=>exact hX.has (.h b) hk
    |l j=>exact hk
   wsub:=fun k hk=>by
    obtain⟨b',_,rfl⟩:=a1e.1 hk;exact hX.wsub _ hk
   wrote:=fun k hk=>by
    obtain⟨b',_,rfl⟩:=a1e.1 hk;exact hX.wrote _ hk
   os:=hX.os
   output:=hX.output
   tape:=hX.tape }
theorem getEnv(s:St)(env:List (Nat×EV))(ws:List Nat):St.get { s with env:=env,ws:=ws }=s.get:=by
 funext k;cases k<;>rfl
theorem YN(s:St)(d:Option Nat)(v:EV):St.get (s.put d v)=s.get:=by
 funext k;cases d<;>cases k<;>rfl
theorem Valid.sub{M:Mp}{D D':Key->Prop}{C:Ct}{w:World}(hV:Valid M D C w)(h:∀k,D' k->D k):Valid M D' C w:=
 ⟨fun k l hk hd=>hV.ok k l hk (h k hd),fun k k' l l' b a1 a2 a3 hd=>hV.own k k' l l' b a1 a2 a3 (h k hd),hV.inb⟩
theorem a2u{site:Nat->Bool}{s:St}{o:Oper}{c:Call}(h:o.op=.defer c):pz P call site s o=none:=by
 simp[pz,h]
def uo(P:Program)(call:aY)(site:Nat->Bool)(fl nt:Nat)(ops:Array Oper)(o:Oper)(s:St)(i:lZ)(s':St):Prop:=
 Nc nt o=true∧((Ce ops s.env o=some true∧∃v s1,pz P call site s o=some (v,s1,i)∧s'=St.put { s1 with ws:=jX fl i.ws s.ws } o.dst v) ∨
  (Ce ops s.env o=some false∧i=cZ∧s'=s.put o.dst .undef))
def og(i:lZ)(k:Key):Prop:=k∈i.ts∨k∈i.ws∨(i.all=true∧k.isH=true)
def LH(M:Mp)(env:List (Nat×EV))(tmps:Array Value)(ops:Array Oper)(o:Oper):Prop:=
 ∀j want d,o.guard=some (j,want)->(ops[j]?).bind (·.dst)=some d->∀e,dM d env=some e->ER M e (tmps.getD d Go.undef)
theorem LJ{M:Mp}{env:List (Nat×EV)}{tmps:Array Value}{ops:Array Oper}{o:Oper}{b:Bool}(hG:LH M env tmps ops o)(h:Ce ops env o=some b):Region.wanted o (yielded ops tmps)=b:=by
 unfold Ce at h;unfold Region.wanted;split at h
 .rename_i hg;rw[hg];simpa using h
 rename_i j want hg;rw[hg];simp only;split at h
 rotate_left
 .simp at h
 rename_i d hd;split at h
 .rename_i b0 he;have h3:=(hG j want d hg hd _ he).vC;have hb:tmps.getD d Go.undef=.bool b0:=by
   generalize tmps.getD d Go.undef=z at h3;cases h3;rfl
  have:tmps[d]? = some (.bool b0):=by
   by_cases h1:d<tmps.size
   .simp only[Array.getD,h1,dite_true]at hb;rw[a4a h1];exact congrArg some hb
   simp[Array.getD,h1,Go.undef]at hb
  simp only[yielded,hd,a4p,this];simpa using h
 .rename_i he;have h2:=hG j want d hg hd _ he;have hb:tmps.getD d Go.undef=Go.undef:=by
   generalize tmps.getD d Go.undef=z at h2;cases h2;rfl
  have:tmps[d]? = some Go.undef∨tmps[d]? = none:=by
   by_cases h1:d<tmps.size
   .simp only[Array.getD,h1,dite_true]at hb;rw[a4a h1];exact .inl (congrArg some hb)
   right;simpa using h1
  simp at h;subst h;rcases this with this|this<;>simp only[yielded,hd,a4p,this]<;>rfl
 simp at h
def Kr(M:Mp)(D:Key->Prop)(s:St)(w:World)(o:Oper)(i:lZ)(s':St)(x:Value)(w':World):Prop:=
 ∃v M',s'=St.put { s' with env:=s.env } o.dst v∧Nr M D s.get w v s'.get i.ws x w' M'
theorem U4(s:St)(env:List (Nat×EV))(d:Option Nat)(v:EV)(h:s.env=env):s.put d v=St.put { s.put d v with env:=env } d v:=by
 subst h;cases d<;>rfl
theorem a0x(hC:iF P call){site:Nat->Bool}{fl nt:Nat}{ops:Array Oper}{o:Oper}{s s':St}{i:lZ}{M:Mp}{D:Key->Prop}{w:World}{a:Act}
  (hS:uo P call site fl nt ops o s i s') (hV:Valid M D s.get w) (yL:M (.h s.heap.length)=none) (hnl:M (.l s.loc.length)=none)
  (yP:∀j l,M (.l j)=some l->∀k' l',Key.l j≠k'->M k'=some l'->∀c∈aI l,c∉aI l')
  (hE:Gq M s.env a o.op.operands) (hG:LH M s.env a.tmps ops o) (hD:∀k,og i k->(M k).isSome=true->D k) :
  (∃x w',Kr M D s w o i s' x w') ∧
   ∀(r:Option Nat) (n:Nat) (Q:Exit->Act->World->Prop) (idx:Nat) (K:Act->World->Prop),ops[idx]? = some o ->
    (∀x w',Kr M D s w o i s' x w'->K (a.put o.dst x) w')->wpOpIn (nK r) n P ops Q idx K a w:=by
 obtain⟨_,⟨hw,v,s1,jK,rfl⟩|⟨hw,rfl,rfl⟩⟩:=hS
 .have a0y:=LJ hG hw;by_cases hc:Gu o.op=true
  .-- a call
   have:∃f args ats,o.op=.call { callee:=.value f,args:=args,argTypes:=ats }:=by
    unfold Gu at hc;split at hc
    .rename_i f args ats ho;exact⟨_,_,_,ho⟩
    .cases hc
   obtain⟨f,args,ats,ho⟩:=this;simp only[pz,ho,Nb]at jK;split at jK
   .rename_i b az hb has;cases hb
   .rename_i f' az hf has;injection hf with hf;subst hf;split at jK
    .rename_i fv hfv;split at jK
     .rename_i v0 h' ws xU;simp only[a03,a0u]at jK;obtain⟨rfl,rfl,rfl⟩:=jK;have hh:∀b l,M (.h b)=some l->D (.h b):=fun b l hb=>hD _ (.inr (.inr ⟨rfl,rfl⟩)) (by simp[hb]);have hVo:=Fz hV hh;have hfx:VR M.only.h fv (a.eval f):=iw hE (by simp[ho,Op.operands,Call.operands]) hfv;have hax:bZ M.only.h az (args.toList.map a.eval):=Gs hE (fun x hx=>by simp[ho,Op.operands,Call.operands];exact .inr (by simpa using hx)) has;have conv:∀y w',jJ M.only s.heap w v0 h' ws y w'->Kr M D s w o ⟨true,[],ws.map .h⟩ (St.put { s with heap:=h',ws:=jX fl (ws.map .h) s.ws } o.dst (.val v0)) y w':=by
       intro y w' hr;obtain⟨M',hp⟩:=Rh hV yP hr;refine⟨.val v0,M',U4 _ _ _ _ rfl,?_⟩;rw[YN];exact hp
      obtain⟨d,hd,uU⟩:=hC _ _ _ _ _ _ xU M.only w (a.eval f) (args.toList.map a.eval) hVo (fun _=>rfl) hfx hax;refine⟨?_,?_⟩
      .obtain⟨y,w',hr⟩:=iF.ex hC xU hVo (fun _=>rfl) hfx hax;exact⟨y,w',conv y w' hr⟩
      .intro r n Q idx K U5 hK;unfold wpOpIn;simp only[U5,a0y,a2y];refine⟨fun _ _=>trivial,?_⟩;have a4S:∀nx,(invoke d.target d.args).run P w=.ok nx w->(o.semAt (nK r).round a.eval).run P w=.ok nx w:=by
        intro nx hnx;rw[Oper.semAt_eq _ _ _ (fun c=>by rw[ho];simp)];unfold execOp;rw[ho];have:=hd w;rw[show(List.map a.eval args.toList).toArray=args.map a.eval from by apply adB;simp]at this;simp[resolve,this,hnx]
       rcases uU with⟨⟨f1,as1,hinv,qm⟩,_⟩|⟨⟨l1,f1,tm1,ag1,bd1,hinv,hrd⟩,_⟩
       .rw[a4S _ hinv];refine⟨fun h=>by simp[Fence.wide]at h,CallsIn.mono (F:=nK r) (qm (n-1)) fun e w' he=>?_⟩;cases e with
        |returned y=>exact hK y w' (conv y w' he)
        |panicked c=>exact he.elim
        |outgrown=>exact he.elim
       .rw[a4S _ hinv];refine⟨fun h=>by simp[Fence.wide]at h,RoundIn.mono (F:=nK r) (hrd (n-1)) fun e w' he=>?_⟩;cases e with
        |returned y=>exact hK y w' (conv y w' he)
        |panicked c=>exact he.elim
        |outgrown=>exact he.elim
     .simp at jK
    .simp at jK
   .simp at jK
  .-- no call
   have Qi:Gu o.op=false:=(by simpa using hc);have YK:Valid M (fun k=>D k∨M k=none) s.get w:=⟨fun k l hk hd=>hV.ok k l hk (hd.resolve_right (by simp[hk])),fun k k' l l' b a1 a2 a3 hd=>hV.own k k' l l' b a1 a2 a3 (hd.resolve_right (by simp[a2])),hV.inb⟩;obtain⟨he,x,w',M',hr,hp⟩:=ahB YK hE yL hnl jK Qi (fun k hk=>by
    cases hm:M k with
    |none=>exact .inr rfl
    |some l=>exact .inl (hD k (.inl hk) (by simp[hm])))
   have vT:Kr M D s w o i (St.put { s1 with ws:=jX fl i.ws s.ws } o.dst v) x w':=by
    refine⟨v,M',U4 _ _ _ _ he,?_⟩;have hg:St.get { s1 with ws:=jX fl i.ws s.ws }=s1.get:=getEnv s1 s1.env _;rw[YN,hg];exact⟨hp.val.sub fun k hk=>hk.imp .inl id,hp.ext,hp.er,hp.loc⟩
   refine⟨⟨x,w',vT⟩,fun r n Q idx K U5 hK=>?_⟩;unfold wpOpIn;simp only[U5,a0y,a2y];refine⟨fun _ _=>trivial,?_⟩;rw[Oper.semAt_eq _ _ _ (fun c ho=>by rw[a2u ho]at jK;cases jK)];rcases hr with hr|⟨rfl,hr⟩
   .rw[hr];exact hK x w' vT
   .rw[hr];exact hK _ w' vT
 .have a0y:=LJ hG hw;have vT:Kr M D s w o cZ (s.put o.dst .undef) Go.undef w:=by
   refine⟨.undef,M,U4 _ _ _ _ rfl,?_⟩;rw[YN];exact .same hV .undef
  refine⟨⟨_,_,vT⟩,fun r n Q idx K U5 hK=>?_⟩;unfold wpOpIn;simp only[U5,a0y,a2V,a3U];exact⟨fun _ _=>trivial,hK _ _ vT⟩
end
structure wH(M0:Mp)(h0:List HB)(w0:World):Prop where
 val:Valid M0 uK (l9 h0) w0
 loc:∀k,M0 (.l k)=none
structure Rel(M0:Mp)(h0:List HB)(w0:World)(nt:Nat)(M:Mp)(s:St)(a:Act)(w:World):Prop where
 val:Valid M uK s.get w
 ext:Ext M0 (l9 h0) w0 M s.get w (s.ws.map .h)
 env:jV M s.env a.tmps
 size:nt<=a.tmps.size
 marks:∀d∈a.defers,∃k r,d=⟨.collected r,#[]⟩∧l9 h0 (.h k)=none∧(∃o,M (.h k)=some (.obj r o))∧s.get (.h k)=some .mark∧w.heap[r]? = some (.deferred (some []))
 apart:a.defers.Pairwise (·≠·)
theorem a4U{fl b c:Nat}{ws:List Nat}:c∈Eu fl b ws↔c∈ws∨(c=b∧b<fl):=by
 unfold Eu;split
 .rename_i h;split
  .rename_i hc;have hc:b∈ws:=(by simpa using hc);constructor
   .exact .inl
   rintro (h1|⟨rfl,_⟩)
   .exact h1
   exact hc
  simp only[a2r];constructor
  .rintro (rfl|h1)
   .exact .inr ⟨rfl,h⟩
   exact .inl h1
  rintro (h1|⟨rfl,_⟩)
  .exact .inr h1
  exact .inl rfl
 rename_i h;constructor
 .exact .inl
 rintro (h1|⟨_,h1⟩)
 .exact h1
 exact absurd h1 h
theorem oh{fl c:Nat}:∀{ks:List Key} {ws:List Nat},c∈jX fl ks ws↔c∈ws∨(Key.h c∈ks∧c<fl)
 | [],ws=>by simp[jX]
 |.h b::ks,ws=>by
  rw[jX,oh,a4U];simp only[a2r,Key.h.injEq];constructor
  .rintro ((h|⟨rfl,h⟩)|⟨h1,h2⟩)
   .exact .inl h
   .exact .inr ⟨.inl rfl,h⟩
   exact .inr ⟨.inr h1,h2⟩
  rintro (h|⟨rfl|h1,h2⟩)
  .exact .inl (.inl h)
  .exact .inl (.inr ⟨rfl,h2⟩)
  exact .inr ⟨h1,h2⟩
 |.l b::ks,ws=>by
  rw[jX,oh];simp
theorem yQ{t:Nat}{s:St}{d:Option Nat}{v:EV}:dM t (s.put d v).env=if d=some t then some v else dM t s.env:=by
 cases d with
 |none=>simp[St.put]
 |some d=>simp[St.put,dM]
theorem yR{a:Act}{d:Option Nat}{x:Value}{t:Nat}:(a.put d x).tmps.getD t Go.undef=if d=some t∧t<a.tmps.size then x else a.tmps.getD t Go.undef:=by
 cases d with
 |none=>simp[Act.put]
 |some d=>
  simp only[Act.put,a03];simp only[<-adz,a8z,a8J];by_cases h:d=t
  .subst h;by_cases h1:d<a.tmps.size
   .simp[h1]
   simp[h1]
  simp[h]
theorem Gw{a:Act}{d:Option Nat}{x:Value}:(a.put d x).tmps.size=a.tmps.size:=by
 cases d<;>simp[Act.put]
theorem jL{a:Act}{d:Option Nat}{x:Value}:(a.put d x).defers=a.defers:=by
 cases d<;>rfl
section
variable {P:Program} {call:aY} {site:Nat->Bool} {fl nt:Nat} {ops:Array Oper} {o:Oper} {s s':St} {i:lZ}
theorem uo.a0z(h:uo P call site fl nt ops o s i s'):s'.ws=jX fl i.ws s.ws:=by
 obtain⟨_,⟨_,v,s1,_,rfl⟩|⟨_,rfl,rfl⟩⟩:=h
 .cases o.dst<;>rfl
 cases o.dst<;>rfl
theorem uo.dst(h:uo P call site fl nt ops o s i s'){d:Nat}(hd:o.dst=some d):d<nt:=by
 have:=h.1;simp only[Nc,hd]at this;simpa using this
variable {M0:Mp} {h0:List HB} {w0:World} {M:Mp} {a:Act} {w:World}
theorem Rel.loc(hR:Rel M0 h0 w0 nt M s a w):∀j l,M (.l j)=some l->∀k' l',Key.l j≠k'->M k'=some l'->∀c∈aI l,c∉aI l':=by
 intro j l hj k' l' iE o9;obtain⟨b,h1,_⟩:=hR.val.ok _ _ hj trivial;refine hR.val.own _ _ _ _ b iE hj o9 trivial h1 ?_;simp only[St.get,a0f]at h1;obtain⟨_,_,rfl⟩:=h1;rfl
theorem Rel.nh(hR:Rel M0 h0 w0 nt M s a w):M (.h s.heap.length)=none:=by
 cases h:M (.h s.heap.length)with
 |none=>rfl
 |some l=>have:=hR.val.has h;simp[St.get]at this
theorem Rel.nl(hR:Rel M0 h0 w0 nt M s a w):M (.l s.loc.length)=none:=by
 cases h:M (.l s.loc.length)with
 |none=>rfl
 |some l=>have:=hR.val.has h;simp[St.get]at this
theorem CP{h:List HB}{k:Key}(hk:(l9 h k).isSome=true):∃b,k=.h b∧b<h.length:=by
 cases k with
 |h b=>exact⟨b,rfl,by simpa[l9,St.get]using hk⟩
 |l j=>simp[l9,St.get]at hk
theorem YO{h:List HB}{b:Nat}(hb:b<h.length):(l9 h (.h b)).isSome=true:=by simp[l9,St.get,hb]
theorem Ri(hR:Rel M0 h0 w0 nt M s a w){M':Mp}{C':Ct}{w':World}{ws:List Key}(hX:Ext M s.get w M' C' w' ws) :
  ∀d∈a.defers,∃k r,d=⟨.collected r,#[]⟩∧l9 h0 (.h k)=none∧(∃o,M' (.h k)=some (.obj r o))∧C' (.h k)=some .mark∧w'.heap[r]? = some (.deferred (some [])):=by
 intro d hd;obtain⟨k,r,h1,h2,⟨o,h3⟩,h4,h5⟩:=hR.marks d hd;have hn:Key.h k∉ws:=fun CJ=>by
  have:=(hX.wrote _ CJ).2 _ h4;cases this
 obtain⟨l',g1,g2⟩:=hX.Iu _ _ h3;obtain⟨o',hl⟩:∃o',l'=.obj r o':=by
  cases l' with
  |cells ls=>exact g2.elim
  |obj r' o'=>cases g2.1;exact⟨o',rfl⟩
 refine⟨k,r,h1,h2,⟨o',by rw[g1,hl]⟩,by rw[hX.nD _ (by simp[h4]) hn,h4],?_⟩;rw[hX.frame r (a2q.1 h5).1 fun k' o9 l0 qJ hc=>?_,h5];obtain⟨b,hb,_⟩:=hR.val.ok _ _ qJ trivial;exact hR.val.own k' (.h k) l0 (.obj r o) b (fun e=>hn (e▸o9)) qJ h3 trivial hb ((hX.wrote _ o9).2 b hb) r hc (by simp[aI])
theorem NR(hB:wH M0 h0 w0)(hR:Rel M0 h0 w0 nt M s a w)(hS:uo P call site h0.length nt ops o s i s'){x:Value}{w':World}(vT:Kr M uK s w o i s' x w') :
  ∃M',Rel M0 h0 w0 nt M' s' (a.put o.dst x) w':=by
 obtain⟨v,M',he,hp⟩:=vT;refine⟨M',hp.val.sub fun k _=>.inl trivial,?_,?_,by rw[Gw];exact hR.size,by rw[jL];exact Ri hR hp.ext,by rw[jL];exact hR.apart⟩
 .refine hR.ext.trans hp.ext (fun k l hk=>hB.val.has hk) (fun k hk CJ=>?_) (fun k hk=>?_)
  .obtain⟨b,rfl,hb⟩:=CP hk;rw[hS.a0z];refine a1e.2 ⟨b,oh.2 ?_,rfl⟩;rcases CJ with h1|h1
   .obtain⟨b',h2,h3⟩:=a1e.1 h1;cases h3;exact .inl h2
   .exact .inr ⟨h1,hb⟩
  .rw[hS.a0z]at hk;obtain⟨b,hb,rfl⟩:=a1e.1 hk;rcases oh.1 hb with h1|⟨h1,h2⟩
   .have:Key.h b∈s.ws.map .h:=a1e.2 ⟨b,h1,rfl⟩;exact⟨hR.ext.wsub _ this,.inl this⟩
   .exact⟨YO h2,.inr h1⟩
 .intro t e hl;rw[he,yQ]at hl;rw[yR];by_cases hd:o.dst=some t
  .rw[a0q hd]at hl;have:=hS.dst hd;have:=hR.size;rw[a0q ⟨hd,by omega⟩];cases hl;exact hp.er
  .rw[a0p hd]at hl;rw[a0p (fun h=>hd h.1)];exact(hR.env t e hl).mono hp.ext.Iu hp.loc
theorem Rel.guard(hR:Rel M0 h0 w0 nt M s a w):LH M s.env a.tmps ops o:=fun _ _ d _ _ e he=>hR.env d e he
theorem Gx(hC:iF P call)(hR:Rel M0 h0 w0 nt M s a w)(hS:uo P call site h0.length nt ops o s i s') :
  (∃x w',Kr M uK s w o i s' x w') ∧
   ∀(r:Option Nat) (n:Nat) (Q:Exit->Act->World->Prop) (idx:Nat) (K:Act->World->Prop),ops[idx]? = some o ->
    (∀x w',Kr M uK s w o i s' x w'->K (a.put o.dst x) w')->wpOpIn (nK r) n P ops Q idx K a w:=
 a0x hC hS hR.val hR.nh hR.nl hR.loc (hR.env.on _) hR.guard fun _ _ _=>trivial
theorem CQ{o:Oper}{os:List Oper}{s s':St}{is:List lZ}(h:lC P call site fl nt ops (o::os) s=some (s',is)) :
  ∃i s1 is',uo P call site fl nt ops o s i s1∧lC P call site fl nt ops os s1=some (s',is')∧is=i::is':=by
 simp only[lC]at h;split at h
 .simp at h
 .rename_i hd;have hd:Nc nt o=true:=by simpa using hd
  split at h
  .rename_i hw;split at h
   .rename_i v s1 i jK;split at h
    .rename_i s2 is2 hr;simp only[a03,a0u]at h;obtain⟨rfl,rfl⟩:=h;exact⟨i,_,_,⟨hd,.inl ⟨hw,v,s1,jK,rfl⟩⟩,hr,rfl⟩
    .simp at h
   .simp at h
  .rename_i hw;split at h
   .rename_i s2 is2 hr;simp only[a03,a0u]at h;obtain⟨rfl,rfl⟩:=h;exact⟨_,_,_,⟨hd,.inr ⟨hw,rfl,rfl⟩⟩,hr,rfl⟩
   .simp at h
  .simp at h
theorem a4V(hC:iF P call)(hB:wH M0 h0 w0){r:Option Nat}{n:Nat}{Q:Exit->Act->World->Prop}:∀(os:List Oper) (k:Nat) (s s':St) (is:List lZ) (M:Mp) (a:Act) (w:World),ops.toList.drop k=os ->
  lC P call site h0.length nt ops os s=some (s',is)->Rel M0 h0 w0 nt M s a w ->
  (∀M' a' w',Rel M0 h0 w0 nt M' s' a' w'->a'.defers=a.defers->Q .normal a' w')->wpOpsIn (nK r) n P ops Q (List.range' k os.length) a w
 | [],k,s,s',is,M,a,w,_,h,hR,hQ=>by
  simp only[lC,a03,a0u]at h;obtain⟨rfl,rfl⟩:=h;exact hQ M a w hR rfl
 |o::os,k,s,s',is,M,a,w,hd,h,hR,hQ=>by
  obtain⟨i,s1,is',hS,hr,rfl⟩:=CQ h;have ho:ops[k]? = some o:=by
   have:=congrArg (fun l=>l[0]?) hd;simpa using this
  have YL:ops.toList.drop (k+1)=os:=by
   rw[<-af5,hd];rfl
  simp only[a4d,List.range'_succ];rw[wpOpsIn_cons];refine(Gx hC hR hS).2 r n Q k _ ho fun x w' vT=>?_;obtain⟨M',FB⟩:=NR hB hR hS vT;exact a4V hC hB os (k+1) s1 s' is' M' _ w' YL hr FB fun M2 a2 w2 h2 hdf=>hQ M2 a2 w2 h2 (hdf.trans jL)
theorem a2v(hC:iF P call)(hB:wH M0 h0 w0){r:Option Nat}{n:Nat}{Q:Exit->Act->World->Prop}{id:Nat}{s s':St}{is:List lZ}{M:Mp}{a:Act}{w:World}
  (h:lC P call site h0.length nt ops ops.toList s=some (s',is)) (hR:Rel M0 h0 w0 nt M s a w)
  (hQ:∀M' a' w',Rel M0 h0 w0 nt M' s' a' w'->a'.defers=a.defers->Q .normal a' w'):(Code.region id ops false).wpIn (nK r) n P Q a w:=by
 refine wpIn_region ?_;have:=a4V (r:=r) (n:=n) (Q:=Q) hC hB ops.toList 0 s s' is M a w rfl h hR hQ;simpa[List.range_eq_range']using this
end
theorem NS{i:Nat}:∀{xs l:List Nat},i∈Nh xs l->i∈xs∨i∈l
 | [],l,h=>.inr h
 |x::xs,l,h=>by
  simp only[Nh]at h;rcases NS h with h1|h1
  .exact .inl (a3n _ h1)
  split at h1
  .exact .inr h1
  rcases a2r.1 h1 with rfl|h2
  .exact .inl a3l
  exact .inr h2
theorem Gy{acc:List (List Nat)}{i:Nat}:∀{es:List Edge} {l:List Nat},
  i∈es.foldl (fun l e=>if Region.binds .any e then Nh (e.on::acc.getD e.on []) l else l) l->i∈l∨∃e∈es,Region.binds .any e=true∧(i=e.on∨i∈acc.getD e.on [])
 | [],l,h=>.inl h
 |e::es,l,h=>by
  simp only[adi]at h;rcases Gy h with h1|⟨e',h2,h3⟩
  .split at h1
   .rename_i hb;rcases NS h1 with h2|h2
    .refine .inr ⟨e,a3l,hb,?_⟩;exact a2r.1 h2
    .exact .inl h2
   .exact .inl h1
  .exact .inr ⟨e',a3n _ h2,h3⟩
theorem YP{acc:List (List Nat)}{o:Oper}{i:Nat}(h:i∈F9 acc o):∃e∈o.after,Region.binds .any e=true∧(i=e.on∨i∈acc.getD e.on []):=by
 rcases Gy h with h1|⟨e,h2,h3⟩
 .cases h1
 exact⟨e,by simpa using h2,h3⟩
theorem Gz:∀(os:List Oper) (acc:List (List Nat)),∃t,EH os acc=acc++t
 | [],acc=>⟨[],by simp[EH]⟩
 |o::os,acc=>by
  obtain⟨t,ht⟩:=Gz os (acc++[F9 acc o]);exact⟨F9 acc o::t,by simp[EH,ht]⟩
theorem Rj:∀(os:List Oper) (acc:List (List Nat)) (k:Nat) (o:Oper),os[k]? = some o ->
  (EH os acc)[acc.length+k]? = some (F9 ((EH os acc).take (acc.length+k)) o)
 | [],acc,k,o,h=>by simp at h
 |o'::os,acc,0,o,h=>by
  simp at h;subst h;obtain⟨t,ht⟩:=Gz os (acc++[F9 acc o']);simp[EH,ht]
 |o'::os,acc,k+1,o,h=>by
  have:=Rj os (acc++[F9 acc o']) k o (by simpa using h);simp only[EH];simp only[a1s,a4d,a4H]at this
  rwa [show acc.length+(0+1)+k=acc.length+(k+1) by omega]at this
def VT(ops:List Oper)(j:Nat):List Nat:=(EH ops []).getD j []
theorem a4W{ops:List Oper}{j i:Nat}{o:Oper}(hj:ops[j]? = some o)(h:i∈VT ops j):∃e∈o.after,Region.binds .any e=true∧(i=e.on∨(e.on<j∧i∈VT ops e.on)):=by
 have:=Rj ops [] j o hj;simp only[a4H,a3Z]at this;unfold VT at h;rw[a2X,this]at h;simp only[a4M]at h;obtain⟨e,h1,h2,h3⟩:=YP h;refine⟨e,h1,h2,h3.imp id fun h4=>?_⟩;rw[a2X,a4i]at h4;split at h4
 .rename_i aQ;exact⟨aQ,by unfold VT;rw[a2X];exact h4⟩
 simp at h4
def uq(D:Nat->Prop)(o:Oper):Prop:=∀e∈o.after,Region.binds .any e=true->D e.on
theorem U6{ops:List Oper}{D:Nat->Prop}(hc:∀j o,ops[j]? = some o->D j->uq D o):∀(j:Nat) (o:Oper),ops[j]? = some o->uq D o->∀i∈VT ops j,D i:=by
 intro j
 induction j using Nat.strongRecOn with
 |_ j ih=>
  intro o ho hw i hi;obtain⟨e,h1,h2,h3⟩:=a4W ho hi;rcases h3 with rfl|⟨aQ,h4⟩
  .exact hw e h1 h2
  have hd:=hw e h1 h2;have hl:j<ops.length:=(a0d.1 ho).1;have hoe:ops[e.on]? = some ops[e.on]:=a0g (by omega);exact ih e.on aQ _ hoe (hc _ _ hoe hd) i h4
theorem yE{ops:List Oper}{i j:Nat}(A8:i<j)(hj:j<ops.length)(hn:i∉VT ops j):(i,j)∈o7 ops:=by
 simp only[o7,adC,a4o,a1e,a8B];exact⟨j,hj,i,⟨A8,by simpa[VT]using hn⟩,rfl⟩
theorem VU{ops:List Oper}(h:nI ops=true){i:Nat}{o:Oper}(ho:ops[i]? = some o){e:Edge}(he:e∈o.after)(hb:Region.binds .any e=true):e.on<i:=by
 simp only[nI,a2n,a4x]at h;have:=h.1 (o,i) (by
  rw[a9n];simpa using ho)
 simp only[acG]at this;have:=this e he;simpa[hb]using this
theorem Aa{ops:List Oper}(h:nI ops=true){i j:Nat}{a b:Oper}(hp:(i,j)∈o7 ops)(ha:ops[i]? = some a)(hb:ops[j]? = some b):a.apart ops.toArray b=true∧b.apart ops.toArray a=true:=by
 simp only[nI,a2n,a4x]at h;have:=h.2 (i,j) hp;simpa[ha,hb]using this
theorem Rk{xu:List lZ}:∀{ps:List (Nat×Nat)},Bj xu ps=true->∀{i j:Nat} {a b:lZ},(i,j)∈ps->xu[i]? = some a->xu[j]? = some b->calm a b=true
 | [],_,i,j,a,b,h,_,_=>by cases h
 |(x,y)::r,hd,i,j,a,b,h,ha,hb=>by
  simp only[Bj,a2n]at hd;rcases a2r.1 h with h1|h1
  .cases h1;simpa[ha,hb]using hd.1
  exact Rk hd.2 h1 ha hb
section
variable {P:Program} {call:aY} {site:Nat->Bool} {s s1:St} {o:Oper} {v:EV} {i:lZ}
theorem a4X{t:TypeId}{a:EV}{r:TV×lZ}(h:loadT P t s a=some r):r.2.ws=[]:=by
 unfold loadT at h;split at h
 .split at h
  .simp only[a0f]at h;obtain⟨_,_,rfl⟩:=h;rfl
  simp at h
 .split at h
  .split at h
   .simp only[a0f]at h;obtain⟨_,_,rfl⟩:=h;rfl
   simp at h
  simp at h
 simp at h
theorem a94{at_:Array TypeId}{h0:List HB}{x:TV}{r:TV×lZ}(h:Yw P at_ h0 x=some r):r.2.ws=[]:=by
 unfold Yw at h
 repeat' (split at h)
 all_goals first
  |(simp at h;done)
  |(simp only[a03]at h;subst h;rfl)
theorem ahC(h:pz P call site s o=some (v,s1,i))(hm:IE o.op=false):i.ws=[]:=by
 unfold pz at h;split at h
 all_goals first
  |(simp at h;done)
  |(rename_i ho;rw[ho]at hm;simp[IE]at hm;done)
  |(simp only[a0f,a0u]at h;obtain⟨_,_,_,_,rfl⟩:=h;rfl)
  |(split at h<;>first|(simp at h;done)|(simp only[a0f,a0u,a03]at h;first|(obtain⟨_,_,_,_,rfl⟩:=h;rfl)|(obtain⟨_,_,rfl⟩:=h;rfl)))
  |skip
 .split at h
  .split at h
   .simp only[a03,a0u]at h;obtain⟨_,_,rfl⟩:=h;rfl
   simp at h
  simp at h
 .split at h
  .simp only[a0f,a0u]at h;obtain⟨r,hr,_,_,rfl⟩:=h;exact a4X hr
  simp at h
 .split at h
  .split at h
   .simp only[a0f,a0u]at h;obtain⟨_,_,_,_,rfl⟩:=h;rfl
   .simp only[a0f,a0u]at h;obtain⟨_,_,_,_,rfl⟩:=h;rfl
   simp at h
  simp at h
 .rename_i c ho;rw[ho]at hm;obtain⟨callee,args,ats⟩:=c;unfold Nb at h;simp only at h;split at h
  .rename_i b az;simp only[a0f,a0u]at h;obtain⟨⟨v0,s0,i0⟩,hb,_,_,rfl⟩:=h;simp only[IE]at hm;unfold qO at hb;split at hb
   .simp only[a0f,a0u]at hb;obtain⟨r,hr,_,_,rfl⟩:=hb;exact a94 hr
   .simp at hm
   .simp at hm
   .simp only[a0f,a0u]at hb;obtain⟨r,hr,_,_,rfl⟩:=hb;rfl
   .simp only[a0f,a0u]at hb;obtain⟨r,hr,_,_,rfl⟩:=hb;rfl
   simp at hb
  .simp[IE]at hm
  simp at h
 .split at h
  .split at h
   .simp only[a03,a0u]at h;obtain⟨_,_,rfl⟩:=h;rfl
   simp at h
  simp at h
 split at h
 .split at h
  .split at h
   .split at h
    .simp only[a0f,a0u]at h;obtain⟨_,_,_,_,rfl⟩:=h;rfl
    simp at h
   simp at h
  simp at h
 simp at h
theorem ahD(h:pz P call site s o=some (v,s1,i))(hm:Nj o.op=false):i.ts=[]∧i.ws=[]∧i.all=false:=by
 unfold pz at h;split at h
 all_goals first
  |(simp at h;done)
  |(rename_i ho;rw[ho]at hm;simp[Nj]at hm;done)
  |(simp only[a0f,a0u]at h;obtain⟨_,_,_,_,rfl⟩:=h;exact⟨rfl,rfl,rfl⟩)
  |(split at h<;>first|(simp at h;done)|(simp only[a0f,a0u,a03]at h;first|(obtain⟨_,_,_,_,rfl⟩:=h;exact⟨rfl,rfl,rfl⟩)|(obtain⟨_,_,rfl⟩:=h;exact⟨rfl,rfl,rfl⟩)))
  |skip
 .split at h
  .split at h
   .simp only[a03,a0u]at h;obtain⟨_,_,rfl⟩:=h;exact⟨rfl,rfl,rfl⟩
   simp at h
  simp at h
 .split at h
  .split at h
   .simp only[a0f,a0u]at h;obtain⟨_,_,_,_,rfl⟩:=h;exact⟨rfl,rfl,rfl⟩
   .simp only[a0f,a0u]at h;obtain⟨_,_,_,_,rfl⟩:=h;exact⟨rfl,rfl,rfl⟩
   simp at h
  simp at h
 rename_i c ho;rw[ho]at hm;obtain⟨callee,args,ats⟩:=c;unfold Nb at h;simp only at h;split at h
 .rename_i b az;simp only[a0f,a0u]at h;obtain⟨⟨v0,s0,i0⟩,hb,_,_,rfl⟩:=h;simp only[Nj]at hm;unfold qO at hb;split at hb
  .simp at hm
  .simp at hm
  .simp at hm
  .simp only[a0f,a0u]at hb;obtain⟨r,hr,_,_,rfl⟩:=hb;exact⟨rfl,rfl,rfl⟩
  .simp only[a0f,a0u]at hb;obtain⟨r,hr,_,_,rfl⟩:=hb;exact⟨rfl,rfl,rfl⟩
  simp at hb
 .simp[Nj]at hm
 simp at h
variable {fl nt:Nat} {ops:Array Oper} {s':St}
theorem uo.w(h:uo P call site fl nt ops o s i s')(hm:IE o.op=false):i.ws=[]:=by
 obtain⟨_,⟨_,v,s1,h1,_⟩|⟨_,rfl,_⟩⟩:=h
 .exact ahC h1 hm
 rfl
theorem uo.t(h:uo P call site fl nt ops o s i s')(hm:Nj o.op=false):i.ts=[]∧i.ws=[]∧i.all=false:=by
 obtain⟨_,⟨_,v,s1,h1,_⟩|⟨_,rfl,_⟩⟩:=h
 .exact ahD h1 hm
 exact⟨rfl,rfl,rfl⟩
theorem NT{ws:List Key}{b:lZ}(h:Nk ws b=true){k:Key}(hk:k∈ws):¬og b k:=by
 simp only[Nk,a4x]at h;have:=h k hk;simp only[a2n,a8H,agH]at this;obtain⟨⟨h1,h2⟩,h3⟩:=this;rintro (h4|h4|⟨h4,h5⟩)
 .simp[h4]at h2
 .simp[h4]at h3
 simp[h4,h5]at h1
theorem a2w{xu:List lZ}{ol:List Oper}(hd:Bj xu (mV ol)=true){x y:Nat}{a b:Oper}{ia ib:lZ}{sa sa' sb sb':St}(hp:(x,y)∈o7 ol)(ha:ol[x]? = some a)(hb:ol[y]? = some b)
  (hia:xu[x]? = some ia) (hib:xu[y]? = some ib) (sta:uo P call site fl nt ops a sa ia sa') (stb:uo P call site fl nt ops b sb ib sb') :
  Bh a b=true∨((∀k∈ia.ws,¬og ib k)∧(∀k∈ib.ws,¬og ia k)):=by
 cases hsp:Bh a b
 case true=>exact .inl rfl
 right;by_cases hh:((IE a.op&&Nj b.op)||(Nj a.op&&IE b.op))=true
 .have hm:(x,y)∈mV ol:=by
   simp only[mV,a8B];refine⟨hp,?_⟩;simp only[ha,hb,hsp,abt,ah0];exact hh
  have:=Rk hd hm hia hib;simp only[calm,a2n]at this;exact⟨fun k hk=>NT this.1 hk,fun k hk=>NT this.2 hk⟩
 .simp only[a8R,a2n,adn,not_and,agm]at hh;constructor
  .intro k hk ht;have h1:IE a.op=true:=by
    cases h2:IE a.op with
    |true=>rfl
    |false=>rw[sta.w h2]at hk;cases hk
   obtain⟨t1,t2,t3⟩:=stb.t (hh.1 h1);rcases ht with h|h|⟨h,_⟩
   .rw[t1]at h;cases h
   .rw[t2]at h;cases h
   .rw[t3]at h;cases h
  .intro k hk ht;have h1:IE b.op=true:=by
    cases h2:IE b.op with
    |true=>rfl
    |false=>rw[stb.w h2]at hk;cases hk
   have h2:Nj a.op=false:=by
    cases h3:Nj a.op with
    |false=>rfl
    |true=>have:=hh.2 h3;rw[h1]at this;cases this
   obtain⟨t1,t2,t3⟩:=sta.t h2;rcases ht with h|h|⟨h,_⟩
   .rw[t1]at h;cases h
   .rw[t2]at h;cases h
   .rw[t3]at h;cases h
end
end Tw
