/- Part 1 of a proof: At how many places a diagram has a cell, and the first one, are the document's, or the errors are; for all diagrams and cells. -/
import Derived.RangeFuncLeaves
import Derived.OrdersIn
import Derived.Laws.CopyRow
import Derived.Laws.Rows
import Derived.Laws.Entries
set_option linter.unusedVariables false
set_option linter.unusedSimpArgs false
set_option linter.unusedSectionVars false
open Go.IntKind (i64)
noncomputable section
abbrev a01:=@Option.some.injEq
abbrev a02:=@List.getElem?_eq_some_iff
abbrev a0D:=@Option.map_eq_some_iff
abbrev a0E:=@List.getElem?_eq_getElem
abbrev a0N:=@List.getElem?_append_left
abbrev a0S:=@if_neg
abbrev a0V:=@if_pos
abbrev a1o:=@Prod.mk.injEq
abbrev a1z:=@Option.map_some
abbrev a1H:=@List.getElem?_append_right
abbrev a1J:=@Nat.le_refl
abbrev a1L:=@List.mem_map
abbrev a1M:=@List.getElem?_set_ne
abbrev a1T:=@decide_eq_true_eq
abbrev a1V:=@List.getElem?_set_self
abbrev a2m:=@List.length_append
abbrev a2r:=@Bool.and_eq_true
abbrev a2s:=@Array.getElem?_eq_some_iff
abbrev a2t:=@List.mem_cons
abbrev a2D:=@if_true
abbrev a2H:=@Bool.false_eq_true
abbrev a2I:=@List.getElem?_cons_zero
abbrev a2J:=@List.mem_singleton
abbrev a3d:=@List.getD_eq_getElem?_getD
abbrev a3t:=@decide_eq_false_iff_not
abbrev a3u:=@List.mem_cons_self
abbrev a3w:=@List.mem_cons_of_mem
abbrev a3x:=@if_false
abbrev a3y:=@List.mem_append
abbrev a3z:=@Nat.mul_le_mul_right
abbrev a3A:=@Nat.add_mul
abbrev a3B:=@List.length_take
abbrev a3C:=@Array.getElem?_eq_getElem
abbrev a3D:=@List.length_drop
abbrev a3E:=@Nat.zero_add
abbrev a3F:=@List.eq_nil_of_length_eq_zero
abbrev a3G:=@List.length_singleton
abbrev a3H:=@List.map_append
abbrev a3I:=@List.getElem?_eq_none
abbrev a3J:=@List.length_cons
abbrev a3K:=@List.map_cons
abbrev a3L:=@Nat.lt_or_ge
abbrev a3M:=@List.getElem?_drop
abbrev a3N:=@List.getElem?_set_self'
abbrev a3O:=@List.getElem?_take
abbrev a3P:=@List.nodup_cons
abbrev a3Q:=@List.length_map
abbrev a3R:=@List.mem_range
abbrev a3S:=@Option.bind_some
abbrev a3V:=@List.getElem?_map
abbrev a3W:=@List.length_set
abbrev a4b:=@List.mem_of_getElem?
abbrev a4d:=@List.getElem_mem
abbrev a4f:=@List.all_eq_true
abbrev a4g:=@Bool.eq_iff_iff
abbrev a4h:=@List.mem_iff_getElem
abbrev a4l:=@List.idxOf_lt_length_iff
abbrev a4p:=@Nat.le_trans
abbrev a4q:=@Option.isSome_iff_exists
abbrev a4s:=@Option.getD_some
abbrev a4A:=@Nat.zero_le
abbrev a4O:=@List.contains_eq_mem
abbrev a4U:=@not_false_eq_true
abbrev a5m:=@Int.toNat_natCast
abbrev a5q:=@List.length_nil
abbrev a5s:=@List.mem_of_mem_drop
abbrev a5u:=@List.mem_append_left
abbrev a5I:=@List.append_assoc
abbrev a6a:=@List.nodup_nil
abbrev a6f:=@List.map_congr_left
abbrev a6h:=@List.append_nil
abbrev a6G:=@List.prefix_rfl
abbrev a6M:=@List.mem_filterMap
abbrev a6Y:=@List.take_succ_eq_append_getElem
abbrev a6Z:=@List.map_map
abbrev a7k:=@beq_iff_eq
abbrev a7v:=@List.eq_nil_iff_forall_not_mem
abbrev a7H:=@List.perm_ext_iff_of_nodup
abbrev a7O:=@List.length_eq_zero_iff
abbrev a7Q:=@of_decide_eq_true
abbrev a7R:=@List.drop_eq_getElem_cons
abbrev a8d:=@Nat.min_eq_left
abbrev a8e:=@List.mem_filter
abbrev a8f:=@not_true
abbrev a8g:=@Array.getD_eq_getD_getElem?
abbrev a8h:=@Int.emod_eq_of_lt
abbrev a8i:=@List.getElem?_of_mem
abbrev a8j:=@List.getElem_idxOf
abbrev a8k:=@Int.mul_le_mul_of_nonneg_left
abbrev a8l:=@List.nodup_append
abbrev a8m:=@Bool.not_eq_true'
abbrev a8n:=@List.mem_iff_getElem?
abbrev a8o:=@Array.getElem?_setIfInBounds
abbrev a8p:=@Nat.eq_of_beq_eq_true
abbrev a8q:=@Bool.not_true
abbrev a8r:=@List.length_range
abbrev a8s:=@List.filterMap_cons
abbrev a8t:=@Bool.or_eq_true
abbrev a8x:=@Option.some.inj
abbrev a8A:=@Int.mul_le_mul_of_nonneg_right
abbrev a8C:=@Classical.choose_spec
abbrev a8D:=@List.length_replicate
abbrev a8E:=@List.length_filter_le
abbrev a8K:=@Nat.lt_of_lt_of_le
abbrev a8P:=@List.getElem_map
abbrev a8X:=@List.prefix_append
abbrev a8Y:=@Int.le_refl
abbrev a8Z:=@List.mem_of_mem_take
abbrev a95:=@List.mem_zipIdx_iff_getElem?
abbrev a99:=@Bool.or_eq_false_iff
abbrev a9a:=@List.idxOf_eq_length
abbrev a9b:=@List.getElem?_cons_succ
abbrev a9f:=@List.getElem?_set
abbrev a9h:=@List.ext_getElem?
abbrev a9o:=@List.idxOf_append
abbrev a9q:=@Array.length_toList
abbrev a9s:=@List.take_of_length_le
abbrev a9K:=@List.findIdx?_eq_some_iff_getElem
abbrev a9L:=@Nat.add_assoc
abbrev a9M:=@Array.getElem?_append_left
abbrev aa7:=@List.getElem_inj
abbrev aae:=@List.ext_getElem
abbrev aam:=@List.length_mergeSort
abbrev aaX:=@Nat.le_of_lt
abbrev aaY:=@List.length_pos_iff
abbrev aaZ:=@List.getElem_of_mem
abbrev ab3:=@Bool.not_false
abbrev ab4:=@List.drop_zero
abbrev ab5:=@List.take_length
abbrev ab7:=@Nat.eq_zero_or_pos
abbrev ab9:=@List.map_nil
abbrev abb:=@Array.getElem?_modify
abbrev abj:=@List.mem_append_right
abbrev abk:=@List.nil_append
abbrev abn:=@List.all_cons
abbrev abo:=@Int.add_mul_emod_self_left
abbrev abq:=@forall_congr'
abbrev abr:=@List.nodup_iff_pairwise_ne
abbrev abt:=@Classical.byContradiction
abbrev ac6:=@List.pairwise_iff_getElem
abbrev ach:=@Int.mul_one
abbrev acr:=@Nat.zero_mul
abbrev acz:=@Array.all_eq_true_iff_forall_mem
abbrev acE:=@Nat.le_of_not_lt
abbrev acG:=@and_self
abbrev acL:=@Prod.ext
abbrev acM:=@List.filter_cons_of_neg
abbrev acP:=@List.filter_cons_of_pos
abbrev acQ:=@List.getElem?_replicate
abbrev acW:=@Bool.true_and
abbrev acX:=@List.any_cons
abbrev acY:=@List.foldl_cons
abbrev ad1:=@not_or
abbrev ad3:=@List.range_succ
abbrev ad4:=@Bool.not_eq_false'
abbrev ad5:=@List.Nodup.length_le_of_subset
abbrev ad6:=@List.find?_eq_none
abbrev ad7:=@List.idxOf_cons
abbrev ad9:=@Nat.one_mul
abbrev ada:=@Nat.le_mul_of_pos_left
abbrev ade:=@Nat.add_zero
abbrev adg:=@List.getElem?_toArray
abbrev ado:=@Array.getElem?_toList
abbrev adr:=@Array.ext'
abbrev adt:=@List.mem_flatMap
abbrev adH:=@List.getElem?_modify
abbrev adI:=@List.nodup_range
abbrev ae2:=@List.replicate_succ
abbrev aez:=@List.mergeSort_perm
abbrev aeA:=@Int.natCast_mul
abbrev aeS:=@List.cons.injEq
abbrev af5:=@decide_eq_false
abbrev afg:=@List.mem_of_find?_eq_some
abbrev afm:=@Bool.true_eq_false
abbrev afx:=@Int.le_of_lt
abbrev afJ:=@List.take_take
abbrev afM:=@List.drop_drop
abbrev ag3:=@Option.map_map
abbrev ag4:=@Int.mul_nonneg
abbrev ag5:=@List.pairwise_map
abbrev ag6:=@Int.add_mul
abbrev ag7:=@List.drop_of_length_le
abbrev ag8:=@Bool.false_or
abbrev ag9:=@List.prefix_refl
abbrev aga:=@Bool.not_eq_true
abbrev agb:=@List.any_eq_true
abbrev agc:=@Bool.and_eq_false_iff
abbrev agd:=@Nat.le_of_ble_eq_true
abbrev agf:=@Nat.le_of_eq
abbrev agh:=@Nat.sub_self
abbrev agi:=@List.find?_cons
abbrev agj:=@Int.emod_nonneg
abbrev agk:=@Int.ediv_nonneg
abbrev agl:=@Int.add_comm
abbrev agm:=@List.getElem?_mapIdx
abbrev agn:=@Int.toNat_of_nonneg
abbrev agp:=@Nat.succ_eq_add_one
abbrev agq:=@beq_eq_false_iff_ne
abbrev agr:=@List.getElem?_range
abbrev ags:=@List.filter_eq_self
abbrev agt:=@List.drop_take
abbrev agu:=@Nat.mul_le_mul
abbrev agv:=@Nat.mul_one
abbrev agw:=@List.contains_cons
abbrev agx:=@List.count_pos_iff
abbrev agy:=@Bool.and_true
namespace Tw
open Go
inductive NK where
 |ptr|slc|map|fn|ifc
 deriving DecidableEq
inductive TV where
 |bool (b:Bool)
 |int (k:IntKind) (n:Int)
 |str (s:ByteArray)
 |nil (k:NK)
 |ptr (b off lim:Nat)
 |slc (b off len cap sz:Nat) (ex:Bool)
 |map (r:Nat)
 |fn (f:FuncId) (first cap:List TV)
 |jZ (l:Nat)
 |agg (cs:List TV)
 |dG (cs:List TV)
 |iter (b:Nat)
inductive EV where
 |val (v:TV)
 |loc (k off:Nat)
 |undef
 |ent (r j:Nat) (v:TV)
 |DY (r j:Nat)
inductive BK where
 |ro|own|grow|last
 deriving DecidableEq
inductive HB where
 |cells (k:BK) (cs:List TV)
 |map (es:List (TV×TV))
 |mg (cs:List TV)
 |mark
 |cu (r n:Nat) (seen:List Nat)
 |loop (ready:Bool) (f:FuncId) (nt:Nat) (env:List (Nat×EV)) (ps:List Nat) (assign body:Code) (jA:Option Code)
structure St where
 env:List (Nat×EV)
 loc:List (List TV)
 heap:List HB
 ws:List Nat
inductive Key where
 |h (b:Nat)
 |l (k:Nat)
 deriving DecidableEq
def St.get(s:St):Key->Option HB
 |.h b=>s.heap[b]?
 |.l k=>(s.loc[k]?).map (.cells .own)
def TV.toC:TV->Option Value
 |.bool b=>some (.bool b)
 |.int k n=>some (.int k n)
 |.str s=>some (.string s)
 |.nil .ptr=>some (.pointer none)
 |.nil .slc=>some (.slice none 0 0)
 |.nil .map=>some (.map none)
 |.nil .fn=>some .nilFunc
 |.nil .ifc=>some .nilIface
 |_=>none
def TV.SQ:List TV->Option (List Value)
 | []=>some []
 |c::cs=>match c.toC,TV.SQ cs with
  |some v,some vs=>some (v::vs)
  |_,_=>none
def TV.yt:TV->Option Value
 |.agg cs=>(TV.SQ cs).map fun vs=>.agg vs.toArray
 |v=>v.toC
def TV.ZG:Value->Option TV
 |.bool b=>some (.bool b)
 |.int k n=>some (.int k n)
 |.string s=>some (.str s)
 |.pointer none=>some (.nil .ptr)
 |.slice none 0 0=>some (.nil .slc)
 |.map none=>some (.nil .map)
 |.nilFunc=>some (.nil .fn)
 |.nilIface=>some (.nil .ifc)
 |_=>none
def TV.BF:List Value->Option (List TV)
 | []=>some []
 |c::cs=>match TV.ZG c,TV.BF cs with
  |some v,some vs=>some (v::vs)
  |_,_=>none
def TV.V5:Value->Option TV
 |.agg cs=>(TV.BF cs.toList).map .agg
 |v=>TV.ZG v
def TV.aaV:TV->Bool
 |.bool _|.int _ _|.str _|.nil _=>true
 |_=>false
def TV.aaW:TV->Bool
 |.agg cs=>cs.all TV.aaV
 |v=>v.aaV
def TV.flat:TV->Bool
 |.dG vs=>vs.all TV.aaW
 |v=>v.aaW
def TV.cells:TV->List TV
 |.agg cs=>cs
 |v=>[v]
def iO:TV->Bool
 |.agg _|.dG _=>false
 |_=>true
def aB{α:Type}(P:Program):Sem α->Option α
 |.pure a=>some a
 |.program k=>aB P (k P)
 |.mark _ k=>aB P k
 |_=>none
def dL(t:Nat):List (Nat×EV)->Option EV
 | []=>none
 |(k,v)::r=>if k=t then some v else dL t r
def St.put(s:St)(dst:Option Nat)(v:EV):St:=
 match dst with
 |some d=>{ s with env:=(d,v)::s.env }
 |none=>s
def pick(live:List Nat)(env:List (Nat×EV)):List (Nat×EV):=
 match live with
 | []=>[]
 |t::r=>match dL t env with
  |some v=>(t,v)::pick r env
  |none=>pick r env
def Hz(env:List (Nat×EV)):Operand->Option EV
 |.tmp t=>dL t env
 |.const v=>(TV.V5 v).map .val
 |.func f=>some (.val (.fn f [] []))
 |.global _=>none
def qE(env:List (Nat×EV))(x:Operand):Option TV:=
 match Hz env x with
 |some (.val v)=>some v
 |_=>none
def SS(env:List (Nat×EV)):List Operand->Option (List TV)
 | []=>some []
 |x::xs=>match qE env x,SS env xs with
  |some v,some vs=>some (v::vs)
  |_,_=>none
def Va(env:List (Nat×EV)):List (Nat×Operand)->Option (List (Nat×TV))
 | []=>some []
 |(i,x)::xs=>match qE env x,Va env xs with
  |some v,some vs=>some ((i,v)::vs)
  |_,_=>none
structure lG where
 all:Bool
 ts:List Key
 ws:List Key
def bW:lG:=⟨false,[],[]⟩
def wW(k:Key):lG:=⟨false,[k],[]⟩
def gU(k:List Key):lG:=⟨false,k,[]⟩
def oM(k:Key):lG:=⟨false,[k],[k]⟩
def sub(cs:List TV)(off n:Nat):Option (List TV):=
 if off+n<=cs.length then some ((cs.drop off).take n)else none
def vN(cs:List TV)(off:Nat)(new:List TV):Option (List TV):=
 if off+new.length<=cs.length then some (cs.take off++new++cs.drop (off+new.length))else none
def vO(P:Program)(t:TypeId):Option Bool:=
 match P.underlying t with
 |some (.struct _)|some (.array _ _)=>some true
 |some _=>some false
 |none=>none
def dw(P:Program)(t:TypeId):Option Nat:=(P.info? t).map (·.size)
def tY(P:Program)(t:TypeId)(cs:List TV)(off:Nat):Option TV:=
 match vO P t,dw P t with
 |some true,some n=>(sub cs off n).map .agg
 |some false,some n=>if n=1 then cs[off]? else none
 |_,_=>none
def Jp(P:Program)(t:TypeId):Option (List TV):=
 match P.info? t with
 |some i=>match i.zero with
  |some z=>(TV.V5 z).map TV.cells
  |none=>none
 |none=>none
def aU(h:List HB)(b:Nat):Option (List TV):=
 match h[b]? with
 |some (.cells _ cs)=>some cs
 |_=>none
def lH(h:List HB)(b lim:Nat):Option (List TV):=
 match h[b]? with
 |some (.cells k cs)=>if k=.last∧lim≠cs.length then none else some cs
 |_=>none
def DZ(floor:Nat)(b:Nat)(ws:List Nat):List Nat:=
 if b<floor then(if ws.contains b then ws else b::ws)else ws
def jK(floor:Nat):List Key->List Nat->List Nat
 | [],ws=>ws
 |.h b::r,ws=>jK floor r (DZ floor b ws)
 |.l _::r,ws=>jK floor r ws
def zK(k:BK)(whole:Bool):Option BK:=
 match k,whole with
 |.own,_=>some .own
 |.grow,true=>some .last
 |.last,true=>some .last
 |_,_=>none
def SV(h:List HB)(b off lim:Nat)(new:List TV):Option (List HB):=
 match h[b]? with
 |some (.cells k cs)=>match zK k (lim==cs.length)with
  |some k'=>(vN cs off new).map fun cs'=>h.set b (.cells k' cs')
  |none=>none
 |_=>none
def BK.more:BK->BK
 |.last=>.last
 |_=>.grow
def rU(place:Nat->Option (Nat×Nat)):List TV->List (Nat×TV)->Option (List TV)
 |cs,[]=>some cs
 |cs,(i,v)::r=>match place i with
  |some (off,size)=>if v.cells.length=size then(match vN cs off v.cells with|some cs'=>rU place cs' r|none=>none)else none
  |none=>none
def SX(P:Program)(fs:Array Field)(i:Nat):Option (Nat×Nat):=
 match fs[i]? with
 |some f=>(dw P f.type).map fun n=>(f.offset,n)
 |none=>none
def BG(P:Program)(fs:List Field):Bool:=fs.all fun f=>(dw P f.type).isSome
def Md(P:Program)(t:TypeId)(parts:List (Nat×TV)):Option TV:=
 match Jp P t,P.underlying t with
 |some z,some (.struct fs)=>if BG P fs.toList then(rU (SX P fs) z parts).map .agg else none
 |some z,some (.array _ e)=>match dw P e with
  |some n=>(rU (fun i=>some (i*n,n)) z parts).map .agg
  |none=>none
 |_,_=>none
def times(z:List TV):Nat->List TV
 | 0=>[]
 |n+1=>z++times z n
def jq(P:Program)(t:TypeId):Option (TypeId×Nat):=
 match P.underlying t with
 |some (.slice e)=>match dw P e with
  |some n=>if n=0 then none else some (e,n)
  |none=>none
 |_=>none
def qF(site:Bool)(s:St)(cs:List TV):EV×St:=
 if site then(.val (.ptr s.heap.length 0 cs.length),{ s with heap:=s.heap++[.cells .own cs] })
 else(.loc s.loc.length 0,{ s with loc:=s.loc++[cs] })
def loadT(P:Program)(t:TypeId)(s:St):EV->Option (TV×lG)
 |.loc k off=>match s.loc[k]? with
  |some cs=>(tY P t cs off).map fun v=>(v,wW (.l k))
  |none=>none
 |.val (.ptr b off lim)=>match lH s.heap b lim,dw P t with
  |some cs,some n=>if off+n<=lim then(tY P t cs off).map fun v=>(v,wW (.h b))else none
  |_,_=>none
 |_=>none
def storeT(P:Program)(t:TypeId)(s:St)(a:EV)(v:TV):Option (St×lG):=
 match dw P t with
 |some n=>
  if v.cells.length=n∧v.cells.all iO=true then
   match a with
   |.loc k off=>match s.loc[k]? with
    |some cs=>(vN cs off v.cells).map fun cs'=>({ s with loc:=s.loc.set k cs' },oM (.l k))
    |none=>none
   |.val (.ptr b off lim)=>if off+n<=lim then(SV s.heap b off lim v.cells).map fun h=>({ s with heap:=h },oM (.h b))else none
   |_=>none
  else none
 |none=>none
def PK(o:Nat):EV->Option EV
 |.loc k off=>some (.loc k (off+o))
 |.val (.ptr b off lim)=>if off+o<=lim then some (.val (.ptr b (off+o) lim))else none
 |_=>none
def FN(P:Program)(t:TypeId)(i:Nat):Option Nat:=
 match P.underlying t with
 |some (.struct fs)=>match fs[i]? with
  |some f=>match dw P f.type with
   |some n=>if n=0 then none else some f.offset
   |none=>none
  |none=>none
 |_=>none
def idx(n:Nat):TV->Option Nat
 |.int _ i=>if 0<=i∧i<n then some i.toNat else none
 |_=>none
def lJ(P:Program)(t:TypeId)(x:EV)(i:TV):Option EV:=
 match P.underlying t with
 |some (.slice e)=>match dw P e,x with
  |some n,.val (.slc b off len cap sz _)=>if n=sz then(idx len i).map fun j=>.val (.ptr b (off+j*n) (off+cap*n))else none
  |_,_=>none
 |some (.array len e)=>match dw P e with
  |some n=>match idx len i with
   |some j=>PK (j*n) x
   |none=>none
  |none=>none
 |_=>none
def I8(P:Program)(t:TypeId)(x i:TV):Option TV:=
 match P.underlying t,x with
 |some (.array len e),.agg cs=>match dw P e,idx len i with
  |some n,some j=>tY P e cs (j*n)
  |_,_=>none
 |some .string,.str s=>match idx s.size i with
  |some j=>(s[j]?).map fun b=>.int .u8 b.toNat
  |none=>none
 |_,_=>none
def qG(n:Nat):TV->Option Nat
 |.int _ i=>if 0<=i∧i<=n then some i.toNat else none
 |_=>none
def jh(n d:Nat):Option TV->Option Nat
 |none=>some d
 |some v=>qG n v
def qH(P:Program)(t:TypeId)(x:TV)(lo hi mx:Option TV):Option TV:=
 match P.underlying t,x with
 |some .string,.str s=>match mx with
  |some _=>none
  |none=>match jh s.size s.size hi with
   |some h=>match jh h 0 lo with
    |some l=>some (.str (s.extract l h))
    |none=>none
   |none=>none
 |some (.slice e),.slc b off len cap sz ex=>match dw P e with
  |some n=>
   if n=sz then
    match mx with
    |some m=>match qG cap m,hi with
     |some m,some h=>match qG (min m len) h with
      |some h=>match jh h 0 lo with
       |some l=>some (.slc b (off+l*n) (h-l) (m-l) sz true)
       |none=>none
      |none=>none
     |_,_=>none
    |none=>match jh len len hi with
     |some h=>match jh h 0 lo with
      |some l=>some (.slc b (off+l*n) (h-l) (cap-l) sz ex)
      |none=>none
     |none=>none
   else none
  |none=>none
 |some (.slice e),.nil .slc=>match dw P e,jh 0 0 mx,jh 0 0 hi,jh 0 0 lo with
  |some _,some _,some _,some _=>if mx.isSome&&hi.isNone then none else some (.nil .slc)
  |_,_,_,_=>none
 |_,_=>none
def qj(P:Program)(t:TypeId)(x:EV)(lo hi mx:Option TV):Option TV:=
 match P.underlying t,x with
 |some (.array n e),.val (.ptr b off lim)=>match dw P e with
  |some size=>
   if size=0∨lim<off+n*size∨2^24<n then none else
   match jh n n mx with
   |some m=>match jh m n hi with
    |some h=>match jh h 0 lo with
     |some l=>if mx.isSome&&hi.isNone then none else some (.slc b (off+l*size) (h-l) (m-l) size true)
     |none=>none
    |none=>none
   |none=>none
  |none=>none
 |_,_=>none
def fB(size:Nat)(h:List HB):TV->Option (Nat×List TV)
 |.nil .slc=>some (0,[])
 |.slc b off len cap sz _=>if sz=size then(if len=0 then some (0,[])else match lH h b (off+cap*sz)with|some cs=>(sub cs off (len*size)).map fun l=>(len,l)|none=>none)else none
 |.str s=>if size=1 then some (s.size,s.data.toList.map fun b=>.int .u8 b.toNat)else none
 |_=>none
def dD:TV->List Key
 |.slc b _ _ _ _ _=>[.h b]
 |_=>[]
def SY(P:Program)(t:TypeId):Bool:=
 match P.underlying t with
 |some (.int _)=>true
 |_=>false
def a3T(i:TypeInfo):Bool:=
 match i.zero with
 |some z=>z.cells.size==i.size
 |none=>false
def tJ(P:Program)(e:TypeId)(n:Nat):Bool:=
 match P.info? e with
 |some i=>decide (n*i.bytes<=2^40)&&decide (n<=2^40)&&decide (i.bytes<=2^20)&&decide (0<i.bytes)&&a3T i
 |none=>false
def jP(P:Program)(at_:Array TypeId)(s:St)(d x:TV):Option (TV×St×lG):=
 match at_[0]?,at_[1]? with
 |some st,some xt=>
  if SY P xt||(P.underlying xt).isNone then none else
  match jq P st with
  |some (e,size)=>match fB size s.heap x with
   |some (n,new)=>
    if n=0 then(match d with
     |.nil .slc=>some (d,s,gU (dD x))
     |.slc _ _ _ _ sz _=>if sz=size then some (d,s,gU (dD x))else none
     |_=>none)
    else if new.length=n*size then
     match d with
     |.nil .slc=>if tJ P e n then some (.slc s.heap.length 0 n n size false,{ s with heap:=s.heap++[.cells .own new] },gU (dD x))else none
     |.slc b off len cap sz ex=>
      if sz=size then
       if len+n<=cap then
        (SV s.heap b (off+len*size) (off+cap*size) new).map fun h=>(.slc b off (len+n) cap sz ex,{ s with heap:=h },⟨false,.h b::dD x,[.h b]⟩)
       else if tJ P e (len+n)then
        if ex then
         (fB size s.heap (.slc b off len cap sz ex)).map fun r=>(.slc s.heap.length 0 (len+n) (len+n) size false,{ s with heap:=s.heap++[.cells .own (r.2++new)] },gU (.h b::dD x))
        else match s.heap[b]? with
         |some (.cells k cs)=>
          if k=.ro∨off≠0∨len≠cap∨cs.length≠len*size∨len=0 then none
          else some (.slc b 0 (len+n) (len+n) size false,{ s with heap:=s.heap.set b (.cells k.more (cs++new))},⟨false,.h b::dD x,[.h b]⟩)
         |_=>none
       else none
      else none
     |_=>none
    else none
   |none=>none
  |none=>none
 |_,_=>none
def isStr:TV->Bool
 |.str _=>true
 |_=>false
def FP(P:Program)(at_:Array TypeId)(s:St)(d x:TV):Option (TV×St×lG):=
 match at_[0]? with
 |some st=>match jq P st with
  |some (_,size)=>match fB size s.heap x with
   |some (n,new)=>
    if new.length=n*size∧isStr x=false then
     match d with
     |.nil .slc=>some (.int .i64 0,s,gU (dD x))
     |.slc b off len cap sz _=>
      if sz=size then
       if min n len=0 then some (.int .i64 0,s,gU (dD x))
       else(SV s.heap b off (off+cap*size) (new.take (min n len*size))).map fun h=>(.int .i64 (min n len:Nat),{ s with heap:=h },⟨false,.h b::dD x,[.h b]⟩)
      else none
     |_=>none
    else none
   |none=>none
  |none=>none
 |none=>none
def Y2(P:Program)(at_:Array TypeId)(h:List HB)(x:TV):Option (TV×lG):=
 match at_[0]? with
 |some t=>match P.underlying t,x with
  |some .string,.str s=>some (.int .i64 s.size,bW)
  |some (.array n _),_=>some (.int .i64 n,bW)
  |some (.slice _),.slc _ _ len _ _ _=>some (.int .i64 len,bW)
  |some (.slice _),.nil .slc=>some (.int .i64 0,bW)
  |some (.map _ _),.nil .map=>some (.int .i64 0,bW)
  |some (.map _ _),.map r=>match h[r]? with
   |some (.map es)=>some (.int .i64 es.length,wW (.h r))
   |_=>none
  |_,_=>none
 |none=>none
def Bh:List TV->Option (List Value)
 | []=>some []
 |c::cs=>match c.yt,Bh cs with
  |some v,some vs=>some (v::vs)
  |_,_=>none
def Vb(P:Program)(kt:TypeId)(k:Value)(ks:List Value)(r:Option Nat):Bool:=
 match aB P (underlying kt)with
 |some kind=>(match r with|some j=>decide (j<ks.length)|none=>true)&&((ks.zipIdx.all fun(x,i)=>Instr.sameNow kind k x==some (some i==r)) ||
   (ks.zipIdx.all fun(x,i)=>Instr.sameNow kind k x==none&&aB P (Op.equal kt k x)==some (some i==r)))
 |none=>false
def Ed(P:Program)(kt:TypeId)(k:Value)(es:List (TV×TV)):Option (Option Nat):=
 match Bh (es.map (·.1))with
 |some ks=>match aB P (do Instr.checkKey es.isEmpty 10000 kt k;Instr.findKey kt k (ks.map fun x=>⟨x,.bool false,0⟩))with
  |some r=>if Vb P kt k ks (r.map (·.1))then some (r.map (·.1))else none
  |none=>none
 |none=>none
def Jq:TV->Option NK
 |.ptr _ _ _=>some .ptr
 |.slc _ _ _ _ _ _=>some .slc
 |.map _=>some .map
 |.fn _ _ _|.jZ _=>some .fn
 |_=>none
def Y3:TV->Option NK
 |.nil k=>some k
 |_=>none
def Jr(P:Program)(t:TypeId):Option NK:=
 match P.underlying t with
 |some (.pointer _)=>some .ptr
 |some (.slice _)=>some .slc
 |some (.map _ _)=>some .map
 |some (.func _ _ _)=>some .fn
 |_=>none
def BH(P:Program)(t:TypeId)(x y:TV):Bool:=
 match Jr P t with
 |some k=>(Y3 x==some k&&Jq y==some k)||(Jq x==some k&&Y3 y==some k)
 |none=>false
def rY(P:Program)(op:BinOp)(t:TypeId)(x y:Operand)(a b:TV):Option TV:=
 match a.yt,b.yt with
 |some u,some v=>match aB P (do eqGuard op t x y u v;binOp op t u v)with
  |some r=>TV.V5 r
  |none=>none
 |_,_=>if BH P t a b then(match op with
  |.eql=>some (.bool false)
  |.neq=>some (.bool true)
  |_=>none)else none
def unT(P:Program)(op:UnOp)(a:TV):Option TV:=
 match a.yt with
 |some u=>match aB P (Op.unary op u)with
  |some r=>TV.V5 r
  |none=>none
 |none=>none
def Ql(P:Program)(src dst:TypeId)(a:TV):Option TV:=
 match a.yt with
 |some u=>match aB P (convert src dst u)with
  |some r=>TV.V5 r
  |none=>none
 |none=>none
def Dj(P:Program)(mx:Bool)(at_:Array TypeId)(t:TypeId)(az:List TV):Option TV:=
 match Bh az with
 |some vs=>match aB P (if mx then Builtin.max_ at_ t vs.toArray else Builtin.min_ at_ t vs.toArray)with
  |some r=>TV.V5 r
  |none=>none
 |none=>none
def Me(P:Program)(t:TypeId)(x:TV)(i:Nat):Option TV:=
 match P.underlying t,x with
 |some (.struct fs),.agg cs=>match fs[i]? with
  |some f=>tY P f.type cs f.offset
  |none=>none
 |_,_=>none
def ql(P:Program)(t:TypeId)(len:Nat)(s:St)(ps:List (Nat×TV)):Option (TV×St):=
 match jq P t with
 |some (e,n)=>if len*n<=2^24∧ps.all (fun p=>p.2.cells.all iO)=true then
   match Jp P e with
   |some z=>if z.length=n then
     match rU (fun i=>some (i*n,n)) (times z len) ps with
     |some cs=>some (.slc s.heap.length 0 len len n true,{ s with heap:=s.heap++[.cells .own cs] })
     |none=>none
    else none
   |none=>none
  else none
 |none=>none
def a1D:TV->Option Nat
 |.int _ i=>if 0<=i∧i<=2^40 then some i.toNat else none
 |_=>none
def rZ(P:Program)(t:TypeId)(s:St)(l c:TV):Option (TV×St):=
 match jq P t,a1D l,a1D c with
 |some (e,n),some l,some c=>
  if l<=c∧tJ P e c then
   match Jp P e with
   |some z=>if z.length=n then some (.slc s.heap.length 0 l c n true,{ s with heap:=s.heap++[.cells .own (times z c)] })else none
   |none=>none
  else none
 |_,_,_=>none
def gK(P:Program)(t:TypeId)(h:List HB)(m k:TV)(ok:Bool):Option TV:=
 match P.underlying t,k.yt with
 |some (.map kt e),some kv=>
  let es:=match m with
   |.nil .map=>some []
   |.map r=>match h[r]? with
    |some (.map es)=>some es
    |_=>none
   |_=>none
  match es with
  |some es=>match Ed P kt kv es with
   |some (some i)=>match es[i]? with
    |some (_,v)=>some (if ok then .dG [v,.bool true]else v)
    |none=>none
   |some none=>match P.info? e with
    |some i=>match i.zero with
     |some z=>(TV.V5 z).map fun z=>if ok then .dG [z,.bool false]else z
     |none=>none
    |none=>none
   |none=>none
  |none=>none
 |_,_=>none
def xE(P:Program)(t:TypeId)(s:St)(m k v:TV):Option (St×lG):=
 match P.underlying t,k.yt,m with
 |some (.map kt _),some kv,.map r=>match s.heap[r]?,aB P (Instr.checkKey false 10000 kt kv)with
  |some (.map es),some ()=>match Ed P kt kv es with
   |some (some i)=>match es[i]? with
    |some (old,_)=>match old.yt with
     |some ov=>if Instr.sameBits 10000 ov kv then some ({ s with heap:=s.heap.set r (.map (es.set i (k,v))) },oM (.h r))else none
     |none=>none
    |none=>none
   |some none=>some ({ s with heap:=s.heap.set r (.map (es++[(k,v)])) },oM (.h r))
   |none=>none
  |_,_=>none
 |_,_,_=>none
def zL(P:Program)(t:TypeId)(s:St)(m k:TV):Option (EV×St×lG):=
 match P.underlying t,k.yt,m with
 |some (.map kt e),some kv,.map r=>match s.heap[r]?,aB P (Instr.checkKey false 10000 kt kv)with
  |some (.map es),some ()=>match Ed P kt kv es with
   |some (some i)=>match es[i]? with
    |some (old,v)=>match old.yt with
     |some ov=>if Instr.sameBits 10000 ov kv then some (.ent r i v,{ s with heap:=s.heap.set r (.map (es.set i (k,v))) },oM (.h r))else none
     |none=>none
    |none=>none
   |some none=>match P.info? e with
    |some i=>match i.zero with
     |some z=>match TV.V5 z with
      |some z=>some (.ent r es.length z,{ s with heap:=s.heap.set r (.map (es++[(k,z)])) },oM (.h r))
      |none=>none
     |none=>none
    |none=>none
   |none=>none
  |_,_=>none
 |_,_,_=>none
def ZH(P:Program)(t:TypeId)(h h':List HB)(m k:TV):Bool:=
 match gK P t h m k false,gK P t h' m k false with
 |some (.int a x),some (.int b y)=>decide (a=b)&&x==y
 |_,_=>false
def BI(P:Program)(t:TypeId)(s:St)(m k:TV):Option (EV×St×lG):=
 match zL P t s m k with
 |some (e,s1,i)=>if ZH P t s.heap s1.heap m k then some (e,s1,i)else none
 |none=>none
def FQ(s:St)(m:TV)(e:EV)(v:TV):Option (St×lG):=
 match m,e with
 |.map r,.DY r' j=>if r=r' then match s.heap[r]? with
  |some (.map es)=>match es[j]? with
   |some (k,_)=>some ({ s with heap:=s.heap.set r (.map (es.set j (k,v))) },oM (.h r))
   |none=>none
  |_=>none
  else none
 |_,_=>none
def yH(e:EV)(i:Nat):Option EV:=
 match e with
 |.val (.dG vs)=>(vs[i]?).map .val
 |.ent r j v=>match i with
  | 0=>some (.val v)
  | 1=>some (.DY r j)
  |_=>none
 |_=>none
abbrev aY:=TV->List TV->List HB->Option (TV×List HB×List Nat)
def qI(P:Program)(b:Builtin)(at_:Array TypeId)(t:TypeId)(s:St)(az:List TV):Option (TV×St×lG):=
 match b,az with
 |.len,[x]=>(Y2 P at_ s.heap x).map fun(v,i)=>(v,s,i)
 |.append,[d,x]=>jP P at_ s d x
 |.copy,[d,x]=>FP P at_ s d x
 |.min,az=>(Dj P false at_ t az).map fun v=>(v,s,bW)
 |.max,az=>(Dj P true at_ t az).map fun v=>(v,s,bW)
 |_,_=>none
def Vd(env:List (Nat×EV)):Option Operand->Option (Option TV)
 |none=>some none
 |some x=>match qE env x with
  |some v=>some (some v)
  |none=>none
def MC(P:Program)(call:aY)(s:St)(c:Call)(t:TypeId):Option (EV×St×lG):=
 match c.callee,SS s.env c.args.toList with
 |.builtin b,some az=>(qI P b c.argTypes t s az).map fun(v,s,i)=>(.val v,s,i)
 |.value f,some az=>match qE s.env f with
  |some fv=>match call fv az s.heap with
   |some (v,h,ws)=>some (.val v,{ s with heap:=h },⟨true,[],ws.map .h⟩)
   |none=>none
  |none=>none
 |_,_=>none
def oN(P:Program)(call:aY)(site:Nat->Bool)(s:St)(o:Oper):Option (EV×St×lG):=
 match o.op with
 |.move x|.assign x=>(Hz s.env x).map fun v=>(v,s,bW)
 |.pick c a b=>match qE s.env c with
  |some (.bool t)=>(Hz s.env (if t then a else b)).map fun v=>(v,s,bW)
  |_=>none
 |.alloc e=>(Jp P e).map fun z=>let (v,s):=qF (site (o.dst.getD 0)) s z;(v,s,bW)
 |.box _ x=>match qE s.env x with
  |some v=>if v.cells.all iO then let (v,s):=qF (site (o.dst.getD 0)) s v.cells;some (v,s,bW)else none
  |none=>none
 |.build t ps=>match Va s.env ps.toList with
  |some ps=>(Md P t ps).map fun v=>(.val v,s,bW)
  |none=>none
 |.buildSlice t len ps=>match Va s.env ps.toList with
  |some ps=>(ql P t len s ps).map fun(v,s)=>(.val v,s,bW)
  |none=>none
 |.load t a=>match Hz s.env a with
  |some a=>(loadT P t s a).map fun(v,i)=>(.val v,s,i)
  |none=>none
 |.store t a x=>match Hz s.env a,qE s.env x with
  |some a,some v=>(storeT P t s a v).map fun(s,i)=>(.undef,s,i)
  |_,_=>none
 |.nilCheck x=>match Hz s.env x with
  |some (.loc k o)=>some (.loc k o,s,bW)
  |some (.val (.ptr b o lim))=>some (.val (.ptr b o lim),s,bW)
  |some (.val (.fn f a b))=>some (.val (.fn f a b),s,bW)
  |some (.val (.jZ l))=>some (.val (.jZ l),s,bW)
  |_=>none
 |.binOp op t x y _=>match qE s.env x,qE s.env y with
  |some a,some b=>(rY P op t x y a b).map fun v=>(.val v,s,bW)
  |_,_=>none
 |.unOp op _ x=>match qE s.env x with
  |some a=>(unT P op a).map fun v=>(.val v,s,bW)
  |none=>none
 |.convert src dst x=>match qE s.env x with
  |some a=>(Ql P src dst a).map fun v=>(.val v,s,bW)
  |none=>none
 |.makeFunc (.func f) first cap=>match SS s.env first.toList,SS s.env cap.toList with
  |some a,some b=>some (.val (.fn f a b),s,bW)
  |_,_=>none
 |.makeMap t r=>match Vd s.env r,P.underlying t with
  |some none,_=>some (.val (.map s.heap.length),{ s with heap:=s.heap++[.map []] },bW)
  |some (some (.int _ _)),some (.map _ _)=>some (.val (.map s.heap.length),{ s with heap:=s.heap++[.map []] },bW)
  |_,_=>none
 |.makeSlice t l c=>match qE s.env l,qE s.env c with
  |some l,some c=>(rZ P t s l c).map fun(v,s)=>(.val v,s,bW)
  |_,_=>none
 |.slice t x lo hi mx=>match Hz s.env x,Vd s.env lo,Vd s.env hi,Vd s.env mx with
  |some x,some lo,some hi,some mx=>match P.underlying t,x with
   |some (.array _ _),x=>(qj P t x lo hi mx).map fun v=>(.val v,s,bW)
   |_,.val x=>(qH P t x lo hi mx).map fun v=>(.val v,s,bW)
   |_,_=>none
  |_,_,_,_=>none
 |.fieldAddr t x f=>match Hz s.env x,FN P t f with
  |some a,some n=>(PK n a).map fun v=>(v,s,bW)
  |_,_=>none
 |.field t x f=>match qE s.env x with
  |some a=>(Me P t a f).map fun v=>(.val v,s,bW)
  |none=>none
 |.indexAddr t x i=>match Hz s.env x,qE s.env i with
  |some a,some i=>(lJ P t a i).map fun v=>(v,s,bW)
  |_,_=>none
 |.index t x i=>match qE s.env x,qE s.env i with
  |some a,some i=>(I8 P t a i).map fun v=>(.val v,s,bW)
  |_,_=>none
 |.lookup t m k ok=>match qE s.env m,qE s.env k with
  |some m,some k=>(gK P t s.heap m k ok).map fun v=>(.val v,s,gU (match m with|.map r=>[.h r] |_=>[]))
  |_,_=>none
 |.mapUpdate t m k x|.insert t m k x=>match qE s.env m,qE s.env k,qE s.env x with
  |some m,some k,some v=>(xE P t s m k v).map fun(s,i)=>(.undef,s,i)
  |_,_,_=>none
 |.mapEntry t m k=>match qE s.env m,qE s.env k with
  |some m,some k=>BI P t s m k
  |_,_=>none
 |.entryStore _ m e x=>match qE s.env m,Hz s.env e,qE s.env x with
  |some m,some e,some v=>(FQ s m e v).map fun(s,i)=>(.undef,s,i)
  |_,_,_=>none
 |.extract t i=>match Hz s.env t with
  |some e=>(yH e i).map fun v=>(v,s,bW)
  |none=>none
 |.call c=>MC P call s c o.type
 |.range t x=>match qE s.env x,P.underlying t with
  |some (.map r),some (.map _ _)=>match s.heap[r]? with
   |some (.map es)=>some (.val (.iter s.heap.length),{ s with heap:=s.heap++[.cu r es.length []] },wW (.h r))
   |_=>none
  |_,_=>none
 |.entry x=>match qE s.env x with
  |some (.iter b)=>match s.heap[b]? with
   |some (.cu r n (i::_))=>match s.heap[r]? with
    |some (.map es)=>if es.length=n then(es[i]?).map fun e=>(.val (.dG [e.1,e.2]),s,gU [.h b,.h r])else none
    |_=>none
   |_=>none
  |_=>none
 |_=>none
def BJ(ops:Array Oper)(env:List (Nat×EV))(o:Oper):Option Bool:=
 match o.guard with
 |none=>some true
 |some (j,want)=>match(ops[j]?).bind (·.dst)with
  |some d=>match dL d env with
   |some (.val (.bool b))=>some (b==want)
   |some .undef=>some false
   |_=>none
  |none=>none
def MF(nt:Nat)(o:Oper):Bool:=
 match o.dst with
 |some d=>decide (d<nt)
 |none=>true
def kN(P:Program)(call:aY)(site:Nat->Bool)(fl nt:Nat)(ops:Array Oper):List Oper->St->Option (St×List lG)
 | [],s=>some (s,[])
 |o::os,s=>if !MF nt o then none else match BJ ops s.env o with
  |some true=>match oN P call site s o with
   |some (v,s1,i)=>match kN P call site fl nt ops os ({ s1 with ws:=jK fl i.ws s.ws }.put o.dst v)with
    |some (s,is)=>some (s,i::is)
    |none=>none
   |none=>none
  |some false=>match kN P call site fl nt ops os (s.put o.dst .undef)with
   |some (s,is)=>some (s,bW::is)
   |none=>none
  |none=>none
def MG:List Nat->List Nat->List Nat
 | [],l=>l
 |x::xs,l=>MG xs (if l.contains x then l else x::l)
def EF(acc:List (List Nat))(o:Oper):List Nat:=
 o.after.toList.foldl (fun l e=>if Region.binds .any e then MG (e.on::acc.getD e.on []) l else l) []
def Ee:List Oper->List (List Nat)->List (List Nat)
 | [],acc=>acc
 |o::os,acc=>Ee os (acc++[EF acc o])
def I9:Op->Bool
 |.store .. |.mapUpdate .. |.insert .. |.mapEntry .. |.entryStore ..=>true
 |.call { callee:=.builtin b,.. }=>match b with
  |.len|.min|.max=>false
  |_=>true
 |.call _=>true
 |_=>false
def MH:Op->Bool
 |.store .. |.mapUpdate .. |.insert .. |.mapEntry .. |.entryStore .. |.load .. |.lookup .. |.range .. |.entry ..=>true
 |.call { callee:=.builtin b,.. }=>match b with
  |.min|.max=>false
  |_=>true
 |.call _=>true
 |_=>false
def nS(ops:List Oper):List (Nat×Nat):=
 let pr:=Ee ops []
 (List.range ops.length).flatMap fun j=>((List.range j).filter fun i=>!(pr.getD j []).contains i).map fun i=>(i,j)
def mY(ops:List Oper):Bool:=
 (ops.zipIdx.all fun(o,i)=>o.after.all fun e=>!Region.binds .any e||decide (e.on<i)) &&
 (nS ops).all fun(i,j)=>match ops[i]?,ops[j]? with
  |some a,some b=>a.apart ops.toArray b&&b.apart ops.toArray a
  |_,_=>false
def AU(a b:Oper):Bool:=match a.op,b.op,a.guard,b.guard with
 |.lookup t (.tmp m) (.tmp k) false,.mapEntry t' (.tmp m') (.tmp k'),none,none=>t==t'&&m==m'&&k==k'
 |_,_,_,_=>false
def lW(ops:List Oper):List (Nat×Nat):=
 (nS ops).filter fun(i,j)=>match ops[i]?,ops[j]? with
  |some a,some b=>((I9 a.op&&MH b.op)||(MH a.op&&I9 b.op))&&!AU a b
  |_,_=>false
def Key.isH:Key->Bool
 |.h _=>true
 |.l _=>false
def MI(ws:List Key)(b:lG):Bool:=
 ws.all fun k=>!(b.all&&k.isH)&&!b.ts.contains k&&!b.ws.contains k
def calm(a b:lG):Bool:=MI a.ws b&&MI b.ws a
def AV(wX:List lG):List (Nat×Nat)->Bool
 | []=>true
 |(i,j)::r=>(match wX[i]?,wX[j]? with
  |some a,some b=>calm a b
  |_,_=>false)&&AV wX r
inductive Ex where
 |norm|exit (id:Nat)|ret
structure FnT where
 nt:Nat
 body:Code
 results:List ResultVar
def Tc(P:Program)(f:Nat):Option FnT:=
 match P.funcs[f]? with
 | some fn => if fn.name == "runtime.NumGoroutine" then none else match fn.body with
  |some b=>some ⟨fn.ntmps,b,fn.results.toList⟩
  |none=>none
 |none=>none
structure qy where
 live:List (Nat×List (Nat×List Nat))
 head:List (Nat×List (Nat×List Nat))
 site:List (Nat×List Nat)
 exts:List Nat:=[]
 ext:TV->List TV->List HB->Option (TV×List HB×List Nat):=fun _ _ _=>none
 ZI:List Nat:=[]
 din:List Nat:=[]
 a8u:List Nat:=[]
def Qm{α:Type}(k:Nat):List (Nat×List α)->List α
 | []=>[]
 |(j,l)::r=>if j=k then l else Qm k r
def qy.gZ(T:qy)(f id:Nat):List Nat:=Qm id (Qm f T.live)
def qy.eH(T:qy)(f id:Nat):List Nat:=Qm id (Qm f T.head)
def qy.Td(T:qy)(f d:Nat):Bool:=(Qm f T.site).contains d
def BL:List (Nat×EV)->Nat
 | []=>0
 |(_,.loc k _)::r=>max (k+1) (BL r)
 |_::r=>BL r
def jM(live:List Nat)(s:St):St:=
 let env:=pick live s.env
 { s with env:=env,loc:=s.loc.take (BL env) }
def dR:Code->Nat
 |.region id _ _=>id
 |.seq a _=>dR a
 |.block _ b=>dR b
 |.loop b=>dR b
 |.scope b=>dR b
 |_=>0
def iter(g:St->Option (Ex×St)):Nat->St->Option (Ex×St)
 | 0,_=>none
 |n+1,s=>match g s with
  |some (.norm,s)=>iter g n s
  |r=>r
def isVal:Nat×EV->Bool
 |(_,.loc _ _)|(_,.ent _ _ _)|(_,.DY _ _)=>false
 |_=>true
def Qn:Bool->Option Code->Option Ex
 |true,none=>some .norm
 |false,some .ret=>some .ret
 |false,some (.exit id)=>some (.exit id)
 |_,_=>none
def exec(P:Program)(T:qy)(call:aY)(L:Nat)(f:Nat)(gJ:Bool)(fl nt:Nat):Code->St->Option (Ex×St)
 |.skip,s=>some (.norm,s)
 |.label _,s=>some (.norm,s)
 |.region id ops draw,s=>match kN P call (fun d=>gJ||T.Td f d) fl nt ops ops.toList s with
  |some (s,wX)=>if !draw||(mY ops.toList&&AV wX (lW ops.toList))then some (.norm,{ s with env:=pick (T.gZ f id) s.env })else none
  |none=>none
 |.seq a b,s=>match exec P T call L f gJ fl nt a s with
  |some (.norm,s)=>exec P T call L f gJ fl nt b s
  |r=>r
 |.cond c a b,s=>match qE s.env c with
  |some (.bool true)=>exec P T call L f gJ fl nt a s
  |some (.bool false)=>exec P T call L f gJ fl nt b s
  |_=>none
 |.block id b,s=>match exec P T call L f gJ fl nt b s with
  |some (.exit i,s)=>some (if i=id then .norm else .exit i,s)
  |r=>r
 |.scope b,s=>exec P T call L f gJ fl nt b s
 |.loop b,s=>iter (fun s=>exec P T call L f gJ fl nt b (jM (T.eH f (dR b)) s)) L s
 |.exit id,s=>some (.exit id,s)
 |.ret,s=>some (.ret,s)
 |.rangeFunc g ps assign body,s=>match qE s.env g with
  |some (.fn f1 a1 b1)=>
   if s.env.all isVal&&!gJ then
    match call (.fn f1 a1 b1) [.jZ (s.heap.length+1)] (s.heap++[.mark,.loop true f nt s.env ps.toList assign body none])with
    |some (_,h,ws)=>match h[s.heap.length+1]? with
     |some (.loop rd f2 PL e2 BM a2 b2 jA)=>match Qn rd jA with
      |some e=>some (e,{ s with heap:=h.set (s.heap.length+1) (.loop false f2 PL e2 BM a2 b2 (some .skip)),ws:=jK fl (ws.map .h) s.ws })
      |none=>none
     |_=>none
    |none=>none
   else none
  |_=>none
 |_,_=>none
def a3U(P:Program)(s:St):ResultVar->Option TV
 |.tmp t=>match dL t s.env with
  |some (.val v)=>some v
  |_=>none
 |.cell a t=>match dL a s.env with
  |some a=>(loadT P t s a).map (·.1)
  |none=>none
def xG(P:Program)(s:St):List ResultVar->Option (List TV)
 | []=>some []
 |r::rs=>match a3U P s r,xG P s rs with
  |some v,some vs=>some (v::vs)
  |_,_=>none
def one:List TV->TV
 | [v]=>v
 |vs=>.dG vs
def mZ:Nat->List TV->List (Nat×EV)
 |_,[]=>[]
 |k,v::vs=>(k,.val v)::mZ (k+1) vs
def su(env:List (Nat×EV)):List Nat->List TV->List (Nat×EV)
 |p::ps,v::vs=>su ((p,.val v)::env) ps vs
 |_,_=>env
def am6(P:Program)(T:qy)(call:aY)(L:Nat)(f:Nat)(args:List TV)(h:List HB):Option (TV×List HB×List Nat):=
 match Tc P f with
 |some t=>match exec P T call L f false h.length t.nt t.body ⟨mZ 0 args,[],h,[]⟩with
  |some (.norm,s)|some (.ret,s)=>match xG P s t.results with
   |some vs=>if s.ws.isEmpty&&(one vs).flat then some (one vs,h,[])else some (one vs,s.heap,s.ws)
   |none=>none
  |_=>none
 |none=>none
def sD:Ex->Option Code
 |.norm=>none
 |.ret=>some .ret
 |.exit id=>some (.exit id)
def oO:Ex->Bool
 |.norm=>true
 |_=>false
def MJ(P:Program)(T:qy)(call:aY)(L:Nat)(l:Nat)(args:List TV)(h:List HB):Option (TV×List HB×List Nat):=
 match h[l]? with
 |some (.loop true f nt env ps assign body _)=>
  if args.length=ps.length∧ps.all (fun p=>decide (p<nt))then
   match exec P T call L f true h.length nt assign ⟨su env ps args,[],h,[]⟩with
   |some (.norm,s)=>match s.heap[l]? with
    |some (.loop true f' nt' env' ps' a' b' _)=>
     match exec P T call L f true h.length nt body { s with heap:=s.heap.set l (.loop false f' nt' env' ps' a' b' none),ws:=DZ h.length l s.ws }with
     |some (e,s)=>match s.heap[l]? with
      |some (.loop false f' nt' env' ps' a' b' none)=>some (.bool (oO e),s.heap.set l (.loop (oO e) f' nt' env' ps' a' b' (sD e)),DZ h.length l s.ws)
      |_=>none
     |none=>none
    |_=>none
   |_=>none
  else none
 |_=>none
def ap(P:Program)(T:qy)(L:Nat):Nat->aY
 | 0,_,_,_=>none
 |n+1,.fn f first cap,args,h=>am6 P T (ap P T L n) L f (first++args++cap) h
 |n+1,.jZ l,args,h=>MJ P T (ap P T L n) L l args h
 |_,_,_,_=>none
def run(P:Program)(T:qy)(L n f:Nat)(args:List TV)(h:List HB):Option (TV×List HB×List Nat):=ap P T L n (.fn f [] []) args h
structure Pl where
 c:Nat
 base:Nat
 ext:Nat
 tot:Nat
inductive Lc where
 |cells (ls:List Pl)
 |obj (r:Nat) (o:List Nat)
abbrev Mp:=Key->Option Lc
abbrev Np:=Nat->Option Lc
def Mp.h(M:Mp):Np:=fun b=>M (.h b)
inductive VR(M:Np):TV->Value->Prop
 |bool (b:Bool):VR M (.bool b) (.bool b)
 |int (k:IntKind) (n:Int):VR M (.int k n) (.int k n)
 |str (s:ByteArray):VR M (.str s) (.string s)
 |a1E:VR M (.nil .ptr) (.pointer none)
 |Tf:VR M (.nil .slc) (.slice none 0 0)
 |Y4:VR M (.nil .map) (.map none)
 |nfn:VR M (.nil .fn) .nilFunc
 |a1F:VR M (.nil .ifc) .nilIface
 |ptr {b off lim:Nat} {ls:List Pl} {p:Pl} (hb:M b=some (.cells ls)) (hp:p∈ls) (h:lim<=p.ext) (ht:p.base+lim<=p.tot) :
   VR M (.ptr b off lim) (.pointer (some ⟨p.c,p.base+off,none⟩))
 |slc {b off len cap sz:Nat} {ex:Bool} {ls:List Pl} {p:Pl} {a:Addr} {cap':Nat} (hb:M b=some (.cells ls)) (hp:cap'=0∨p∈ls)
   (h:off+cap*sz<=p.ext) (hl:len<=cap) (hc:cap<=cap') (hx:ex=true->cap'=cap)
   (ha:cap'=0∨(a=⟨p.c,p.base+off,none⟩∧p.base+off+cap'*sz<=p.tot)) (hk:cap'<2^63) :
   VR M (.slc b off len cap sz ex) (.slice (some a) len cap')
 |map {r r':Nat} {o:List Nat} (h:M r=some (.obj r' o)):VR M (.map r) (.map (some r'))
 |jZ {l l':Nat} {o:List Nat} (h:M l=some (.obj l' o)):VR M (.jZ l) (.func (.yield l') #[] #[])
 |iter {l l':Nat} {o:List Nat} (h:M l=some (.obj l' o)):VR M (.iter l) (.pointer (some ⟨l',0,none⟩))
 |fn {f:FuncId} {az bs:List TV} {xs ys:List Value} (h1:az.length=xs.length) (h2:∀(i:Nat) (c:TV) (v:Value),az[i]? = some c->xs[i]? = some v->VR M c v)
   (h3:bs.length=ys.length) (h4:∀(i:Nat) (c:TV) (v:Value),bs[i]? = some c->ys[i]? = some v->VR M c v):VR M (.fn f az bs) (.func (.func f) xs.toArray ys.toArray)
 |agg {az:List TV} {xs:List Value} (h1:az.length=xs.length) (h2:∀(i:Nat) (c:TV) (v:Value),az[i]? = some c->xs[i]? = some v->VR M c v):VR M (.agg az) (.agg xs.toArray)
 |dG {az:List TV} {xs:List Value} (h1:az.length=xs.length) (h2:∀(i:Nat) (c:TV) (v:Value),az[i]? = some c->xs[i]? = some v->VR M c v):VR M (.dG az) (.tuple xs.toArray)
structure bU(M:Np)(az:List TV)(xs:List Value):Prop where
 len:az.length=xs.length
 at_:∀(i:Nat) (c:TV) (v:Value),az[i]? = some c->xs[i]? = some v->VR M c v
theorem VR.agg'{M:Np}{az:List TV}{xs:List Value}(h:bU M az xs):VR M (.agg az) (.agg xs.toArray):=.agg h.len h.at_
theorem VR.PN{M:Np}{az:List TV}{xs:List Value}(h:bU M az xs):VR M (.dG az) (.tuple xs.toArray):=.dG h.len h.at_
theorem bU.nil{M:Np}:bU M [] []:=⟨rfl,fun i c v h=>by simp at h⟩
theorem bU.cons{M:Np}{c:TV}{v:Value}{az:List TV}{xs:List Value}(h:VR M c v)(hs:bU M az xs):bU M (c::az) (v::xs):=
 ⟨by simp[hs.len],fun i c' v' h1 h2=>by
  cases i with
  |zero=>simp at h1 h2;subst h1;subst h2;exact h
  |succ i=>simp at h1 h2;exact hs.at_ i _ _ h1 h2⟩
theorem bU.pI{M:Np}{xs:List Value}(h:bU M [] xs):xs=[]:=by
 have:=h.len;simp at this;exact a3F this.symm
theorem bU.iH{M:Np}{c:TV}{az:List TV}{xs:List Value}(h:bU M (c::az) xs):∃v vs,xs=v::vs∧VR M c v∧bU M az vs:=by
 cases xs with
 |nil=>have:=h.len;simp at this
 |cons v vs=>exact⟨v,vs,rfl,h.at_ 0 c v rfl rfl,⟨by have:=h.len;simpa using this,fun i c' v' h1 h2=>h.at_ (i+1) c' v' (by simpa using h1) (by simpa using h2)⟩⟩
theorem bU.append{M:Np}{az bs:List TV}{xs ys:List Value}(h:bU M az xs)(h':bU M bs ys):bU M (az++bs) (xs++ys):=by
 induction az generalizing xs with
 |nil=>have:=h.pI;subst this;simpa using h'
 |cons c az ih=>
  obtain⟨v,vs,rfl,hv,ZJ⟩:=h.iH;exact .cons hv (ih ZJ)
theorem bU.take{M:Np}{az:List TV}{xs:List Value}(h:bU M az xs)(n:Nat):bU M (az.take n) (xs.take n):=
 ⟨by simp[h.len],fun i c v h1 h2=>by
  rw[a3O]at h1 h2;split at h1
  .rename_i hi;rw[a0V hi]at h2;exact h.at_ i c v h1 h2
  .simp at h1⟩
theorem bU.drop{M:Np}{az:List TV}{xs:List Value}(h:bU M az xs)(n:Nat):bU M (az.drop n) (xs.drop n):=
 ⟨by simp[h.len],fun i c v h1 h2=>by
  rw[a3M]at h1 h2;exact h.at_ _ c v h1 h2⟩
theorem bU.get{M:Np}{az:List TV}{xs:List Value}(h:bU M az xs){i:Nat}{c:TV}(hc:az[i]? = some c):∃v,xs[i]? = some v∧VR M c v:=by
 have hi:i<az.length:=(a02.1 hc).1;have wY:i<xs.length:=by rw[<-h.len];exact hi
 exact⟨xs[i],by simp[wY],h.at_ i c _ hc (by simp[wY])⟩
def JZ:Lc->Lc->Prop
 |.cells ls,.cells xH=>∀p∈ls,∃q∈xH,q.c=p.c∧q.base=p.base∧p.ext<=q.ext∧q.tot=p.tot
 |.obj r o,.obj r' o'=>r=r'∧o <+: o'
 |_,_=>False
def rV{α:Type}(M M':α->Option Lc):Prop:=∀k l,M k=some l->∃l',M' k=some l'∧JZ l l'
theorem JZ.refl(l:Lc):JZ l l:=by
 cases l with
 |cells ls=>exact fun p hp=>⟨p,hp,rfl,rfl,a1J _,rfl⟩
 |obj r o=>exact⟨rfl,ag9 o⟩
theorem JZ.trans{a b c:Lc}(h:JZ a b)(h':JZ b c):JZ a c:=by
 cases a<;>cases b<;>cases c<;>simp only[JZ]at *
 .intro p hp;obtain⟨q,hq,h1,h2,h3,h4⟩:=h p hp;obtain⟨r,hr,g1,g2,g3,g4⟩:=h' q hq;exact⟨r,hr,g1.trans h1,g2.trans h2,a4p h3 g3,g4.trans h4⟩
 exact⟨h.1.trans h'.1,h.2.trans h'.2⟩
theorem rV.refl{α:Type}(M:α->Option Lc):rV M M:=fun _ l h=>⟨l,h,.refl l⟩
theorem rV.trans{α:Type}{a b c:α->Option Lc}(h:rV a b)(h':rV b c):rV a c:=fun k l hl=>
 let ⟨l',h1,h2⟩:=h k l hl
 let ⟨l'',g1,g2⟩:=h' k l' h1
 ⟨l'',g1,h2.trans g2⟩
theorem rV.h{M M':Mp}(hm:rV M M'):rV M.h M'.h:=fun b l hl=>hm (.h b) l hl
theorem VR.mono{M M':Np}(hm:rV M M'){v:TV}{x:Value}(h:VR M v x):VR M' v x:=by
 induction h with
 |bool b=>exact .bool b
 |int k n=>exact .int k n
 |str s=>exact .str s
 |a1E=>exact .a1E
 |Tf=>exact .Tf
 |Y4=>exact .Y4
 |nfn=>exact .nfn
 |a1F=>exact .a1F
 |ptr hb hp h ht=>
  obtain⟨l',h1,h2⟩:=hm _ _ hb;cases l' with
  |obj r _=>exact h2.elim
  |cells xH=>
   obtain⟨q,hq,e1,e2,e3,e4⟩:=h2 _ hp;rw[<-e1,<-e2];exact .ptr h1 hq (a4p h e3) (by rw[e2,e4];exact ht)
 |slc hb hp h hl hc hx ha hk=>
  obtain⟨l',h1,h2⟩:=hm _ _ hb;cases l' with
  |obj r _=>exact h2.elim
  |cells xH=>
   rcases hp with hp|hp
   .exact .slc h1 (.inl hp) h hl hc hx (.inl hp) hk
   obtain⟨q,hq,e1,e2,e3,e4⟩:=h2 _ hp;exact .slc h1 (.inr hq) (a4p h e3) hl hc hx (by rw[e1,e2,e4];exact ha) hk
 |map h=>
  obtain⟨l',h1,h2⟩:=hm _ _ h;cases l' with
  |obj r _=>cases h2.1;exact .map h1
  |cells xH=>exact h2.elim
 |jZ h=>
  obtain⟨l',h1,h2⟩:=hm _ _ h;cases l' with
  |obj r _=>cases h2.1;exact .jZ h1
  |cells xH=>exact h2.elim
 |iter h=>
  obtain⟨l',h1,h2⟩:=hm _ _ h;cases l' with
  |obj r _=>cases h2.1;exact .iter h1
  |cells xH=>exact h2.elim
 |fn h1 _ h3 _ ih2 ih4=>exact .fn h1 ih2 h3 ih4
 |agg h1 _ ih=>exact .agg h1 ih
 |dG h1 _ ih=>exact .dG h1 ih
theorem bU.mono{M M':Np}(hm:rV M M'){az:List TV}{xs:List Value}(h:bU M az xs):bU M' az xs:=
 ⟨h.len,fun i c v h1 h2=>(h.at_ i c v h1 h2).mono hm⟩
theorem a3X{M:Np}{v:TV}{x y:Value}(h:v.toC=some x)(hy:VR M v y):y=x:=by
 cases hy<;>simp[TV.toC]at h<;>first|exact h|exact h.symm|skip
theorem ZK{M:Np}:∀{az:List TV} {xs ys:List Value},TV.SQ az=some xs->bU M az ys->ys=xs
 | [],xs,ys,h,hy=>by simp[TV.SQ]at h;subst h;exact hy.pI
 |c::az,xs,ys,h,hy=>by
  simp only[TV.SQ]at h;split at h
  .rename_i v vs h1 h2;simp at h;subst h;obtain⟨w,ws,rfl,hw,Y5⟩:=hy.iH;rw[a3X h1 hw,ZK h2 Y5]
  simp at h
theorem vP{M:Np}{v:TV}{x y:Value}(h:v.yt=some x)(hy:VR M v y):y=x:=by
 unfold TV.yt at h;split at h
 .simp only[a0D]at h;obtain⟨vs,h1,rfl⟩:=h;cases hy with
  |agg g1 g2=>rw[ZK h1 ⟨g1,g2⟩]
 exact a3X h hy
theorem VR.a3Y{M:Np}{v:TV}{x:Value}(h:TV.ZG x=some v):VR M v x:=by
 unfold TV.ZG at h;split at h<;>simp at h<;>subst h<;>constructor
theorem bU.ZL{M:Np}:∀{xs:List Value} {az:List TV},TV.BF xs=some az->bU M az xs
 | [],az,h=>by simp[TV.BF]at h;subst h;exact .nil
 |x::xs,az,h=>by
  simp only[TV.BF]at h;split at h
  .rename_i v vs h1 h2;simp at h;subst h;exact .cons (.a3Y h1) (bU.ZL h2)
  simp at h
theorem VR.yu{M:Np}{v:TV}{x:Value}(h:TV.V5 x=some v):VR M v x:=by
 unfold TV.V5 at h;split at h
 .rename_i cs;simp only[a0D]at h;obtain⟨vs,h1,rfl⟩:=h;have:=VR.agg' (bU.ZL (M:=M) h1);simpa using this
 exact .a3Y h
theorem VR.cells{M:Np}{v:TV}{x:Value}(h:VR M v x):bU M v.cells x.cells.toList:=by
 cases h with
 |agg h1 h2=>exact⟨by simpa[TV.cells,Value.cells]using h1,by simpa[TV.cells,Value.cells]using h2⟩
 |_=>exact .cons (by first|assumption|constructor<;>assumption) .nil
theorem iT{α:Type}{P:Program}:∀{s:Sem α} {a:α},aB P s=some a->∀w,s.run P w=.ok a w
 |.pure b,a,h,w=>by simp[aB]at h;simp[Sem.run,h]
 |.program k,a,h,w=>by simp only[aB]at h;simp only[Sem.run];exact iT h w
 |.mark _ k,a,h,w=>by simp only[aB]at h;simp only[Sem.run];exact iT h w
 |.load ..,a,h,w=>by simp[aB]at h
 |.store ..,a,h,w=>by simp[aB]at h
 |.new ..,a,h,w=>by simp[aB]at h
 |.shape ..,a,h,w=>by simp[aB]at h
 |.freeze ..,a,h,w=>by simp[aB]at h
 |.frozen ..,a,h,w=>by simp[aB]at h
 |.getObj ..,a,h,w=>by simp[aB]at h
 |.setObj ..,a,h,w=>by simp[aB]at h
 |.choose ..,a,h,w=>by simp[aB]at h
 |.sys ..,a,h,w=>by simp[aB]at h
 |.halt ..,a,h,w=>by simp[aB]at h
def wr:HB->Bool
 |.cells .ro _=>false
 |.mark=>false
 |_=>true
def aI:Lc->List Nat
 |.cells ls=>ls.map (·.c)
 |.obj r _=>[r]
structure ML(N:Np)(w:World)(k:BK)(cs:List TV)(p:Pl):Prop where
 row:∃(arr:Array Value) (ty:TypeId) (fz:Nat×Nat),w.heap[p.c]? = some (.cells arr ty fz)∧arr.size=p.tot∧(k≠.ro->fz=(0,0)) ∧
  ((k=.last->p.ext=cs.length)->∀(i:Nat) (c:TV) (v:Value),i<p.ext->cs[i]? = some c->arr[p.base+i]? = some v->VR N c v)
 fit:p.base+p.ext<=p.tot
 ext:p.ext<=cs.length
 base:k≠.ro->p.base=0
inductive ER(M:Mp):EV->Value->Prop
 |val {v:TV} {x:Value} (h:VR M.h v x):ER M (.val v) x
 |loc {k off:Nat} {p:Pl} (h:M (.l k)=some (.cells [p])) (hb:p.base=0):ER M (.loc k off) (.pointer (some ⟨p.c,off,none⟩))
 |undef:ER M .undef Go.undef
 |ent {r j:Nat} {v:TV} {r1 i:Nat} {o:List Nat} {x:Value} (h:M (.h r)=some (.obj r1 o)) (hi:o[i]? = some j) (hv:VR M.h v x):ER M (.ent r j v) (.tuple #[x,Go.goInt i])
 |DY {r j r1 i:Nat} {o:List Nat} (h:M (.h r)=some (.obj r1 o)) (hi:o[i]? = some j):ER M (.DY r j) (Go.goInt i)
theorem ER.uU{M:Mp}{v:TV}{x:Value}(h:ER M (.val v) x):VR M.h v x:=by cases h;assumption
def jJ(M:Mp)(env:List (Nat×EV))(tmps:Array Value):Prop:=∀t e,dL t env=some e->ER M e (tmps.getD t Go.undef)
structure a8v(N:Np)(rd:Bool)(f nt:Nat)(env:List (Nat×EV))(ps:List Nat)(a b:Code)(jA:Option Code)(lp:Loop):Prop where
 ps:lp.params.toList=ps
 uD:lp.assign=a
 body:lp.body=b
 size:nt<=lp.tmps.size
 Ko:∀t v,dL t env=some (.val v)->VR N v (lp.tmps.getD t Go.undef)
 Ti:∀t,dL t env=some .undef->lp.tmps.getD t Go.undef=Go.undef
 nol:∀t e,dL t env=some e->isVal (t,e)=true
 ready:rd=true->lp.state=.ready∧lp.pending=none
 busy:rd=false->jA=none->lp.state=.busy
 done:rd=false->∀j,jA=some j->j≠.skip->lp.state=.done∧lp.pending=some j
structure vS(N:Np)(o:List Nat)(es:List (TV×TV))(xs:Array MapEntry):Prop where
 len:es.length=xs.size
 ord:o.length=xs.size
 nod:o.Nodup
 sur:∀j,j<es.length->j∈o
 at_:∀(i:Nat) (x:MapEntry),xs[i]? = some x->x.born=i∧∃j e,o[i]? = some j∧es[j]? = some e∧VR N e.1 x.key∧VR N e.2 x.val
def agG(N:Np)(w:World)(es:List (TV×TV))(r:Nat)(o:List Nat):Prop:=
 ∃xs:Array MapEntry,w.heap[r]? = some (.map xs xs.size)∧vS N o es xs
theorem vS.mono{N N':Np}{o:List Nat}{es:List (TV×TV)}{xs:Array MapEntry}(hm:rV N N')(h:vS N o es xs):vS N' o es xs:=
 ⟨h.len,h.ord,h.nod,h.sur,fun i x hx=>let ⟨b,j,e,h1,h2,h3,h4⟩:=h.at_ i x hx;⟨b,j,e,h1,h2,h3.mono hm,h4.mono hm⟩⟩
def lK(N:Np)(w:World)(k:BK)(cs:List TV)(ls:List Pl):Prop:=
 (∀c∈cs,iO c=true)∧(∀p∈ls,ML N w k cs p)∧(k=.own->∃p,ls=[p]∧p.ext=cs.length) ∧
   ((k=.grow∨k=.last)->(ls.map (·.c)).Nodup∧∀p∈ls,∀q∈ls,p.ext=cs.length->q.ext=cs.length->p=q)
def oV(N:Np)(w:World):HB->Lc->Prop
 |.cells k cs,.cells ls=>lK N w k cs ls
 |.mg cs,.cells ls=>∃cs',cs'.Perm cs∧lK N w .last cs' ls
 |.map es,.obj r o=>agG N w es r o
 |.mark,.obj r _=>r<w.heap.size
 |.cu m n seen,.obj r _=>∃(b:Nat) (o:List Nat) (sa:Array Nat),N m=some (.obj b o)∧w.heap[r]? = some (.mapIter (some b) n sa n)∧n<=o.length∧sa.toList.map (fun i=>o[i]?)=seen.reverse.map some
 |.loop rd f nt env ps a b jA,.obj r _=>∃lp,w.heap[r]? = some (.loop lp)∧a8v N rd f nt env ps a b jA lp
 |_,_=>False
theorem ML.mono{N N':Np}{w w':World}{k:BK}{cs:List TV}{p:Pl}(hm:rV N N')(hw:w'.heap[p.c]? = w.heap[p.c]?)(h:ML N w k cs p):ML N' w' k cs p:=
 ⟨let ⟨arr,ty,fz,h1,h2,h3,h4⟩:=h.row;⟨arr,ty,fz,hw.trans h1,h2,h3,fun z i c v a b d=>(h4 z i c v a b d).mono hm⟩,h.fit,h.ext,h.base⟩
theorem a8v.mono{N N':Np}{rd:Bool}{f nt:Nat}{env:List (Nat×EV)}{ps:List Nat}{a b:Code}{jA:Option Code}{lp:Loop}(hm:rV N N')(h:a8v N rd f nt env ps a b jA lp):a8v N' rd f nt env ps a b jA lp:=
 { h with Ko:=fun t v e=>(h.Ko t v e).mono hm }
theorem lK.mono{N N':Np}{w w':World}{k:BK}{cs:List TV}{ls:List Pl}(hm:rV N N')(hw:∀p∈ls,w'.heap[p.c]? = w.heap[p.c]?)(h:lK N w k cs ls):lK N' w' k cs ls:=
 ⟨h.1,fun p hp=>(h.2.1 p hp).mono hm (hw p hp),h.2.2⟩
theorem oV.mono{N N':Np}{w w':World}{b:HB}{l:Lc}(hm:rV N N')(hw:∀c∈aI l,w'.heap[c]? = w.heap[c]?)(h:oV N w b l):oV N' w' b l:=by
 cases b with
 |cells k cs=>
  cases l with
  |obj r _=>exact h.elim
  |cells ls=>exact lK.mono hm (fun p hp=>hw p.c (a1L.2 ⟨p,hp,rfl⟩)) h
 |mg cs=>
  cases l with
  |obj r _=>exact h.elim
  |cells ls=>
   obtain⟨cs',h1,h2⟩:=h;exact⟨cs',h1,h2.mono hm fun p hp=>hw p.c (a1L.2 ⟨p,hp,rfl⟩)⟩
 |map es=>
  cases l with
  |cells ls=>exact h.elim
  |obj r _=>
   obtain⟨xs,h1,h2⟩:=h;exact⟨xs,(hw r (by simp[aI])).trans h1,h2.mono hm⟩
 |mark=>
  cases l with
  |cells ls=>exact h.elim
  |obj r _=>
   have h':r<w.heap.size:=h;have:=hw r (by simp[aI]);rw[a3C h']at this;exact(a2s.1 this).1
 |cu m n seen=>
  cases l with
  |cells ls=>exact h.elim
  |obj r _=>
   obtain⟨b,o,sa,h1,h2,h3,h4⟩:=h;obtain⟨l',g1,g2⟩:=hm _ _ h1;cases l' with
   |cells xH=>exact g2.elim
   |obj b' o'=>
    obtain⟨rfl,g3⟩:=g2;refine⟨b,o',sa,g1,(hw r (by simp[aI])).trans h2,a4p h3 g3.length_le,?_⟩;rw[<-h4];refine a6f fun i hi=>?_;have:o[i]?∈sa.toList.map (fun i=>o[i]?):=a1L.2 ⟨i,hi,rfl⟩;rw[h4]at this;obtain⟨j,_,hj⟩:=a1L.1 this;have aQ:=(a02.1 hj.symm).1;obtain⟨t,rfl⟩:=g3;rw[a0N aQ]
 |loop rd f nt env ps a b jA=>
  cases l with
  |cells ls=>exact h.elim
  |obj r _=>
   obtain⟨lp,h1,h2⟩:=h;exact⟨lp,(hw r (by simp[aI])).trans h1,h2.mono hm⟩
theorem oV.inb{N:Np}{w:World}{b:HB}{l:Lc}(h:oV N w b l):∀c∈aI l,c<w.heap.size:=by
 intro c hc;cases b with
 |cells k cs=>
  cases l with
  |obj r _=>exact h.elim
  |cells ls=>
   obtain⟨p,hp,rfl⟩:=a1L.1 hc;obtain⟨arr,ty,fz,h1,_⟩:=(h.2.1 p hp).row;exact(a2s.1 h1).1
 |mg cs=>
  cases l with
  |obj r _=>exact h.elim
  |cells ls=>
   obtain⟨p,hp,rfl⟩:=a1L.1 hc;obtain⟨cs',_,h⟩:=h;obtain⟨arr,ty,fz,h1,_⟩:=(h.2.1 p hp).row;exact(a2s.1 h1).1
 |map es=>
  cases l with
  |cells ls=>exact h.elim
  |obj r _=>
   obtain⟨xs,h1,_⟩:=h;simp[aI]at hc;subst hc;exact(a2s.1 h1).1
 |mark=>
  cases l with
  |cells ls=>exact h.elim
  |obj r _=>
   simp[aI]at hc;subst hc;exact h
 |cu m n seen=>
  cases l with
  |cells ls=>exact h.elim
  |obj r _=>
   obtain⟨b,o,sa,_,h1,_⟩:=h;simp[aI]at hc;subst hc;exact(a2s.1 h1).1
 |loop rd f nt env ps a b jA=>
  cases l with
  |cells ls=>exact h.elim
  |obj r _=>
   obtain⟨lp,h1,_⟩:=h;simp[aI]at hc;subst hc;exact(a2s.1 h1).1
abbrev Ct:=Key->Option HB
structure Valid(M:Mp)(D:Key->Prop)(C:Ct)(w:World):Prop where
 ok:∀k l,M k=some l->D k->∃b,C k=some b∧oV M.h w b l
 own:∀k k' l l' b,k≠k'->M k=some l->M k'=some l'->D k->C k=some b->wr b=true->∀c∈aI l,c∉aI l'
 inb:∀k l,M k=some l->∀c∈aI l,c<w.heap.size
def uF:Key->Prop:=fun _=>True
theorem Valid.has{M:Mp}{C:Ct}{w:World}(h:Valid M uF C w){k:Key}{l:Lc}(hk:M k=some l):(C k).isSome=true:=
 let ⟨_,h1,_⟩:=h.ok k l hk trivial;by simp[h1]
theorem Valid.of_heap{M:Mp}{D:Key->Prop}{C:Ct}{w w':World}(h:Valid M D C w)(hw:w'.heap=w.heap):Valid M D C w':=
 ⟨fun k l hk hd=>let ⟨b,h1,h2⟩:=h.ok k l hk hd;⟨b,h1,h2.mono (.refl _) (fun c _=>by rw[hw])⟩,h.own,by rw[hw];exact h.inb⟩
def dJ(M:Mp)(k:Key)(l:Lc):Mp:=fun j=>if j=k then some l else M j
def l9(C:Ct)(k:Key)(b:HB):Ct:=fun j=>if j=k then some b else C j
theorem lM{M:Mp}{k:Key}{l:Lc}(h:∀l0,M k=some l0->JZ l0 l):rV M (dJ M k l):=by
 intro j l0 hj;by_cases hjk:j=k
 .subst hjk;exact⟨l,by simp[dJ],h l0 hj⟩
 exact⟨l0,by simp[dJ,hjk,hj],.refl _⟩
theorem Valid.upd{M:Mp}{D D':Key->Prop}{C:Ct}{w w':World}(h:Valid M D C w)(k:Key)(b:HB)(l:Lc)
  (hD:∀j,D' j->D j∨j=k)
  (hold:∀l0,M k=some l0->D k∧JZ l0 l∧∀b0,C k=some b0->wr b0=true)
  (fU:∀c,c<w.heap.size->c∉aI l->w'.heap[c]? = w.heap[c]?)
  (gQ:∀c∈aI l,(∃l0,M k=some l0∧c∈aI l0)∨w.heap.size<=c)
  (Ef:w.heap.size<=w'.heap.size)
  (Qo:oV (dJ M k l).h w' b l):Valid (dJ M k l) D' (l9 C k b) w':=by
 have hle:rV M (dJ M k l):=lM fun l0 h0=>(hold l0 h0).2.1;refine⟨?_,?_,?_⟩
 .intro j l0 hj hd;by_cases hjk:j=k
  .subst hjk;simp only[dJ,a2D,a01]at hj;subst hj;exact⟨b,by simp[l9],Qo⟩
  .simp only[dJ,hjk,a3x]at hj;obtain⟨b0,h1,h2⟩:=h.ok j l0 hj ((hD j hd).resolve_right hjk);refine⟨b0,by simp[l9,hjk,h1],h2.mono hle.h fun c hc=>?_⟩;have aQ:=h.inb j l0 hj c hc;refine fU c aQ fun pU=>?_;rcases gQ c pU with⟨l1,Ve,hc1⟩|Eh
   .obtain⟨hDk,_,hw⟩:=hold l1 Ve;obtain⟨b1,BN,_⟩:=h.ok k l1 Ve hDk;exact h.own k j l1 l0 b1 (fun e=>hjk e.symm) Ve hj hDk BN (hw b1 BN) c hc1 hc
   .omega
 .intro j j' l0 l0' b0 iq hj Ei hd hb hw c hc V6;by_cases hjk:j=k
  .subst hjk;have a8w:j'≠j:=fun e=>iq e.symm;simp only[dJ,a2D,a01]at hj;subst hj;simp only[dJ,a8w,a3x]at Ei;have aQ:=h.inb j' l0' Ei c V6;rcases gQ c hc with⟨l1,Ve,hc1⟩|Eh
   .obtain⟨hDk,_,hw⟩:=hold l1 Ve;obtain⟨b1,BN,_⟩:=h.ok j l1 Ve hDk;exact h.own j j' l1 l0' b1 iq Ve Ei hDk BN (hw b1 BN) c hc1 V6
   .omega
  .simp only[dJ,hjk,a3x]at hj;simp only[l9,hjk,a3x]at hb;have hdj:=(hD j hd).resolve_right hjk;have aQ:=h.inb j l0 hj c hc;by_cases a8w:j'=k
   .subst a8w;simp only[dJ,a2D,a01]at Ei;subst Ei;rcases gQ c V6 with⟨l1,Ve,hc1⟩|Eh
    .exact h.own j j' l0 l1 b0 iq hj Ve hdj hb hw c hc hc1
    .omega
   .simp only[dJ,a8w,a3x]at Ei;exact h.own j j' l0 l0' b0 iq hj Ei hdj hb hw c hc V6
 .intro j l0 hj c hc;by_cases hjk:j=k
  .subst hjk;simp only[dJ,a2D,a01]at hj;subst hj;exact Qo.inb c hc
  .simp only[dJ,hjk,a3x]at hj;exact a8K (h.inb j l0 hj c hc) Ef
structure Ext(M0:Mp)(C0:Ct)(w0:World)(M:Mp)(C:Ct)(w:World)(ws:List Key):Prop where
 HY:rV M0 M
 frame:∀c,c<w0.heap.size->(∀k∈ws,∀l,M0 k=some l->c∉aI l)->w.heap[c]? = w0.heap[c]?
 mW:∀k,(C0 k).isSome=true->k∉ws->C k=C0 k
 kP:∀k,((C0 k).isSome=true∨C k=none)->k∉ws->M k=M0 k
 fresh:∀k l,M k=some l->∀c∈aI l,c<w0.heap.size->∃l0,M0 k=some l0∧c∈aI l0
 size:w0.heap.size<=w.heap.size
 has:∀k,(C0 k).isSome=true->(C k).isSome=true
 wsub:∀k∈ws,(C0 k).isSome=true
 wrote:∀k∈ws,(M0 k).isSome=true∧∀b,C0 k=some b->wr b=true
 os:w.os=w0.os
 output:w.output=w0.output
 tape:w.tape=w0.tape
theorem Ext.refl(M:Mp)(C:Ct)(w:World):Ext M C w M C w []:=
 ⟨.refl _,fun _ _ _=>rfl,fun _ _ _=>rfl,fun _ _ _=>rfl,fun _ l h c hc _=>⟨l,h,hc⟩,a1J _,fun _ h=>h,(by simp),(by simp),rfl,rfl,rfl⟩
theorem Ext.drew{M0:Mp}{C0:Ct}{w0:World}{M:Mp}{C:Ct}{w w':World}{ws:List Key}(h:Ext M0 C0 w0 M C w ws)
  (hh:w'.heap=w.heap) (ho:w'.os=w.os) (hu:w'.output=w.output) (ht:w'.tape=w.tape):Ext M0 C0 w0 M C w' ws:=
 { h with frame:=(by rw[hh];exact h.frame),size:=(by rw[hh];exact h.size),os:=ho.trans h.os,output:=hu.trans h.output,tape:=ht.trans h.tape }
theorem Ext.trans{M0 M M':Mp}{C0 C C':Ct}{w0 w w':World}{ws Tj ad8:List Key}(h:Ext M0 C0 w0 M C w ws)(h':Ext M C w M' C' w' Tj)
  (hd:∀k l,M0 k=some l->(C0 k).isSome=true) (hs:∀k,(C0 k).isSome=true->(k∈ws∨k∈Tj)->k∈ad8) (hb:∀k∈ad8,(C0 k).isSome=true∧(k∈ws∨k∈Tj)) :
  Ext M0 C0 w0 M' C' w' ad8 where
 HY:=h.HY.trans h'.HY
 frame:=by
  intro c hc hf;have h1:w.heap[c]? = w0.heap[c]?:=h.frame c hc fun k hk l hl=>hf k (hs k (h.wsub k hk) (.inl hk)) l hl;rw[<-h1];refine h'.frame c (a8K hc h.size) fun k hk l hl pU=>?_;obtain⟨l0,h2,h3⟩:=h.fresh k l hl c pU hc;exact hf k (hs k (hd k l0 h2) (.inr hk)) l0 h2 h3
 mW:=fun k hk hn=>by
  have hn1:k∉ws:=fun e=>hn (hs k hk (.inl e));have Dk:k∉Tj:=fun e=>hn (hs k hk (.inr e));rw[h'.mW k (h.has k hk) Dk,h.mW k hk hn1]
 kP:=fun k hk hn=>by
  rcases hk with hk|hk
  .have hn1:k∉ws:=fun e=>hn (hs k hk (.inl e));have Dk:k∉Tj:=fun e=>hn (hs k hk (.inr e));rw[h'.kP k (.inl (h.has k hk)) Dk,h.kP k (.inl hk) hn1]
  .have hC:C k=none:=by
    cases hc:C k with
    |none=>rfl
    |some b=>have:=h'.has k (by simp[hc]);simp[hk]at this
   have Dk:k∉Tj:=fun e=>by have:=h'.wsub k e;simp[hC]at this
   have hn1:k∉ws:=fun e=>by have:=h.has k (h.wsub k e);simp[hC]at this
   rw[h'.kP k (.inr hk) Dk,h.kP k (.inr hC) hn1]
 fresh:=fun k l hl c hc aQ=>by
  obtain⟨l1,h1,h2⟩:=h'.fresh k l hl c hc (a8K aQ h.size);exact h.fresh k l1 h1 c h2 aQ
 size:=a4p h.size h'.size
 has:=fun k hk=>h'.has k (h.has k hk)
 wsub:=fun k hk=>(hb k hk).1
 wrote:=fun k hk=>by
  by_cases h1:k∈ws
  .exact h.wrote k h1
  .have h2:=h'.wrote k ((hb k hk).2.resolve_left h1);rw[h.kP k (.inl (hb k hk).1) h1,h.mW k (hb k hk).1 h1]at h2;exact h2
 os:=h'.os.trans h.os
 output:=h'.output.trans h.output
 tape:=h'.tape.trans h.tape
theorem Ext.upd{M:Mp}{C:Ct}{w w':World}(k:Key)(b:HB)(l:Lc)(ws:List Key)
  (Y5:((C k).isSome=true∧ws=[k]∧(M k).isSome=true∧∀b,C k=some b->wr b=true)∨(C k=none∧M k=none∧ws=[]))
  (hle:rV M (dJ M k l))
  (fU:∀c,c<w.heap.size->c∉aI l->w'.heap[c]? = w.heap[c]?)
  (gQ:∀c∈aI l,(∃l0,M k=some l0∧c∈aI l0)∨w.heap.size<=c)
  (Ef:w.heap.size<=w'.heap.size) (ho:w'.os=w.os) (hou:w'.output=w.output) (ht:w'.tape=w.tape) :
  Ext M C w (dJ M k l) (l9 C k b) w' ws where
 HY:=hle
 frame:=by
  intro c hc hf;refine fU c hc fun pU=>?_;rcases gQ c pU with⟨l0,h1,h2⟩|Eh
  .rcases Y5 with⟨_,rfl,_⟩|⟨_,hn,_⟩
   .exact hf k (by simp) l0 h1 h2
   .rw[hn]at h1;cases h1
  .omega
 mW:=fun j hj hn=>by
  have:j≠k:=by
   rintro rfl;rcases Y5 with⟨_,rfl,_⟩|⟨h1,_⟩
   .simp at hn
   .simp[h1]at hj
  simp[l9,this]
 kP:=fun j hj hn=>by
  have:j≠k:=by
   rintro rfl;rcases Y5 with⟨_,rfl,_⟩|⟨h1,_⟩
   .simp at hn
   .rcases hj with hj|hj
    .simp[h1]at hj
    .simp[l9]at hj
  simp[dJ,this]
 fresh:=fun j l0 hj c hc aQ=>by
  by_cases hjk:j=k
  .subst hjk;simp only[dJ,a2D,a01]at hj;subst hj;rcases gQ c hc with h1|Eh
   .exact h1
   .omega
  .simp only[dJ,hjk,a3x]at hj;exact⟨l0,hj,hc⟩
 size:=Ef
 has:=fun j hj=>by
  by_cases hjk:j=k
  .simp[l9,hjk]
  .simpa[l9,hjk]using hj
 wsub:=by
  rcases Y5 with⟨h1,rfl,_⟩|⟨_,_,rfl⟩
  .intro j hj;simp at hj;subst hj;exact h1
  .simp
 wrote:=by
  rcases Y5 with⟨_,rfl,h1⟩|⟨_,_,rfl⟩
  .intro j hj;simp at hj;subst hj;exact h1
  .simp
 os:=ho
 output:=hou
 tape:=ht
theorem ER.mono{M M':Mp}(hm:rV M M')(hl:∀k l,M (.l k)=some l->M' (.l k)=some l){e:EV}{x:Value}(h:ER M e x):ER M' e x:=by
 cases h with
 |val h=>exact .val (h.mono hm.h)
 |loc h hb=>exact .loc (hl _ _ h) hb
 |undef=>exact .undef
 |ent h hi hv=>
  obtain⟨l',h1,h2⟩:=hm _ _ h;cases l' with
  |cells _=>exact h2.elim
  |obj r1 o'=>
   obtain⟨rfl,t,rfl⟩:=h2;exact .ent h1 (by rw[a0N (a02.1 hi).1];exact hi) (hv.mono hm.h)
 |DY h hi=>
  obtain⟨l',h1,h2⟩:=hm _ _ h;cases l' with
  |cells _=>exact h2.elim
  |obj r1 o'=>
   obtain⟨rfl,t,rfl⟩:=h2;exact .DY h1 (by rw[a0N (a02.1 hi).1];exact hi)
structure MO(M:Mp)(D:Key->Prop)(C:Ct)(w:World)(v:EV)(C1:Ct)(ws:List Key)(x:Value)(w':World)(M':Mp):Prop where
 val:Valid M' (fun k=>D k∨(C k=none∧(C1 k).isSome=true)) C1 w'
 ext:Ext M C w M' C1 w' ws
 er:ER M' v x
 loc:∀k l,M (.l k)=some l->M' (.l k)=some l
theorem MO.same{M:Mp}{D:Key->Prop}{C:Ct}{w:World}{v:EV}{x:Value}(h:Valid M D C w)(he:ER M v x):MO M D C w v C [] x w M:=
 ⟨⟨fun k l hk hd=>h.ok k l hk (hd.elim id fun⟨a,b⟩=>by simp[a]at b),fun k k' l l' b a1 a2 a3 hd=>h.own k k' l l' b a1 a2 a3 (hd.elim id fun⟨a,b⟩=>by simp[a]at b),h.inb⟩,.refl M C w,he,fun _ _ h=>h⟩
theorem vT(w:World)(o:Obj)(i:Nat)(h:i<w.heap.size):(w.alloc o).heap[i]? = w.heap[i]?:=by
 show(w.heap.push o)[i]? = w.heap[i]?;rw[Array.getElem?_push,a0S (Nat.ne_of_lt h)]
section
variable {P:Program} {w:World}
theorem iP{t:TypeId}{i:TypeInfo}(h:P.info? t=some i):(typeInfo t).run P w=.ok i w:=by simp[typeInfo,h]
theorem EG{t:TypeId}{n:Nat}(h:dw P t=some n):∃i,P.info? t=some i∧i.size=n:=by
 simpa[dw]using h
theorem bY{t:TypeId}{n:Nat}(h:dw P t=some n):(Go.sizeOf t).run P w=.ok n w:=by
 obtain⟨i,h1,h2⟩:=EG h;simp[Go.sizeOf,iP h1,h2]
theorem zM{t:TypeId}{b:Bool}(h:vO P t=some b):(isAgg t).run P w=.ok b w:=by
 unfold vO at h;split at h<;>simp at h<;>subst h
 .simp[isAgg,run_underlying ‹_›]
 .simp[isAgg,run_underlying ‹_›]
 rename_i d _ _ hu;simp only[isAgg,Sem.run_bind,run_underlying hu,Result.andThen_ok];cases d<;>simp_all
theorem tZ(c o n:Nat):(⟨c,o,none⟩:Addr).add n=⟨c,o+n,none⟩:=by
 unfold Addr.add;split<;>simp_all
theorem Ia{N:Np}{c:TV}{v:Value}(h:VR N c v)(ho:iO c=true):v.oneCell'=true:=by
 cases h<;>first|rfl|simp[iO]at ho
theorem uf{cs:List TV}{off n:Nat}{r:List TV}(h:sub cs off n=some r):off+n<=cs.length∧r=(cs.drop off).take n∧r.length=n:=by
 unfold sub at h;split at h
 .rename_i hl;simp at h;subst h;exact⟨hl,rfl,by simp;omega⟩
 simp at h
theorem vG{cs:List TV}{off:Nat}{new r:List TV}(h:vN cs off new=some r) :
  off+new.length<=cs.length∧r=cs.take off++new++cs.drop (off+new.length)∧r.length=cs.length:=by
 unfold vN at h;split at h
 .rename_i hl;simp at h;subst h;exact⟨hl,by simp,by simp;omega⟩
 .simp at h
theorem ML.slice{N:Np}{k:BK}{cs:List TV}{p:Pl}(h:ML N w k cs p){off n:Nat}{r:List TV}(hr:sub cs off n=some r)(he:off+n<=p.ext)(hz:k=.last->p.ext=cs.length) :
  ∃xs:List Value,bU N r xs∧∀(j:Nat) (v:Value),xs[j]? = some v->w.cell? ⟨p.c,p.base+off+j,none⟩=some v:=by
 obtain⟨arr,ty,fz,h1,h2,_,h4⟩:=h.row;obtain⟨s1,s2,s3⟩:=uf hr;have hf:=h.fit;refine⟨(arr.toList.drop (p.base+off)).take n,⟨by rw[s3];simp;omega,fun i c v a b=>?_⟩,fun j v hj=>?_⟩
 .rw[s2,a3O]at a;rw[a3O]at b;split at a
  .rename_i hi;rw[a0V hi,a3M]at b;rw[a3M]at a;exact h4 hz (off+i) c v (by omega) a (by simpa[a9L]using b)
  .simp at a
 .rw[a3O]at hj;split at hj
  .rw[a3M]at hj;simp only[World.cell?,h1];simpa using hj
  .simp at hj
theorem yw{N:Np}{k:BK}{cs:List TV}{p:Pl}(h:ML N w k cs p){off n:Nat}{r:List TV}(hr:sub cs off n=some r)(he:off+n<=p.ext)(hz:k=.last->p.ext=cs.length) :
  ∃xs:List Value,bU N r xs∧∀w':World,w'.heap=w.heap->(loadCells ⟨p.c,p.base+off,none⟩ n).run P w'=.ok xs.toArray w':=by
 obtain⟨xs,h1,h2⟩:=h.slice hr he hz;refine⟨xs,h1,fun w' hw'=>?_⟩;have hl:xs.length=n:=by rw[<-h1.len];exact(uf hr).2.2
 have:=run_loadCells_list (P:=P) w' ⟨p.c,p.base+off,none⟩ xs (fun j v hj=>by
  rw[tZ];have e:=h2 j v hj;simp only[World.cell?,hw']at e ⊢;exact e)
 rwa [hl]at this
theorem Js{N:Np}{k:BK}{cs:List TV}{p:Pl}(h:ML N w k cs p){t:TypeId}{off n:Nat}{v:TV}(hs:dw P t=some n)
  (hv:tY P t cs off=some v) (he:off+n<=p.ext) (hz:k=.last->p.ext=cs.length) :
  ∃x,VR N v x∧(loadVar t ⟨p.c,p.base+off,none⟩).run P w=.ok x w:=by
 unfold tY at hv;rw[hs]at hv;cases ha:vO P t with
 |none=>simp[ha]at hv
 |some b=>
  cases b with
  |true=>
   simp only[ha,a0D]at hv;obtain⟨r,hr,rfl⟩:=hv;obtain⟨xs,g1,g2⟩:=yw (P:=P) h hr he hz;exact⟨_,.agg' g1,by simp[loadVar,zM ha,bY hs,g2 w rfl]⟩
  |false=>
   simp only[ha]at hv;split at hv
   case isFalse=>simp at hv
   rename_i hn1;have he1:off+1<=p.ext:=(by omega);have aQ:=(a02.1 hv).1;have hr:sub cs off 1=some [v]:=by
    unfold sub;rw[a0V (by omega)];congr 1;rw[a7R aQ];have:=(a02.1 hv).2;simp[this]
   obtain⟨xs,g1,g2⟩:=h.slice hr he1 hz;obtain⟨x,xs',rfl,gx,_⟩:=g1.iH;have:=g2 0 x rfl;simp only[ade]at this;exact⟨x,gx,by simp[loadVar,zM ha,this]⟩
end
theorem Ib{M:Mp}{k:Key}{l:Lc}(h:M k=some l):dJ M k l=M:=by
 funext j;unfold dJ;split
 .rename_i e;rw[e,h]
 rfl
theorem jQ(s:St)(b:HB)(e:List (Nat×EV))(ws:List Nat):St.get { s with heap:=s.heap++[b],env:=e,ws:=ws }=l9 s.get (.h s.heap.length) b:=by
 funext k
 cases k with
 |h j=>
  simp only[St.get,l9,Key.h.injEq];split
  .rename_i e;subst e;simp
  rename_i e;by_cases hj:j<s.heap.length
  .rw[a0N hj]
  rw[a3I (by simp;omega),a3I (by omega)]
 |l j=>simp[St.get,l9]
theorem ji(s:St)(i:Nat)(b:HB)(h:i<s.heap.length)(e:List (Nat×EV))(ws:List Nat):St.get { s with heap:=s.heap.set i b,env:=e,ws:=ws }=l9 s.get (.h i) b:=by
 funext k
 cases k with
 |h j=>
  simp only[St.get,l9,Key.h.injEq];rw[a9f];by_cases hj:i=j
  .subst hj;simp[h]
  rw[a0S hj,a0S (fun e=>hj e.symm)]
 |l j=>simp[St.get,l9]
theorem Qq(s:St)(cs:List TV)(e:List (Nat×EV))(ws:List Nat):St.get { s with loc:=s.loc++[cs],env:=e,ws:=ws }=l9 s.get (.l s.loc.length) (.cells .own cs):=by
 funext k
 cases k with
 |l j=>
  simp only[St.get,l9,Key.l.injEq];split
  .rename_i e;subst e;simp
  rename_i e;by_cases hj:j<s.loc.length
  .rw[a0N hj]
  rw[a3I (by simp;omega),a3I (by omega)]
 |h j=>simp[St.get,l9]
theorem MP(s:St)(i:Nat)(cs:List TV)(h:i<s.loc.length)(e:List (Nat×EV))(ws:List Nat):St.get { s with loc:=s.loc.set i cs,env:=e,ws:=ws }=l9 s.get (.l i) (.cells .own cs):=by
 funext k
 cases k with
 |l j=>
  simp only[St.get,l9,Key.l.injEq];rw[a9f];by_cases hj:i=j
  .subst hj;simp[h]
  rw[a0S hj,a0S (fun e=>hj e.symm)]
 |h j=>simp[St.get,l9]
theorem xI{h:List HB}{b lim:Nat}{cs:List TV}(e:lH h b lim=some cs):∃k,h[b]? = some (.cells k cs)∧(k=.last->lim=cs.length):=by
 unfold lH at e;split at e
 .rename_i k cs' hb;split at e
  .cases e
  rename_i hn;simp at e;subst e;exact⟨k,hb,fun hk=>Decidable.not_not.1 fun hl=>hn ⟨hk,hl⟩⟩
 simp at e
theorem Jt{k k':BK}{b:Bool}(e:zK k b=some k'):(k=.own∧k'=.own)∨((k=.grow∨k=.last)∧k'=.last∧b=true):=by
 unfold zK at e;split at e<;>simp_all
theorem Ic{h h':List HB}{b off lim:Nat}{new:List TV}(e:SV h b off lim new=some h') :
  ∃k k' cs cs',h[b]? = some (.cells k cs)∧((k=.own∧k'=.own)∨((k=.grow∨k=.last)∧k'=.last∧lim=cs.length))∧vN cs off new=some cs'∧h'=h.set b (.cells k' cs'):=by
 unfold SV at e;split at e
 .rename_i k cs hb;split at e
  .rename_i k' hk;simp only[a0D]at e;obtain⟨cs',h1,h2⟩:=e;refine⟨k,k',cs,cs',hb,?_,h1,h2.symm⟩;rcases Jt hk with h|⟨a,b,c⟩
   .exact .inl h
   .exact .inr ⟨a,b,by simpa using c⟩
  .cases e
 .simp at e
theorem Vf{arr:Array Value}{off:Nat}{xs:List Value}(i:Nat)(h:off+xs.length<=arr.size) :
  (arr.toList.take off++xs++arr.toList.drop (off+xs.length)).toArray[i]? = if i<off then arr[i]? else if i<off+xs.length then xs[i-off]? else arr[i]?:=by
 have hl:(arr.toList.take off).length=off:=by simp;omega
 simp only[adg];by_cases h1:i<off
 .rw[a0V h1,a5I,a0N (by omega),a3O,a0V h1];simp
 .rw[a0S h1];by_cases h2:i<off+xs.length
  .rw[a0V h2,a5I,a1H (by omega),hl,a0N (by omega)]
  .rw[a0S h2,a1H (by simp;omega),a3M];have:off+xs.length+(i-(List.take off arr.toList++xs).length)=i:=by simp;omega
   rw[this];simp
theorem a1G{cs new r:List TV}{off:Nat}(h:vN cs off new=some r)(i:Nat) :
  r[i]? = if i<off then cs[i]? else if i<off+new.length then new[i-off]? else cs[i]?:=by
 obtain⟨h1,h2,_⟩:=vG h;have hl:(cs.take off).length=off:=by simp;omega
 rw[h2];by_cases h1:i<off
 .rw[a0V h1,a5I,a0N (by omega),a3O,a0V h1]
 .rw[a0S h1];by_cases h2:i<off+new.length
  .rw[a0V h2,a5I,a1H (by omega),hl,a0N (by omega)]
  .rw[a0S h2,a1H (by simp;omega),a3M];congr 1;simp;omega
theorem Vg{cs new r:List TV}{off:Nat}(h:vN cs off new=some r)(hc:∀c∈cs,iO c=true)(hn:∀c∈new,iO c=true):∀c∈r,iO c=true:=by
 obtain⟨_,h2,_⟩:=vG h;intro c hcr;rw[h2]at hcr;simp only[a3y]at hcr;rcases hcr with(h|h)|h
 .exact hc c (a8Z h)
 .exact hn c h
 exact hc c (a5s h)
theorem uV(w:World)(g:Nat)(arr:Array Value)(c:Nat)(h:c≠g):(w.setRow g arr).heap[c]? = w.heap[c]?:=by
 simp only[World.setRow,abb];rw[a0S (fun e=>h e.symm)]
theorem MQ(w:World)(g:Nat)(arr cur:Array Value)(ty:TypeId)(fz:Nat×Nat)(h:w.heap[g]? = some (.cells cur ty fz)):(w.setRow g arr).heap[g]? = some (.cells arr ty fz):=by
 simp[World.setRow,abb,h]
theorem Valid.widen{M:Mp}{D:Key->Prop}{C C1:Ct}{w':World}(h:Valid M D C1 w')(hn:∀k,C k=none->C1 k=none):Valid M (fun j=>D j∨(C j=none∧(C1 j).isSome=true)) C1 w':=
 have aux:∀j,(D j∨(C j=none∧(C1 j).isSome=true))->D j:=fun j hj=>hj.elim id fun⟨a,b⟩=>by rw[hn j a]at b;cases b
 ⟨fun k l hk hd=>h.ok k l hk (aux k hd),fun k k' l l' b a1 a2 a3 hd=>h.own k k' l l' b a1 a2 a3 (aux k hd),h.inb⟩
theorem Dl{C:Ct}{k:Key}{b:HB}(hk:(C k).isSome=true):∀j,C j=none->l9 C k b j=none:=by
 intro j hj;unfold l9;split
 .rename_i e;subst e;rw[hj]at hk;cases hk
 exact hj
theorem Valid.wrB{M:Mp}{D:Key->Prop}{C:Ct}{w:World}(h:Valid M D C w){k:Key}{ls:List Pl}{p:Pl}{cs:List TV}{kk AX:BK}(hk:M k=some (.cells ls))(hd:D k)
  (hc:C k=some (.cells kk cs)) (hp:p∈ls) (xJ:(kk=.own∧AX=.own)∨((kk=.grow∨kk=.last)∧AX=.last∧p.ext=cs.length)) :
  p.base=0∧p.ext=cs.length∧(∀c∈cs,iO c=true)∧(∀q∈ls,ML M.h w kk cs q)∧(ls.map (·.c)).Nodup∧(∀q∈ls,q.ext=cs.length->q=p) ∧
  ∃(arr:Array Value) (ty:TypeId),w.heap[p.c]? = some (.cells arr ty (0,0))∧arr.size=p.tot∧cs.length<=p.tot ∧
   ∀(i:Nat) (c:TV) (v:Value),cs[i]? = some c->arr[i]? = some v->VR M.h c v:=by
 obtain⟨b,h1,h2⟩:=h.ok k _ hk hd;rw[hc]at h1;cases h1;obtain⟨g1,g2,g3,g4⟩:=h2;have iq:kk≠.ro:=by rcases xJ with⟨e,_⟩|⟨e|e,_⟩<;>rw[e]<;>simp
 have FI:=g2 p hp;have hb:=FI.base iq;have hx:p.ext=cs.length∧(ls.map (·.c)).Nodup∧∀q∈ls,q.ext=cs.length->q=p:=by
  rcases xJ with⟨e,_⟩|⟨e,_,he⟩
  .obtain⟨q,rfl,hq⟩:=g3 e;simp at hp;subst hp;exact⟨hq,by simp,fun q' hq' _=>by simpa using hq'⟩
  .obtain⟨n1,n2⟩:=g4 e;exact⟨he,n1,fun q hq hqe=>n2 q hq p hp hqe he⟩
 obtain⟨arr,ty,fz,r1,r2,r3,r4⟩:=FI.row;have:=r3 iq;subst this;have hf:=FI.fit;refine⟨hb,hx.1,g1,g2,hx.2.1,hx.2.2,arr,ty,r1,r2,by omega,fun i c v a b=>?_⟩;have hi:=(a02.1 a).1;exact r4 (fun _=>hx.1) i c v (by omega) a (by simpa[hb]using b)
theorem Valid.Y6{M:Mp}{D:Key->Prop}{C:Ct}{w:World}(h:Valid M D C w){k:Key}{ls:List Pl}{p:Pl}{cs:List TV}{kk AX:BK}{lim:Nat}(hk:M k=some (.cells ls))(hd:D k)
  (hc:C k=some (.cells kk cs)) (hp:p∈ls) (hl:lim<=p.ext) (xJ:(kk=.own∧AX=.own)∨((kk=.grow∨kk=.last)∧AX=.last∧lim=cs.length)) :
  (kk=.own∧AX=.own)∨((kk=.grow∨kk=.last)∧AX=.last∧p.ext=cs.length):=by
 rcases xJ with e|⟨e1,e2,e3⟩
 .exact .inl e
 .obtain⟨b,h1,h2⟩:=h.ok k _ hk hd;rw[hc]at h1;cases h1;have:=(h2.2.1 p hp).ext;exact .inr ⟨e1,e2,by omega⟩
theorem MR:∀{ls:List Pl},(ls.map (·.c)).Nodup->∀{p q:Pl},p∈ls->q∈ls->q.c=p.c->q=p
 | [],_,p,q,hp,_,_=>by simp at hp
 |a::ls,h,p,q,hp,hq,e=>by
  simp only[a3K,a3P]at h;rcases a2t.1 hp with h1|h1<;>rcases a2t.1 hq with h2|h2
  .rw[h1,h2]
  .exact(h.1 (a1L.2 ⟨q,h2,by rw[e,h1]⟩)).elim
  .exact(h.1 (a1L.2 ⟨p,h1,by rw[<-e,h2]⟩)).elim
  exact MR h.2 h1 h2 e
theorem yI{P:Program}{M:Mp}{D:Key->Prop}{C:Ct}{w:World}(h:Valid M D C w){k:Key}{ls:List Pl}{p:Pl}{cs cs' new:List TV}{off:Nat}{xs:List Value}{kk AX:BK}
  (hk:M k=some (.cells ls)) (hd:D k) (hc:C k=some (.cells kk cs)) (hp:p∈ls) (xJ:(kk=.own∧AX=.own)∨((kk=.grow∨kk=.last)∧AX=.last∧p.ext=cs.length))
  (ho:vN cs off new=some cs') (hx:bU M.h new xs) (hn:∀c∈new,iO c=true) :
  ∃w',(storeCells ⟨p.c,p.base+off,none⟩ xs).run P w=.ok () w'∧Valid M D (l9 C k (.cells AX cs')) w'∧Ext M C w M (l9 C k (.cells AX cs')) w' [k]:=by
 obtain⟨hb,he,h1,FI,jk,huq,arr,ty,hr,hs,hle,hv⟩:=h.wrB hk hd hc hp xJ;obtain⟨o1,o2,o3⟩:=vG ho;have hlen:=hx.len;have iq:kk≠.ro:=by rcases xJ with⟨e,_⟩|⟨e|e,_⟩<;>rw[e]<;>simp
 have agI:AX≠.ro:=by rcases xJ with⟨_,e⟩|⟨_,e,_⟩<;>rw[e]<;>simp
 have XV:∀b0,C k=some b0->wr b0=true:=fun b0 zG=>by rw[hc]at zG;cases zG;cases kk<;>simp_all [wr]
 have EH:∀v∈xs,v.oneCell'=true:=by
  intro v hv;obtain⟨i,hi,rfl⟩:=a4h.1 hv;have wY:i<new.length:=by omega
  exact Ia (hx.at_ i new[i] xs[i] (by simp[wY]) (by simp[hi])) (hn _ (a4d wY))
 have uX:=run_storeCells_at (P:=P) p.c (p.base+off) ty xs 0 arr w hr (by omega) EH;simp only[ade,hb,a3E]at uX
 let w':World:=w.setRow p.c (arr.toList.take off++xs++arr.toList.drop (off+xs.length)).toArray
 have qo:dJ M k (.cells ls)=M:=Ib hk;have fU:∀c,c<w.heap.size->c∉aI (.cells ls)->w'.heap[c]? = w.heap[c]?:=fun c _ hc=>uV w p.c _ c (fun e=>hc (by rw[e];exact a1L.2 ⟨p,hp,rfl⟩));have gQ:∀c∈aI (.cells ls),(∃l0,M k=some l0∧c∈aI l0)∨w.heap.size<=c:=fun c hc=>.inl ⟨_,hk,hc⟩;have uN:w.heap.size<=w'.heap.size:=by simp[w']
 have Ie:rV M (dJ M k (.cells ls)):=by rw[qo];exact .refl _
 refine⟨w',by rw[hb,a3E];exact uX,?_,?_⟩
 .have:=h.upd (D':=D) (w':=w') k (.cells AX cs') (.cells ls) (fun j hj=>.inl hj) (fun l0 h0=>by
   rw[hk]at h0;cases h0;exact⟨hd,.refl _,XV⟩) fU gQ uN (by
   rw[qo];refine⟨Vg ho h1 hn,fun q hq=>?_,fun e=>?_,fun e=>⟨jk,fun q1 Ju q2 FT e1 e2=>by rw[huq q1 Ju (by omega),huq q2 FT (by omega)]⟩⟩
   .have hq0:=FI q hq;by_cases Y7:q.c=p.c
    .have:=MR jk hp hq Y7;subst this;refine⟨⟨_,ty,(0,0),MQ w q.c _ arr ty (0,0) hr,by simp;omega,fun _=>rfl,fun _ i c v hi a b=>?_⟩,by omega,by omega,fun _=>hb⟩;rw[hb,a3E,Vf i (by omega)]at b;rw[a1G ho i,hlen]at a;split at a
     .rename_i hi1;rw[a0V hi1]at b;exact hv i c v a b
     .rename_i hi1;rw[a0S hi1]at b;split at a
      .rename_i Kq;rw[a0V Kq]at b;exact hx.at_ _ c v a b
      .rename_i Kq;rw[a0S Kq]at b;exact hv i c v a b
    .obtain⟨uG,ty',fz',t1,t2,t3,t4⟩:=hq0.row;refine⟨⟨uG,ty',fz',(uV w p.c _ q.c Y7).trans t1,t2,fun _=>t3 iq,fun hz i c v hi a b=>?_⟩,hq0.fit,by have:=hq0.ext;omega,fun _=>hq0.base iq⟩;exfalso;apply Y7;rcases xJ with⟨e,_⟩|⟨_,e,_⟩
     .obtain⟨b',g1,g2⟩:=h.ok k _ hk hd;rw[hc]at g1;cases g1;obtain⟨q',g3,_⟩:=g2.2.2.1 e;rw[g3]at hq hp;simp at hq hp;rw[hq,hp]
     .rw[huq q hq (by rw[hz e];omega)]
   .rcases xJ with⟨e0,_⟩|⟨_,e1,_⟩
    .obtain⟨b',g1,g2⟩:=h.ok k _ hk hd;rw[hc]at g1;cases g1;obtain⟨q',g3,g4⟩:=g2.2.2.1 e0;exact⟨q',g3,by omega⟩
    .rw[e1]at e;cases e)
  rwa [qo]at this
 .have:=Ext.upd (M:=M) (C:=C) (w:=w) (w':=w') k (.cells AX cs') (.cells ls) [k] (.inl ⟨by simp[hc],rfl,by simp[hk],XV⟩) Ie fU gQ uN rfl rfl rfl
  rwa [qo]at this
theorem MS{M:Mp}{D:Key->Prop}{C:Ct}{w:World}(h:Valid M D C w){k:Key}{cs:List TV}{arr:Array Value}(ty:TypeId)
  (hk:M k=none) (hc:C k=none) (hl:cs.length<=arr.size) (hx:∀(i:Nat) (c:TV) (v:Value),cs[i]? = some c->arr[i]? = some v->VR M.h c v) (hn:∀c∈cs,iO c=true) :
  Valid (dJ M k (.cells [⟨w.heap.size,0,cs.length,arr.size⟩])) (fun j=>D j∨(C j=none∧(l9 C k (.cells .own cs) j).isSome=true)) (l9 C k (.cells .own cs)) (w.alloc (.cells arr ty)) ∧
  Ext M C w (dJ M k (.cells [⟨w.heap.size,0,cs.length,arr.size⟩])) (l9 C k (.cells .own cs)) (w.alloc (.cells arr ty)) []:=by
 have hle:rV M (dJ M k (.cells [⟨w.heap.size,0,cs.length,arr.size⟩])):=lM fun l0 h0=>by rw[hk]at h0;cases h0
 have fU:∀c,c<w.heap.size->c∉aI (.cells [⟨w.heap.size,0,cs.length,arr.size⟩])->(w.alloc (.cells arr ty)).heap[c]? = w.heap[c]?:=fun c hc _=>vT w _ c hc;have gQ:∀c∈aI (.cells [⟨w.heap.size,0,cs.length,arr.size⟩]),(∃l0,M k=some l0∧c∈aI l0)∨w.heap.size<=c:=fun c hc=>.inr (by simp[aI]at hc;omega);refine⟨h.upd k _ _ (fun j hj=>?_) (fun l0 h0=>by rw[hk]at h0;cases h0) fU gQ (by simp) ?_,Ext.upd k _ _ [] (.inr ⟨hc,hk,rfl⟩) hle fU gQ (by simp) rfl rfl rfl⟩
 .rcases hj with hj|⟨a,b⟩
  .exact .inl hj
  .right;unfold l9 at b;split at b
   .assumption
   .simp[a]at b
 .refine⟨hn,fun q hq=>?_,fun _=>⟨_,rfl,rfl⟩,by simp⟩;simp at hq;subst hq;exact⟨⟨arr,ty,(0,0),heap_alloc_new w _,rfl,fun _=>rfl,fun _ i c v _ a b=>(hx i c v a (by simpa using b)).mono hle.h⟩,by simpa using hl,a1J _,fun _=>rfl⟩
theorem a3Z{M:Mp}{env:List (Nat×EV)}{a:Act}(hE:jJ M env a.tmps){x:Operand}{e:EV}(h:Hz env x=some e):ER M e (a.eval x):=by
 cases x with
 |tmp t=>exact hE t e h
 |const v=>
  simp only[Hz,a0D]at h;obtain⟨t,h1,rfl⟩:=h;exact .val (.yu h1)
 |func f=>
  simp only[Hz,a01]at h;subst h;exact .val (VR.fn (xs:=[]) (ys:=[]) rfl (by simp) rfl (by simp))
 |global g=>simp[Hz]at h
theorem Y8{M:Mp}{env:List (Nat×EV)}{a:Act}(hE:jJ M env a.tmps){x:Operand}{v:TV}(h:qE env x=some v):VR M.h v (a.eval x):=by
 unfold qE at h;split at h
 .rename_i v' he;simp at h;subst h;exact(a3Z hE he).uU
 simp at h
structure PR(N:Np)(ps:List (Nat×TV))(qs:List (Nat×Value)):Prop where
 len:ps.length=qs.length
 at_:∀(i:Nat) (p:Nat×TV) (q:Nat×Value),ps[i]? = some p->qs[i]? = some q->p.1=q.1∧VR N p.2 q.2
theorem PR.nil{N:Np}:PR N [] []:=⟨rfl,by simp⟩
theorem PR.cons{N:Np}{i:Nat}{v:TV}{x:Value}{ps:List (Nat×TV)}{qs:List (Nat×Value)}(h:VR N v x)(hs:PR N ps qs):PR N ((i,v)::ps) ((i,x)::qs):=
 ⟨by simp[hs.len],fun j p q a b=>by
  cases j with
  |zero=>simp at a b;subst a;subst b;exact⟨rfl,h⟩
  |succ j=>simp at a b;exact hs.at_ j p q a b⟩
theorem PR.iH{N:Np}{i:Nat}{v:TV}{ps:List (Nat×TV)}{qs:List (Nat×Value)}(h:PR N ((i,v)::ps) qs):∃x qs',qs=(i,x)::qs'∧VR N v x∧PR N ps qs':=by
 cases qs with
 |nil=>have:=h.len;simp at this
 |cons q qs'=>
  have h0:=h.at_ 0 (i,v) q rfl rfl;obtain⟨j,x⟩:=q;obtain⟨h1,h2⟩:=h0;simp only at h1;subst h1;exact⟨x,qs',rfl,h2,⟨by have:=h.len;simpa using this,fun j p q a b=>h.at_ (j+1) p q (by simpa using a) (by simpa using b)⟩⟩
theorem PR.pI{N:Np}{qs:List (Nat×Value)}(h:PR N [] qs):qs=[]:=by
 have:=h.len;simp at this;exact a3F this.symm
def agL(P:Program)(c:Sem Next)(w:World)(x:Value)(w':World):Prop:=
 c.run P w=.ok (.value x) w'∨(x=Go.undef∧c.run P w=.ok .skip w')
def FU(P:Program)(M:Mp)(D:Key->Prop)(C:Ct)(w:World)(c:Sem Next)(v:EV)(C1:Ct)(ws:List Key):Prop:=
 ∃x w' M',agL P c w x w'∧MO M D C w v C1 ws x w' M'
section
variable {P:Program} {M:Mp} {D:Key->Prop} {w:World} {s:St}
theorem FU.same{C:Ct}{c:Sem Next}{v:EV}{x:Value}(hV:Valid M D C w)(hr:c.run P w=.ok (.value x) w)(he:ER M v x):FU P M D C w c v C []:=
 ⟨x,w,M,.inl hr,.same hV he⟩
theorem qJ{k:Key}{l:Lc}(hk:M k=none):∀j l',M (.l j)=some l'->dJ M k l (.l j)=some l':=by
 intro j l' h;unfold dJ;rw[a0S (fun e=>by rw[<-e,h]at hk;cases hk)];exact h
theorem a4a(hV:Valid M D s.get w)(yJ:M (.h s.heap.length)=none)(hnl:M (.l s.loc.length)=none)(site:Bool){cs:List TV}{xs:Array Value}(ty:TypeId)
  (hx:bU M.h cs xs.toList) (hn:∀c∈cs,iO c=true) {v:EV} {s1:St} (h:qF site s cs=(v,s1)) :
  ∃M',MO M D s.get w v s1.get [] (.pointer (some ⟨w.heap.size,0,none⟩)) (w.alloc (.cells xs ty)) M':=by
 have hlen:cs.length<=xs.size:=by have:=hx.len;simpa using agf this
 have Jv:∀(i:Nat) (c:TV) (v:Value),cs[i]? = some c->xs[i]? = some v->VR M.h c v:=fun i c v a b=>hx.at_ i c v a (by simpa using b);unfold qF at h;cases site with
 |true=>
  simp only[a2D,a1o]at h;obtain⟨rfl,rfl⟩:=h;have hc:s.get (.h s.heap.length)=none:=by simp[St.get]
  have:=MS hV ty yJ hc hlen Jv hn;refine⟨dJ M (.h s.heap.length) (.cells [⟨w.heap.size,0,cs.length,xs.size⟩]),⟨?_,?_,?_,qJ yJ⟩⟩
  .rw[jQ];exact this.1
  .rw[jQ];exact this.2
  .exact .val (VR.ptr (p:=⟨w.heap.size,0,cs.length,xs.size⟩) (ls:=[⟨w.heap.size,0,cs.length,xs.size⟩]) (by simp[Mp.h,dJ]) (by simp) (a1J _) (by simpa using hlen))
 |false=>
  simp only[a2H,a3x,a1o]at h;obtain⟨rfl,rfl⟩:=h;have hc:s.get (.l s.loc.length)=none:=by simp[St.get]
  have:=MS hV ty hnl hc hlen Jv hn;refine⟨dJ M (.l s.loc.length) (.cells [⟨w.heap.size,0,cs.length,xs.size⟩]),⟨?_,?_,?_,qJ hnl⟩⟩
  .rw[Qq];exact this.1
  .rw[Qq];exact this.2
  .exact ER.loc (p:=⟨w.heap.size,0,cs.length,xs.size⟩) (by simp[dJ]) rfl
theorem ZM{x:Value}{c:TV}(h:TV.ZG x=some c):iO c=true:=by
 unfold TV.ZG at h;split at h<;>simp at h<;>subst h<;>rfl
theorem Vh:∀{xs:List Value} {cs:List TV},TV.BF xs=some cs->∀c∈cs,iO c=true
 | [],cs,h=>by simp[TV.BF]at h;subst h;simp
 |x::xs,cs,h=>by
  simp only[TV.BF]at h;split at h
  .rename_i v vs h1 h2;simp at h;subst h;intro c hc;rcases a2t.1 hc with rfl|hc
   .exact ZM h1
   exact Vh h2 c hc
  simp at h
theorem a1I{x:Value}{v:TV}(h:TV.V5 x=some v):∀c∈v.cells,iO c=true:=by
 unfold TV.V5 at h;split at h
 .simp only[a0D]at h;obtain⟨vs,h1,rfl⟩:=h;exact Vh h1
 have h1:=ZM h;cases v<;>simp[iO]at h1<;>simp[TV.cells,iO]
theorem vU{t:TypeId}{z:List TV}(h:Jp P t=some z):∃i x v,P.info? t=some i∧i.zero=some x∧TV.V5 x=some v∧z=v.cells∧(∀c∈z,iO c=true) ∧
  (∀N:Np,bU N z x.cells.toList)∧∀w,(zeroValue t).run P w=.ok x w:=by
 unfold Jp at h;split at h
 .rename_i i hi;split at h
  .rename_i x hx;simp only[a0D]at h;obtain⟨v,h1,rfl⟩:=h;exact⟨i,x,v,hi,hx,h1,rfl,a1I h1,fun N=>(VR.yu h1).cells,fun w=>by simp[zeroValue,iP hi,hx]⟩
  .simp at h
 .simp at h
theorem Y9(vs:List Value):∀(k off:Nat) (arr:Array Value),off+k+vs.length<=arr.size ->
  ((vs.zipIdx k).foldl (fun(cs:Array Value) (c:Value×Nat)=>cs.setIfInBounds (off+c.2) c.1) arr).toList=arr.toList.take (off+k)++vs++arr.toList.drop (off+k+vs.length):=by
 induction vs with
 |nil=>intro k off arr h;simp
 |cons v vs ih=>
  intro k off arr h;simp only[a3J]at h;simp only[List.zipIdx_cons,acY];rw[ih (k+1) off _ (by simp;omega)];have e:=list_seg_step arr.toList (off+k) v vs (by simp;omega);simpa[Array.toList_setIfInBounds,a9L]using e
theorem KN{N:Np}{place place':Nat->Option (Nat×Nat)}(hp:∀i x,place i=some x->place' i=some x):∀{ps:List (Nat×TV)} {qs:List (Nat×Value)} {cs r:List TV} {arr:Array Value},rU place cs ps=some r->PR N ps qs ->
  bU N cs arr.toList->∃uG,Instr.fill place' arr qs=some uG∧bU N r uG.toList
 | [],qs,cs,r,arr,h,hq,hc=>by
  have:=hq.pI;subst this;simp[rU]at h;subst h;exact⟨arr,rfl,hc⟩
 |(i,v)::ps,qs,cs,r,arr,h,hq,hc=>by
  obtain⟨x,qs',rfl,hx,hq'⟩:=hq.iH;simp only[rU]at h;split at h
  .rename_i off size FI;split at h
   .rename_i uN;split at h
    .rename_i cs' ho;obtain⟨o1,o2,o3⟩:=vG ho;have hxc:=hx.cells;have hl1:=hxc.len;have Tn:=hc.len;simp only[a9q]at hl1 Tn;have e:(x.cells.zipIdx.foldl (fun(cs:Array Value) (c:Value×Nat)=>cs.setIfInBounds (off+c.2) c.1) arr).toList=arr.toList.take off++x.cells.toList++arr.toList.drop (off+x.cells.toList.length):=by
      rw[<-Array.foldl_toList,Array.toList_zipIdx];have:=Y9 x.cells.toList 0 off arr (by simp;omega);simpa using this
     have V6:bU N cs' (x.cells.zipIdx.foldl (fun(cs:Array Value) (c:Value×Nat)=>cs.setIfInBounds (off+c.2) c.1) arr).toList:=by
      have hlx:x.cells.toList.length=v.cells.length:=(by simp[hl1]);rw[e,o2,hlx];exact((hc.take off).append hxc).append (hc.drop _)
     obtain⟨uG,g1,g2⟩:=KN hp h hq' V6;refine⟨uG,?_,g2⟩;simp only[Instr.fill,hp i _ FI];rw[a0S (by simp;omega)];exact g1
    .simp at h
   .simp at h
  .simp at h
theorem MV{w:World}:∀(fs:List Field),BG P fs=true->(fs.mapM (fun f=>Functor.map (Prod.mk f.offset) (Go.sizeOf f.type):Field->Sem (Nat×Nat))).run P w=.ok (fs.map fun f=>(f.offset,(dw P f.type).getD 0)) w
 | [],_=>by simp
 |f::fs,h=>by
  simp only[BG,abn,a2r]at h;obtain⟨n,hn⟩:=a4q.1 h.1;have ih:=MV (w:=w) fs (by simpa[BG]using h.2);simp only[List.mapM_cons,Sem.run_bind,Sem.run_map,bY hn,Result.andThen_ok,Sem.run_pure,ih,a3K,hn,a4s]
theorem a4c{N:Np}{t:TypeId}{ps:List (Nat×TV)}{qs:List (Nat×Value)}{v:TV}(h:Md P t ps=some v)(hq:PR N ps qs) :
  ∃x,VR N v x∧∀w,(Instr.build t qs.toArray).run P w=.ok x w:=by
 unfold Md at h;split at h
 .rename_i z fs hz hu;split at h
  .rename_i ha;simp only[a0D]at h;obtain⟨r,hr,rfl⟩:=h;obtain⟨i,x,v,_,_,_,_,_,hvr,ZN⟩:=vU hz;obtain⟨uG,g1,g2⟩:=KN (place':=fun i=>(fs.map fun f=>(f.offset,(dw P f.type).getD 0))[i]?) (fun i x hx=>by
    unfold SX at hx;split at hx
    .rename_i f hf;simp only[a0D]at hx;obtain⟨n,hn,rfl⟩:=hx;simp[hf,hn]
    .simp at hx) hr hq (hvr N)
   refine⟨_,.agg' g2,fun w=>?_⟩;have hm:(fs.mapM (fun f=>Functor.map (Prod.mk f.offset) (Go.sizeOf f.type):Field->Sem (Nat×Nat))).run P w=.ok (fs.map fun f=>(f.offset,(dw P f.type).getD 0)) w:=by
    rw[Array.mapM_eq_mapM_toList,Sem.run_map,MV fs.toList ha];simp only[Result.andThen_ok];congr 1;apply adr;simp
   simp only[Array.getElem?_map]at g1;simp[Instr.build,ZN w,run_underlying hu,hm,g1]
  .simp at h
 .rename_i z n e hz hu;split at h
  .rename_i n hn;simp only[a0D]at h;obtain⟨r,hr,rfl⟩:=h;obtain⟨i,x,v,_,_,_,_,_,hvr,ZN⟩:=vU hz;obtain⟨uG,g1,g2⟩:=KN (place':=fun i=>some (i*n,n)) (fun i x hx=>hx) hr hq (hvr N);exact⟨_,.agg' g2,fun w=>by simp[Instr.build,ZN w,run_underlying hu,bY hn,g1]⟩
  .simp at h
 .simp at h
end
section
variable {P:Program} {M:Mp} {D:Key->Prop} {w:World} {s:St}
theorem Vj{t:TypeId}{cs:List TV}{off:Nat}{v:TV}(h:tY P t cs off=some v):∃n,dw P t=some n∧off+n<=cs.length:=by
 unfold tY at h;split at h
 .rename_i n _ hn;simp only[a0D]at h;obtain⟨r,hr,_⟩:=h;exact⟨n,hn,(uf hr).1⟩
 .rename_i n _ hn;split at h
  .rename_i h1;subst h1;exact⟨1,hn,(a02.1 h).1⟩
  simp at h
 simp at h
theorem ZO{N:Np}{t:TypeId}{cs:List TV}{off:Nat}{v:TV}{xs:List Value}(h:tY P t cs off=some v)(hx:bU N cs xs) :
  ∃x,VR N v x∧(Go.part t xs.toArray off).run P w=.ok x w:=by
 unfold tY at h;split at h
 .rename_i n ha hn;simp only[a0D]at h;obtain⟨r,hr,rfl⟩:=h;obtain⟨s1,s2,s3⟩:=uf hr;have hl:=hx.len;refine⟨.agg ((xs.drop off).take n).toArray,.agg' (by rw[s2];exact(hx.drop off).take n),?_⟩;simp[Go.part,zM ha,bY hn]
 .rename_i n ha hn;split at h
  .obtain⟨x,h1,h2⟩:=hx.get h;exact⟨x,h2,by simp[Go.part,zM ha,h1]⟩
  .simp at h
 .simp at h
theorem FV{t:TypeId}{e:EV}{v:TV}{i:lG}{x:Value}(hV:Valid M D s.get w)(h:loadT P t s e=some (v,i))(hx:ER M e x)(hD:∀k∈i.ts,D k) :
  i.ws=[]∧∃y,VR M.h v y∧(Instr.loadAt t x).run P w=.ok y w:=by
 unfold loadT at h;split at h
 .rename_i k off;split at h
  .rename_i cs hk;simp only[a0D,a1o]at h;obtain⟨v',hv,rfl,rfl⟩:=h;cases hx with
   |loc hm hb=>
    rename_i p;have hg:s.get (.l k)=some (.cells .own cs):=(by simp[St.get,hk]);have hd:=hD (.l k) (by simp[wW]);obtain⟨b,h1,h2⟩:=hV.ok _ _ hm hd;rw[hg]at h1;cases h1;obtain⟨_,h3,h4,_⟩:=h2;obtain⟨q,hq,he⟩:=h4 rfl;simp at hq;subst hq;obtain⟨n,hn,hle⟩:=Vj hv;obtain⟨y,g1,g2⟩:=Js (P:=P) (h3 p (by simp)) hn hv (by omega) (fun e=>by cases e);rw[hb,a3E]at g2;exact⟨rfl,y,g1,by simp[Instr.loadAt,Instr.sureAddr,g2]⟩
  .simp at h
 .rename_i b off lim;split at h
  .rename_i cs n hb hn;split at h
   .rename_i Kr;simp only[a0D,a1o]at h;obtain⟨v',hv,rfl,rfl⟩:=h;cases hx with
    |val hx=>
     cases hx with
     |ptr hm hp hl ht=>
      rename_i ls p;obtain⟨k,hk,Vk⟩:=xI hb;have hd:=hD (.h b) (by simp[wW]);obtain⟨fP,h1,h2⟩:=hV.ok _ _ hm hd;simp only[St.get,hk,a01]at h1;subst h1;obtain⟨_,h3,_⟩:=h2;obtain⟨y,g1,g2⟩:=Js (P:=P) (h3 p hp) hn hv (by omega) (fun e=>by have:=Vk e;have:=(h3 p hp).ext;omega);exact⟨rfl,y,g1,by simp[Instr.loadAt,Instr.sureAddr,g2]⟩
   .simp at h
  .simp at h
 .simp at h
theorem KO{l:List TV}(h:l.all iO=true):∀c∈l,iO c=true:=by simpa using h
theorem Ya{t:TypeId}{e:EV}{v:TV}{i:lG}{x y:Value}{s1:St}(hV:Valid M D s.get w)(h:storeT P t s e v=some (s1,i))(hx:ER M e x)(hy:VR M.h v y)(hD:∀k∈i.ts,D k) :
  s1.env=s.env∧∃w',(Instr.storeAt t x y).run P w=.ok () w'∧Valid M D s1.get w'∧Ext M s.get w M s1.get w' i.ws∧∀k,s.get k=none->s1.get k=none:=by
 unfold storeT at h;split at h
 case h_2=>simp at h
 rename_i n hn;split at h
 case isFalse=>simp at h
 rename_i hc;obtain⟨hlen,EH⟩:=hc;have hyc:=hy.cells;have hyl:y.cells.size=n:=by have:=hyc.len;simp at this;omega
 split at h
 .rename_i k off;split at h
  .rename_i cs hk;simp only[a0D,a1o]at h;obtain⟨cs',ho,rfl,rfl⟩:=h;cases hx with
   |loc hm hb=>
    rename_i p;have hg:s.get (.l k)=some (.cells .own cs):=(by simp[St.get,hk]);obtain⟨w',r1,r2,r3⟩:=yI (P:=P) hV hm (hD _ (by simp[oM])) hg (a2J.2 rfl) (.inl ⟨rfl,rfl⟩) ho hyc (KO EH);have Jw:=(a02.1 hk).1;refine⟨rfl,w',?_,?_,?_,?_⟩
    .rw[hb,a3E]at r1;simp[Instr.storeAt,Instr.sureAddr,storeVar,bY hn,hyl,r1]
    .rw[MP s k cs' Jw];exact r2
    .rw[MP s k cs' Jw];exact r3
    .rw[MP s k cs' Jw];exact Dl (by simp[hg])
  .simp at h
 .rename_i b off lim;split at h
  .rename_i Kr;simp only[a0D,a1o]at h;obtain⟨h',hs,rfl,rfl⟩:=h;cases hx with
   |val hx=>
    cases hx with
    |ptr hm hp hl ht=>
     rename_i ls p;obtain⟨kk,AX,cs,cs',hb,xJ,ho,rfl⟩:=Ic hs;have hg:s.get (.h b)=some (.cells kk cs):=(by simp[St.get,hb]);obtain⟨w',r1,r2,r3⟩:=yI (P:=P) hV hm (hD _ (by simp[oM])) hg hp (hV.Y6 hm (hD _ (by simp[oM])) hg hp hl xJ) ho hyc (KO EH);have Jw:=(a02.1 hb).1;refine⟨rfl,w',?_,?_,?_,?_⟩
     .simp[Instr.storeAt,Instr.sureAddr,storeVar,bY hn,hyl,r1]
     .rw[ji s b _ Jw];exact r2
     .rw[ji s b _ Jw];exact r3
     .rw[ji s b _ Jw];exact Dl (by simp[hg])
  .simp at h
 .simp at h
theorem FW{n:Nat}{v:TV}{j:Nat}{N:Np}{x:Value}(h:idx n v=some j)(hx:VR N v x):∃k i,x=.int k i∧0<=i∧i<n∧j=i.toNat∧j<n:=by
 unfold idx at h;split at h
 .rename_i k i;split at h
  .rename_i hc;simp at h;subst h;cases hx;exact⟨k,i,rfl,hc.1,hc.2,rfl,by omega⟩
  simp at h
 simp at h
theorem MW{o:Nat}{e e':EV}{x:Value}(h:PK o e=some e')(hx:ER M e x):∃a,x=.pointer (some a)∧ER M e' (.pointer (some (a.add o))):=by
 unfold PK at h;split at h
 .simp at h;subst h;cases hx with
  |loc hm hb=>exact⟨_,rfl,by rw[tZ];exact .loc hm hb⟩
 .rename_i b off lim;split at h
  .rename_i hl;simp at h;subst h;cases hx with
   |val hx=>
    cases hx with
    |ptr hm hp hl ht=>exact⟨_,rfl,by rw[tZ,a9L];exact .val (.ptr hm hp hl ht)⟩
  simp at h
 simp at h
theorem Tq{t:TypeId}{f n:Nat}{e e':EV}{x:Value}(h1:FN P t f=some n)(h:PK n e=some e')(hx:ER M e x) :
  ∃y,ER M e' y∧(Instr.fieldAt t x f).run P w=.ok y w:=by
 obtain⟨a,rfl,he⟩:=MW h hx;unfold FN at h1;split at h1
 .rename_i fs hu;split at h1
  .rename_i fd hf;split at h1
   .rename_i m hm;split at h1
    .simp at h1
    .rename_i hz;simp at h1;subst h1;refine⟨_,he,?_⟩;simp[Instr.fieldAt,run_underlying hu,hf,Instr.sureAddr,fieldPlace,bY hm,hz]
   .simp at h1
  .simp at h1
 .simp at h1
theorem MX{N:Np}{t:TypeId}{f:Nat}{v v':TV}{x:Value}(h:Me P t v f=some v')(hx:VR N v x) :
  ∃y,VR N v' y∧(Instr.field t x f).run P w=.ok y w:=by
 unfold Me at h;split at h
 .rename_i fs cs hu;split at h
  .rename_i fd hf;cases hx with
   |agg g1 g2=>
    obtain⟨y,r1,r2⟩:=ZO (P:=P) (w:=w) h ⟨g1,g2⟩;exact⟨y,r1,by simp[Instr.field,run_underlying hu,hf,asAgg,r2]⟩
  .simp at h
 .simp at h
theorem zN{t:TypeId}{e e':EV}{v:TV}{x y:Value}(h:lJ P t e v=some e')(hx:ER M e x)(hy:VR M.h v y) :
  ∃z,ER M e' z∧(Instr.indexAt t x y).run P w=.ok z w:=by
 unfold lJ at h;split at h
 .rename_i el hu;split at h
  .rename_i n b off len cap sz ex hn;split at h
   .rename_i uN;simp only[a0D]at h;obtain⟨j,hj,rfl⟩:=h;subst uN;obtain⟨k,i,rfl,h0,h1,rfl,h2⟩:=FW hj hy;cases hx with
    |val hx=>
     cases hx with
     |slc hb hp hl hle hc hex ha hk=>
      rename_i ls p a cap';rcases ha with ha|⟨rfl,ha⟩
      .omega
      .have hmul:i.toNat*n+n<=len*n:=by
        have:=a3z n (show i.toNat+1<=len by omega)
        rwa [a3A,ad9]at this
       have ab1:cap*n<=cap'*n:=a3z n (by omega);have hp:=hp.resolve_left (by omega);refine⟨_,.val (.ptr hb hp (lim:=off+cap*n) (off:=off+i.toNat*n) (by omega) (by omega)),?_⟩;simp[Instr.indexAt,asIntOf,run_underlying hu,h0,h1,bY hn,tZ,a9L]
   .simp at h
  .simp at h
 .rename_i len el hu;split at h
  .rename_i n hn;split at h
   .rename_i j hj;obtain⟨k,i,rfl,h0,h1,rfl,h2⟩:=FW hj hy;obtain⟨a,rfl,he⟩:=MW h hx;refine⟨_,he,?_⟩;simp[Instr.indexAt,asIntOf,run_underlying hu,Instr.sureAddr,h0,h1,bY hn]
   .simp at h
  .simp at h
 .simp at h
theorem MZ{N:Np}{t:TypeId}{v u r:TV}{x y:Value}(h:I8 P t v u=some r)(hx:VR N v x)(hy:VR N u y) :
  ∃z,VR N r z∧(Instr.index t x y).run P w=.ok z w:=by
 unfold I8 at h;split at h
 .rename_i len el cs hu;split at h
  .rename_i n j hn hj;obtain⟨k,i,rfl,h0,h1,rfl,h2⟩:=FW hj hy;cases hx with
   |agg g1 g2=>
    obtain⟨z,r1,r2⟩:=ZO (P:=P) (w:=w) h ⟨g1,g2⟩;exact⟨z,r1,by simp[Instr.index,asIntOf,run_underlying hu,h0,h1,bY hn,r2]⟩
  .simp at h
 .rename_i bs hu;split at h
  .rename_i j hj;obtain⟨k,i,rfl,h0,h1,rfl,h2⟩:=FW hj hy;simp only[a0D]at h;obtain⟨b,hb,rfl⟩:=h;cases hx;exact⟨_,.int _ _,by simp[Instr.index,asIntOf,run_underlying hu,h0,hb]⟩
  .simp at h
 .simp at h
end
section
variable {P:Program} {M:Mp} {D:Key->Prop} {w:World} {s:St}
theorem ZP{N:Np}:∀{az:List TV} {xs ys:List Value},Bh az=some xs->bU N az ys->ys=xs
 | [],xs,ys,h,hy=>by simp[Bh]at h;subst h;exact hy.pI
 |c::az,xs,ys,h,hy=>by
  simp only[Bh]at h;split at h
  .rename_i v vs h1 h2;simp at h;subst h;obtain⟨u,us,rfl,hu,hus⟩:=hy.iH;rw[vP h1 hu,ZP h2 hus]
  simp at h
def FX:NK->Value->Prop
 |.ptr,x=>x=.pointer none
 |.slc,x=>x=.slice none 0 0
 |.map,x=>x=.map none
 |.fn,x=>x=.nilFunc
 |.ifc,x=>x=.nilIface
def yx:NK->Value->Prop
 |.ptr,x=>∃a,x=.pointer (some a)
 |.slc,x=>∃a l c,x=.slice (some a) l c
 |.map,x=>∃r,x=.map (some r)
 |.fn,x=>∃f a c,x=.func f a c
 |.ifc,_=>False
theorem ZQ{N:Np}{v:TV}{k:NK}{x:Value}(h:Y3 v=some k)(hx:VR N v x):FX k x:=by
 cases hx<;>simp[Y3]at h<;>subst h<;>rfl
theorem Vl{N:Np}{v:TV}{k:NK}{x:Value}(h:Jq v=some k)(hx:VR N v x):yx k x:=by
 cases hx<;>simp[Jq]at h<;>subst h<;>simp[yx]
theorem a4e{t:TypeId}{k:NK}(h:Jr P t=some k):match k with
  |.ptr=>∃e,P.underlying t=some (.pointer e)
  |.slc=>∃e,P.underlying t=some (.slice e)
  |.map=>∃e f,P.underlying t=some (.map e f)
  |.fn=>∃e f g,P.underlying t=some (.func e f g)
  |.ifc=>False:=by
 unfold Jr at h;split at h<;>simp at h<;>subst h<;>simp_all
theorem a1K{t:TypeId}{k:NK}{x y:Value}(h:Jr P t=some k)(hxy:(FX k x∧yx k y)∨(yx k x∧FX k y))(d:Nat) :
  (Op.equalIn (d+1) t x y).run P w=.ok false w:=by
 have hk:=a4e h;cases k with
 |ptr=>
  obtain⟨e,hu⟩:=hk;rcases hxy with⟨hx,a,rfl⟩|⟨⟨a,rfl⟩,hy⟩
  .cases hx;simp[Op.equalIn,run_underlying hu]
  .cases hy;simp[Op.equalIn,run_underlying hu]
 |slc=>
  obtain⟨e,hu⟩:=hk;rcases hxy with⟨hx,a,l,c,rfl⟩|⟨⟨a,l,c,rfl⟩,hy⟩
  .cases hx;simp[Op.equalIn,run_underlying hu]
  .cases hy;simp[Op.equalIn,run_underlying hu]
 |map=>
  obtain⟨e,f,hu⟩:=hk;rcases hxy with⟨hx,a,rfl⟩|⟨⟨a,rfl⟩,hy⟩
  .cases hx;simp[Op.equalIn,run_underlying hu]
  .cases hy;simp[Op.equalIn,run_underlying hu]
 |fn=>
  obtain⟨e,f,g,hu⟩:=hk;rcases hxy with⟨hx,a,b,c,rfl⟩|⟨⟨a,b,c,rfl⟩,hy⟩
  .cases hx;simp[Op.equalIn,run_underlying hu]
  .cases hy;simp[Op.equalIn,run_underlying hu]
 |ifc=>exact hk.elim
theorem ZR{t:TypeId}{k:NK}{ox oy:Operand}{x y:Value}(h:Jr P t=some k)(hxy:(FX k x∧yx k y)∨(yx k x∧FX k y))(b:Bool)(op:BinOp)(hb:(op=.eql∧b=false)∨(op=.neq∧b=true)) :
  (do eqGuard op t ox oy x y;binOp op t x y:Sem Value).run P w=.ok (.bool b) w:=by
 have he:(Op.equal t x y).run P w=.ok false w:=a1K h hxy 9999;have hg:(eqGuard op t ox oy x y).run P w=.ok () w:=by
  cases k<;>rcases hxy with⟨hx,hy⟩|⟨hx,hy⟩<;>simp only[FX,yx]at hx hy <;>
   (first|(exact hy.elim)|(exact hx.elim)|skip)<;>(try obtain⟨_,rfl⟩:=hx)<;>(try obtain⟨_,rfl⟩:=hy)<;>(try obtain⟨_,_,rfl⟩:=hx)<;>(try obtain⟨_,_,rfl⟩:=hy)<;>(try subst hx)<;>(try subst hy) <;>
   (try obtain⟨_,_,_,rfl⟩:=hx)<;>(try obtain⟨_,_,_,rfl⟩:=hy)<;>rcases hb with⟨rfl,rfl⟩|⟨rfl,rfl⟩<;>simp[eqGuard]
 have PO:(binOp op t x y).run P w=.ok (.bool b) w:=by
  cases k<;>rcases hxy with⟨hx,hy⟩|⟨hx,hy⟩<;>simp only[FX,yx]at hx hy <;>
   (first|(exact hy.elim)|(exact hx.elim)|skip)<;>(try obtain⟨_,rfl⟩:=hx)<;>(try obtain⟨_,rfl⟩:=hy)<;>(try obtain⟨_,_,rfl⟩:=hx)<;>(try obtain⟨_,_,rfl⟩:=hy)<;>(try subst hx)<;>(try subst hy) <;>
   (try obtain⟨_,_,_,rfl⟩:=hx)<;>(try obtain⟨_,_,_,rfl⟩:=hy)<;>rcases hb with⟨rfl,rfl⟩|⟨rfl,rfl⟩<;>simp only[binOp,Sem.run_bind,he,Result.andThen_ok,Sem.run_pure,ab3]
 simp only[Sem.run_bind,hg,Result.andThen_ok,PO]
theorem Yb{N:Np}{op:BinOp}{t:TypeId}{ox oy:Operand}{a b r:TV}{x y:Value}(h:rY P op t ox oy a b=some r)(hx:VR N a x)(hy:VR N b y) :
  ∃z,VR N r z∧(do eqGuard op t ox oy x y;binOp op t x y:Sem Value).run P w=.ok z w:=by
 unfold rY at h;split at h
 .rename_i u v hu hv;split at h
  .rename_i z hz;have e1:=vP hu hx;have e2:=vP hv hy;subst e1;subst e2;exact⟨z,.yu h,iT hz w⟩
  .simp at h
 .split at h
  .rename_i hn;unfold BH at hn;split at hn
   case h_2=>simp at hn
   rename_i k hk;have hxy:(FX k x∧yx k y)∨(yx k x∧FX k y):=by
    simp only[a8t,a2r,a7k]at hn;rcases hn with⟨h1,h2⟩|⟨h1,h2⟩
    .exact .inl ⟨ZQ h1 hx,Vl h2 hy⟩
    .exact .inr ⟨Vl h1 hx,ZQ h2 hy⟩
   split at h
   .simp at h;subst h;exact⟨_,.bool false,ZR hk hxy false _ (.inl ⟨rfl,rfl⟩)⟩
   .simp at h;subst h;exact⟨_,.bool true,ZR hk hxy true _ (.inr ⟨rfl,rfl⟩)⟩
   .simp at h
  .simp at h
theorem iM{N:Np}{op:UnOp}{a r:TV}{x:Value}(h:unT P op a=some r)(hx:VR N a x):∃z,VR N r z∧(Op.unary op x).run P w=.ok z w:=by
 unfold unT at h;split at h
 .rename_i u hu;split at h
  .rename_i z hz;have e1:=vP hu hx;subst e1;exact⟨z,.yu h,iT hz w⟩
  simp at h
 simp at h
theorem Tt{N:Np}{t u:TypeId}{a r:TV}{x:Value}(h:Ql P t u a=some r)(hx:VR N a x):∃z,VR N r z∧(convert t u x).run P w=.ok z w:=by
 unfold Ql at h;split at h
 .rename_i u hu;split at h
  .rename_i z hz;have e1:=vP hu hx;subst e1;exact⟨z,.yu h,iT hz w⟩
  simp at h
 simp at h
theorem yK{N:Np}{mx:Bool}{at_:Array TypeId}{t:TypeId}{az:List TV}{r:TV}{xs:List Value}(h:Dj P mx at_ t az=some r)(hx:bU N az xs) :
  ∃z,VR N r z∧(if mx then Builtin.max_ at_ t xs.toArray else Builtin.min_ at_ t xs.toArray).run P w=.ok z w:=by
 unfold Dj at h;split at h
 .rename_i us hu;split at h
  .rename_i z hz;have e1:=ZP hu hx;subst e1;exact⟨z,.yu h,iT hz w⟩
  .simp at h
 .simp at h
theorem kQ{n j:Nat}{v:TV}(h:qG n v=some j):j<=n:=by
 unfold qG at h;split at h
 .split at h
  .simp at h;omega
  simp at h
 simp at h
theorem sF{N:Np}{n j m:Nat}{v:TV}{x:Value}{code:BoundsCode}(h:qG n v=some j)(hx:VR N v x)(hm:j<=m) :
  (Instr.sliceBound x m code).run P w=.ok j w:=by
 unfold qG at h;split at h
 .rename_i k i;split at h
  .rename_i hc;simp at h;subst h;cases hx;have:i<=(m:Int):=(by omega);simp[Instr.sliceBound,asIntOf,hc.1,this]
  .simp at h
 .simp at h
inductive OR(N:Np):Option TV->Option Value->Prop
 |none:OR N none none
 |some {v:TV} {x:Value} (h:VR N v x):OR N (some v) (some x)
theorem xK{N:Np}{is:Bool}{len cap' n l0 hg:Nat}{lo hi:Option TV}{Yc wY:Option Value}(hl:OR N lo Yc)(hh:OR N hi wY)
  (h1:jh n len hi=some hg) (h2:jh hg 0 lo=some l0) (h3:hg<=cap'):(Instr.sliceBounds is len cap' Yc wY none).run P w=.ok (l0,hg,cap') w:=by
 cases hh with
 |none=>
  simp only[jh,a01]at h1;subst h1;cases hl with
  |none=>simp only[jh,a01]at h2;subst h2;simp[Instr.sliceBounds]
  |some hv=>simp only[jh]at h2;simp[Instr.sliceBounds,sF (P:=P) (w:=w) h2 hv (kQ h2)]
 |some hv'=>
  simp only[jh]at h1;cases hl with
  |none=>simp only[jh,a01]at h2;subst h2;simp[Instr.sliceBounds,sF (P:=P) (w:=w) h1 hv' h3]
  |some hv=>simp only[jh]at h2;simp[Instr.sliceBounds,sF (P:=P) (w:=w) h1 hv' h3,sF (P:=P) (w:=w) h2 hv (kQ h2)]
theorem EI{N:Np}{is:Bool}{len cap' n k l0 hg m:Nat}{lo:Option TV}{hi mx:TV}{Yc:Option Value}{wY mx':Value}(hl:OR N lo Yc)(hh:VR N hi wY)(hm:VR N mx mx')
  (h0:qG k mx=some m) (h1:qG n hi=some hg) (h2:jh hg 0 lo=some l0) (h3:hg<=m) (h4:m<=cap'):(Instr.sliceBounds is len cap' Yc (some wY) (some mx')).run P w=.ok (l0,hg,m) w:=by
 have r1:=fun code=>sF (P:=P) (w:=w) (code:=code) h0 hm h4;have r2:=fun code=>sF (P:=P) (w:=w) (code:=code) h1 hh h3;cases hl with
 |none=>simp only[jh,a01]at h2;subst h2;simp[Instr.sliceBounds,r1,r2]
 |some hv=>simp only[jh]at h2;simp[Instr.sliceBounds,r1,r2,sF (P:=P) (w:=w) h2 hv (kQ h2)]
theorem N7{N:Np}{t:TypeId}{v r:TV}{lo hi mx:Option TV}{x:Value}{Yc wY mx':Option Value}(h:qH P t v lo hi mx=some r)(hx:VR N v x)
  (hl:OR N lo Yc) (hh:OR N hi wY) (hm:OR N mx mx'):∃z,VR N r z∧(Instr.sliceAt t x Yc wY mx').run P w=.ok z w:=by
 unfold qH at h;split at h
 .-- strings
  rename_i bs hu;split at h
  .simp at h
  .cases hm;split at h
   .rename_i h0 Qr;split at h
    .rename_i l0 qC;simp at h;subst h;cases hx;refine⟨_,.str _,?_⟩;have hle:h0<=bs.size:=by
      cases hi with
      |none=>simp only[jh,a01]at Qr;omega
      |some v=>simp only[jh]at Qr;exact kQ Qr
     have e1:=xK (P:=P) (w:=w) (is:=false) (cap':=bs.size) hl hh Qr qC hle;simp[Instr.sliceAt,Instr.slice,run_underlying hu,e1]
    .simp at h
   .simp at h
 .-- slices
  rename_i e b off len cap sz ex hu;split at h
  .rename_i n hn;split at h
   case isFalse=>simp at h
   rename_i uN;subst uN;cases hx with
   |slc hb hp EJ hle vV hex ha hk=>
    rename_i ls p a cap';have fin:∀(l hgh m:Nat) (ZT:Bool),l<=hgh->hgh<=len->hgh<=m->m<=cap'->(m':Nat)->m'<=m->m'<=cap->hgh<=m'->(ZT=true->m=m') ->
      VR N (.slc b (off+l*n) (hgh-l) (m'-l) n ZT) (.slice (if m=l then some a else(some a).map (·.add (l*n))) (hgh-l) (m-l)):=by
     intro l hgh m ZT h1 h2 h3 h4 m' h5 h5' h6 h7;have hmul:l*n+(hgh-l)*n=hgh*n:=by rw[<-a3A];congr 1;omega
     have ab1:m'*n<=cap*n:=a3z n h5';have aqb:l*n+(m'-l)*n=m'*n:=by rw[<-a3A];congr 1;omega
     have AY:(if m=l then some a else(some a).map (·.add (l*n)))=some (if m=l then a else a.add (l*n)):=by split<;>rfl
     rw[AY];refine .slc hb (hp.imp (fun e=>by omega) id) (by omega) (by omega) (by omega) (fun e=>by have:=h7 e;omega) ?_ (by omega);by_cases hml:m=l
     .left;omega
     .right;rcases ha with ha|⟨rfl,ha⟩
      .omega
      .rw[a0S hml,tZ];have aqc:l*n+(m-l)*n=m*n:=by rw[<-a3A];congr 1;omega
       have aqd:m*n<=cap'*n:=a3z n h4;exact⟨by rw[a9L],by omega⟩
    split at h
    .rename_i m0;cases hm with
     |some PS=>
      split at h
      .rename_i m h0 ZU;split at h
       .rename_i hg hh1;split at h
        .rename_i l0 qC;simp at h;subst h;cases hh with
         |some hhv=>
          have b1:=kQ ZU;have b2:=kQ hh1;have b3:l0<=hg:=by
           cases lo with
           |none=>simp only[jh,a01]at qC;omega
           |some v=>simp only[jh]at qC;exact kQ qC
          have e1:=EI (P:=P) (w:=w) (is:=true) (len:=len) (cap':=cap') hl hhv PS ZU hh1 qC (by omega) (by omega);exact⟨_,fin l0 hg m true b3 (by omega) (by omega) (by omega) m (by omega) (by omega) (by omega) (fun _=>rfl),by simp[Instr.sliceAt,Instr.slice,run_underlying hu,e1,bY hn]⟩
        .simp at h
       .simp at h
      .simp at h
    .cases hm;split at h
     .rename_i hg Qr;split at h
      .rename_i l0 qC;simp at h;subst h;have hgl:hg<=len:=by
        cases hi with
        |none=>simp only[jh,a01]at Qr;omega
        |some v=>simp only[jh]at Qr;exact kQ Qr
       have hlg:l0<=hg:=by
        cases lo with
        |none=>simp only[jh,a01]at qC;omega
        |some v=>simp only[jh]at qC;exact kQ qC
       refine⟨_,fin l0 hg cap' ex hlg hgl (by omega) (by omega) cap vV (by omega) (by omega) hex,?_⟩;have e1:=xK (P:=P) (w:=w) (is:=true) (cap':=cap') hl hh Qr qC (by omega);simp[Instr.sliceAt,Instr.slice,run_underlying hu,e1,bY hn]
      .simp at h
     .simp at h
  .simp at h
 .-- nil
  rename_i e hu;split at h
  .rename_i x0 x1 x2 x3 hn Qs Qr qC;split at h
   .simp at h
   .rename_i hg;simp at h;subst h;cases hx;refine⟨_,.Tf,?_⟩;have z1:∀{o:Option TV} {k:Nat},jh 0 0 o=some k->k=0:=fun{o k} e=>by
     cases o with
     |none=>simp only[jh,a01]at e;omega
     |some v=>simp only[jh]at e;have:=kQ e;omega
    have e2:=z1 Qr;subst e2;have e3:=z1 qC;subst e3;have e1:(Instr.sliceBounds true 0 0 Yc wY mx').run P w=.ok (0,0,0) w:=by
     cases hm with
     |none=>exact xK hl hh Qr qC (by omega)
     |some PS=>
      have e4:=z1 Qs;subst e4;cases hh with
      |none=>simp at hg
      |some hhv=>exact EI hl hhv PS Qs Qr qC (by omega) (by omega)
    simp[Instr.sliceAt,Instr.slice,run_underlying hu,e1,bY hn]
  .simp at h
 .simp at h
theorem BO{t:TypeId}{e:EV}{r:TV}{lo hi mx:Option TV}{x:Value}{Yc wY mx':Option Value}(h:qj P t e lo hi mx=some r)(hx:ER M e x)
  (hl:OR M.h lo Yc) (hh:OR M.h hi wY) (hm:OR M.h mx mx'):∃z,VR M.h r z∧(Instr.sliceAt t x Yc wY mx').run P w=.ok z w:=by
 unfold qj at h;split at h
 .rename_i n el b off lim hu;split at h
  .rename_i size hn;split at h
   .simp at h
   .rename_i hc;cases hx with
    |val hx=>
    cases hx with
    |ptr hb hp EJ amb=>
    rename_i ls p;split at h
    .rename_i m Qs;split at h
     .rename_i hg Qr;split at h
      .rename_i l0 qC;split at h
       .simp at h
       .rename_i hs;simp at h;subst h;have hmn:m<=n:=by
         cases mx with
         |none=>simp only[jh,a01]at Qs;omega
         |some v=>simp only[jh]at Qs;exact kQ Qs
        have hgm:hg<=m:=by
         cases hi with
         |none=>
          cases mx with
          |some v=>simp at hs
          |none=>simp only[jh,a01]at Qr Qs;omega
         |some v=>simp only[jh]at Qr;exact kQ Qr
        have hlg:l0<=hg:=by
         cases lo with
         |none=>simp only[jh,a01]at qC;omega
         |some v=>simp only[jh]at qC;exact kQ qC
        have e1:(Instr.sliceBounds false n n Yc wY mx').run P w=.ok (l0,hg,m) w:=by
         cases hm with
         |none=>
          simp only[jh,a01]at Qs;subst Qs;exact xK hl hh Qr qC (by omega)
         |some PS=>
          cases hh with
          |none=>simp at hs
          |some hhv=>
           simp only[jh]at Qs Qr;exact EI hl hhv PS Qs Qr qC (by omega) hmn
        have m1:l0*size+(hg-l0)*size=hg*size:=by rw[<-a3A];congr 1;omega
        have m2:l0*size+(m-l0)*size=m*size:=by rw[<-a3A];congr 1;omega
        have m3:hg*size<=n*size:=a3z size (by omega);have m4:m*size<=n*size:=a3z size (by omega);refine⟨.slice (some (if m=l0 then(⟨p.c,p.base+off,none⟩:Addr)else(⟨p.c,p.base+off,none⟩:Addr).add (l0*size))) (hg-l0) (m-l0),?_,?_⟩
        .refine .slc hb (.inr hp) (by omega) (by omega) (by omega) (fun _=>rfl) ?_ (by omega);by_cases hml:m=l0
         .left;omega
         .right;rw[a0S hml,tZ];exact⟨by rw[a9L],by omega⟩
        .simp[Instr.sliceAt,run_underlying hu,Instr.sureAddr,e1,bY hn]
      .simp at h
     .simp at h
    .simp at h
  .simp at h
 .simp at h
theorem nT(z:List TV):∀n,(times z n).length=n*z.length
 | 0=>by simp[times]
 |n+1=>by simp[times,nT z n,a3A,Nat.add_comm]
theorem Qu(z:List TV)(hz:0<z.length):∀(n i:Nat),i<n*z.length->(times z n)[i]? = z[i%z.length]?
 | 0,i,h=>by simp at h
 |n+1,i,h=>by
  simp only[times];by_cases hi:i<z.length
  .rw[a0N hi,Nat.mod_eq_of_lt hi]
  rw[a1H (by omega),Qu z hz n (i-z.length) (by rw[a3A]at h;omega)];congr 1;rw[Nat.mod_eq_sub_mod (a:=i) (by omega)]
theorem Ig{z:List TV}(h:∀c∈z,iO c=true):∀n,∀c∈times z n,iO c=true
 | 0=>by simp[times]
 |n+1=>by
  intro c hc;simp only[times,a3y]at hc;rcases hc with hc|hc
  .exact h c hc
  exact Ig h n c hc
theorem Vm{N:Np}{z:List TV}{x:Array Value}(h:bU N z x.toList)(n m:Nat)(hm:m=n*z.length) :
  bU N (times z n) ((Array.range m).map (x[·%x.size]!)).toList:=by
 have hl:=h.len;simp only[a9q]at hl;refine⟨by simp[nT,hm],fun i c v a b=>?_⟩;have hi:i<n*z.length:=by have:=(a02.1 a).1;rwa [nT]at this
 have hz:0<z.length:=by
  rcases ab7 z.length with e|e
  .rw[e]at hi;simp at hi
  .exact e
 rw[Qu z hz n i hi]at a;have agO:i%x.size<x.size:=Nat.mod_lt _ (by omega);have hb:v=x[i%x.size]:=by
  rw[ado,Array.getElem?_map]at b;simp only[Array.getElem?_range]at b;rw[a0V (by omega)]at b;simp only[a1z,a01]at b;rw[<-b,getElem!_pos x _ agO]
 rw[hl]at a;exact h.at_ (i%x.size) c v a (by simp[hb,agO])
theorem qK{t e:TypeId}{n:Nat}(h:jq P t=some (e,n)):P.underlying t=some (.slice e)∧dw P e=some n∧0<n:=by
 unfold jq at h;split at h
 .rename_i e' hu;split at h
  .rename_i n' hn;split at h
   .simp at h
   simp at h;obtain⟨rfl,rfl⟩:=h;exact⟨hu,hn,by omega⟩
  simp at h
 simp at h
theorem Qv{place:Nat->Option (Nat×Nat)}:∀{ps:List (Nat×TV)} {cs r:List TV},rU place cs ps=some r->r.length=cs.length
 | [],cs,r,h=>by simp[rU]at h;rw[h]
 |(i,v)::ps,cs,r,h=>by
  simp only[rU]at h;split at h
  .split at h
   .split at h
    .rename_i cs' ho;rw[Qv h,(vG ho).2.2]
    simp at h
   simp at h
  simp at h
theorem Qw{place:Nat->Option (Nat×Nat)}:∀{ps:List (Nat×TV)} {cs r:List TV},rU place cs ps=some r->(∀c∈cs,iO c=true) ->
  (∀p∈ps,∀c∈p.2.cells,iO c=true)->∀c∈r,iO c=true
 | [],cs,r,h,h1,_=>by simp[rU]at h;subst h;exact h1
 |(i,v)::ps,cs,r,h,h1,h2=>by
  simp only[rU]at h;split at h
  .split at h
   .split at h
    .rename_i cs' ho;exact Qw h (Vg ho h1 (h2 (i,v) (by simp))) (fun p hp=>h2 p (by simp[hp]))
    .simp at h
   .simp at h
  .simp at h
theorem tK{t:TypeId}{len:Nat}{ps:List (Nat×TV)}{qs:List (Nat×Value)}{r:TV}{s1:St}(hV:Valid M D s.get w)(yJ:M (.h s.heap.length)=none)
  (h:ql P t len s ps=some (r,s1)) (hq:PR M.h ps qs) :
  s1.env=s.env∧∃x w' M',(Instr.buildSlice t len qs.toArray).run P w=.ok x w'∧MO M D s.get w (.val r) s1.get [] x w' M':=by
 unfold ql at h;split at h
 case h_2=>simp at h
 rename_i e n zH;obtain⟨hu,hn,hn0⟩:=qK zH;split at h
 case isFalse=>simp at h
 rename_i hc;obtain⟨hc1,I4⟩:=hc;split at h
 case h_2=>simp at h
 rename_i z hz;split at h
 case isFalse=>simp at h
 rename_i XW;split at h
 case h_2=>simp at h
 rename_i cs hf;simp at h;obtain⟨rfl,rfl⟩:=h;obtain⟨i,x,v,_,_,_,_,hz1,hvr,ZN⟩:=vU hz;have hx0:=(hvr M.h).len;simp only[a9q]at hx0;have ht:=Vm (hvr M.h) len (len*n) (by rw[XW]);obtain⟨uG,g1,g2⟩:=KN (place':=fun i=>some (i*n,n)) (fun i x hx=>hx) hf hq ht;have EH:∀c∈cs,iO c=true:=Qw hf (Ig hz1 len) (fun p hp=>by
  have:=a4f.1 I4 p hp;exact KO this)
 have hlen:cs.length=uG.size:=by have:=g2.len;simpa using this
 have pU:cs.length=len*n:=by rw[Qv hf,nT,XW]
 have yA:s.get (.h s.heap.length)=none:=by simp[St.get]
 have Jv:∀(i:Nat) (c:TV) (v:Value),cs[i]? = some c->uG[i]? = some v->VR M.h c v:=fun i c v a b=>g2.at_ i c v a (by simpa using b);have gQ:=MS hV e yJ yA (agf hlen) Jv EH;refine⟨rfl,.slice (some ⟨w.heap.size,0,none⟩) len len,w.alloc (.cells uG e),dJ M (.h s.heap.length) (.cells [⟨w.heap.size,0,cs.length,uG.size⟩]),?_,⟨?_,?_,?_,qJ yJ⟩⟩
 .have hle:¬(len*n>2^24):=by omega
  by_cases h0:len*n=0
  .have amd:cs=[]:=a3F (by omega);have g1':Instr.fill (fun i=>some (i*n,n)) ((Array.range (len*n)).map ((#[]:Array Value)[·%(#[]:Array Value).size]!)) qs=some uG:=by
    rw[h0]at g1 ⊢;have e0:Array.range 0=#[]:=rfl;rw[e0]at g1 ⊢;simpa using g1
   simp only[Instr.buildSlice,Sem.run_bind,run_underlying hu,Result.andThen_ok,bY hn];rw[a0S hle,a0V h0];simp only[Sem.run_pure,Sem.run_bind,Result.andThen_ok,g1',newRow,run_newObj,World.alloc]
  .simp only[Instr.buildSlice,Sem.run_bind,run_underlying hu,Result.andThen_ok,bY hn];rw[a0S hle,a0S h0];simp only[Sem.run_pure,Sem.run_bind,Result.andThen_ok,ZN w,g1,newRow,run_newObj,World.alloc]
 .rw[jQ];exact gQ.1
 .rw[jQ];exact gQ.2
 .have hlb:len<2^63:=by
   have:=Nat.le_mul_of_pos_right len (show 0<n by omega);omega
  refine .val (.slc (ls:=[⟨w.heap.size,0,cs.length,uG.size⟩]) (p:=⟨w.heap.size,0,cs.length,uG.size⟩) (by simp[Mp.h,dJ]) (by simp) (by simp[pU]) (a1J _) (a1J _) (fun _=>rfl) (.inr ⟨by simp,by simp;omega⟩) hlb)
end
section
variable {P:Program} {M:Mp} {D:Key->Prop} {w:World} {s:St}
theorem ZV{i:Int}(h0:0<=i)(h1:i<=2^40):i64.wrap i=i:=by
 have h2:i%(2^64:Int)=i:=a8h h0 (by omega);simp only[IntKind.wrap,IntKind.bits,IntKind.signed,h2];rw[a0S];simp only[acW,a1T,ge_iff_le];omega
theorem Qx{N:Np}{v:TV}{n:Nat}{x:Value}(h:a1D v=some n)(hx:VR N v x):∃k i,x=.int k i∧0<=i∧i<=2^40∧n=i.toNat:=by
 unfold a1D at h;split at h
 .split at h
  .rename_i k i hc;simp at h;subst h;cases hx;exact⟨k,i,rfl,hc.1,hc.2,rfl⟩
  simp at h
 simp at h
theorem zO{e:TypeId}{n:Nat}(h:tJ P e n=true):∃i x,P.info? e=some i∧i.zero=some x∧x.cells.size=i.size∧n*i.bytes<=2^40∧n<=2^40∧i.bytes<=2^20∧0<i.bytes:=by
 unfold tJ at h;split at h
 .rename_i i hi;simp only[a2r,a1T]at h;obtain⟨⟨⟨⟨h1,h2⟩,h3⟩,h4⟩,h5⟩:=h;unfold a3T at h5;split at h5
  .rename_i x hx;exact⟨i,x,hi,hx,by simpa using h5,h1,h2,h3,h4⟩
  simp at h5
 simp at h
theorem zQ{t:TypeId}{a b r:TV}{x y:Value}{s1:St}(hV:Valid M D s.get w)(yJ:M (.h s.heap.length)=none)
  (h:rZ P t s a b=some (r,s1)) (hx:VR M.h a x) (hy:VR M.h b y) :
  s1.env=s.env∧∃z w' M',(Instr.makeSlice t x y).run P w=.ok z w'∧MO M D s.get w (.val r) s1.get [] z w' M':=by
 unfold rZ at h;split at h
 case h_2=>simp at h
 rename_i e n l c zH hl hc;obtain⟨hu,hn,hn0⟩:=qK zH;obtain⟨_,li,rfl,l0,l1,rfl⟩:=Qx hl hx;obtain⟨_,ci,rfl,c0,c1,rfl⟩:=Qx hc hy;split at h
 case isFalse=>simp at h
 rename_i Qy;obtain⟨hlc,Jy⟩:=Qy;obtain⟨i,zx,hi,hzx,hzs,BN,xM,hb3,hb4⟩:=zO Jy;split at h
 case h_2=>simp at h
 rename_i z hz;split at h
 case isFalse=>simp at h
 rename_i XW;simp at h;obtain⟨rfl,rfl⟩:=h;obtain⟨i',x,v,wY,EK,_,_,hz1,hvr,ZN⟩:=vU hz;rw[hi]at wY;cases wY;have ht:=Vm (hvr M.h) ci.toNat (ci.toNat*n) (by rw[XW])
 let arr:Array Value:=(Array.range (ci.toNat*n)).map (x.cells[·%x.cells.size]!)
 have hlen:(times z ci.toNat).length=arr.size:=by have:=ht.len;simpa[arr]using this
 have pU:(times z ci.toNat).length=ci.toNat*n:=by rw[nT,XW]
 have yA:s.get (.h s.heap.length)=none:=by simp[St.get]
 have Jv:∀(i:Nat) (c:TV) (v:Value),(times z ci.toNat)[i]? = some c->arr[i]? = some v->VR M.h c v:=fun i c v a b=>ht.at_ i c v a (by rw[ado];exact b);have gQ:=MS hV e yJ yA (agf hlen) Jv (Ig hz1 _);have hmul:(li.toNat)*n<=ci.toNat*n:=a3z n hlc;refine⟨rfl,.slice (some ⟨w.heap.size,0,none⟩) li.toNat ci.toNat,w.alloc (.cells arr e),dJ M (.h s.heap.length) (.cells [⟨w.heap.size,0,(times z ci.toNat).length,arr.size⟩]),?_,⟨?_,?_,?_,qJ yJ⟩⟩
 .have hwl:=ZV l0 l1;have hwc:=ZV c0 c1;have Kt:¬((i.bytes:Int)*ci>2^48):=by
   have e1:(ci.toNat*i.bytes:Nat)<=2^40:=BN;have e2:((i.bytes:Int)*ci)=((ci.toNat*i.bytes:Nat):Int):=by
    rw[Nat.mul_comm,aeA,agn c0]
   omega
  simp only[Instr.makeSlice,Sem.run_bind,run_underlying hu,Result.andThen_ok,asInt,asIntOf,Sem.run_pure,iP hi,hwl,hwc];rw[a0S (by simp;exact⟨⟨⟨c0,by omega⟩,l0⟩,by omega⟩)];simp only[Sem.run_bind,run_askRoom,Result.andThen_ok,bY hn];by_cases h0:ci.toNat*n=0
  .rw[a0V h0];have e0:arr=#[]:=Array.eq_empty_of_size_eq_zero (by omega);have e1:(Array.range (ci.toNat*n)).map ((#[]:Array Value)[·%(#[]:Array Value).size]!)=#[]:=by
    rw[h0];have e0:Array.range 0=#[]:=rfl;rw[e0];simp
   simp only[Sem.run_pure,Result.andThen_ok,e1,newRow,Sem.run_bind,run_newObj,World.alloc,e0]
  .rw[a0S h0];simp only[Sem.run_bind,ZN w,Sem.run_pure,Result.andThen_ok,newRow,run_newObj,World.alloc,arr]
 .rw[jQ];exact gQ.1
 .rw[jQ];exact gQ.2
 .refine .val (.slc (ls:=[⟨w.heap.size,0,(times z ci.toNat).length,arr.size⟩]) (p:=⟨w.heap.size,0,(times z ci.toNat).length,arr.size⟩) (by simp[Mp.h,dJ]) (by simp) (by simp[pU]) hlc (a1J _) (fun _=>rfl) (.inr ⟨by simp,by simp;omega⟩) (by omega))
theorem Yd{at_:Array TypeId}{t:TypeId}{v r:TV}{i:lG}{x:Value}(hV:Valid M D s.get w)(h:Y2 P at_ s.heap v=some (r,i))(hx:VR M.h v x)(hD:∀k∈i.ts,D k) :
  i.ws=[]∧∃z,VR M.h r z∧(Builtin.len_ at_ t #[x]).run P w=.ok z w:=by
 unfold Y2 at h;split at h
 case h_2=>simp at h
 rename_i t0 ht0;split at h
 .rename_i b hu;simp at h;obtain⟨rfl,rfl⟩:=h;cases hx;exact⟨rfl,_,.int _ _,by simp[Builtin.len_,ht0,run_underlying hu,goInt]⟩
 .rename_i n el _ hu;simp at h;obtain⟨rfl,rfl⟩:=h;exact⟨rfl,_,.int _ _,by simp[Builtin.len_,ht0,run_underlying hu,goInt]⟩
 .rename_i el b off len cap sz ex hu;simp at h;obtain⟨rfl,rfl⟩:=h;cases hx;exact⟨rfl,_,.int _ _,by simp[Builtin.len_,ht0,run_underlying hu,goInt]⟩
 .rename_i el hu;simp at h;obtain⟨rfl,rfl⟩:=h;cases hx;exact⟨rfl,_,.int _ _,by simp[Builtin.len_,ht0,run_underlying hu,goInt]⟩
 .rename_i k el hu;simp at h;obtain⟨rfl,rfl⟩:=h;cases hx;exact⟨rfl,_,.int _ _,by simp[Builtin.len_,ht0,run_underlying hu,goInt]⟩
 .rename_i k el r0 hu;split at h
  .rename_i es he;simp at h;obtain⟨rfl,rfl⟩:=h;cases hx with
   |map hm=>
    obtain⟨fP,h1,h2⟩:=hV.ok _ _ hm (hD _ (by simp[wW]));simp only[St.get,he,a01]at h1;subst h1;obtain⟨xs,g1,g2⟩:=h2;have g2:=g2.len;refine⟨rfl,_,.int _ _,?_⟩;simp[Builtin.len_,ht0,run_underlying hu,goInt,getObj,Sem.run,g1,g2]
  .simp at h
 .simp at h
end
section
variable {P:Program} {M:Mp} {D:Key->Prop} {w:World} {s:St}
theorem BP{C:Ct}{size n:Nat}{v:TV}{l:List TV}{x:Value}{h:List HB}(hh:∀b,C (.h b)=h[b]?)(hV:Valid M D C w)(hs:fB size h v=some (n,l))(hx:VR M.h v x)(hD:∀k∈dD v,D k) :
  (Builtin.lenOf x).run P w=.ok n w∧(∀c∈l,iO c=true)∧∃arr,(∀w':World,w'.heap=w.heap->(Builtin.firstCells size n x).run P w'=.ok arr w')∧bU M.h l arr.toList:=by
 unfold fB at hs;split at hs
 .simp at hs;obtain⟨rfl,rfl⟩:=hs;cases hx;exact⟨by simp[Builtin.lenOf],by simp,#[],fun w' _=>by simp[Builtin.firstCells],.nil⟩
 .rename_i b off len cap sz ex;split at hs
  .rename_i uN;subst uN;split at hs
   .rename_i hz;subst hz;simp at hs;obtain⟨rfl,rfl⟩:=hs;cases hx with
    |slc hm hp EJ hle vV hex ha hk=>
     exact⟨by simp[Builtin.lenOf],by simp,#[],fun w' _=>by simp[Builtin.firstCells,loadCells,loadCellsFrom],.nil⟩
   split at hs
   .rename_i cs hb;simp only[a0D,a1o]at hs;obtain⟨r,hr,rfl,rfl⟩:=hs;cases hx with
    |slc hm hp EJ hle vV hex ha hk=>
     rename_i ls p a cap';obtain⟨k,hk,Vk⟩:=xI hb;obtain⟨fP,h1,h2⟩:=hV.ok _ _ hm (hD _ (by simp[dD]));rw[hh,hk]at h1;cases h1;obtain⟨g1,g2,_⟩:=h2;obtain⟨s1,s2,s3⟩:=uf hr;refine⟨by simp[Builtin.lenOf],fun c hc=>g1 c (by rw[s2]at hc;exact a5s (a8Z hc)),?_⟩;by_cases h0:cap'=0
     .have qC:len=0:=(by omega);subst qC;have:r=[]:=a3F (by rw[s3];simp);subst this;exact⟨#[],fun w' _=>by simp[Builtin.firstCells,loadCells,loadCellsFrom],.nil⟩
     .rcases ha with ha|⟨rfl,ha⟩
      .exact absurd ha h0
      .obtain⟨xs,x1,x2⟩:=yw (P:=P) (g2 p (hp.resolve_left h0)) hr (by have:=a3z sz hle;omega) (fun e=>by have:=Vk e;have:=(g2 p (hp.resolve_left h0)).ext;omega);exact⟨xs.toArray,fun w' hw'=>by simp[Builtin.firstCells,x2 w' hw'],x1⟩
   .simp at hs
  .simp at hs
 .rename_i bs;split at hs
  .rename_i uN;simp at hs;obtain⟨rfl,rfl⟩:=hs;cases hx;refine⟨by simp[Builtin.lenOf],by simp[iO],(bs.extract 0 bs.size).data.map fun b=>.int .u8 b.toNat,fun w' _=>rfl,?_⟩;refine⟨by simp,fun i c v a b=>?_⟩;simp only[a3V,a0D]at a;obtain⟨y,hy,rfl⟩:=a;rw[show bs.extract 0 bs.size=bs from by simp]at b;simp only[Array.toList_map,a3V,hy,a1z,a01]at b;rw[<-b];exact .int _ _
  .simp at hs
 .simp at hs
theorem Tv{size n b off len cap sz:Nat}{ex:Bool}{l:List TV}{h:List HB}(hs:fB size h (.slc b off len cap sz ex)=some (n,l)):sz=size∧n=len∧l.length=len*size:=by
 simp only[fB]at hs;split at hs
 .rename_i hz;split at hs
  .rename_i h0;cases hs;exact⟨hz,h0.symm,by simp[h0]⟩
  split at hs
  .simp only[a0D,a1o]at hs;obtain⟨r,hr,rfl,rfl⟩:=hs;exact⟨hz,rfl,(uf hr).2.2⟩
  cases hs
 cases hs
theorem Qz(N:Nat):∀(r c:Nat),c<=2*N+192->Builtin.growBy N r c<=2*N+192
 | 0,c,h=>by simpa[Builtin.growBy]using h
 |r+1,c,h=>by
  simp only[Builtin.growBy];split
  .exact h
  exact Qz N r _ (by omega)
theorem Ye{Ku c:Nat}(h:c<Ku):Builtin.nextslicecap Ku c<=2*Ku+192:=by
 unfold Builtin.nextslicecap;split
 .omega
 split
 .omega
 exact Qz Ku 4 c (by omega)
theorem a8y{Ku c b:Nat}(h:c<Ku)(h1:Ku*b<=2^40)(h2:b<=2^20):¬(Builtin.nextslicecap Ku c*b>2^48):=by
 have e1:=Ye h;have e2:Builtin.nextslicecap Ku c*b<=(2*Ku+192)*b:=a3z b e1;have e3:(2*Ku+192)*b=2*(Ku*b)+192*b:=by rw[a3A,Nat.mul_assoc]
 omega
theorem vW(z:Array Value)(n:Nat):(Builtin.zeroCells z n).size=n*z.size:=by simp[Builtin.zeroCells]
def vX:TypeDesc->Bool
 |.int _=>true
 |_=>false
theorem Yf{t:TypeId}(h:¬(SY P t||(P.underlying t).isNone)=true):∃d,P.underlying t=some d∧vX d=false:=by
 simp only[a8t,ad1,aga]at h;obtain⟨h1,h2⟩:=h;cases hu:P.underlying t with
 |none=>simp[hu]at h2
 |some d=>
  refine⟨d,rfl,?_⟩;unfold SY at h1;rw[hu]at h1;cases d<;>simp_all [vX]
theorem EL{at_:Array TypeId}{st xt e:TypeId}{size n sLen sCap:Nat}{i:TypeInfo}{z sv xv:Value}{base:Option Addr}{d:TypeDesc}{old new:Array Value}{ty:TypeId}
  (h0:at_[0]? = some st) (h1:at_[1]? = some xt) (hu:P.underlying st=some (.slice e)) (hn:dw P e=some size) (Jz:P.underlying xt=some d) (hd:vX d=false)
  (hi:P.info? e=some i) (hz:i.zero=some z) (hsv:sv=.slice base sLen sCap)
  (hl:(Builtin.lenOf xv).run P w=.ok n w) (vV:sCap<sLen+n) (BN:(sLen+n)*i.bytes<=2^40) (xM:sLen+n<=2^40) (hb3:i.bytes<=2^20)
  (hold:∀w':World,w'.heap=w.heap->(Builtin.firstCells size sLen sv).run P w'=.ok old w') (gQ:∀w':World,w'.heap=w.heap->(Builtin.firstCells size n xv).run P w'=.ok new w') :
  ∃jY,sLen+n<=jY∧jY<2^63∧(Builtin.append_ at_ ty #[sv,xv]).run P w=.ok (.slice (some ⟨w.heap.size,0,none⟩) (sLen+n) jY) (w.drew.alloc (.cells (old++new++Builtin.zeroCells z.cells (jY-(sLen+n))) e)):=by
 subst hsv;refine⟨(Question.appendCap (sLen+n) sCap e).cut (w.tape w.drawn (.appendCap (sLen+n) sCap e)),by simp[Question.cut],?_,?_⟩
 .have:=Nat.mod_lt (w.tape w.drawn (.appendCap (sLen+n) sCap e)) (show 0<2^63-(sLen+n) by omega);simp only[Question.cut];omega
 have hz':∀w,(zeroValue e).run P w=.ok z w:=fun w=>by simp[zeroValue,iP hi,hz]
 have hq:(Question.appendCap (sLen+n) sCap e).forced=false:=rfl;have hle:¬(sLen+n<=sCap):=by omega
 have Kt:¬(((sLen+n:Nat):Int)>i64.max):=by
  have:i64.max=2^63-1:=rfl;rw[this];omega
 have Jy:=a8y vV BN hb3;have e1:=hold w.drew rfl;have e2:=gQ w.drew rfl;unfold Builtin.append_;simp only[adg,a2I,a9b,h0,h1];simp only[Sem.run_bind,run_underlying hu,Result.andThen_ok,bY hn,run_underlying Jz,Sem.run_pure];rw[a0S (by cases d<;>simp_all [vX])];simp only[Sem.run_bind,hl,Result.andThen_ok];rw[a0S hle];simp only[Sem.run_bind,iP hi,Result.andThen_ok];rw[a0S (fun h=>Kt h.1)];simp only[Sem.run_bind,iP hi,Result.andThen_ok];rw[a0S Jy];simp only[Sem.run_bind,Sem.run_pure,run_choose,hq,a2H,a3x,Result.andThen_ok,iP hi,run_askRoom,World.drew_eq,e1];rw[a0V (by cases d<;>simp_all [vX])];simp only[Sem.run_bind,Sem.run_pure,Result.andThen_ok,e2,hz',newRow,run_newObj,World.size_drew,World.alloc_eq]
theorem QA{at_:Array TypeId}{st xt e:TypeId}{size n sLen sCap:Nat}{a:Addr}{sv xv:Value}{d:TypeDesc}{new:Array Value}{ty:TypeId}{w':World}
  (h0:at_[0]? = some st) (h1:at_[1]? = some xt) (hu:P.underlying st=some (.slice e)) (hn:dw P e=some size) (Jz:P.underlying xt=some d) (hd:vX d=false)
  (hsv:sv=.slice (some a) sLen sCap) (hl:(Builtin.lenOf xv).run P w=.ok n w) (vV:sLen+n<=sCap)
  (gQ:(Builtin.firstCells size n xv).run P w=.ok new w) (vH:(storeCells (a.add (sLen*size)) new.toList).run P w=.ok () w') :
  (Builtin.append_ at_ ty #[sv,xv]).run P w=.ok (.slice (some a) (sLen+n) sCap) w':=by
 subst hsv;unfold Builtin.append_;simp only[adg,a2I,a9b,h0,h1];simp only[Sem.run_bind,run_underlying hu,Result.andThen_ok,bY hn,run_underlying Jz,Sem.run_pure];rw[a0S (by cases d<;>simp_all [vX])];simp only[Sem.run_bind,hl,Result.andThen_ok];rw[a0V vV];rw[a0V (by cases d<;>simp_all [vX])];simp only[Sem.run_bind,gQ,Result.andThen_ok,vH,Sem.run_pure]
theorem Vo{at_:Array TypeId}{st xt e:TypeId}{size sLen sCap:Nat}{base:Option Addr}{sv xv:Value}{d:TypeDesc}{new:Array Value}{ty:TypeId}
  (h0:at_[0]? = some st) (h1:at_[1]? = some xt) (hu:P.underlying st=some (.slice e)) (hn:dw P e=some size) (Jz:P.underlying xt=some d) (hd:vX d=false)
  (hsv:sv=.slice base sLen sCap) (hl:(Builtin.lenOf xv).run P w=.ok 0 w) (vV:sLen<=sCap)
  (gQ:(Builtin.firstCells size 0 xv).run P w=.ok new w) (iq:new.toList=[]) :
  (Builtin.append_ at_ ty #[sv,xv]).run P w=.ok sv w:=by
 subst hsv;unfold Builtin.append_;simp only[adg,a2I,a9b,h0,h1];simp only[Sem.run_bind,run_underlying hu,Result.andThen_ok,bY hn,run_underlying Jz,Sem.run_pure];rw[a0S (by cases d<;>simp_all [vX])];simp only[Sem.run_bind,hl,Result.andThen_ok];rw[a0V (by omega)];rw[a0V (by cases d<;>simp_all [vX])];simp only[Sem.run_bind,gQ,Result.andThen_ok];cases base<;>simp[iq,storeCells]
end
section
variable {P:Program} {M:Mp} {D:Key->Prop} {w:World} {s:St}
def BOk(P:Program)(M:Mp)(D:Key->Prop)(C:Ct)(w:World)(c:Sem Value)(v:TV)(C1:Ct)(ws:List Key):Prop:=
 ∃x w' M',c.run P w=.ok x w'∧MO M D C w (.val v) C1 ws x w' M'
theorem Ext.drew'{M0:Mp}{C0:Ct}{w0:World}{M:Mp}{C:Ct}{w:World}{ws:List Key}(h:Ext M0 C0 w0.drew M C w ws):Ext M0 C0 w0 M C w ws:=
 ⟨h.HY,h.frame,h.mW,h.kP,h.fresh,h.size,h.has,h.wsub,h.wrote,h.os,h.output,h.tape⟩
theorem bU.Tz{N:Np}{l:List TV}{arr:Array Value}(h:bU N l arr.toList){i:Nat}{c:TV}{v:Value}(a:l[i]? = some c)(b:arr[i]? = some v):VR N c v:=
 h.at_ i c v a (by rw[ado];exact b)
theorem Vp(hV:Valid M D s.get w)(yJ:M (.h s.heap.length)=none){cs:List TV}{pre rest:Array Value}{e:TypeId}(hx:bU M.h cs pre.toList)(hn:∀c∈cs,iO c=true)
  {len jY size:Nat} (QB:cs.length=len*size) (hle:len<=jY) (hk:jY<2^63) (N8:rest.size=(jY-len)*size) :
  ∃M',MO M D s.get w (.val (.slc s.heap.length 0 len len size false)) (St.get { s with heap:=s.heap++[.cells .own cs] }) [] (.slice (some ⟨w.heap.size,0,none⟩) len jY) (w.drew.alloc (.cells (pre++rest) e)) M':=by
 have yA:s.get (.h s.heap.length)=none:=by simp[St.get]
 have FI:pre.size=cs.length:=by have:=hx.len;simp at this;omega
 have amb:(pre++rest).size=jY*size:=by
  have:len*size+(jY-len)*size=jY*size:=by rw[<-a3A];congr 1;omega
  simp;omega
 have hmul:len*size<=jY*size:=a3z size hle;have Yg:Valid M D s.get w.drew:=hV.of_heap rfl;have gQ:=MS Yg (cs:=cs) (arr:=pre++rest) e yJ yA (by omega) (fun i c v a b=>by
  have hi:=(a02.1 a).1;rw[a9M (by omega)]at b;exact hx.Tz a b) hn
 refine⟨dJ M (.h s.heap.length) (.cells [⟨w.heap.size,0,cs.length,(pre++rest).size⟩]),⟨?_,?_,?_,qJ yJ⟩⟩
 .rw[jQ];exact gQ.1
 .rw[jQ];exact gQ.2.drew'
 .exact .val (.slc (ls:=[⟨w.heap.size,0,cs.length,(pre++rest).size⟩]) (p:=⟨w.heap.size,0,cs.length,(pre++rest).size⟩) (by simp[Mp.h,dJ]) (by simp) (by simp[QB]) (a1J _) hle (fun h=>by simp at h) (.inr ⟨by simp,by simp only[a3E];omega⟩) hk)
theorem Ej:∀{ls:List Pl},(ls.map (·.c)).Nodup->∀{p q:Pl},p∈ls->q∈ls->q.c=p.c->q=p
 | [],_,p,q,hp,_,_=>by simp at hp
 |a::ls,h,p,q,hp,hq,e=>by
  simp only[a3K,a3P]at h;rcases a2t.1 hp with h1|h1<;>rcases a2t.1 hq with h2|h2
  .rw[h1,h2]
  .exact(h.1 (a1L.2 ⟨q,h2,by rw[e,h1]⟩)).elim
  .exact(h.1 (a1L.2 ⟨p,h1,by rw[<-e,h2]⟩)).elim
  exact Ej h.2 h1 h2 e
theorem ZW(hV:Valid M D s.get w){b:Nat}{k:BK}{cs new:List TV}{ls:List Pl}{p:Pl}{x:Array Value}(hm:M (.h b)=some (.cells ls))(hd:D (.h b))(hb:s.heap[b]? = some (.cells k cs))
  (hk:k≠.ro) (hp:p∈ls) (EJ:cs.length<=p.ext) (hx:bU M.h new x.toList) (hn:∀c∈new,iO c=true) (iq:new≠[]) {w':World}
  (fl:Bool) (old rest:Array Value) (ty0:TypeId)
  (hw:(fl=true∧cs.length+new.length<=p.tot∧(storeCells ⟨p.c,cs.length,none⟩ x.toList).run P w=.ok () w') ∨
   (fl=false∧bU M.h cs old.toList∧w'=w.drew.alloc (.cells (old++x++rest) ty0))) :
  ∃M' q,Valid M' D (St.get { s with heap:=s.heap.set b (.cells k.more (cs++new)) }) w'∧Ext M s.get w M' (St.get { s with heap:=s.heap.set b (.cells k.more (cs++new)) }) w' [.h b] ∧
   (∀j l,M (.l j)=some l->M' (.l j)=some l)∧(∃xH,M' (.h b)=some (.cells xH)∧q∈xH)∧cs.length+new.length<=q.ext∧q.base=0 ∧
   ((fl=true∧q.c=p.c∧q.tot=p.tot)∨(fl=false∧q.c=w.heap.size∧q.tot=(old++x++rest).size)):=by
 have hg:s.get (.h b)=some (.cells k cs):=by simp[St.get,hb]
 have yL:=(a02.1 hb).1;obtain⟨fP,h1,h2⟩:=hV.ok _ _ hm hd;rw[hg]at h1;cases h1;obtain⟨ho,FI,agQ,ZX⟩:=h2;have hxl:=hx.len;simp only[a9q]at hxl;have jk:(ls.map (·.c)).Nodup:=by
  cases k with
  |ro=>exact absurd rfl hk
  |own=>obtain⟨q,rfl,_⟩:=agQ rfl;simp
  |grow=>exact(ZX (.inl rfl)).1
  |last=>exact(ZX (.inr rfl)).1
 have aqh:∀q∈ls,q.ext=cs.length->q=p:=by
  intro q hq he;cases k with
  |ro=>exact absurd rfl hk
  |own=>
   obtain⟨q',e',_⟩:=agQ rfl;rw[e']at hp hq;simp at hp hq;rw[hq,hp]
  |grow=>
   have:=(FI p hp).ext;exact(ZX (.inl rfl)).2 q hq p hp he (by omega)
  |last=>
   have:=(FI p hp).ext;exact(ZX (.inr rfl)).2 q hq p hp he (by omega)
 have hpe:p.ext=cs.length:=by have:=(FI p hp).ext;omega
 have hpb:p.base=0:=(FI p hp).base hk;have hmr:k.more≠.own:=by cases k<;>simp[BK.more]
 have hml:k.more=.last->k=.last:=by cases k<;>simp[BK.more]
 have EH:∀c∈cs++new,iO c=true:=by
  intro c hc;rcases a3y.1 hc with h|h
  .exact ho c h
  .exact hn c h
 rcases hw with⟨hfl,Jy,vH⟩|⟨hfl,hold,rfl⟩
 .-- in place
  let p':Pl:={ p with ext:=cs.length+new.length }
  let xH:List Pl:=ls.map fun q=>if q.c=p.c then p' else q
  have hqp:∀q∈ls,q.c=p.c->q=p:=by
   intro q hq he;exact Ej jk hp hq he
  have hp':p'∈xH:=a1L.2 ⟨p,hp,by simp⟩;have a4i:xH.map (·.c)=ls.map (·.c):=by
   simp only[xH,a6Z];apply a6f;intro q hq;simp only[Function.comp];split
   .rename_i he;exact he.symm
   .rfl
  have hlc:JZ (.cells ls) (.cells xH):=by
   intro q hq;by_cases he:q.c=p.c
   .have:=hqp q hq he;subst this;exact⟨p',hp',rfl,rfl,by simp[p'];omega,rfl⟩
   .exact⟨q,a1L.2 ⟨q,hq,by simp[he]⟩,rfl,rfl,a1J _,rfl⟩
  obtain⟨arr,ty,fz,r1,r2,r3,r4⟩:=(FI p hp).row;have:=r3 hk;subst this;have agT:∀v∈x.toList,v.oneCell'=true:=by
   intro v hv;obtain⟨i,hi,rfl⟩:=a4h.1 hv;have wY:i<new.length:=by simp at hi;omega
   exact Ia (hx.at_ i new[i] x.toList[i] (by simp[wY]) (by simp)) (hn _ (a4d wY))
  have uX:=run_storeCells_at (P:=P) p.c cs.length ty x.toList 0 arr w r1 (by simp;omega) agT;simp only[ade,a9q]at uX;rw[uX]at vH;have ami:=Result.ok.inj vH;obtain⟨_,rfl⟩:=ami
  let w':World:=w.setRow p.c (arr.toList.take cs.length++x.toList++arr.toList.drop (cs.length+x.size)).toArray
  have fU:∀c,c<w.heap.size->c∉aI (.cells xH)->w'.heap[c]? = w.heap[c]?:=fun c _ hc=>uV w p.c _ c (fun e=>hc (by rw[e];exact a1L.2 ⟨p',hp',rfl⟩));have gQ:∀c∈aI (.cells xH),(∃l0,M (.h b)=some l0∧c∈aI l0)∨w.heap.size<=c:=fun c hc=>.inl ⟨_,hm,by simp only[aI]at hc ⊢;rwa [a4i]at hc⟩;have Ie:rV M (dJ M (.h b) (.cells xH)):=lM fun l0 h0=>by rw[hm]at h0;cases h0;exact hlc
  have Vq:∀i,(arr.toList.take cs.length++x.toList++arr.toList.drop (cs.length+x.size)).toArray[i]? = if i<cs.length then arr[i]? else if i<cs.length+x.size then x[i-cs.length]? else arr[i]?:=by
   intro i;have:=Vf (arr:=arr) (off:=cs.length) (xs:=x.toList) i (by simp;omega);simpa using this
  have Qo:oV (dJ M (.h b) (.cells xH)).h w' (.cells k.more (cs++new)) (.cells xH):=by
   refine⟨EH,fun q hq=>?_,fun e=>absurd e hmr,fun _=>⟨by rw[a4i];exact jk,fun q1 Ju q2 FT e1 e2=>?_⟩⟩
   .obtain⟨q0,hq0,rfl⟩:=a1L.1 hq;by_cases he:q0.c=p.c
    .simp only[he,a2D];refine⟨⟨_,ty,(0,0),MQ w p.c _ arr ty (0,0) r1,by simp[p'];omega,fun _=>rfl,fun _ i c v hi a b=>?_⟩,by simp[p',hpb];omega,by simp[p'],fun _=>hpb⟩;simp only[p',hpb,a3E]at b hi;rw[Vq i]at b;by_cases h1:i<cs.length
     .rw[a0V h1]at b;rw[a0N h1]at a;exact(r4 (fun _=>hpe) i c v (by omega) a (by simpa[hpb]using b)).mono Ie.h
     .rw[a0S h1,a0V (by omega)]at b;rw[a1H (by omega)]at a;exact(hx.Tz a b).mono Ie.h
    .simp only[he,a3x];have Ju:=FI q0 hq0;obtain⟨uG,ty',fz',t1,t2,t3,t4⟩:=Ju.row;refine⟨⟨uG,ty',fz',(uV w p.c _ q0.c he).trans t1,t2,fun _=>t3 hk,fun hz i c v hi a b=>?_⟩,Ju.fit,by have:=Ju.ext;simp;omega,fun _=>Ju.base hk⟩;have:=Ju.ext;rw[a0N (by omega)]at a;exact(t4 (fun e=>by have:=hz (by rw[e];rfl);have:0<new.length:=aaY.2 iq;simp at *;omega) i c v hi a b).mono Ie.h
   .have aux:∀q∈xH,q.ext=(cs++new).length->new≠[]->q=p':=by
     intro q hq e iq;obtain⟨q0,hq0,rfl⟩:=a1L.1 hq;by_cases he:q0.c=p.c
     .simp[he]
     .simp only[he,a3x]at e;have:=(FI q0 hq0).ext;have:0<new.length:=aaY.2 iq;simp at e;omega
    rw[aux q1 Ju e1 iq,aux q2 FT e2 iq]
  refine⟨dJ M (.h b) (.cells xH),p',?_,?_,?_,⟨xH,by simp[dJ],hp'⟩,a1J _,hpb,.inl ⟨hfl,rfl,rfl⟩⟩
  .rw[ji s b _ yL];exact hV.upd (.h b) _ _ (fun j hj=>.inl hj) (fun l0 h0=>by
    rw[hm]at h0;cases h0;exact⟨hd,hlc,fun b0 zG=>by rw[hg]at zG;cases zG;cases k<;>simp_all [wr]⟩) fU gQ (by simp) Qo
  .rw[ji s b _ yL];exact Ext.upd (.h b) _ _ [.h b] (.inl ⟨by simp[hg],rfl,by simp[hm],fun b0 zG=>by rw[hg]at zG;cases zG;cases k<;>simp_all [wr]⟩) Ie fU gQ (by simp) rfl rfl rfl
  .intro j l hj;simp[dJ,hj]
 .-- a new row
  let p':Pl:=⟨w.heap.size,0,cs.length+new.length,(old++x++rest).size⟩
  let xH:List Pl:=p'::ls
  let w':World:=w.drew.alloc (.cells (old++x++rest) ty0)
  have QC:=hold.len;simp only[a9q]at QC;have aQ:∀q∈ls,q.c<w.heap.size:=fun q hq=>hV.inb _ _ hm q.c (a1L.2 ⟨q,hq,rfl⟩);have hlc:JZ (.cells ls) (.cells xH):=fun q hq=>⟨q,a3w _ hq,rfl,rfl,a1J _,rfl⟩;have fU:∀c,c<w.heap.size->c∉aI (.cells xH)->w'.heap[c]? = w.heap[c]?:=fun c hc _=>vT w.drew _ c hc;have gQ:∀c∈aI (.cells xH),(∃l0,M (.h b)=some l0∧c∈aI l0)∨w.heap.size<=c:=by
   intro c hc;simp only[aI,xH,a3K,a2t]at hc;rcases hc with rfl|hc
   .exact .inr (a1J _)
   .exact .inl ⟨_,hm,hc⟩
  have Ie:rV M (dJ M (.h b) (.cells xH)):=lM fun l0 h0=>by rw[hm]at h0;cases h0;exact hlc
  have Qo:oV (dJ M (.h b) (.cells xH)).h w' (.cells k.more (cs++new)) (.cells xH):=by
   refine⟨EH,fun q hq=>?_,fun e=>absurd e hmr,fun _=>⟨?_,fun q1 Ju q2 FT e1 e2=>?_⟩⟩
   .rcases a2t.1 hq with rfl|hq
    .refine⟨⟨_,ty0,(0,0),heap_alloc_new w.drew _,rfl,fun _=>rfl,fun _ i c v hi a b=>?_⟩,by simp[p'];omega,by simp[p'],fun _=>rfl⟩;simp only[p',a3E]at b hi;by_cases h1:i<cs.length
     .rw[a0N h1]at a;rw[Array.append_assoc,a9M (by omega)]at b;exact(hold.Tz a b).mono Ie.h
     .rw[a1H (by omega)]at a;rw[Array.append_assoc,Array.getElem?_append_right (by omega),a9M (by omega),<-QC]at b;exact(hx.Tz a b).mono Ie.h
    .have Ju:=FI q hq;obtain⟨uG,ty',fz',t1,t2,t3,t4⟩:=Ju.row;refine⟨⟨uG,ty',fz',(vT w.drew _ q.c (aQ q hq)).trans t1,t2,fun _=>t3 hk,fun hz i c v hi a b=>?_⟩,Ju.fit,by have:=Ju.ext;simp;omega,fun _=>Ju.base hk⟩;have:=Ju.ext;rw[a0N (by omega)]at a;exact(t4 (fun e=>by have:=hz (by rw[e];rfl);have:0<new.length:=aaY.2 iq;simp at *;omega) i c v hi a b).mono Ie.h
   .simp only[xH,a3K,a3P];refine⟨fun a8z=>?_,jk⟩;obtain⟨q,hq,he⟩:=a1L.1 a8z;have:=aQ q hq;simp only[p']at he;omega
   .have agU:0<new.length:=aaY.2 iq;have aux:∀q∈xH,q.ext=(cs++new).length->q=p':=by
     intro q hq e;rcases a2t.1 hq with rfl|hq
     .rfl
     .have:=(FI q hq).ext;simp at e;omega
    rw[aux q1 Ju e1,aux q2 FT e2]
  refine⟨dJ M (.h b) (.cells xH),p',?_,?_,?_,⟨xH,by simp[dJ],a3u⟩,a1J _,rfl,.inr ⟨hfl,rfl,rfl⟩⟩
  .rw[ji s b _ yL];exact hV.upd (.h b) _ _ (fun j hj=>.inl hj) (fun l0 h0=>by
    rw[hm]at h0;cases h0;exact⟨hd,hlc,fun b0 zG=>by rw[hg]at zG;cases zG;cases k<;>simp_all [wr]⟩) fU gQ (by simp) Qo
  .rw[ji s b _ yL];exact Ext.upd (.h b) _ _ [.h b] (.inl ⟨by simp[hg],rfl,by simp[hm],fun b0 zG=>by rw[hg]at zG;cases zG;cases k<;>simp_all [wr]⟩) Ie fU gQ (by simp) rfl rfl rfl
  .intro j l hj;simp[dJ,hj]
end
section
variable {P:Program} {M:Mp} {D:Key->Prop} {w:World} {s:St}
theorem Ih{at_:Array TypeId}{ty:TypeId}{d x r:TV}{s1:St}{i:lG}{dv xv:Value}(hV:Valid M D s.get w)(yJ:M (.h s.heap.length)=none)
  (h:jP P at_ s d x=some (r,s1,i)) (hd:VR M.h d dv) (hx:VR M.h x xv) (hD:∀k∈i.ts,D k) :
  s1.env=s.env∧BOk P M D s.get w (Builtin.append_ at_ ty #[dv,xv]) r s1.get i.ws:=by
 unfold jP at h;split at h
 case h_2=>simp at h
 rename_i st xt h0 h1;split at h
 .simp at h
 rename_i hint;obtain⟨dd,Jz,hdd⟩:=Yf hint;split at h
 case h_2=>simp at h
 rename_i e size zH;obtain⟨hu,hn,hn0⟩:=qK zH;split at h
 case h_2=>simp at h
 rename_i n new lN;split at h
 .-- nothing
  rename_i hz;subst hz;have key:∀(base:Option Addr) (l c:Nat),dv=.slice base l c->l<=c->(∀k∈dD x,D k)->(Builtin.append_ at_ ty #[dv,xv]).run P w=.ok dv w:=by
   intro base l c e hlc hDk;obtain⟨s1',s2',arr,TA,ZY⟩:=BP (P:=P) (fun b=>rfl) hV lN hx hDk;refine Vo h0 h1 hu hn Jz hdd e s1' hlc (TA w rfl) ?_;have a4j:new=[]:=by
    unfold fB at lN;split at lN
    .simp at lN;exact lN
    .split at lN
     .split at lN
      .simpa using lN
      split at lN
      .simp only[a0D,a1o]at lN;obtain⟨r',hr',e1,e2⟩:=lN;subst e2;exact a3F (by rw[(uf hr').2.2,e1];simp)
      .simp at lN
     .simp at lN
    .split at lN
     .simp at lN;obtain⟨e1,e2⟩:=lN;rw[<-e2];rename_i bs _;have:bs.data.toList=[]:=a3F (by simpa using e1);simp[this]
     .simp at lN
    .simp at lN
   rw[a4j]at ZY;exact ZY.pI
  split at h
  .simp at h;obtain⟨rfl,rfl,rfl⟩:=h;have Yh:=hd;cases hd;exact⟨rfl,_,w,M,key none 0 0 rfl (a1J _) hD,.same hV (.val Yh)⟩
  .split at h
   .simp at h;obtain⟨rfl,rfl,rfl⟩:=h;have Yh:=hd;cases hd with
    |slc hb hp EJ hle vV hex ha hk=>
     exact⟨rfl,_,w,M,key _ _ _ rfl (by omega) hD,.same hV (.val Yh)⟩
   .simp at h
  .simp at h
 rename_i hz;split at h
 case isFalse=>simp at h
 rename_i hlen;have ab2:new≠[]:=by
  intro e;have:0<n*size:=Nat.mul_pos (by omega) hn0;rw[e]at hlen;simp only[a5q]at hlen;omega
 split at h
 .-- nil
  split at h
  case isFalse=>simp at h
  rename_i Jy;simp at h;obtain⟨rfl,rfl,rfl⟩:=h;obtain⟨inf,z,hi,hiz,hzs,BN,xM,hb3,hb4⟩:=zO Jy;obtain⟨s1',s2',arr,TA,ZY⟩:=BP (P:=P) (fun b=>rfl) hV lN hx hD;have uN:inf.size=size:=by obtain⟨i',e1,e2⟩:=EG hn;rw[hi]at e1;cases e1;exact e2
  cases hd;obtain⟨jY,c1,c1',c2⟩:=EL (P:=P) (w:=w) (ty:=ty) (base:=none) (sLen:=0) (sCap:=0) (old:=#[]) (new:=arr) h0 h1 hu hn Jz hdd hi hiz rfl s1' (by omega) (by simpa using BN) (by omega) hb3
   (fun w' hw'=>by simp[Builtin.firstCells]) TA
  simp only[a3E]at c1 c2;obtain⟨M',hp⟩:=Vp (size:=size) (len:=n) (rest:=Builtin.zeroCells z.cells (jY-n)) (e:=e) (pre:=#[]++arr) hV yJ (by simpa using ZY) s2' hlen c1 c1' (by rw[vW,hzs,uN]);exact⟨rfl,_,_,M',c2,hp⟩
 .-- a slice
  rename_i b off len cap sz ex;split at h
  case isFalse=>simp at h
  rename_i adb;subst adb;have hd0:=hd;cases hd with
  |slc hb hp EJ hle vV hex ha hk=>
  rename_i ls p a cap';split at h
  .-- room
   rename_i aml;simp only[a0D,a1o]at h;obtain⟨hp',EM,rfl,rfl,rfl⟩:=h;obtain⟨kk,AX,cs,cs',hbc,xJ,ho,rfl⟩:=Ic EM;have hDs:∀k∈dD x,D k:=fun k hk=>hD k (a3w _ hk);obtain⟨s1',s2',arr,TA,ZY⟩:=BP (P:=P) (fun b=>rfl) hV lN hx hDs;have hg:s.get (.h b)=some (.cells kk cs):=(by simp[St.get,hbc]);have yL:=(a02.1 hbc).1;rcases ha with ha|⟨rfl,ha⟩
   .omega
   have hDb:=hD (.h b) (by simp);have hp:=hp.resolve_left (by omega);obtain⟨w',r1,r2,r3⟩:=yI (P:=P) hV hb hDb hg hp (hV.Y6 hb hDb hg hp EJ xJ) ho ZY s2';obtain⟨o1,o2,o3⟩:=vG ho;have hmul:len*sz+n*sz=(len+n)*sz:=(by rw[a3A]);refine⟨rfl,_,w',M,QA (P:=P) (w:=w) (ty:=ty) (a:=⟨p.c,p.base+off,none⟩) h0 h1 hu hn Jz hdd rfl s1' (by omega) (TA w rfl) (by rw[tZ,a9L];exact r1),⟨?_,?_,?_,fun _ _ h=>h⟩⟩
   .rw[ji s b _ yL];exact⟨fun k l hk hd=>r2.ok k l hk (hd.elim id fun⟨x1,x2⟩=>by
      simp only[l9]at x2;split at x2
      .rename_i e;subst e;rw[hg]at x1;cases x1
      .simp[x1]at x2),fun k k' l l' b' a1 a2 a3 hd=>r2.own k k' l l' b' a1 a2 a3 (hd.elim id fun⟨x1,x2⟩=>by
      simp only[l9]at x2;split at x2
      .rename_i e;subst e;rw[hg]at x1;cases x1
      .simp[x1]at x2),r2.inb⟩
   .rw[ji s b _ yL];exact r3
   .exact .val (.slc hb (.inr hp) (by omega) (by omega) vV hex (.inr ⟨rfl,ha⟩) hk)
  .rename_i aml;split at h
   case isFalse=>simp at h
   rename_i Jy;obtain⟨inf,z,hi,hiz,hzs,BN,xM,hb3,hb4⟩:=zO Jy;have uN:inf.size=sz:=by obtain⟨i',e1,e2⟩:=EG hn;rw[hi]at e1;cases e1;exact e2
   have hmul:len*sz+n*sz=(len+n)*sz:=(by rw[a3A]);split at h
   .-- exact: always a new row
    rename_i agW;have N9:=hex agW;simp only[a0D,a1o]at h;obtain⟨⟨l0,old⟩,qo,rfl,rfl,rfl⟩:=h;obtain⟨_,qC,hold⟩:=Tv qo;rw[qC]at qo;have hDs:∀k∈dD x,D k:=fun k hk=>hD k (a3w _ hk);obtain⟨s1',s2',arr,TA,ZY⟩:=BP (P:=P) (fun b=>rfl) hV lN hx hDs;obtain⟨t1',t2',a4k,t3',t4'⟩:=BP (P:=P) (fun b=>rfl) hV qo hd0 (fun k hk=>hD k (by simp[dD]at hk;simp[hk,gU]));obtain⟨jY,c1,c1',c2⟩:=EL (P:=P) (w:=w) (ty:=ty) (base:=some a) (sLen:=len) (sCap:=cap') (old:=a4k) (new:=arr) h0 h1 hu hn Jz hdd hi hiz rfl s1' (by omega) BN xM hb3 t3' TA;obtain⟨M',agX⟩:=Vp (size:=sz) (len:=len+n) (rest:=Builtin.zeroCells z.cells (jY-(len+n))) (e:=e) (pre:=a4k++arr) hV yJ (by simpa using t4'.append ZY) (fun c hc=>(a3y.1 hc).elim (t2' c) (s2' c)) (by simp[hold,hlen,hmul]) c1 c1' (by rw[vW,hzs,uN]);exact⟨rfl,_,_,M',c2,agX⟩
   .-- it grows
    split at h
    case h_2=>simp at h
    rename_i agW _ k cs hbc;split at h
    .simp at h
    .rename_i Qy;simp only[ad1,ne_eq,Decidable.not_not]at Qy;have hkc:=hk;obtain⟨hk,rfl,rfl,pU,qC⟩:=Qy;have hp:=hp.resolve_left (by omega);simp only[a01,a1o]at h;obtain⟨rfl,rfl,rfl⟩:=h;have hDs:∀k∈dD x,D k:=fun k hk=>hD k (a3w _ hk);have hDb:=hD (.h b) (by simp);obtain⟨s1',s2',arr,TA,ZY⟩:=BP (P:=P) (fun b=>rfl) hV lN hx hDs;have hg:s.get (.h b)=some (.cells k cs):=(by simp[St.get,hbc]);have hnb:∀(M':Mp) (w':World),Valid M' D (St.get { s with heap:=s.heap.set b (.cells k.more (cs++new)) }) w' ->
       Valid M' (fun j=>D j∨(s.get j=none∧(St.get { s with heap:=s.heap.set b (.cells k.more (cs++new)) } j).isSome=true)) (St.get { s with heap:=s.heap.set b (.cells k.more (cs++new)) }) w':=by
      intro M' w' hv;have aux:∀j,(D j∨(s.get j=none∧(St.get { s with heap:=s.heap.set b (.cells k.more (cs++new)) } j).isSome=true))->D j:=by
       intro j hj;rcases hj with hj|⟨x1,x2⟩
       .exact hj
       .rw[ji s b _ (a02.1 hbc).1]at x2;simp only[l9]at x2;split at x2
        .rename_i e;subst e;exact hDb
        .simp[x1]at x2
      exact⟨fun k l hk hd=>hv.ok k l hk (aux k hd),fun k k' l l' b' a1 a2 a3 hd=>hv.own k k' l l' b' a1 a2 a3 (aux k hd),hv.inb⟩
     have aqk:arr.size=n*sz:=by have:=ZY.len;simp at this;omega
     have agY:p.base=0∧p.ext<=cs.length:=by
      obtain⟨fP,q1,q2⟩:=hV.ok _ _ hb hDb;rw[hg]at q1;cases q1;exact⟨(q2.2.1 p hp).base hk,(q2.2.1 p hp).ext⟩
     by_cases Em:len+n<=cap'
     .-- in place
      rcases ha with ha|⟨rfl,ha⟩
      .omega
      have ab1:(len+n)*sz<=cap'*sz:=a3z sz Em;have EH:∀v∈arr.toList,v.oneCell'=true:=by
       intro v hv;obtain⟨i,hi,rfl⟩:=a4h.1 hv;have wY:i<new.length:=by simp at hi;omega
       exact Ia (ZY.at_ i new[i] arr.toList[i] (by simp[wY]) (by simp)) (s2' _ (a4d wY))
      obtain⟨fP,q1,q2⟩:=hV.ok _ _ hb hDb;rw[hg]at q1;cases q1;obtain⟨row,rty,rfz,z1,z2,z3,z4⟩:=(q2.2.1 p hp).row;have:=z3 hk;subst this;have uX:=run_storeCells_at (P:=P) p.c cs.length rty arr.toList 0 row w z1 (by simp;omega) EH;obtain⟨M',q,v1,v2,v3,⟨xH,v4,v5⟩,v6,v7,v8⟩:=ZW (P:=P) hV hb hDb hbc hk hp (by omega) ZY s2' ab2 true #[] #[] 0 (.inl ⟨rfl,by omega,uX⟩);rcases v8 with⟨_,v9,v10⟩|⟨v9,_⟩
      .refine⟨rfl,_,_,M',QA (P:=P) (w:=w) (ty:=ty) (a:=⟨p.c,p.base+0,none⟩) h0 h1 hu hn Jz hdd rfl s1' Em (TA w rfl) (by rw[tZ,agY.1];simp only[a3E,ade];rw[<-pU];exact uX),⟨hnb _ _ v1,v2,?_,v3⟩⟩;refine .val (.slc v4 (.inr v5) (by omega) (a1J _) Em (fun h=>by simp at h) (.inr ⟨by rw[v9,v7,agY.1],by rw[v7,v10];omega⟩) hkc)
      .cases v9
     .-- a new row
      have qo:fB sz s.heap (.slc b 0 len len sz ex)=some (len,cs):=by
       have:sub cs 0 (len*sz)=some cs:=by
        unfold sub;rw[a0V (by omega)];simp[<-pU]
       simp[fB,lH,hbc,this,pU,qC]
      obtain⟨t1',t2',a4k,t3',t4'⟩:=BP (P:=P) (fun b=>rfl) hV qo hd0 (fun k hk=>by simp[dD]at hk;rw[hk];exact hDb);obtain⟨jY,c1,c1',c2⟩:=EL (P:=P) (w:=w) (ty:=ty) (base:=some a) (sLen:=len) (sCap:=cap') (old:=a4k) (new:=arr) h0 h1 hu hn Jz hdd hi hiz rfl s1' (by omega) BN xM hb3 t3' TA;obtain⟨M',q,v1,v2,v3,⟨xH,v4,v5⟩,v6,v7,v8⟩:=ZW (P:=P) hV hb hDb hbc hk hp (by omega) ZY s2' ab2 false a4k (Builtin.zeroCells z.cells (jY-(len+n))) e (.inr ⟨rfl,t4',rfl⟩);rcases v8 with⟨v9,_⟩|⟨_,v10,v11⟩
      .cases v9
      .refine⟨rfl,_,_,M',c2,⟨hnb _ _ v1,v2,?_,v3⟩⟩;refine .val (.slc v4 (.inr v5) (by omega) (a1J _) c1 (fun h=>by simp at h) (.inr ⟨by rw[v10,v7],?_⟩) c1');rw[v11,v7];have QC:=t4'.len;simp only[a9q]at QC;have hm3:(len+n)*sz+(jY-(len+n))*sz=jY*sz:=by rw[<-a3A];congr 1;omega
       simp only[Array.size_append,vW,hzs,uN];omega
 .simp at h
end
section
variable {P:Program} {M:Mp} {D:Key->Prop} {w:World} {s:St}
theorem a4m{cs l:List TV}{off n m:Nat}(h:sub cs off n=some l)(hm:m<=n):sub cs off m=some (l.take m):=by
 obtain⟨h1,h2,h3⟩:=uf h;unfold sub;rw[a0V (by omega),h2,afJ,a8d hm]
theorem TB{at_:Array TypeId}{ty:TypeId}{d x r:TV}{s1:St}{i:lG}{dv xv:Value}(hV:Valid M D s.get w)
  (h:FP P at_ s d x=some (r,s1,i)) (hd:VR M.h d dv) (hx:VR M.h x xv) (hD:∀k∈i.ts,D k) :
  s1.env=s.env∧BOk P M D s.get w (Builtin.copy_ at_ ty #[dv,xv]) r s1.get i.ws:=by
 unfold FP at h;split at h
 case h_2=>simp at h
 rename_i st h0;split at h
 case h_2=>simp at h
 rename_i e size zH;obtain⟨hu,hn,hn0⟩:=qK zH;split at h
 case h_2=>simp at h
 rename_i n new lN;split at h
 case isFalse=>simp at h
 rename_i hlen;obtain⟨hlen,Na⟩:=hlen;have first:∀(m:Nat),m<=n->(∀k∈dD x,D k)->(Builtin.lenOf xv).run P w=.ok n w∧(∀c∈new.take (m*size),iO c=true) ∧
   ∃arr,(Builtin.firstCells size m xv).run P w=.ok arr w∧bU M.h (new.take (m*size)) arr.toList:=by
  intro m hm hDs;obtain⟨s1',s2',arr,TA,ZY⟩:=BP (P:=P) (fun b=>rfl) hV lN hx hDs;refine⟨s1',fun c hc=>s2' c (a8Z hc),?_⟩;have hmul:m*size<=n*size:=a3z size hm;cases hx with
  |Tf=>
   unfold fB at lN;simp at lN;obtain⟨rfl,rfl⟩:=lN;exact⟨#[],by simp[Builtin.firstCells],by simpa using bU.nil⟩
  |slc hb hp EJ hle vV hex ha hk=>
   rename_i b off len cap sz ex ls p a cap';unfold fB at lN;simp only at lN;split at lN
   case isFalse=>simp at lN
   rename_i uN;subst uN;split at lN
   .rename_i hz;simp at lN;obtain⟨rfl,rfl⟩:=lN;have:m=0:=(by omega);subst this;exact⟨#[],by simp[Builtin.firstCells,loadCells,loadCellsFrom],by simpa using bU.nil⟩
   split at lN
   case h_2=>simp at lN
   rename_i cs hbc;simp only[a0D,a1o]at lN;obtain⟨r',hr,rfl,rfl⟩:=lN;obtain⟨k,hk,Vk⟩:=xI hbc;obtain⟨fP,h1,h2⟩:=hV.ok _ _ hb (hDs _ (by simp[dD]));simp only[St.get,hk,a01]at h1;subst h1;by_cases h00:cap'=0
   .have qC:len=0:=(by omega);subst qC;have:m=0:=(by omega);subst this;exact⟨#[],by simp[Builtin.firstCells,loadCells,loadCellsFrom],by simpa using bU.nil⟩
   .rcases ha with ha|⟨rfl,ha⟩
    .exact absurd ha h00
    .obtain⟨xs,x1,x2⟩:=yw (P:=P) (h2.2.1 p (hp.resolve_left h00)) (a4m hr hmul) (by have:=a3z sz hle;omega) (fun e=>by have:=Vk e;have:=(h2.2.1 p (hp.resolve_left h00)).ext;omega);exact⟨xs.toArray,by simp[Builtin.firstCells,x2 w rfl],x1⟩
  |str bs=>simp[isStr]at Na
  |_=>simp[fB]at lN
 split at h
 .simp at h;obtain⟨rfl,rfl,rfl⟩:=h;cases hd;obtain⟨f1,f2,arr,f3,f4⟩:=first 0 (a4A _) hD
  have f5:=f4.len;simp at f5;exact⟨rfl,.int .i64 0,w,M,by simp[Builtin.copy_,h0,run_underlying hu,f1,bY hn,f3,goInt],.same hV (.val (.int _ _))⟩
 .rename_i b off len cap sz ex;split at h
  case isFalse=>simp at h
  rename_i uN;subst uN;have hd0:=hd;cases hd with
  |slc hb hp EJ hle vV hex ha hk=>
  rename_i ls p a cap';split at h
  .rename_i hm;simp at h;obtain⟨rfl,rfl,rfl⟩:=h;obtain⟨f1,f2,arr,f3,f4⟩:=first 0 (a4A _) hD
   have f5:arr.toList=[]:=by
    have:=f4.len;simp only[acr,List.take_zero,a5q]at this;exact a3F this.symm
   refine⟨rfl,.int .i64 0,w,M,?_,.same hV (.val (.int _ _))⟩;have e1:Nat.min n len=0:=hm;simp[Builtin.copy_,h0,run_underlying hu,f1,bY hn,e1,f3,goInt,f5,storeCells]
  .rename_i hm;simp only[a0D,a1o]at h;obtain⟨hp',EM,rfl,rfl,rfl⟩:=h;obtain⟨kk,AX,cs,cs',hbc,xJ,ho,rfl⟩:=Ic EM;obtain⟨f1,f2,arr,f3,f4⟩:=first (min n len) (Nat.min_le_left _ _) (fun k hk=>hD k (a3w _ hk))
   have hg:s.get (.h b)=some (.cells kk cs):=(by simp[St.get,hbc]);have yL:=(a02.1 hbc).1;rcases ha with ha|⟨rfl,ha⟩
   .omega
   obtain⟨w',r1,r2,r3⟩:=yI (P:=P) hV hb (hD (.h b) (by simp)) hg (hp.resolve_left (by omega)) (hV.Y6 hb (hD (.h b) (by simp)) hg (hp.resolve_left (by omega)) EJ xJ) ho f4 f2;refine⟨rfl,.int .i64 (min n len:Nat),w',M,?_,⟨?_,?_,.val (.int _ _),fun _ _ h=>h⟩⟩
   .have e1:Nat.min n len=min n len:=rfl;simp[Builtin.copy_,h0,run_underlying hu,f1,bY hn,e1,f3,goInt,r1]
   .rw[ji s b _ yL];exact r2.widen (Dl (by simp[hg]))
   .rw[ji s b _ yL];exact r3
 .simp at h
end
section
variable {P:Program} {M:Mp} {D:Key->Prop} {w:World} {s:St} {N:Np}
theorem bI{α β:Type}(x:Sem α)(f:α->Sem β):aB P (x >>= f)=(aB P x).bind fun a=>aB P (f a):=by
 show aB P (x.bind f)=_
 induction x with
 |pure a=>rfl
 |program k ih=>exact ih P
 |mark m k ih=>exact ih
 |_=>rfl
def Ii(b:Nat->Bool)(L:List MapEntry)(i0:Nat):Option (Nat×Value)->Prop
 |none=>∀i,i<L.length->b i=false
 |some (i,v)=>i0<=i∧b (i-i0)=true∧∃x,L[i-i0]? = some x∧v=x.val
theorem Ii.succ{b:Nat->Bool}{e:MapEntry}{L:List MapEntry}{i0:Nat}{r:Option (Nat×Value)}(hb:b 0=false)(h:Ii (fun i=>b (i+1)) L (i0+1) r):Ii b (e::L) i0 r:=by
 cases r with
 |none=>
  intro i hi;cases i with
  |zero=>exact hb
  |succ i=>exact h i (by simpa using hi)
 |some r=>
  obtain⟨h1,h2,x,h3,h4⟩:=h;have e1:r.1-i0=(r.1-(i0+1))+1:=by omega
  refine⟨by omega,by rw[e1];exact h2,x,by rw[e1];simpa using h3,h4⟩
theorem JA(kind:TypeDesc)(k:Value):∀(L:List MapEntry) (i0:Nat) (b:Nat->Bool),(∀i x,L[i]? = some x->Instr.sameNow kind k x.key=some (b i)) ->
  ∃r,Instr.findNow kind k L i0=some r∧Ii b L i0 r
 | [],i0,b,_=>⟨none,rfl,fun i hi=>absurd hi (by simp)⟩
 |e::L,i0,b,h=>by
  have h0:=h 0 e rfl;obtain⟨r,g1,g2⟩:=JA kind k L (i0+1) (fun i=>b (i+1)) fun i x hx=>h (i+1) x (by simpa using hx);simp only[Instr.findNow,h0];cases hb:b 0 with
  |true=>exact⟨_,rfl,a1J _,by simpa using hb,e,by simp,rfl⟩
  |false=>exact⟨r,g1,g2.succ hb⟩
theorem BQ(kt:TypeId)(k:Value):∀(L:List MapEntry) (i0:Nat) (b:Nat->Bool),(∀i x,L[i]? = some x->aB P (Op.equal kt k x.key)=some (b i)) ->
  ∃r,(∀w,(Instr.findAsking kt k L i0).run P w=.ok r w)∧Ii b L i0 r
 | [],i0,b,_=>⟨none,fun w=>rfl,fun i hi=>absurd hi (by simp)⟩
 |e::L,i0,b,h=>by
  have h0:=fun w=>iT (h 0 e rfl) w;obtain⟨r,g1,g2⟩:=BQ kt k L (i0+1) (fun i=>b (i+1)) fun i x hx=>h (i+1) x (by simpa using hx);cases hb:b 0 with
  |true=>exact⟨some (i0,e.val),fun w=>by simp[Instr.findAsking,h0 w,hb],a1J _,by simpa using hb,e,by simp,rfl⟩
  |false=>exact⟨r,fun w=>by simp[Instr.findAsking,h0 w,hb,g1 w],g2.succ hb⟩
theorem a00:∀{l:List TV} {vs:List Value},Bh l=some vs->∀(i:Nat) (c:TV),l[i]? = some c->∃v,vs[i]? = some v∧c.yt=some v
 | [],vs,h,i,c,hc=>by simp at hc
 |a::l,vs,h,i,c,hc=>by
  simp only[Bh]at h;split at h
  .rename_i v ws h1 h2;cases h;cases i with
   |zero=>simp at hc;subst hc;exact⟨v,rfl,h1⟩
   |succ i=>simpa using a00 h2 i c (by simpa using hc)
  cases h
def FR(N:Np)(o:List Nat)(es:List (TV×TV))(xs:Array MapEntry):Option Nat->Option (Nat×Value)->Prop
 |none,none=>True
 |some j,some (i,v)=>o[i]? = some j∧∃e x,es[j]? = some e∧xs[i]? = some x∧v=x.val∧VR N e.1 x.key∧VR N e.2 x.val
 |_,_=>False
theorem FY{o:List Nat}{kt:TypeId}{k:Value}{es:List (TV×TV)}{r:Option Nat}{xs:Array MapEntry}(h:Ed P kt k es=some r)(hx:vS N o es xs) :
  (∀w,(Instr.checkKey xs.isEmpty 10000 kt k).run P w=.ok () w)∧∃r',(∀w,(Instr.findKey kt k xs.toList).run P w=.ok r' w) ∧
   FR N o es xs r r':=by
 unfold Ed at h;split at h
 case h_2=>simp at h
 rename_i ks En;split at h
 case h_2=>simp at h
 rename_i r0 hr;split at h
 case isFalse=>simp at h
 rename_i QD;cases h;generalize r0.map (·.1)=r at QD ⊢;have hl:es.isEmpty=xs.isEmpty:=by
  rw[a4g];simp[List.isEmpty_iff,<-a7O,hx.len]
 have Jw:ks.length=es.length:=by
  have:∀{l:List TV} {vs:List Value},Bh l=some vs->vs.length=l.length:=by
   intro l
   induction l with
   |nil=>intro vs h;simp[Bh]at h;subst h;rfl
   |cons a l ih=>
    intro vs h;simp only[Bh]at h;split at h
    .rename_i v ws h1 h2;cases h;simp[ih h2]
    .cases h
  simpa using this En
 rw[bI]at hr;cases hc:aB P (Instr.checkKey es.isEmpty 10000 kt k)with
 |none=>simp[hc]at hr
 |some u=>
  refine⟨fun w=>by rw[<-hl];exact iT hc w,?_⟩;unfold Vb at QD;split at QD
  case h_2=>simp at QD
  rename_i kind hd;have hdr:=fun w=>iT hd w;simp only[a2r]at QD;obtain⟨hj,hs⟩:=QD;have a8B:∀(i:Nat) (x:MapEntry),xs.toList[i]? = some x->∃(j:Nat) (e:TV×TV),o[i]? = some j∧es[j]? = some e∧VR N e.1 x.key∧VR N e.2 x.val∧ks[j]? = some x.key:=by
   intro i x hi;obtain⟨_,j,e,h1,h2,h3,h4⟩:=hx.at_ i x (by simpa using hi);obtain⟨v,g1,g2⟩:=a00 En j e.1 (by simp[h2]);exact⟨j,e,h1,h2,h3,h4,by rw[g1,vP g2 h3]⟩
  let b:Nat->Bool:=fun i=>o[i]? == r
  have hb:∀i j,o[i]? = some j->b i=(some j==r):=fun i j h=>by simp only[b,h]
  have fin:∀r',Ii b xs.toList 0 r'->FR N o es xs r r':=by
   intro r' hf;cases r' with
   |none=>
    cases r with
    |none=>trivial
    |some j=>
     simp only[a1T]at hj;obtain⟨i,hi⟩:=a8n.1 (hx.sur j (by omega));have h1:=hf i (by have:=(a02.1 hi).1;have:=hx.ord;simp;omega);rw[hb i j hi]at h1;simp at h1
   |some q=>
    obtain⟨i,v⟩:=q;obtain⟨_,h1,x,h2,h3⟩:=hf;simp only[Nat.sub_zero]at h1 h2;obtain⟨j,e,g1,g2,g3,g4,_⟩:=a8B i x h2;rw[hb i j g1]at h1;simp only[a7k]at h1;subst h1;exact⟨g1,e,x,g2,by simpa using h2,h3,g3,g4⟩
  have EO:∀{p:Value×Nat->Bool},ks.zipIdx.all p=true->∀j x,ks[j]? = some x->p (x,j)=true:=by
   intro p hp j x hjx;exact a4f.1 hp (x,j) (a95.2 (by simpa using hjx))
  unfold Instr.findKey;rcases a8t _ _▸hs with hs|hs
  .obtain⟨r',g1,g2⟩:=JA kind k xs.toList 0 b fun i x hi=>by
    obtain⟨j,e,h1,_,_,_,h5⟩:=a8B i x hi;have:=EO hs j _ h5;simp only[a7k]at this;rw[this,hb i j h1]
   exact⟨r',fun w=>by simp[hdr w,g1],fin r' g2⟩
  .by_cases h0:xs.toList=[]
   .refine⟨none,fun w=>by simp[hdr w,h0,Instr.findNow],fin none (by rw[h0];intro i hi;simp at hi)⟩
   .have hno:Instr.findNow kind k xs.toList 0=none:=by
     cases hL:xs.toList with
     |nil=>exact absurd hL h0
     |cons x L=>
      obtain⟨j,e,h1,_,_,_,h5⟩:=a8B 0 x (by rw[hL];rfl);have:=EO hs j _ h5;simp only[a2r,a7k]at this;simp only[Instr.findNow,this.1]
    obtain⟨r',g1,g2⟩:=BQ (P:=P) kt k xs.toList 0 b fun i x hi=>by
     obtain⟨j,e,h1,_,_,_,h5⟩:=a8B i x hi;have:=EO hs j _ h5;simp only[a2r,a7k]at this;rw[this.2,hb i j h1]
    exact⟨r',fun w=>by simp[hdr w,hno,g1 w],fin r' g2⟩
theorem Dn{t:TypeId}{m k r:TV}{ok:Bool}{mv kv:Value}(hV:Valid M D s.get w)(h:gK P t s.heap m k ok=some r)(hm:VR M.h m mv)(hk:VR M.h k kv)
  (hD:∀j∈(match m with|.map r=>[Key.h r] |_=>[]),D j):∃z,VR M.h r z∧(Instr.lookup t mv kv ok).run P w=.ok z w:=by
 unfold gK at h;split at h
 case h_2=>simp at h
 rename_i kt e kx hu hkx;have:=vP hkx hk;subst this;simp only at h;have main:∀(o:List Nat) (es:List (TV×TV)) (xs:Array MapEntry),vS M.h o es xs->((mv=.map none∧xs=#[])∨∃r1 ck,mv=.map (some r1)∧w.heap[r1]? = some (.map xs ck)) ->
   (match Ed P kt kv es with
   |some (some i)=>match es[i]? with
    |some (_,v)=>some (if ok then .dG [v,.bool true]else v)
    |none=>none
   |some none=>match P.info? e with
    |some i=>match i.zero with
     |some z=>(TV.V5 z).map fun z=>if ok then .dG [z,.bool false]else z
     |none=>none
    |none=>none
   |none=>none)=some r->∃z,VR M.h r z∧(Instr.lookup t mv kv ok).run P w=.ok z w:=by
  intro o es xs hx uX h;cases hf:Ed P kt kv es with
  |none=>simp[hf]at h
  |some r0=>
   rw[hf]at h;obtain⟨c1,r',c2,c3⟩:=FY hf hx;cases r0 with
   |some j=>
    cases r' with
    |none=>exact c3.elim
    |some jv=>
     obtain⟨j',v⟩:=jv;obtain⟨_,e',x',e1,e2,rfl,_,hv⟩:=c3;simp only[e1,a01]at h;subst h;refine⟨if ok then .tuple #[x'.val,.bool true]else x'.val,?_,?_⟩
     .cases ok
      .exact hv
      .exact .PN (.cons hv (.cons (.bool true) .nil))
     .rcases uX with⟨rfl,rfl⟩|⟨r1,ck,rfl,hmp⟩
      .simp only[Instr.lookup,Sem.run_bind,run_underlying hu,Result.andThen_ok,c1 w,c2 w,Sem.run_pure]
      .simp only[Instr.lookup,Sem.run_bind,run_underlying hu,Result.andThen_ok,getObj,Sem.run,hmp,c1 w,c2 w,Sem.run_pure]
   |none=>
    cases r' with
    |some jv=>exact c3.elim
    |none=>
     simp only at h;split at h
     case h_2=>simp at h
     rename_i inf hi;split at h
     case h_2=>simp at h
     rename_i z hz;simp only[a0D]at h;obtain⟨zt,hzt,rfl⟩:=h;have hv:VR M.h zt z:=.yu hzt;refine⟨if ok then .tuple #[z,.bool false]else z,?_,?_⟩
     .cases ok
      .exact hv
      .exact .PN (.cons hv (.cons (.bool false) .nil))
     .have ZN:(zeroValue e).run P w=.ok z w:=(by simp[zeroValue,iP hi,hz]);rcases uX with⟨rfl,rfl⟩|⟨r1,ck,rfl,hmp⟩
      .simp only[Instr.lookup,Sem.run_bind,run_underlying hu,Result.andThen_ok,c1 w,c2 w,Sem.run_pure,ZN]
      .simp only[Instr.lookup,Sem.run_bind,run_underlying hu,Result.andThen_ok,getObj,Sem.run,hmp,c1 w,c2 w,Sem.run_pure,ZN]
 cases hm with
 |Y4=>exact main [] [] #[] ⟨rfl,rfl,.nil,by simp,by simp⟩ (.inl ⟨rfl,rfl⟩) h
 |map hmm=>
  rename_i r0 r1 o1;obtain⟨fP,b1,b2⟩:=hV.ok _ _ hmm (hD _ (by simp));simp only[St.get]at b1;simp only[b1]at h;cases fP with
  |map es=>
   obtain⟨xs,g1,g2⟩:=b2;exact main o1 es xs g2 (.inr ⟨r1,xs.size,rfl,g1⟩) h
  |cells k cs=>exact b2.elim
  |loop=>simp at h
  |mark=>simp at h
  |mg=>simp at h
  |cu=>simp at h
 |_=>simp at h
end
section
variable {P:Program} {M:Mp} {D:Key->Prop} {w:World} {s:St}
theorem yM(hV:Valid M D s.get w){r r1:Nat}{o o':List Nat}{es fO:List (TV×TV)}{xs xs':Array MapEntry}(hm:M (.h r)=some (.obj r1 o))(hd:D (.h r))(hb:s.heap[r]? = some (.map es))
  (hr:w.heap[r1]? = some (.map xs xs.size)) (ho:o <+: o') (hx:vS (dJ M (.h r) (.obj r1 o')).h o' fO xs') :
  Valid (dJ M (.h r) (.obj r1 o')) (fun j=>D j∨(s.get j=none∧(St.get { s with heap:=s.heap.set r (.map fO) } j).isSome=true)) (St.get { s with heap:=s.heap.set r (.map fO) }) { w with heap:=w.heap.setIfInBounds r1 (.map xs' xs'.size) } ∧
  Ext M s.get w (dJ M (.h r) (.obj r1 o')) (St.get { s with heap:=s.heap.set r (.map fO) }) { w with heap:=w.heap.setIfInBounds r1 (.map xs' xs'.size) } [.h r]:=by
 have hg:s.get (.h r)=some (.map es):=by simp[St.get,hb]
 have yL:=(a02.1 hb).1;have hle:rV M (dJ M (.h r) (.obj r1 o')):=lM fun l0 h0=>by rw[hm]at h0;cases h0;exact⟨rfl,ho⟩
 have aQ:r1<w.heap.size:=(a2s.1 hr).1;have fU:∀c,c<w.heap.size->c∉aI (.obj r1 o')->(w.heap.setIfInBounds r1 (Obj.map xs' xs'.size))[c]? = w.heap[c]?:=fun c _ hc=>by
  rw[a8o,a0S (by simp[aI]at hc;omega)]
 have gQ:∀c∈aI (.obj r1 o'),(∃l0,M (.h r)=some l0∧c∈aI l0)∨w.heap.size<=c:=fun c hc=>.inl ⟨_,hm,hc⟩;constructor
 .rw[ji s r _ yL];refine Valid.widen ?_ (Dl (by simp[hg]));exact hV.upd (D':=D) (w':={ w with heap:=w.heap.setIfInBounds r1 (.map xs' xs'.size) }) (.h r) (.map fO) (.obj r1 o') (fun j hj=>.inl hj) (fun l0 h0=>by
   rw[hm]at h0;cases h0;exact⟨hd,⟨rfl,ho⟩,fun b0 zG=>by rw[hg]at zG;cases zG;rfl⟩) fU gQ (by simp) ⟨xs',by simp[aQ],hx⟩
 .rw[ji s r _ yL];exact Ext.upd (M:=M) (C:=s.get) (w:=w) (w':={ w with heap:=w.heap.setIfInBounds r1 (.map xs' xs'.size) }) (.h r) (.map fO) (.obj r1 o') [.h r] (.inl ⟨by simp[hg],rfl,by simp[hm],fun b0 zG=>by rw[hg]at zG;cases zG;rfl⟩) hle fU gQ (by simp) rfl rfl rfl
theorem vS.lt{N:Np}{o:List Nat}{es:List (TV×TV)}{xs:Array MapEntry}(g2:vS N o es xs):∀j∈o,j<es.length:=fun j hj=>by
 obtain⟨i,hi⟩:=a8n.1 hj;have:i<xs.size:=by rw[<-g2.ord];exact(a02.1 hi).1
 obtain⟨_,j',e,z1,z2,_⟩:=g2.at_ i _ (a3C this);rw[hi]at z1;cases z1;exact(a02.1 z2).1
theorem vS.upd{N N':Np}{o:List Nat}{es:List (TV×TV)}{xs:Array MapEntry}(g2:vS N o es xs)(hle:rV N N'){i j:Nat}{x':MapEntry}{f:MapEntry->MapEntry}{k v:TV}
  (q1:o[i]? = some j) (e2:xs[i]? = some x') (hb:(f x').born=x'.born) (hk:VR N' k (f x').key) (hv:VR N' v (f x').val):vS N' o (es.set j (k,v)) (xs.modify i f):=by
 have g3:=g2.mono hle;refine⟨by simp[g2.len],by simp[g2.ord],g2.nod,fun j' Ei=>g2.sur j' (by simpa using Ei),fun a x h2=>?_⟩;rw[abb]at h2;by_cases ha:i=a
 .subst ha;rw[a0V rfl,e2]at h2;simp only[a1z,a01]at h2;subst h2;obtain⟨z1,j2,e2',z2,z3,_⟩:=g2.at_ i x' e2;rw[q1]at z2;cases z2;exact⟨hb.trans z1,j,(k,v),q1,by rw[a9f];simp[(a02.1 z3).1],hk,hv⟩
 .rw[a0S ha]at h2;obtain⟨z1,j2,e2',z2,z3,z4,z5⟩:=g3.at_ a x h2;refine⟨z1,j2,e2',z2,?_,z4,z5⟩;have iq:j≠j2:=fun e=>by
   subst e;have i1:=a02.1 q1;have i2:=a02.1 z2;exact ha ((aa7 g2.nod (h₀:=i1.1) (h₁:=i2.1)).1 (i1.2.trans i2.2.symm))
  rw[a9f,a0S iq];exact z3
theorem vS.push{N N':Np}{o:List Nat}{es:List (TV×TV)}{xs:Array MapEntry}(g2:vS N o es xs)(hle:rV N N'){k v:TV}{kv vv:Value}
  (hk:VR N' k kv) (hv:VR N' v vv):vS N' (o++[es.length]) (es++[(k,v)]) (xs.push { key:=kv,val:=vv,born:=xs.size }):=by
 have aQ:=g2.lt;have g3:=g2.mono hle;refine⟨by simp[g2.len],by simp[g2.ord],?_,fun j hj=>?_,fun a x h2=>?_⟩
 .rw[a8l];exact⟨g2.nod,by simp,fun x hx y hy=>by simp at hy;subst hy;have:=aQ x hx;omega⟩
 .simp only[a2m,a3J,a5q]at hj;rcases a3L j es.length with h1|h1
  .exact a5u _ (g2.sur j h1)
  .exact abj _ (by simp;omega)
 .rw[Array.getElem?_push]at h2;by_cases ha:a=xs.size
  .rw[a0V ha]at h2;simp only[a01]at h2;subst h2;exact⟨ha.symm,es.length,(k,v),by rw[a1H (by rw[g2.ord];omega),g2.ord,ha];simp,by simp,hk,hv⟩
  .rw[a0S ha]at h2;obtain⟨z1,j2,e2',z2,z3,z4,z5⟩:=g3.at_ a x h2;exact⟨z1,j2,e2',by rw[a0N (a02.1 z2).1];exact z2,by rw[a0N (a02.1 z3).1];exact z3,z4,z5⟩
theorem QE{t:TypeId}{m k v:TV}{s1:St}{i:lG}{mv kv vv:Value}(hV:Valid M D s.get w)(h:xE P t s m k v=some (s1,i))(hm:VR M.h m mv)(hk:VR M.h k kv)(hv:VR M.h v vv)
  (hD:∀j∈i.ts,D j):s1.env=s.env∧∃w' M',(Instr.mapUpdate t mv kv vv).run P w=.ok () w' ∧
   Valid M' (fun j=>D j∨(s.get j=none∧(s1.get j).isSome=true)) s1.get w'∧Ext M s.get w M' s1.get w' i.ws∧(∀k l,M (.l k)=some l->M' (.l k)=some l):=by
 unfold xE at h;split at h
 case h_2=>simp at h
 rename_i kt et kx r hu hkx;have:=vP hkx hk;subst this;split at h
 case h_2=>simp at h
 rename_i es KP hck;have c0:=iT hck w;cases hm with
 |map hmm=>
 rename_i r1 o1;have yN:∀o',∀k l,M (.l k)=some l->dJ M (.h r) (.obj r1 o') (.l k)=some l:=fun o' k l h=>by simp[dJ,h]
 have go:D (.h r)->∃xs,w.heap[r1]? = some (.map xs xs.size)∧vS M.h o1 es xs:=by
  intro hd;obtain⟨fP,b1,b2⟩:=hV.ok _ _ hmm hd;simp only[St.get,KP,a01]at b1;subst b1;exact b2
 split at h
 .-- an entry that is there
  rename_i j hf;split at h
  case h_2=>simp at h
  rename_i old ov0 hj;split at h
  case h_2=>simp at h
  rename_i ov hov;split at h
  case isFalse=>simp at h
  rename_i Vr;simp only[a01,a1o]at h;obtain⟨rfl,rfl⟩:=h;have hd:=hD (.h r) (by simp[oM]);obtain⟨xs,g1,g2⟩:=go hd;obtain⟨c1,r',c2,c3⟩:=FY hf g2;cases r' with
  |none=>exact c3.elim
  |some jv=>
   obtain⟨i,v'⟩:=jv;obtain⟨q1,e',x',e1,e2,rfl,q2,_⟩:=c3;rw[hj]at e1;cases e1;have hold:x'.key=ov:=vP hov q2;have hle:rV M (dJ M (.h r) (.obj r1 o1)):=lM fun l0 h0=>by
    have h0':M (.h r)=some l0:=h0;have PU:M (.h r)=some (.obj r1 o1):=hmm;rw[PU]at h0';cases h0';exact .refl _
   have EK:=g2.upd (f:=fun e=>{ e with key:=kv,val:=vv }) hle.h q1 e2 rfl (hk.mono hle.h) (hv.mono hle.h);obtain⟨v1,v2⟩:=yM hV hmm hd KP g1 (ag9 _) EK;refine⟨rfl,_,_,?_,v1,v2,yN _⟩;simp only[Instr.mapUpdate,Sem.run_bind,run_underlying hu,Result.andThen_ok,getObj,Sem.run,g1];simp only[c0,c2 w,Result.andThen_ok,e2,a1z,a4s,Instr.keyThatStays,hold,Vr,a2D,setObj];simp only[Sem.run_bind,Sem.run_pure,Result.andThen_ok,Sem.run,g1,Array.size_modify]
 .-- a new entry
  rename_i hf;simp only[a01,a1o]at h;obtain⟨rfl,rfl⟩:=h;have hd:=hD (.h r) (by simp[oM]);obtain⟨xs,g1,g2⟩:=go hd;obtain⟨c1,r',c2,c3⟩:=FY hf g2;cases r' with
  |some jv=>exact c3.elim
  |none=>
   have a4n:o1 <+: o1++[es.length]:=⟨_,rfl⟩;have hle:rV M (dJ M (.h r) (.obj r1 (o1++[es.length]))):=lM fun l0 h0=>by
    have h0':M (.h r)=some l0:=h0;have PU:M (.h r)=some (.obj r1 o1):=hmm;rw[PU]at h0';cases h0';exact⟨rfl,a4n⟩
   have EK:=g2.push hle.h (hk.mono hle.h) (hv.mono hle.h);obtain⟨v1,v2⟩:=yM hV hmm hd KP g1 a4n EK;refine⟨rfl,_,_,?_,v1,v2,yN _⟩;simp only[Instr.mapUpdate,Sem.run_bind,run_underlying hu,Result.andThen_ok,getObj,Sem.run,g1];simp only[c0,c2 w,Result.andThen_ok,setObj,Sem.run,g1,Array.size_push]
 .simp at h
theorem a1N{t:TypeId}{m k:TV}{e:EV}{s1:St}{i:lG}{mv kv:Value}(hV:Valid M D s.get w)(h:zL P t s m k=some (e,s1,i))(hm:VR M.h m mv)(hk:VR M.h k kv)
  (hD:∀j∈i.ts,D j):s1.env=s.env∧∃x w' M',(Instr.mapEntry t mv kv).run P w=.ok x w'∧ER M' e x ∧
   Valid M' (fun j=>D j∨(s.get j=none∧(s1.get j).isSome=true)) s1.get w'∧Ext M s.get w M' s1.get w' i.ws∧(∀k l,M (.l k)=some l->M' (.l k)=some l):=by
 unfold zL at h;split at h
 case h_2=>simp at h
 rename_i kt et kx r hu hkx;have:=vP hkx hk;subst this;split at h
 case h_2=>simp at h
 rename_i es KP hck;have c0:=iT hck w;cases hm with
 |map hmm=>
 rename_i r1 o1;have yN:∀o',∀k l,M (.l k)=some l->dJ M (.h r) (.obj r1 o') (.l k)=some l:=fun o' k l h=>by simp[dJ,h]
 have go:D (.h r)->∃xs,w.heap[r1]? = some (.map xs xs.size)∧vS M.h o1 es xs:=by
  intro hd;obtain⟨fP,b1,b2⟩:=hV.ok _ _ hmm hd;simp only[St.get,KP,a01]at b1;subst b1;exact b2
 have I5:∀o',dJ M (.h r) (.obj r1 o') (.h r)=some (.obj r1 o'):=fun o'=>by simp[dJ]
 split at h
 .rename_i j hf;split at h
  case h_2=>simp at h
  rename_i old v0 hj;split at h
  case h_2=>simp at h
  rename_i ov hov;split at h
  case isFalse=>simp at h
  rename_i Vr;simp only[a01,a1o]at h;obtain⟨rfl,rfl,rfl⟩:=h;have hd:=hD (.h r) (by simp[oM]);obtain⟨xs,g1,g2⟩:=go hd;obtain⟨c1,r',c2,c3⟩:=FY hf g2;cases r' with
  |none=>exact c3.elim
  |some jv=>
   obtain⟨i,v'⟩:=jv;obtain⟨q1,e',x',e1,e2,rfl,q2,q3⟩:=c3;rw[hj]at e1;cases e1;have hold:x'.key=ov:=vP hov q2;have hle:rV M (dJ M (.h r) (.obj r1 o1)):=lM fun l0 h0=>by
    have h0':M (.h r)=some l0:=h0;have PU:M (.h r)=some (.obj r1 o1):=hmm;rw[PU]at h0';cases h0';exact .refl _
   have EK:=g2.upd (f:=fun e=>{ e with key:=kv }) hle.h q1 e2 rfl (hk.mono hle.h) (q3.mono hle.h);obtain⟨v1,v2⟩:=yM hV hmm hd KP g1 (ag9 _) EK;refine⟨rfl,.tuple #[x'.val,Go.goInt i],_,_,?_,.ent (I5 _) q1 (q3.mono hle.h),v1,v2,yN _⟩;simp only[Instr.mapEntry,Sem.run_bind,run_underlying hu,Result.andThen_ok,getObj,Sem.run,g1];simp only[c0,c2 w,Result.andThen_ok,e2,a1z,a4s,Instr.keyThatStays,hold,Vr,a2D,setObj,(g2.at_ i x' e2).1];simp only[Sem.run_bind,Sem.run_pure,Result.andThen_ok,Sem.run,g1,Array.size_modify]
 .rename_i hf;split at h
  case h_2=>simp at h
  rename_i inf hi;split at h
  case h_2=>simp at h
  rename_i z hz;split at h
  case h_2=>simp at h
  rename_i zt hzt;simp only[a01,a1o]at h;obtain⟨rfl,rfl,rfl⟩:=h;have hd:=hD (.h r) (by simp[oM]);obtain⟨xs,g1,g2⟩:=go hd;obtain⟨c1,r',c2,c3⟩:=FY hf g2;have ZN:(zeroValue et).run P w=.ok z w:=by simp[zeroValue,iP hi,hz]
  cases r' with
  |some jv=>exact c3.elim
  |none=>
   have a4n:o1 <+: o1++[es.length]:=⟨_,rfl⟩;have hle:rV M (dJ M (.h r) (.obj r1 (o1++[es.length]))):=lM fun l0 h0=>by
    have h0':M (.h r)=some l0:=h0;have PU:M (.h r)=some (.obj r1 o1):=hmm;rw[PU]at h0';cases h0';exact⟨rfl,a4n⟩
   have EK:=g2.push hle.h (hk.mono hle.h) (.yu hzt);obtain⟨v1,v2⟩:=yM hV hmm hd KP g1 a4n EK;refine⟨rfl,.tuple #[z,Go.goInt xs.size],_,_,?_,.ent (I5 _) (by rw[a1H (by rw[g2.ord];omega),g2.ord];simp) (.yu hzt),v1,v2,yN _⟩;simp only[Instr.mapEntry,Sem.run_bind,run_underlying hu,Result.andThen_ok,getObj,Sem.run,g1];simp only[c0,c2 w,ZN,Result.andThen_ok,setObj,Sem.run,g1,Array.size_push,Sem.run_bind,Sem.run_pure]
 .simp at h
theorem a4o{t:TypeId}{m k:TV}{e:EV}{s1:St}{i:lG}{mv kv:Value}(hV:Valid M D s.get w)(h:BI P t s m k=some (e,s1,i))(hm:VR M.h m mv)(hk:VR M.h k kv)
  (hD:∀j∈i.ts,D j):s1.env=s.env∧∃x w' M',(Instr.mapEntry t mv kv).run P w=.ok x w'∧ER M' e x ∧
   Valid M' (fun j=>D j∨(s.get j=none∧(s1.get j).isSome=true)) s1.get w'∧Ext M s.get w M' s1.get w' i.ws∧(∀k l,M (.l k)=some l->M' (.l k)=some l):=by
 unfold BI at h;split at h
 .rename_i h0;split at h
  .cases h;exact a1N hV h0 hm hk hD
  .cases h
 .cases h
theorem TD{xs:Array MapEntry}{i:Nat}(h:∀(a:Nat) (x:MapEntry),xs[a]? = some x->x.born=a)(hi:i<xs.size):xs.findIdx? (fun e=>(e.born:Int)==(i:Int))=some i:=by
 rw[Array.findIdx?_eq_some_iff_getElem];refine⟨hi,?_,fun j hj=>?_⟩
 .have:=h i _ (a3C hi);simp[this]
 have:=h j _ (a3C (Nat.lt_trans hj hi));simp[this];omega
theorem a1O{t:TypeId}{m v:TV}{e:EV}{s1:St}{i:lG}{mv ev vv:Value}(hV:Valid M D s.get w)(h:FQ s m e v=some (s1,i))(hm:VR M.h m mv)(he:ER M e ev)(hv:VR M.h v vv)
  (hD:∀j∈i.ts,D j):s1.env=s.env∧∃w' M',(Instr.entryStore t mv ev vv).run P w=.ok () w' ∧
   Valid M' (fun j=>D j∨(s.get j=none∧(s1.get j).isSome=true)) s1.get w'∧Ext M s.get w M' s1.get w' i.ws∧(∀k l,M (.l k)=some l->M' (.l k)=some l):=by
 unfold FQ at h;split at h
 case h_2=>simp at h
 rename_i r r' j;split at h
 case isFalse=>simp at h
 rename_i hrr;subst hrr;split at h
 case h_2=>simp at h
 rename_i es KP;split at h
 case h_2=>simp at h
 rename_i k v0 hj;simp only[a01,a1o]at h;obtain⟨rfl,rfl⟩:=h;cases hm with
 |map hmm=>
 rename_i r1 o1;cases he with
 |DY h1 q1=>
 rename_i r2 i o2;have PU:M (.h r)=some (.obj r1 o1):=hmm;rw[PU]at h1;cases h1;have hd:=hD (.h r) (by simp[oM]);obtain⟨fP,b1,b2⟩:=hV.ok _ _ hmm hd;simp only[St.get,KP,a01]at b1;subst b1;obtain⟨xs,g1,g2⟩:=b2;have aQ:i<xs.size:=by rw[<-g2.ord];exact(a02.1 q1).1
 obtain⟨z1,j2,e2',z2,z3,z4,z5⟩:=g2.at_ i _ (a3C aQ);rw[q1]at z2;cases z2;rw[hj]at z3;cases z3;have hle:rV M (dJ M (.h r) (.obj r1 o1)):=lM fun l0 h0=>by
  have h0':M (.h r)=some l0:=h0;rw[PU]at h0';cases h0';exact .refl _
 have EK:=g2.upd (f:=fun e=>{ e with val:=vv }) hle.h q1 (a3C aQ) rfl (z4.mono hle.h) (hv.mono hle.h);obtain⟨v1,v2⟩:=yM hV hmm hd KP g1 (ag9 _) EK;refine⟨rfl,_,_,?_,v1,v2,fun k l h=>by simp[dJ,h]⟩;have hf:=TD (fun a x hx=>(g2.at_ a x hx).1) aQ;simp only[Instr.entryStore,Sem.run_bind,Result.andThen_ok,getObj,Sem.run,g1,asInt,asIntOf,Go.goInt,hf,setObj];simp only[Sem.run_bind,Sem.run_pure,Result.andThen_ok,Sem.run,hf,g1,Array.size_modify]
end
def FZ(M:Mp)(env:List (Nat×EV))(a:Act)(X:Array Operand):Prop:=∀x∈X,∀e,Hz env x=some e->ER M e (a.eval x)
theorem jJ.on{M:Mp}{env:List (Nat×EV)}{a:Act}(hE:jJ M env a.tmps)(X:Array Operand):FZ M env a X:=fun _ _ _ he=>a3Z hE he
section
variable {M:Mp} {env:List (Nat×EV)} {a:Act} {X:Array Operand}
theorem oP(hE:FZ M env a X){x:Operand}(hx:x∈X){e:EV}(h:Hz env x=some e):ER M e (a.eval x):=hE x hx e h
theorem gV(hE:FZ M env a X){x:Operand}(hx:x∈X){v:TV}(h:qE env x=some v):VR M.h v (a.eval x):=by
 unfold qE at h;split at h
 .rename_i v' he;simp at h;subst h;exact(oP hE hx he).uU
 simp at h
theorem G5(hE:FZ M env a X):∀{xs:List Operand} {vs:List TV},(∀x∈xs,x∈X)->SS env xs=some vs->bU M.h vs (xs.map a.eval)
 | [],vs,_,h=>by simp[SS]at h;subst h;exact .nil
 |x::xs,vs,hx,h=>by
  simp only[SS]at h;split at h
  .rename_i v vs' h1 h2;simp at h;subst h;exact .cons (gV hE (hx x (by simp)) h1) (G5 hE (fun y hy=>hx y (by simp[hy])) h2)
  simp at h
theorem TF(hE:FZ M env a X):∀{xs:List (Nat×Operand)} {vs:List (Nat×TV)},(∀p∈xs,p.2∈X)->Va env xs=some vs ->
  PR M.h vs (xs.map fun(i,x)=>(i,a.eval x))
 | [],vs,_,h=>by simp[Va]at h;subst h;exact .nil
 |(i,x)::xs,vs,hx,h=>by
  simp only[Va]at h;split at h
  .rename_i v vs' h1 h2;simp at h;subst h;exact .cons (gV hE (hx (i,x) (by simp)) h1) (TF hE (fun y hy=>hx y (by simp[hy])) h2)
  .simp at h
theorem G6(hE:FZ M env a X){o:Option Operand}(hx:∀x,o=some x->x∈X){v:Option TV}(h:Vd env o=some v):OR M.h v (o.map a.eval):=by
 unfold Vd at h;split at h
 .simp at h;subst h;exact .none
 rename_i x;split at h
 .rename_i v' hv;simp at h;subst h;exact .some (gV hE (hx x rfl) hv)
 simp at h
end
section
variable {P:Program} {M:Mp} {D:Key->Prop} {w:World} {s:St}
def G7:Op->Bool
 |.call { callee:=.value _,.. }=>true
 |_=>false
theorem FU.lQ{C:Ct}{c:Sem Next}{v:TV}{S:Sem Value}(hV:Valid M D C w)(hc:c=(do pure (.value (<-S))))(h:∃z,VR M.h v z∧S.run P w=.ok z w):FU P M D C w c (.val v) C []:=by
 obtain⟨z,h1,h2⟩:=h;exact .same hV (by rw[hc];simp[h2]) (.val h1)
theorem FU.Nb{C:Ct}{c:Sem Next}{v:EV}{S:Sem Value}(hV:Valid M D C w)(hc:c=(do pure (.value (<-S))))(h:∃z,ER M v z∧S.run P w=.ok z w):FU P M D C w c v C []:=by
 obtain⟨z,h1,h2⟩:=h;exact .same hV (by rw[hc];simp[h2]) h1
theorem FU.agZ{C:Ct}{c:Sem Next}{v:TV}{S:Sem Value}{C1:Ct}{ws:List Key}(hc:c=(do pure (.value (<-S))))(h:BOk P M D C w S v C1 ws):FU P M D C w c (.val v) C1 ws:=by
 obtain⟨x,w',M',h1,h2⟩:=h;exact⟨x,w',M',.inl (by rw[hc];simp[h1]),h2⟩
theorem FU.adf{C:Ct}{c:Sem Next}{S:Sem Unit}{C1:Ct}{ws:List Key}(hc:c=(do S;pure .skip))(h:∃w' M',S.run P w=.ok () w'∧Valid M' (fun j=>D j∨(C j=none∧(C1 j).isSome=true)) C1 w'∧Ext M C w M' C1 w' ws∧(∀k l,M (.l k)=some l->M' (.l k)=some l)):FU P M D C w c .undef C1 ws:=by
 obtain⟨w',M',h1,h2,h3,h4⟩:=h;exact⟨Go.undef,w',M',.inr ⟨rfl,by rw[hc];simp[h1]⟩,⟨h2,h3,.undef,h4⟩⟩
theorem FU.amr{C:Ct}{c:Sem Next}{S:Sem Unit}{C1:Ct}{ws:List Key}(hc:c=(do S;pure .skip))(h:∃w',S.run P w=.ok () w'∧Valid M (fun j=>D j∨(C j=none∧(C1 j).isSome=true)) C1 w'∧Ext M C w M C1 w' ws):FU P M D C w c .undef C1 ws:=by
 obtain⟨w',h1,h2,h3⟩:=h;exact⟨Go.undef,w',M,.inr ⟨rfl,by rw[hc];simp[h1]⟩,⟨h2,h3,.undef,fun _ _ h=>h⟩⟩
theorem Yi{b:Builtin}{at_:Array TypeId}{t:TypeId}{cs:Array Bool}{az:List TV}{xs:List Value}{v:TV}{s1:St}{i:lG}(hV:Valid M D s.get w)(yJ:M (.h s.heap.length)=none)
  (h:qI P b at_ t s az=some (v,s1,i)) (hx:bU M.h az xs) (hD:∀k∈i.ts,D k):s1.env=s.env∧FU P M D s.get w (builtin b at_ t cs xs.toArray) (.val v) s1.get i.ws:=by
 unfold qI at h;split at h
 .simp only[a0D,a1o]at h;obtain⟨⟨v',i'⟩,h1,rfl,rfl,rfl⟩:=h;obtain⟨x,xs',rfl,hx1,hx2⟩:=hx.iH;have:=hx2.pI;subst this;obtain⟨e1,e2⟩:=Yd (t:=t) hV h1 hx1 hD;refine⟨rfl,?_⟩;simp only;rw[e1];exact .lQ hV rfl e2
 .obtain⟨x,xs',rfl,hx1,hx2⟩:=hx.iH;obtain⟨y,ys',rfl,hy1,hy2⟩:=hx2.iH;have:=hy2.pI;subst this;obtain⟨e1,e2⟩:=Ih (ty:=t) hV yJ h hx1 hy1 hD;exact⟨e1,.agZ rfl e2⟩
 .obtain⟨x,xs',rfl,hx1,hx2⟩:=hx.iH;obtain⟨y,ys',rfl,hy1,hy2⟩:=hx2.iH;have:=hy2.pI;subst this;obtain⟨e1,e2⟩:=TB (ty:=t) hV h hx1 hy1 hD;exact⟨e1,.agZ rfl e2⟩
 .simp only[a0D,a1o]at h;obtain⟨v',h1,rfl,rfl,rfl⟩:=h;exact⟨rfl,.lQ hV rfl (yK h1 hx)⟩
 .simp only[a0D,a1o]at h;obtain⟨v',h1,rfl,rfl,rfl⟩:=h;exact⟨rfl,.lQ hV rfl (yK h1 hx)⟩
 .simp at h
theorem ah0{call:aY}{site:Nat->Bool}{o:Oper}{a:Act}{v:EV}{s1:St}{i:lG}(hV:Valid M D s.get w)(hE:FZ M s.env a o.op.operands)(yJ:M (.h s.heap.length)=none)(hnl:M (.l s.loc.length)=none)
  (h:oN P call site s o=some (v,s1,i)) (hc:G7 o.op=false) (hD:∀k∈i.ts,D k):s1.env=s.env∧FU P M D s.get w (execOp a.eval o) v s1.get i.ws:=by
 unfold oN at h;unfold execOp;split at h
 .-- move
  rename_i x ho;rw[ho];simp only[a0D,a1o]at h;obtain⟨e,he,rfl,rfl,rfl⟩:=h;exact⟨rfl,.same hV rfl (oP hE (by simp[ho,Op.operands]) he)⟩
 .rename_i x ho;rw[ho];simp only[a0D,a1o]at h;obtain⟨e,he,rfl,rfl,rfl⟩:=h;exact⟨rfl,.same hV rfl (oP hE (by simp[ho,Op.operands]) he)⟩
 .-- pick
  rename_i c x y ho;rw[ho];split at h
  .rename_i t ht;simp only[a0D,a1o]at h;obtain⟨e,he,rfl,rfl,rfl⟩:=h;have hb:=gV hE (by simp[ho,Op.operands]) ht;have qA:a.eval c=.bool t:=by cases qA:a.eval c<;>rw[qA]at hb<;>cases hb;rfl
   have:=oP hE (by cases t<;>simp[ho,Op.operands]) he;refine⟨rfl,.same hV (x:=a.eval (if t then x else y)) ?_ this⟩;simp only[Sem.run_bind,qA,asBool,Sem.run_pure,Result.andThen_ok];cases t<;>rfl
  .simp at h
 .-- alloc
  rename_i e ho;rw[ho];simp only[a0D]at h;obtain⟨z,hz,h⟩:=h;obtain⟨i',x,v',_,_,_,_,hz1,hvr,ZN⟩:=vU hz;simp only[a1o]at h;obtain⟨rfl,rfl,rfl⟩:=h;obtain⟨M',hp⟩:=a4a hV yJ hnl (site (o.dst.getD 0)) e (hvr M.h) hz1 rfl;refine⟨by unfold qF;split<;>rfl,_,_,M',.inl ?_,hp⟩;simp[Instr.alloc,ZN w,newVar,newRow]
 .-- box
  rename_i t x ho;rw[ho];split at h
  .rename_i v0 hv0;split at h
   .rename_i EH;simp only[a01,a1o]at h;obtain⟨rfl,rfl,rfl⟩:=h;obtain⟨M',hp⟩:=a4a hV yJ hnl (site (o.dst.getD 0)) t (gV hE (by simp[ho,Op.operands]) hv0).cells (KO EH) rfl;refine⟨by unfold qF;split<;>rfl,_,_,M',.inl ?_,hp⟩;simp[Instr.box,newVar,newRow]
   .simp at h
  .simp at h
 .-- build
  rename_i t ps ho;rw[ho];split at h
  .rename_i qs hq;simp only[a0D,a1o]at h;obtain⟨v0,hb,rfl,rfl,rfl⟩:=h;obtain⟨x,h1,h2⟩:=a4c hb (TF hE (fun p hp=>by simp[ho,Op.operands];exact⟨p.1,by simpa using hp⟩) hq);refine⟨rfl,.lQ hV rfl ⟨x,h1,?_⟩⟩;have:=h2 w
   rwa [show(List.map (fun x=>(x.1,a.eval x.2)) ps.toList).toArray=ps.map (fun x=>(x.1,a.eval x.2))from by apply adr;simp]at this
  .simp at h
 .-- buildSlice
  rename_i t len ps ho;rw[ho];split at h
  .rename_i qs hq;simp only[a0D,a1o]at h;obtain⟨⟨v0,s0⟩,hb,rfl,rfl,rfl⟩:=h;obtain⟨e1,x,w',M',h1,h2⟩:=tK hV yJ hb (TF hE (fun p hp=>by simp[ho,Op.operands];exact⟨p.1,by simpa using hp⟩) hq);refine⟨e1,x,w',M',.inl ?_,h2⟩;rw[show(List.map (fun x=>(x.1,a.eval x.2)) ps.toList).toArray=ps.map (fun x=>(x.1,a.eval x.2))from by apply adr;simp]at h1;simp[h1]
  .simp at h
 .-- load
  rename_i t x ho;rw[ho];split at h
  .rename_i e he;simp only[a0D,a1o]at h;obtain⟨⟨v0,i0⟩,hl,rfl,rfl,rfl⟩:=h;obtain⟨e1,e2⟩:=FV hV hl (oP hE (by simp[ho,Op.operands]) he) hD;refine⟨rfl,?_⟩;simp only;rw[e1];exact .lQ hV rfl e2
  .simp at h
 .-- store
  rename_i t x y ho;rw[ho];split at h
  .rename_i e v0 he hv0;simp only[a0D,a1o]at h;obtain⟨⟨s0,i0⟩,hl,rfl,rfl,rfl⟩:=h;obtain⟨e1,w',e2,e3,e4,e5⟩:=Ya hV hl (oP hE (by simp[ho,Op.operands]) he) (gV hE (by simp[ho,Op.operands]) hv0) hD;exact⟨e1,.amr rfl ⟨w',e2,e3.widen e5,e4⟩⟩
  .simp at h
 .-- nilCheck
  rename_i x ho;rw[ho];split at h
  .rename_i k off he;simp only[a01,a1o]at h;obtain⟨rfl,rfl,rfl⟩:=h;have hx:=oP hE (by simp[ho,Op.operands]) he;refine⟨rfl,.same hV (x:=a.eval x) ?_ hx⟩;cases hxe:a.eval x<;>rw[hxe]at hx<;>cases hx
   simp[hxe]
  .rename_i b off lim he;simp only[a01,a1o]at h;obtain⟨rfl,rfl,rfl⟩:=h;have hx:=oP hE (by simp[ho,Op.operands]) he;refine⟨rfl,.same hV (x:=a.eval x) ?_ hx⟩;have EK:=hx.uU;cases hxe:a.eval x<;>rw[hxe]at EK<;>cases EK
   simp[hxe]
  .rename_i f b c he;simp only[a01,a1o]at h;obtain⟨rfl,rfl,rfl⟩:=h;have hx:=oP hE (by simp[ho,Op.operands]) he;refine⟨rfl,.same hV (x:=a.eval x) ?_ hx⟩;have EK:=hx.uU;cases hxe:a.eval x<;>rw[hxe]at EK<;>cases EK
   simp[hxe]
  .rename_i l he;simp only[a01,a1o]at h;obtain⟨rfl,rfl,rfl⟩:=h;have hx:=oP hE (by simp[ho,Op.operands]) he;refine⟨rfl,.same hV (x:=a.eval x) ?_ hx⟩;have EK:=hx.uU;cases hxe:a.eval x<;>rw[hxe]at EK<;>cases EK
   simp[hxe]
  .simp at h
 .-- binOp
  rename_i op t x y t' ho;rw[ho];split at h
  .rename_i u v0 hu hv;simp only[a0D,a1o]at h;obtain⟨r,hb,rfl,rfl,rfl⟩:=h;exact⟨rfl,.lQ hV rfl (Yb hb (gV hE (by simp[ho,Op.operands]) hu) (gV hE (by simp[ho,Op.operands]) hv))⟩
  .simp at h
 .-- unOp
  rename_i op t x ho;rw[ho];split at h
  .rename_i u hu;simp only[a0D,a1o]at h;obtain⟨r,hb,rfl,rfl,rfl⟩:=h;exact⟨rfl,.lQ hV rfl (iM hb (gV hE (by simp[ho,Op.operands]) hu))⟩
  .simp at h
 .-- convert
  rename_i t t' x ho;rw[ho];split at h
  .rename_i u hu;simp only[a0D,a1o]at h;obtain⟨r,hb,rfl,rfl,rfl⟩:=h;exact⟨rfl,.lQ hV rfl (Tt hb (gV hE (by simp[ho,Op.operands]) hu))⟩
  .simp at h
 .-- makeFunc
  rename_i f az bs ho;rw[ho];split at h
  .rename_i us vs hu hv;simp only[a01,a1o]at h;obtain⟨rfl,rfl,rfl⟩:=h;have h1:=G5 hE (fun x hx=>by simp[ho,Op.operands];exact .inl (by simpa using hx)) hu;have h2:=G5 hE (fun x hx=>by simp[ho,Op.operands];exact .inr (by simpa using hx)) hv;refine⟨rfl,.lQ hV rfl ⟨.func (.func f) (az.map a.eval) (bs.map a.eval),?_,rfl⟩⟩;have:=VR.fn (f:=f) h1.len h1.at_ h2.len h2.at_
   rwa [show(List.map a.eval az.toList).toArray=az.map a.eval from by apply adr;simp,show(List.map a.eval bs.toList).toArray=bs.map a.eval from by apply adr;simp]at this
  .simp at h
 .-- makeMap
  rename_i t r ho;rw[ho];have yA:s.get (.h s.heap.length)=none:=by simp[St.get]
  have hle:rV M (dJ M (.h s.heap.length) (.obj w.heap.size [])):=lM fun l0 h0=>by rw[yJ]at h0;cases h0
  have fU:∀c,c<w.heap.size->c∉aI (.obj w.heap.size [])->(w.alloc (.map #[] 0)).heap[c]? = w.heap[c]?:=fun c hc _=>vT w _ c hc;have gQ:∀c∈aI (.obj w.heap.size []),(∃l0,M (.h s.heap.length)=some l0∧c∈aI l0)∨w.heap.size<=c:=fun c hc=>.inr (by simp[aI]at hc;omega);have key:MO M D s.get w (.val (.map s.heap.length)) (St.get { s with heap:=s.heap++[.map []] }) [] (.map (some w.heap.size)) (w.alloc (.map #[] 0)) (dJ M (.h s.heap.length) (.obj w.heap.size [])):=by
   refine⟨?_,?_,.val (.map (o:=[]) (by simp[Mp.h,dJ])),qJ yJ⟩
   .rw[jQ];refine hV.upd _ _ _ (fun j hj=>?_) (fun l0 h0=>by rw[yJ]at h0;cases h0) fU gQ (by simp) ⟨#[],heap_alloc_new w _,rfl,rfl,.nil,by simp,by simp⟩;rcases hj with hj|⟨x1,x2⟩
    .exact .inl hj
    .right;unfold l9 at x2;split at x2
     .assumption
     .simp[x1]at x2
   .rw[jQ];exact Ext.upd _ _ _ [] (.inr ⟨yA,yJ,rfl⟩) hle fU gQ (by simp) rfl rfl rfl
  split at h
  .rename_i _ hr;simp only[a01,a1o]at h;obtain⟨rfl,rfl,rfl⟩:=h;have:=G6 hE (fun x hx=>by simp[ho,Op.operands,hx]) hr;refine⟨rfl,_,_,_,.inl ?_,key⟩;cases hrr:r.map a.eval with
   |none=>simp[hrr,Instr.makeMap]
   |some y=>rw[hrr]at this;cases this
  .rename_i k n _ _ hr hu;simp only[a01,a1o]at h;obtain⟨rfl,rfl,rfl⟩:=h;have:=G6 hE (fun x hx=>by simp[ho,Op.operands,hx]) hr;refine⟨rfl,_,_,_,.inl ?_,key⟩;cases hrr:r.map a.eval with
   |none=>rw[hrr]at this;cases this
   |some y=>
    rw[hrr]at this;cases this with
    |some hy=>
     cases hy;simp[hrr,Instr.makeMap,run_underlying hu,asInt,asIntOf]
  .simp at h
 .-- makeSlice
  rename_i t l c ho;rw[ho];split at h
  .rename_i u v0 hu hv;simp only[a0D,a1o]at h;obtain⟨⟨r,s0⟩,hb,rfl,rfl,rfl⟩:=h;obtain⟨e1,z,w',M',e2,e3⟩:=zQ hV yJ hb (gV hE (by simp[ho,Op.operands]) hu) (gV hE (by simp[ho,Op.operands]) hv);exact⟨e1,z,w',M',.inl (by simp[e2]),e3⟩
  .simp at h
 .-- slice
  rename_i t x lo hi mx ho;rw[ho];split at h
  .rename_i e Yc wY mx' he G8 hhi hmx;have h1:=G6 hE (fun x hx=>by simp[ho,Op.operands,hx]) G8;have h2:=G6 hE (fun x hx=>by simp[ho,Op.operands,hx]) hhi;have h3:=G6 hE (fun x hx=>by simp[ho,Op.operands,hx]) hmx;split at h
   .simp only[a0D,a1o]at h;obtain⟨r,hb,rfl,rfl,rfl⟩:=h;exact⟨rfl,.lQ hV rfl (BO hb (oP hE (by simp[ho,Op.operands]) he) h1 h2 h3)⟩
   .simp only[a0D,a1o]at h;obtain⟨r,hb,rfl,rfl,rfl⟩:=h;exact⟨rfl,.lQ hV rfl (N7 hb (oP hE (by simp[ho,Op.operands]) he).uU h1 h2 h3)⟩
   .simp at h
  .simp at h
 .-- fieldAddr
  rename_i t x f ho;rw[ho];split at h
  .rename_i e n he hn;simp only[a0D,a1o]at h;obtain⟨r,hb,rfl,rfl,rfl⟩:=h;exact⟨rfl,.Nb hV rfl (Tq hn hb (oP hE (by simp[ho,Op.operands]) he))⟩
  .simp at h
 .-- field
  rename_i t x f ho;rw[ho];split at h
  .rename_i u hu;simp only[a0D,a1o]at h;obtain⟨r,hb,rfl,rfl,rfl⟩:=h;exact⟨rfl,.lQ hV rfl (MX hb (gV hE (by simp[ho,Op.operands]) hu))⟩
  .simp at h
 .-- indexAddr
  rename_i t x y ho;rw[ho];split at h
  .rename_i e u he hu;simp only[a0D,a1o]at h;obtain⟨r,hb,rfl,rfl,rfl⟩:=h;exact⟨rfl,.Nb hV rfl (zN hb (oP hE (by simp[ho,Op.operands]) he) (gV hE (by simp[ho,Op.operands]) hu))⟩
  .simp at h
 .-- index
  rename_i t x y ho;rw[ho];split at h
  .rename_i u v0 hu hv;simp only[a0D,a1o]at h;obtain⟨r,hb,rfl,rfl,rfl⟩:=h;exact⟨rfl,.lQ hV rfl (MZ hb (gV hE (by simp[ho,Op.operands]) hu) (gV hE (by simp[ho,Op.operands]) hv))⟩
  .simp at h
 .-- lookup
  rename_i t m k ok ho;rw[ho];split at h
  .rename_i u v0 hu hv;simp only[a0D,a1o]at h;obtain⟨r,hb,rfl,rfl,rfl⟩:=h;exact⟨rfl,.lQ hV rfl (Dn hV hb (gV hE (by simp[ho,Op.operands]) hu) (gV hE (by simp[ho,Op.operands]) hv) hD)⟩
  .simp at h
 .-- mapUpdate
  rename_i t m k x ho;rw[ho];split at h
  .rename_i u v0 y hu hv hy;simp only[a0D,a1o]at h;obtain⟨⟨s0,i0⟩,hb,rfl,rfl,rfl⟩:=h;obtain⟨e1,e2⟩:=QE hV hb (gV hE (by simp[ho,Op.operands]) hu) (gV hE (by simp[ho,Op.operands]) hv) (gV hE (by simp[ho,Op.operands]) hy) hD;exact⟨e1,.adf rfl e2⟩
  .simp at h
 .-- insert
  rename_i t m k x ho;rw[ho];split at h
  .rename_i u v0 y hu hv hy;simp only[a0D,a1o]at h;obtain⟨⟨s0,i0⟩,hb,rfl,rfl,rfl⟩:=h;obtain⟨e1,e2⟩:=QE hV hb (gV hE (by simp[ho,Op.operands]) hu) (gV hE (by simp[ho,Op.operands]) hv) (gV hE (by simp[ho,Op.operands]) hy) hD;exact⟨e1,.adf rfl e2⟩
  .simp at h
 .-- mapEntry
  rename_i t m k ho;rw[ho];split at h
  .rename_i u v0 hu hv;obtain⟨e1,z,w',M',h1,h2,h3,h4,h5⟩:=a4o hV h (gV hE (by simp[ho,Op.operands]) hu) (gV hE (by simp[ho,Op.operands]) hv) hD;exact⟨e1,z,w',M',.inl (by show(do pure (.value (<-Instr.mapEntry t _ _)):Sem Next).run P w=_;simp[h1]),h3,h4,h2,h5⟩
  .simp at h
 .-- entryStore
  rename_i t m k x ho;rw[ho];split at h
  .rename_i u v0 y hu hv hy;simp only[a0D,a1o]at h;obtain⟨⟨s0,i0⟩,hb,rfl,rfl,rfl⟩:=h;obtain⟨e1,e2⟩:=a1O (t:=t) hV hb (gV hE (by simp[ho,Op.operands]) hu) (oP hE (by simp[ho,Op.operands]) hv) (gV hE (by simp[ho,Op.operands]) hy) hD;exact⟨e1,.adf rfl e2⟩
  .simp at h
 .-- extract
  rename_i x n ho;rw[ho];split at h
  .rename_i e he;simp only[a0D,a1o]at h;obtain⟨r,hb,rfl,rfl,rfl⟩:=h;have hx:=oP hE (by simp[ho,Op.operands]) he;refine⟨rfl,.Nb hV rfl ?_⟩;generalize a.eval x=xv at hx;unfold yH at hb;split at hb
   .simp only[a0D]at hb;obtain⟨y0,hb,rfl⟩:=hb;cases hx with
    |val hx=>
     cases hx with
     |dG g1 g2=>
      obtain⟨y,y1,y2⟩:=(bU.mk g1 g2).get hb;exact⟨y,.val y2,by simp[Instr.extract,y1]⟩
   .cases hx with
    |ent q1 q2 q3=>
     split at hb<;>cases hb
     .exact⟨_,.val q3,by simp[Instr.extract]⟩
     .exact⟨_,.DY q1 q2,by simp[Instr.extract]⟩
   .cases hb
  .simp at h
 .-- call
  rename_i c ho;rw[ho]at hc ⊢;unfold MC at h;split at h
  .rename_i b az hb has;simp only[a0D,a1o]at h;obtain⟨⟨v0,s0,i0⟩,qA,rfl,rfl,rfl⟩:=h;obtain⟨e1,e2⟩:=Yi (cs:=c.args.map fun|.const _=>true|_=>false) hV yJ qA (G5 hE (fun x hx=>by simp[ho,Op.operands,Call.operands,hb];simpa using hx) has) hD;refine⟨e1,?_⟩;obtain⟨x,w',M',r1,r2⟩:=e2;refine⟨x,w',M',?_,r2⟩;rw[show(List.map a.eval c.args.toList).toArray=c.args.map a.eval from by apply adr;simp]at r1;unfold agL at r1 ⊢;simp only[resolve,hb,Sem.run_bind,Sem.run_pure,Result.andThen_ok,invoke];exact r1
  .rename_i f az hf has;obtain⟨callee,args,ats⟩:=c;simp only at hf;subst hf;simp[G7]at hc
  .simp at h
 .-- range
  rename_i t x ho;rw[ho];split at h
  .rename_i r k el hv hu;split at h
   .rename_i es KP;simp only[a01,a1o]at h;obtain⟨rfl,rfl,rfl⟩:=h;have hx:=gV hE (by simp[ho,Op.operands]) hv;refine⟨rfl,?_⟩;generalize hxv:a.eval x=xv at hx;cases hx with
    |map hm=>
    rename_i r1 o1;obtain⟨fP,b1,b2⟩:=hV.ok _ _ hm (hD (.h r) (by simp[wW]));simp only[St.get,KP,a01]at b1;subst b1;obtain⟨xs,g1,g2⟩:=b2;have yA:s.get (.h s.heap.length)=none:=(by simp[St.get]);have hrl:r<s.heap.length:=(a02.1 KP).1;have hle:rV M (dJ M (.h s.heap.length) (.obj w.heap.size [])):=lM fun l0 h0=>by rw[yJ]at h0;cases h0
    have fU:∀c,c<w.heap.size->c∉aI (.obj w.heap.size [])->(w.alloc (.mapIter (some r1) xs.size #[] xs.size)).heap[c]? = w.heap[c]?:=fun c hc _=>vT w _ c hc;have gQ:∀c∈aI (.obj w.heap.size []),(∃l0,M (.h s.heap.length)=some l0∧c∈aI l0)∨w.heap.size<=c:=fun c hc=>.inr (by simp[aI]at hc;omega);refine⟨.pointer (some ⟨w.heap.size,0,none⟩),w.alloc (.mapIter (some r1) xs.size #[] xs.size),dJ M (.h s.heap.length) (.obj w.heap.size []),.inl ?_,?_,?_,.val (.iter (o:=[]) (by simp[Mp.h,dJ])),qJ yJ⟩
    .simp[hxv,Instr.range,run_underlying hu,getObj,Sem.run,g1,newObj]
    .rw[jQ];refine hV.upd _ _ _ (fun j hj=>?_) (fun l0 h0=>by rw[yJ]at h0;cases h0) fU gQ (by simp) ⟨r1,o1,#[],?_,?_,?_,rfl⟩
     .rcases hj with hj|⟨x1,x2⟩
      .exact .inl hj
      .right;unfold l9 at x2;split at x2
       .assumption
       .simp[x1]at x2
     .have:(Key.h r)≠.h s.heap.length:=fun e=>by cases e;omega
      simp only[Mp.h,dJ,a0S this];exact hm
     .rw[g2.len];exact heap_alloc_new w _
     .rw[g2.len,g2.ord];exact a1J _
    .rw[jQ];exact Ext.upd _ _ _ [] (.inr ⟨yA,yJ,rfl⟩) hle fU gQ (by simp) rfl rfl rfl
   .simp at h
  .simp at h
 .-- entry
  rename_i x ho;rw[ho];split at h
  .rename_i b hv;split at h
   .rename_i r n i seen hb;split at h
    .rename_i es KP;split at h
     case isFalse=>simp at h
     rename_i hn;simp only[a0D,a1o]at h;obtain⟨e,he,rfl,rfl,rfl⟩:=h;have hx:=gV hE (by simp[ho,Op.operands]) hv;refine⟨rfl,.lQ hV rfl ?_⟩;generalize a.eval x=xv at hx;cases hx with
     |iter hm=>
     rename_i b1 o1;obtain⟨fP,c1,c2⟩:=hV.ok _ _ hm (hD (.h b) (by simp[gU]));simp only[St.get,hb,a01]at c1;subst c1;obtain⟨r1,o,sa,d1,d2,d3,d4⟩:=c2;obtain⟨fP,c1,c2⟩:=hV.ok (.h r) _ d1 (hD (.h r) (by simp[gU]));simp only[St.get,KP,a01]at c1;subst c1;obtain⟨xs,g1,g2⟩:=c2;have iq:sa.toList≠[]:=fun e=>by rw[e]at d4;simp at d4
     obtain⟨k,hk⟩:∃k,sa.back? = some k∧o[k]? = some i:=by
      have h1:(sa.toList.map fun i=>o[i]?).getLast? = some (some i):=by rw[d4];simp
      rw[List.getLast?_map]at h1;simp only[a0D]at h1;obtain⟨k,h2,h3⟩:=h1;exact⟨k,by rw[<-Array.getLast?_toList];exact h2,h3⟩
     have mD:k<xs.size:=by rw[<-g2.ord];exact(a02.1 hk.2).1
     obtain⟨q1,j,e',q2,q3,q4,q5⟩:=g2.at_ k _ (a3C mD);rw[hk.2]at q2;cases q2;rw[he]at q3;cases q3;refine⟨.tuple #[xs[k].key,xs[k].val],.PN (.cons q4 (.cons q5 .nil)),?_⟩;have hf:xs.find? (·.born==k)=some xs[k]:=by
      rw[<-Array.find?_toList];have:xs[k].born==k:=(by simpa using q1);rw[List.find?_eq_some_iff_getElem];refine⟨this,k,by simpa using mD,by simp,fun j hj=>?_⟩;have rM:j<xs.size:=(by omega);have:=(g2.at_ j _ (a3C rM)).1;simp only[Array.getElem_toList];rw[this];simp;omega
     have hc:xs.size=n:=by rw[<-g2.len];exact hn
     simp only[Instr.entry,getObj,Sem.run_bind,Sem.run,d2,g1,Result.andThen_ok,hk.1,hc,bne_self_eq_false,a2H,a3x,hf];rfl
    .simp at h
   .simp at h
  .simp at h
 .simp at h
end
abbrev kH(h:List HB):Ct:=St.get ⟨[],[],h,[]⟩
def Mp.only(M:Mp):Mp
 |.h b=>M (.h b)
 |.l _=>none
abbrev ng(r:Option Nat):Fence:={ Fence.wide with round:=r }
def Kv(R:Value->World->Prop):Ending->World->Prop
 |.returned v,w=>R v w
 |_,_=>False
def jB(M:Mp)(h:List HB)(w:World)(v:TV)(h':List HB)(ws:List Nat)(y:Value)(w':World):Prop:=
 ∃M',Valid M' uF (kH h') w'∧(∀k,M' (.l k)=none)∧Ext M (kH h) w M' (kH h') w' (ws.map .h)∧VR M'.h v y
def KQ(P:Program)(d:Deferred)(w:World)(R:Value->World->Prop):Prop:=
 ∃f az,(invoke d.target d.args).run P w=.ok (.enter f az) w∧∀n,CallsIn Fence.wide n P f az w (Kv R)
def TG(P:Program)(d:Deferred)(w:World)(R:Value->World->Prop):Prop:=
 ∃l f tmps uD body,(invoke d.target d.args).run P w=.ok (.round l f tmps uD body) w∧∀n,RoundIn Fence.wide n P l f tmps uD body w (Kv R)
def iw(P:Program)(call:aY):Prop:=
 ∀fv args h v h' ws,call fv args h=some (v,h',ws)->∀(M:Mp) (w:World) (x:Value) (xs:List Value),Valid M uF (kH h) w->(∀k,M (.l k)=none)->VR M.h fv x->bU M.h args xs ->
  ∃d,(∀w,(Deferred.ofValue x xs.toArray).run P w=.ok d w)∧((KQ P d w (jB M h w v h' ws)∧∃f a b,fv=.fn f a b)∨(TG P d w (jB M h w v h' ws)∧∃l,fv=.jZ l))
theorem CallsIn.ex{n:Nat}{P:Program}{f:FuncId}{az:Array Value}{w:World}{R:Value->World->Prop}(h:CallsIn Fence.wide n P f az w (Kv R)):∃y w',R y w':=by
 obtain⟨e,w',fr,hR,_⟩:=h.2 [] (room_wide _);cases e with
 |returned v=>exact⟨v,w',hR⟩
 |panicked c=>exact hR.elim
 |outgrown=>exact hR.elim
theorem RoundIn.ex{n:Nat}{P:Program}{l:Nat}{f:FuncId}{tmps:Array Value}{uD body:Code}{w:World}{R:Value->World->Prop}(h:RoundIn Fence.wide n P l f tmps uD body w (Kv R)):∃y w',R y w':=by
 obtain⟨e,w',hR,_⟩:=h.2 default [] (room_wide _);cases e with
 |returned v=>exact⟨v,w',hR⟩
 |panicked c=>exact hR.elim
 |outgrown=>exact hR.elim
section
variable {P:Program} {call:aY}
theorem iw.ex(hC:iw P call){fv:TV}{args:List TV}{h:List HB}{v:TV}{h':List HB}{ws:List Nat}(hc:call fv args h=some (v,h',ws)){M:Mp}{w:World}{x:Value}{xs:List Value}
  (hV:Valid M uF (kH h) w) (hl:∀k,M (.l k)=none) (hx:VR M.h fv x) (Nc:bU M.h args xs):∃y w',jB M h w v h' ws y w':=by
 obtain⟨d,_,h1|h1⟩:=hC _ _ _ _ _ _ hc M w x xs hV hl hx Nc
 .obtain⟨⟨f,az,_,h2⟩,_⟩:=h1;exact CallsIn.ex (h2 0)
 .obtain⟨⟨l,f,tmps,uD,body,_,h2⟩,_⟩:=h1;exact RoundIn.ex (h2 0)
def ab6(M' M:Mp):Mp
 |.h b=>M' (.h b)
 |.l j=>M (.l j)
theorem EP{M:Mp}{D:Key->Prop}{s:St}{w:World}(hV:Valid M D s.get w)(hh:∀b l,M (.h b)=some l->D (.h b)):Valid M.only uF (kH s.heap) w:=by
 refine⟨?_,?_,?_⟩
 .intro k l hk _;cases k with
  |l j=>cases hk
  |h b=>exact hV.ok (.h b) l hk (hh b l hk)
 .intro k k' l l' b iq hk nU _ hc hw;cases k with
  |l j=>cases hk
  |h b=>
   cases k' with
   |l j=>cases nU
   |h b'=>exact hV.own _ _ _ _ _ iq hk nU (hh b l hk) hc hw
 intro k l hk;cases k with
 |l j=>cases hk
 |h b=>exact hV.inb _ _ hk
theorem QF{M:Mp}{D:Key->Prop}{s:St}{w:World}(hV:Valid M D s.get w)
  (yN:∀j l,M (.l j)=some l->∀k' l',Key.l j≠k'->M k'=some l'->∀c∈aI l,c∉aI l')
  {v:TV} {h':List HB} {ws:List Nat} {y:Value} {w':World} (hr:jB M.only s.heap w v h' ws y w') :
  ∃M',MO M D s.get w (.val v) (St.get { s with heap:=h' }) (ws.map .h) y w' M':=by
 obtain⟨M',Yg,hl',hX,hy⟩:=hr;have pU:∀(b j:Nat) (l l':Lc),M' (.h b)=some l->M (.l j)=some l'->∀c∈aI l,c∉aI l':=by
  intro b j l l' hb hj c hc V6;have aQ:=hV.inb _ _ hj c V6;obtain⟨l0,h1,h2⟩:=hX.fresh _ _ hb c hc aQ;exact yN j l' hj (.h b) l0 (by simp) h1 c V6 h2
 refine⟨ab6 M' M,⟨⟨?_,?_,?_⟩,?_,.val hy,fun _ _ h=>h⟩⟩
 .intro k l hk hd;cases k with
  |h b=>exact Yg.ok (.h b) l hk trivial
  |l j=>
   rcases hd with hd|⟨h1,h2⟩
   .obtain⟨b0,h1,h2⟩:=hV.ok (.l j) l hk hd;refine⟨b0,h1,h2.mono (N:=M.h) (N':=(ab6 M' M).h) (hX.HY.h) fun c hc=>?_⟩;refine hX.frame c (hV.inb _ _ hk c hc) fun k' nU l' hl' amv=>?_;obtain⟨b',_,rfl⟩:=a1L.1 nU;exact yN j l hk (.h b') l' (by simp) hl' c hc amv
   .simp only[St.get]at h1 h2;rw[h1]at h2;cases h2
 .intro k k' l l' b0 iq hk nU hd hc hw;cases k with
  |h b=>
   cases k' with
   |h b'=>exact Yg.own (.h b) (.h b') l l' b0 iq hk nU trivial hc hw
   |l j=>exact pU b j l l' hk nU
  |l j=>
   cases k' with
   |h b'=>exact fun c hc V6=>pU b' j l' l nU hk c V6 hc
   |l j'=>exact yN j l hk (.l j') l' iq nU
 .intro k l hk c hc;cases k with
  |h b=>exact Yg.inb (.h b) l hk c hc
  |l j=>exact a8K (hV.inb (.l j) l hk c hc) hX.size
 .exact
  {HY:=by
    intro k l hk;cases k with
    |h b=>exact hX.HY (.h b) l hk
    |l j=>exact⟨l,hk,.refl l⟩
   frame:=fun c hc hf=>hX.frame c hc fun k hk l hl=>by
    obtain⟨b',_,rfl⟩:=a1L.1 hk;exact hf _ hk l hl
   mW:=fun k hk hn=>by
    cases k with
    |h b=>exact hX.mW (.h b) hk hn
    |l j=>rfl
   kP:=fun k hk hn=>by
    cases k with
    |h b=>exact hX.kP (.h b) hk hn
    |l j=>rfl
   fresh:=fun k l hk c hc aQ=>by
    cases k with
    |h b=>exact hX.fresh (.h b) l hk c hc aQ
    |l j=>exact⟨l,hk,hc⟩
   size:=hX.size
   has:=fun k hk=>by
    cases k with
    |h b=>exact hX.has (.h b) hk
    |l j=>exact hk
   wsub:=fun k hk=>by
    obtain⟨b',_,rfl⟩:=a1L.1 hk;exact hX.wsub _ hk
   wrote:=fun k hk=>by
    obtain⟨b',_,rfl⟩:=a1L.1 hk;exact hX.wrote _ hk
   os:=hX.os
   output:=hX.output
   tape:=hX.tape }
theorem getEnv(s:St)(env:List (Nat×EV))(ws:List Nat):St.get { s with env:=env,ws:=ws }=s.get:=by
 funext k;cases k<;>rfl
theorem Yj(s:St)(d:Option Nat)(v:EV):St.get (s.put d v)=s.get:=by
 funext k;cases d<;>cases k<;>rfl
theorem Valid.sub{M:Mp}{D D':Key->Prop}{C:Ct}{w:World}(hV:Valid M D C w)(h:∀k,D' k->D k):Valid M D' C w:=
 ⟨fun k l hk hd=>hV.ok k l hk (h k hd),fun k k' l l' b a1 a2 a3 hd=>hV.own k k' l l' b a1 a2 a3 (h k hd),hV.inb⟩
theorem a1P{site:Nat->Bool}{s:St}{o:Oper}{c:Call}(h:o.op=.defer c):oN P call site s o=none:=by
 simp[oN,h]
def ug(P:Program)(call:aY)(site:Nat->Bool)(fl nt:Nat)(ops:Array Oper)(o:Oper)(s:St)(i:lG)(s':St):Prop:=
 MF nt o=true∧((BJ ops s.env o=some true∧∃v s1,oN P call site s o=some (v,s1,i)∧s'=St.put { s1 with ws:=jK fl i.ws s.ws } o.dst v) ∨
  (BJ ops s.env o=some false∧i=bW∧s'=s.put o.dst .undef))
def nV(i:lG)(k:Key):Prop:=k∈i.ts∨k∈i.ws∨(i.all=true∧k.isH=true)
def KR(M:Mp)(env:List (Nat×EV))(tmps:Array Value)(ops:Array Oper)(o:Oper):Prop:=
 ∀j want d,o.guard=some (j,want)->(ops[j]?).bind (·.dst)=some d->∀e,dL d env=some e->ER M e (tmps.getD d Go.undef)
theorem KT{M:Mp}{env:List (Nat×EV)}{tmps:Array Value}{ops:Array Oper}{o:Oper}{b:Bool}(hG:KR M env tmps ops o)(h:BJ ops env o=some b):Region.wanted o (yielded ops tmps)=b:=by
 unfold BJ at h;unfold Region.wanted;split at h
 .rename_i hg;rw[hg];simpa using h
 rename_i j want hg;rw[hg];simp only;split at h
 rotate_left
 .simp at h
 rename_i d hd;split at h
 .rename_i b0 he;have h3:=(hG j want d hg hd _ he).uU;have hb:tmps.getD d Go.undef=.bool b0:=by
   generalize tmps.getD d Go.undef=z at h3;cases h3;rfl
  have:tmps[d]? = some (.bool b0):=by
   by_cases h1:d<tmps.size
   .simp only[Array.getD,h1,dite_true]at hb;rw[a3C h1];exact congrArg some hb
   simp[Array.getD,h1,Go.undef]at hb
  simp only[yielded,hd,a3S,this];simpa using h
 .rename_i he;have h2:=hG j want d hg hd _ he;have hb:tmps.getD d Go.undef=Go.undef:=by
   generalize tmps.getD d Go.undef=z at h2;cases h2;rfl
  have:tmps[d]? = some Go.undef∨tmps[d]? = none:=by
   by_cases h1:d<tmps.size
   .simp only[Array.getD,h1,dite_true]at hb;rw[a3C h1];exact .inl (congrArg some hb)
   right;simpa using h1
  simp at h;subst h;rcases this with this|this<;>simp only[yielded,hd,a3S,this]<;>rfl
 simp at h
def JB(M:Mp)(D:Key->Prop)(s:St)(w:World)(o:Oper)(i:lG)(s':St)(x:Value)(w':World):Prop:=
 ∃v M',s'=St.put { s' with env:=s.env } o.dst v∧MO M D s.get w v s'.get i.ws x w' M'
theorem TI(s:St)(env:List (Nat×EV))(d:Option Nat)(v:EV)(h:s.env=env):s.put d v=St.put { s.put d v with env:=env } d v:=by
 subst h;cases d<;>rfl
theorem a03(hC:iw P call){site:Nat->Bool}{fl nt:Nat}{ops:Array Oper}{o:Oper}{s s':St}{i:lG}{M:Mp}{D:Key->Prop}{w:World}{a:Act}
  (hS:ug P call site fl nt ops o s i s') (hV:Valid M D s.get w) (yJ:M (.h s.heap.length)=none) (hnl:M (.l s.loc.length)=none)
  (yN:∀j l,M (.l j)=some l->∀k' l',Key.l j≠k'->M k'=some l'->∀c∈aI l,c∉aI l')
  (hE:FZ M s.env a o.op.operands) (hG:KR M s.env a.tmps ops o) (hD:∀k,nV i k->(M k).isSome=true->D k) :
  (∃x w',JB M D s w o i s' x w') ∧
   ∀(r:Option Nat) (n:Nat) (Q:Exit->Act->World->Prop) (idx:Nat) (K:Act->World->Prop),ops[idx]? = some o ->
    (∀x w',JB M D s w o i s' x w'->K (a.put o.dst x) w')->wpOpIn (ng r) n P ops Q idx K a w:=by
 obtain⟨_,⟨hw,v,s1,ku,rfl⟩|⟨hw,rfl,rfl⟩⟩:=hS
 .have a04:=KT hG hw;by_cases hc:G7 o.op=true
  .-- a call
   have:∃f args ats,o.op=.call { callee:=.value f,args:=args,argTypes:=ats }:=by
    unfold G7 at hc;split at hc
    .rename_i f args ats ho;exact⟨_,_,_,ho⟩
    .cases hc
   obtain⟨f,args,ats,ho⟩:=this;simp only[oN,ho,MC]at ku;split at ku
   .rename_i b az hb has;cases hb
   .rename_i f' az hf has;injection hf with hf;subst hf;split at ku
    .rename_i fv hfv;split at ku
     .rename_i v0 h' ws xO;simp only[a01,a1o]at ku;obtain⟨rfl,rfl,rfl⟩:=ku;have hh:∀b l,M (.h b)=some l->D (.h b):=fun b l hb=>hD _ (.inr (.inr ⟨rfl,rfl⟩)) (by simp[hb]);have hVo:=EP hV hh;have hfx:VR M.only.h fv (a.eval f):=gV hE (by simp[ho,Op.operands,Call.operands]) hfv;have hax:bU M.only.h az (args.toList.map a.eval):=G5 hE (fun x hx=>by simp[ho,Op.operands,Call.operands];exact .inr (by simpa using hx)) has;have conv:∀y w',jB M.only s.heap w v0 h' ws y w'->JB M D s w o ⟨true,[],ws.map .h⟩ (St.put { s with heap:=h',ws:=jK fl (ws.map .h) s.ws } o.dst (.val v0)) y w':=by
       intro y w' hr;obtain⟨M',hp⟩:=QF hV yN hr;refine⟨.val v0,M',TI _ _ _ _ rfl,?_⟩;rw[Yj];exact hp
      obtain⟨d,hd,AZ⟩:=hC _ _ _ _ _ _ xO M.only w (a.eval f) (args.toList.map a.eval) hVo (fun _=>rfl) hfx hax;refine⟨?_,?_⟩
      .obtain⟨y,w',hr⟩:=iw.ex hC xO hVo (fun _=>rfl) hfx hax;exact⟨y,w',conv y w' hr⟩
      .intro r n Q idx K TJ hK;unfold wpOpIn;simp only[TJ,a04,a2D];refine⟨fun _ _=>trivial,?_⟩;have a4r:∀nx,(invoke d.target d.args).run P w=.ok nx w->(o.semAt (ng r).round a.eval).run P w=.ok nx w:=by
        intro nx hnx;rw[Oper.semAt_eq _ _ _ (fun c=>by rw[ho];simp)];unfold execOp;rw[ho];have:=hd w;rw[show(List.map a.eval args.toList).toArray=args.map a.eval from by apply adr;simp]at this;simp[resolve,this,hnx]
       rcases AZ with⟨⟨f1,as1,hinv,pU⟩,_⟩|⟨⟨l1,f1,tm1,ag1,bd1,hinv,hrd⟩,_⟩
       .rw[a4r _ hinv];refine⟨fun h=>by simp[Fence.wide]at h,CallsIn.mono (F:=ng r) (pU (n-1)) fun e w' he=>?_⟩;cases e with
        |returned y=>exact hK y w' (conv y w' he)
        |panicked c=>exact he.elim
        |outgrown=>exact he.elim
       .rw[a4r _ hinv];refine⟨fun h=>by simp[Fence.wide]at h,RoundIn.mono (F:=ng r) (hrd (n-1)) fun e w' he=>?_⟩;cases e with
        |returned y=>exact hK y w' (conv y w' he)
        |panicked c=>exact he.elim
        |outgrown=>exact he.elim
     .simp at ku
    .simp at ku
   .simp at ku
  .-- no call
   have V6:G7 o.op=false:=(by simpa using hc);have Yg:Valid M (fun k=>D k∨M k=none) s.get w:=⟨fun k l hk hd=>hV.ok k l hk (hd.resolve_right (by simp[hk])),fun k k' l l' b a1 a2 a3 hd=>hV.own k k' l l' b a1 a2 a3 (hd.resolve_right (by simp[a2])),hV.inb⟩;obtain⟨he,x,w',M',hr,hp⟩:=ah0 Yg hE yJ hnl ku V6 (fun k hk=>by
    cases hm:M k with
    |none=>exact .inr rfl
    |some l=>exact .inl (hD k (.inl hk) (by simp[hm])))
   have vH:JB M D s w o i (St.put { s1 with ws:=jK fl i.ws s.ws } o.dst v) x w':=by
    refine⟨v,M',TI _ _ _ _ he,?_⟩;have hg:St.get { s1 with ws:=jK fl i.ws s.ws }=s1.get:=getEnv s1 s1.env _;rw[Yj,hg];exact⟨hp.val.sub fun k hk=>hk.imp .inl id,hp.ext,hp.er,hp.loc⟩
   refine⟨⟨x,w',vH⟩,fun r n Q idx K TJ hK=>?_⟩;unfold wpOpIn;simp only[TJ,a04,a2D];refine⟨fun _ _=>trivial,?_⟩;rw[Oper.semAt_eq _ _ _ (fun c ho=>by rw[a1P ho]at ku;cases ku)];rcases hr with hr|⟨rfl,hr⟩
   .rw[hr];exact hK x w' vH
   .rw[hr];exact hK _ w' vH
 .have a04:=KT hG hw;have vH:JB M D s w o bW (s.put o.dst .undef) Go.undef w:=by
   refine⟨.undef,M,TI _ _ _ _ rfl,?_⟩;rw[Yj];exact .same hV .undef
  refine⟨⟨_,_,vH⟩,fun r n Q idx K TJ hK=>?_⟩;unfold wpOpIn;simp only[TJ,a04,a2H,a3x];exact⟨fun _ _=>trivial,hK _ _ vH⟩
end
structure vY(M0:Mp)(h0:List HB)(w0:World):Prop where
 val:Valid M0 uF (kH h0) w0
 loc:∀k,M0 (.l k)=none
structure Rel(M0:Mp)(h0:List HB)(w0:World)(nt:Nat)(M:Mp)(s:St)(a:Act)(w:World):Prop where
 val:Valid M uF s.get w
 ext:Ext M0 (kH h0) w0 M s.get w (s.ws.map .h)
 env:jJ M s.env a.tmps
 size:nt<=a.tmps.size
 marks:∀d∈a.defers,∃k r,d=⟨.collected r,#[]⟩∧kH h0 (.h k)=none∧(∃o,M (.h k)=some (.obj r o))∧s.get (.h k)=some .mark∧w.heap[r]? = some (.deferred (some []))
 apart:a.defers.Pairwise (·≠·)
theorem a4t{fl b c:Nat}{ws:List Nat}:c∈DZ fl b ws↔c∈ws∨(c=b∧b<fl):=by
 unfold DZ;split
 .rename_i h;split
  .rename_i hc;have hc:b∈ws:=(by simpa using hc);constructor
   .exact .inl
   rintro (h1|⟨rfl,_⟩)
   .exact h1
   exact hc
  simp only[a2t];constructor
  .rintro (rfl|h1)
   .exact .inr ⟨rfl,h⟩
   exact .inl h1
  rintro (h1|⟨rfl,_⟩)
  .exact .inr h1
  exact .inl rfl
 rename_i h;constructor
 .exact .inl
 rintro (h1|⟨_,h1⟩)
 .exact h1
 exact absurd h1 h
theorem nX{fl c:Nat}:∀{ks:List Key} {ws:List Nat},c∈jK fl ks ws↔c∈ws∨(Key.h c∈ks∧c<fl)
 | [],ws=>by simp[jK]
 |.h b::ks,ws=>by
  rw[jK,nX,a4t];simp only[a2t,Key.h.injEq];constructor
  .rintro ((h|⟨rfl,h⟩)|⟨h1,h2⟩)
   .exact .inl h
   .exact .inr ⟨.inl rfl,h⟩
   exact .inr ⟨.inr h1,h2⟩
  rintro (h|⟨rfl|h1,h2⟩)
  .exact .inl (.inl h)
  .exact .inl (.inr ⟨rfl,h2⟩)
  exact .inr ⟨h1,h2⟩
 |.l b::ks,ws=>by
  rw[jK,nX];simp
theorem yO{t:Nat}{s:St}{d:Option Nat}{v:EV}:dL t (s.put d v).env=if d=some t then some v else dL t s.env:=by
 cases d with
 |none=>simp[St.put]
 |some d=>simp[St.put,dL]
theorem yP{a:Act}{d:Option Nat}{x:Value}{t:Nat}:(a.put d x).tmps.getD t Go.undef=if d=some t∧t<a.tmps.size then x else a.tmps.getD t Go.undef:=by
 cases d with
 |none=>simp[Act.put]
 |some d=>
  simp only[Act.put,a01];simp only[<-ado,a8g,a8o];by_cases h:d=t
  .subst h;by_cases h1:d<a.tmps.size
   .simp[h1]
   simp[h1]
  simp[h]
theorem G9{a:Act}{d:Option Nat}{x:Value}:(a.put d x).tmps.size=a.tmps.size:=by
 cases d<;>simp[Act.put]
theorem jC{a:Act}{d:Option Nat}{x:Value}:(a.put d x).defers=a.defers:=by
 cases d<;>rfl
section
variable {P:Program} {call:aY} {site:Nat->Bool} {fl nt:Nat} {ops:Array Oper} {o:Oper} {s s':St} {i:lG}
theorem ug.a05(h:ug P call site fl nt ops o s i s'):s'.ws=jK fl i.ws s.ws:=by
 obtain⟨_,⟨_,v,s1,_,rfl⟩|⟨_,rfl,rfl⟩⟩:=h
 .cases o.dst<;>rfl
 cases o.dst<;>rfl
theorem ug.dst(h:ug P call site fl nt ops o s i s'){d:Nat}(hd:o.dst=some d):d<nt:=by
 have:=h.1;simp only[MF,hd]at this;simpa using this
variable {M0:Mp} {h0:List HB} {w0:World} {M:Mp} {a:Act} {w:World}
theorem Rel.loc(hR:Rel M0 h0 w0 nt M s a w):∀j l,M (.l j)=some l->∀k' l',Key.l j≠k'->M k'=some l'->∀c∈aI l,c∉aI l':=by
 intro j l hj k' l' iq nU;obtain⟨b,h1,_⟩:=hR.val.ok _ _ hj trivial;refine hR.val.own _ _ _ _ b iq hj nU trivial h1 ?_;simp only[St.get,a0D]at h1;obtain⟨_,_,rfl⟩:=h1;rfl
theorem Rel.nh(hR:Rel M0 h0 w0 nt M s a w):M (.h s.heap.length)=none:=by
 cases h:M (.h s.heap.length)with
 |none=>rfl
 |some l=>have:=hR.val.has h;simp[St.get]at this
theorem Rel.nl(hR:Rel M0 h0 w0 nt M s a w):M (.l s.loc.length)=none:=by
 cases h:M (.l s.loc.length)with
 |none=>rfl
 |some l=>have:=hR.val.has h;simp[St.get]at this
theorem BU{h:List HB}{k:Key}(hk:(kH h k).isSome=true):∃b,k=.h b∧b<h.length:=by
 cases k with
 |h b=>exact⟨b,rfl,by simpa[kH,St.get]using hk⟩
 |l j=>simp[kH,St.get]at hk
theorem Yk{h:List HB}{b:Nat}(hb:b<h.length):(kH h (.h b)).isSome=true:=by simp[kH,St.get,hb]
theorem QG(hR:Rel M0 h0 w0 nt M s a w){M':Mp}{C':Ct}{w':World}{ws:List Key}(hX:Ext M s.get w M' C' w' ws) :
  ∀d∈a.defers,∃k r,d=⟨.collected r,#[]⟩∧kH h0 (.h k)=none∧(∃o,M' (.h k)=some (.obj r o))∧C' (.h k)=some .mark∧w'.heap[r]? = some (.deferred (some [])):=by
 intro d hd;obtain⟨k,r,h1,h2,⟨o,h3⟩,h4,h5⟩:=hR.marks d hd;have hn:Key.h k∉ws:=fun Em=>by
  have:=(hX.wrote _ Em).2 _ h4;cases this
 obtain⟨l',g1,g2⟩:=hX.HY _ _ h3;obtain⟨o',hl⟩:∃o',l'=.obj r o':=by
  cases l' with
  |cells ls=>exact g2.elim
  |obj r' o'=>cases g2.1;exact⟨o',rfl⟩
 refine⟨k,r,h1,h2,⟨o',by rw[g1,hl]⟩,by rw[hX.mW _ (by simp[h4]) hn,h4],?_⟩;rw[hX.frame r (a2s.1 h5).1 fun k' nU l0 qC hc=>?_,h5];obtain⟨b,hb,_⟩:=hR.val.ok _ _ qC trivial;exact hR.val.own k' (.h k) l0 (.obj r o) b (fun e=>hn (e▸nU)) qC h3 trivial hb ((hX.wrote _ nU).2 b hb) r hc (by simp[aI])
theorem Nh(hB:vY M0 h0 w0)(hR:Rel M0 h0 w0 nt M s a w)(hS:ug P call site h0.length nt ops o s i s'){x:Value}{w':World}(vH:JB M uF s w o i s' x w') :
  ∃M',Rel M0 h0 w0 nt M' s' (a.put o.dst x) w':=by
 obtain⟨v,M',he,hp⟩:=vH;refine⟨M',hp.val.sub fun k _=>.inl trivial,?_,?_,by rw[G9];exact hR.size,by rw[jC];exact QG hR hp.ext,by rw[jC];exact hR.apart⟩
 .refine hR.ext.trans hp.ext (fun k l hk=>hB.val.has hk) (fun k hk Em=>?_) (fun k hk=>?_)
  .obtain⟨b,rfl,hb⟩:=BU hk;rw[hS.a05];refine a1L.2 ⟨b,nX.2 ?_,rfl⟩;rcases Em with h1|h1
   .obtain⟨b',h2,h3⟩:=a1L.1 h1;cases h3;exact .inl h2
   .exact .inr ⟨h1,hb⟩
  .rw[hS.a05]at hk;obtain⟨b,hb,rfl⟩:=a1L.1 hk;rcases nX.1 hb with h1|⟨h1,h2⟩
   .have:Key.h b∈s.ws.map .h:=a1L.2 ⟨b,h1,rfl⟩;exact⟨hR.ext.wsub _ this,.inl this⟩
   .exact⟨Yk h2,.inr h1⟩
 .intro t e hl;rw[he,yO]at hl;rw[yP];by_cases hd:o.dst=some t
  .rw[a0V hd]at hl;have:=hS.dst hd;have:=hR.size;rw[a0V ⟨hd,by omega⟩];cases hl;exact hp.er
  .rw[a0S hd]at hl;rw[a0S (fun h=>hd h.1)];exact(hR.env t e hl).mono hp.ext.HY hp.loc
theorem Rel.guard(hR:Rel M0 h0 w0 nt M s a w):KR M s.env a.tmps ops o:=fun _ _ d _ _ e he=>hR.env d e he
theorem Gf(hC:iw P call)(hR:Rel M0 h0 w0 nt M s a w)(hS:ug P call site h0.length nt ops o s i s') :
  (∃x w',JB M uF s w o i s' x w') ∧
   ∀(r:Option Nat) (n:Nat) (Q:Exit->Act->World->Prop) (idx:Nat) (K:Act->World->Prop),ops[idx]? = some o ->
    (∀x w',JB M uF s w o i s' x w'->K (a.put o.dst x) w')->wpOpIn (ng r) n P ops Q idx K a w:=
 a03 hC hS hR.val hR.nh hR.nl hR.loc (hR.env.on _) hR.guard fun _ _ _=>trivial
theorem BX{o:Oper}{os:List Oper}{s s':St}{is:List lG}(h:kN P call site fl nt ops (o::os) s=some (s',is)) :
  ∃i s1 is',ug P call site fl nt ops o s i s1∧kN P call site fl nt ops os s1=some (s',is')∧is=i::is':=by
 simp only[kN]at h;split at h
 .simp at h
 .rename_i hd;have hd:MF nt o=true:=by simpa using hd
  split at h
  .rename_i hw;split at h
   .rename_i v s1 i ku;split at h
    .rename_i s2 is2 hr;simp only[a01,a1o]at h;obtain⟨rfl,rfl⟩:=h;exact⟨i,_,_,⟨hd,.inl ⟨hw,v,s1,ku,rfl⟩⟩,hr,rfl⟩
    .simp at h
   .simp at h
  .rename_i hw;split at h
   .rename_i s2 is2 hr;simp only[a01,a1o]at h;obtain⟨rfl,rfl⟩:=h;exact⟨_,_,_,⟨hd,.inr ⟨hw,rfl,rfl⟩⟩,hr,rfl⟩
   .simp at h
  .simp at h
theorem a4u(hC:iw P call)(hB:vY M0 h0 w0){r:Option Nat}{n:Nat}{Q:Exit->Act->World->Prop}:∀(os:List Oper) (k:Nat) (s s':St) (is:List lG) (M:Mp) (a:Act) (w:World),ops.toList.drop k=os ->
  kN P call site h0.length nt ops os s=some (s',is)->Rel M0 h0 w0 nt M s a w ->
  (∀M' a' w',Rel M0 h0 w0 nt M' s' a' w'->a'.defers=a.defers->Q .normal a' w')->wpOpsIn (ng r) n P ops Q (List.range' k os.length) a w
 | [],k,s,s',is,M,a,w,_,h,hR,hQ=>by
  simp only[kN,a01,a1o]at h;obtain⟨rfl,rfl⟩:=h;exact hQ M a w hR rfl
 |o::os,k,s,s',is,M,a,w,hd,h,hR,hQ=>by
  obtain⟨i,s1,is',hS,hr,rfl⟩:=BX h;have ho:ops[k]? = some o:=by
   have:=congrArg (fun l=>l[0]?) hd;simpa using this
  have Yh:ops.toList.drop (k+1)=os:=by
   rw[<-afM,hd];rfl
  simp only[a3J,List.range'_succ];rw[wpOpsIn_cons];refine(Gf hC hR hS).2 r n Q k _ ho fun x w' vH=>?_;obtain⟨M',ES⟩:=Nh hB hR hS vH;exact a4u hC hB os (k+1) s1 s' is' M' _ w' Yh hr ES fun M2 a2 w2 h2 hdf=>hQ M2 a2 w2 h2 (hdf.trans jC)
theorem a1Q(hC:iw P call)(hB:vY M0 h0 w0){r:Option Nat}{n:Nat}{Q:Exit->Act->World->Prop}{id:Nat}{s s':St}{is:List lG}{M:Mp}{a:Act}{w:World}
  (h:kN P call site h0.length nt ops ops.toList s=some (s',is)) (hR:Rel M0 h0 w0 nt M s a w)
  (hQ:∀M' a' w',Rel M0 h0 w0 nt M' s' a' w'->a'.defers=a.defers->Q .normal a' w'):(Code.region id ops false).wpIn (ng r) n P Q a w:=by
 refine wpIn_region ?_;have:=a4u (r:=r) (n:=n) (Q:=Q) hC hB ops.toList 0 s s' is M a w rfl h hR hQ;simpa[List.range_eq_range']using this
end
theorem Nj{i:Nat}:∀{xs l:List Nat},i∈MG xs l->i∈xs∨i∈l
 | [],l,h=>.inr h
 |x::xs,l,h=>by
  simp only[MG]at h;rcases Nj h with h1|h1
  .exact .inl (a3w _ h1)
  split at h1
  .exact .inr h1
  rcases a2t.1 h1 with rfl|h2
  .exact .inl a3u
  exact .inr h2
theorem Gg{acc:List (List Nat)}{i:Nat}:∀{es:List Edge} {l:List Nat},
  i∈es.foldl (fun l e=>if Region.binds .any e then MG (e.on::acc.getD e.on []) l else l) l->i∈l∨∃e∈es,Region.binds .any e=true∧(i=e.on∨i∈acc.getD e.on [])
 | [],l,h=>.inl h
 |e::es,l,h=>by
  simp only[acY]at h;rcases Gg h with h1|⟨e',h2,h3⟩
  .split at h1
   .rename_i hb;rcases Nj h1 with h2|h2
    .refine .inr ⟨e,a3u,hb,?_⟩;exact a2t.1 h2
    .exact .inl h2
   .exact .inl h1
  .exact .inr ⟨e',a3w _ h2,h3⟩
theorem Yl{acc:List (List Nat)}{o:Oper}{i:Nat}(h:i∈EF acc o):∃e∈o.after,Region.binds .any e=true∧(i=e.on∨i∈acc.getD e.on []):=by
 rcases Gg h with h1|⟨e,h2,h3⟩
 .cases h1
 exact⟨e,by simpa using h2,h3⟩
theorem Gh:∀(os:List Oper) (acc:List (List Nat)),∃t,Ee os acc=acc++t
 | [],acc=>⟨[],by simp[Ee]⟩
 |o::os,acc=>by
  obtain⟨t,ht⟩:=Gh os (acc++[EF acc o]);exact⟨EF acc o::t,by simp[Ee,ht]⟩
theorem QH:∀(os:List Oper) (acc:List (List Nat)) (k:Nat) (o:Oper),os[k]? = some o ->
  (Ee os acc)[acc.length+k]? = some (EF ((Ee os acc).take (acc.length+k)) o)
 | [],acc,k,o,h=>by simp at h
 |o'::os,acc,0,o,h=>by
  simp at h;subst h;obtain⟨t,ht⟩:=Gh os (acc++[EF acc o']);simp[Ee,ht]
 |o'::os,acc,k+1,o,h=>by
  have:=QH os (acc++[EF acc o']) k o (by simpa using h);simp only[Ee];simp only[a2m,a3J,a5q]at this
  rwa [show acc.length+(0+1)+k=acc.length+(k+1) by omega]at this
def Vt(ops:List Oper)(j:Nat):List Nat:=(Ee ops []).getD j []
theorem a4v{ops:List Oper}{j i:Nat}{o:Oper}(hj:ops[j]? = some o)(h:i∈Vt ops j):∃e∈o.after,Region.binds .any e=true∧(i=e.on∨(e.on<j∧i∈Vt ops e.on)):=by
 have:=QH ops [] j o hj;simp only[a5q,a3E]at this;unfold Vt at h;rw[a3d,this]at h;simp only[a4s]at h;obtain⟨e,h1,h2,h3⟩:=Yl h;refine⟨e,h1,h2,h3.imp id fun h4=>?_⟩;rw[a3d,a3O]at h4;split at h4
 .rename_i aQ;exact⟨aQ,by unfold Vt;rw[a3d];exact h4⟩
 simp at h4
def uh(D:Nat->Prop)(o:Oper):Prop:=∀e∈o.after,Region.binds .any e=true->D e.on
theorem TK{ops:List Oper}{D:Nat->Prop}(hc:∀j o,ops[j]? = some o->D j->uh D o):∀(j:Nat) (o:Oper),ops[j]? = some o->uh D o->∀i∈Vt ops j,D i:=by
 intro j
 induction j using Nat.strongRecOn with
 |_ j ih=>
  intro o ho hw i hi;obtain⟨e,h1,h2,h3⟩:=a4v ho hi;rcases h3 with rfl|⟨aQ,h4⟩
  .exact hw e h1 h2
  have hd:=hw e h1 h2;have hl:j<ops.length:=(a02.1 ho).1;have hoe:ops[e.on]? = some ops[e.on]:=a0E (by omega);exact ih e.on aQ _ hoe (hc _ _ hoe hd) i h4
theorem yB{ops:List Oper}{i j:Nat}(zS:i<j)(hj:j<ops.length)(hn:i∉Vt ops j):(i,j)∈nS ops:=by
 simp only[nS,adt,a3R,a1L,a8e];exact⟨j,hj,i,⟨zS,by simpa[Vt]using hn⟩,rfl⟩
theorem Vu{ops:List Oper}(h:mY ops=true){i:Nat}{o:Oper}(ho:ops[i]? = some o){e:Edge}(he:e∈o.after)(hb:Region.binds .any e=true):e.on<i:=by
 simp only[mY,a2r,a4f]at h;have:=h.1 (o,i) (by
  rw[a95];simpa using ho)
 simp only[acz]at this;have:=this e he;simpa[hb]using this
theorem zT{ops:List Oper}(h:mY ops=true){i j:Nat}{a b:Oper}(hp:(i,j)∈nS ops)(ha:ops[i]? = some a)(hb:ops[j]? = some b):a.apart ops.toArray b=true∧b.apart ops.toArray a=true:=by
 simp only[mY,a2r,a4f]at h;have:=h.2 (i,j) hp;simpa[ha,hb]using this
theorem QI{wX:List lG}:∀{ps:List (Nat×Nat)},AV wX ps=true->∀{i j:Nat} {a b:lG},(i,j)∈ps->wX[i]? = some a->wX[j]? = some b->calm a b=true
 | [],_,i,j,a,b,h,_,_=>by cases h
 |(x,y)::r,hd,i,j,a,b,h,ha,hb=>by
  simp only[AV,a2r]at hd;rcases a2t.1 h with h1|h1
  .cases h1;simpa[ha,hb]using hd.1
  exact QI hd.2 h1 ha hb
section
variable {P:Program} {call:aY} {site:Nat->Bool} {s s1:St} {o:Oper} {v:EV} {i:lG}
theorem a4w{t:TypeId}{a:EV}{r:TV×lG}(h:loadT P t s a=some r):r.2.ws=[]:=by
 unfold loadT at h;split at h
 .split at h
  .simp only[a0D]at h;obtain⟨_,_,rfl⟩:=h;rfl
  simp at h
 .split at h
  .split at h
   .simp only[a0D]at h;obtain⟨_,_,rfl⟩:=h;rfl
   simp at h
  simp at h
 simp at h
theorem a8F{at_:Array TypeId}{h0:List HB}{x:TV}{r:TV×lG}(h:Y2 P at_ h0 x=some r):r.2.ws=[]:=by
 unfold Y2 at h
 repeat' (split at h)
 all_goals first
  |(simp at h;done)
  |(simp only[a01]at h;subst h;rfl)
theorem ah1(h:oN P call site s o=some (v,s1,i))(hm:I9 o.op=false):i.ws=[]:=by
 unfold oN at h;split at h
 all_goals first
  |(simp at h;done)
  |(rename_i ho;rw[ho]at hm;simp[I9]at hm;done)
  |(simp only[a0D,a1o]at h;obtain⟨_,_,_,_,rfl⟩:=h;rfl)
  |(split at h<;>first|(simp at h;done)|(simp only[a0D,a1o,a01]at h;first|(obtain⟨_,_,_,_,rfl⟩:=h;rfl)|(obtain⟨_,_,rfl⟩:=h;rfl)))
  |skip
 .split at h
  .split at h
   .simp only[a01,a1o]at h;obtain⟨_,_,rfl⟩:=h;rfl
   simp at h
  simp at h
 .split at h
  .simp only[a0D,a1o]at h;obtain⟨r,hr,_,_,rfl⟩:=h;exact a4w hr
  simp at h
 .split at h
  .split at h
   .simp only[a0D,a1o]at h;obtain⟨_,_,_,_,rfl⟩:=h;rfl
   .simp only[a0D,a1o]at h;obtain⟨_,_,_,_,rfl⟩:=h;rfl
   simp at h
  simp at h
 .rename_i c ho;rw[ho]at hm;obtain⟨callee,args,ats⟩:=c;unfold MC at h;simp only at h;split at h
  .rename_i b az;simp only[a0D,a1o]at h;obtain⟨⟨v0,s0,i0⟩,hb,_,_,rfl⟩:=h;simp only[I9]at hm;unfold qI at hb;split at hb
   .simp only[a0D,a1o]at hb;obtain⟨r,hr,_,_,rfl⟩:=hb;exact a8F hr
   .simp at hm
   .simp at hm
   .simp only[a0D,a1o]at hb;obtain⟨r,hr,_,_,rfl⟩:=hb;rfl
   .simp only[a0D,a1o]at hb;obtain⟨r,hr,_,_,rfl⟩:=hb;rfl
   simp at hb
  .simp[I9]at hm
  simp at h
 .split at h
  .split at h
   .simp only[a01,a1o]at h;obtain⟨_,_,rfl⟩:=h;rfl
   simp at h
  simp at h
 split at h
 .split at h
  .split at h
   .split at h
    .simp only[a0D,a1o]at h;obtain⟨_,_,_,_,rfl⟩:=h;rfl
    simp at h
   simp at h
  simp at h
 simp at h
theorem ah2(h:oN P call site s o=some (v,s1,i))(hm:MH o.op=false):i.ts=[]∧i.ws=[]∧i.all=false:=by
 unfold oN at h;split at h
 all_goals first
  |(simp at h;done)
  |(rename_i ho;rw[ho]at hm;simp[MH]at hm;done)
  |(simp only[a0D,a1o]at h;obtain⟨_,_,_,_,rfl⟩:=h;exact⟨rfl,rfl,rfl⟩)
  |(split at h<;>first|(simp at h;done)|(simp only[a0D,a1o,a01]at h;first|(obtain⟨_,_,_,_,rfl⟩:=h;exact⟨rfl,rfl,rfl⟩)|(obtain⟨_,_,rfl⟩:=h;exact⟨rfl,rfl,rfl⟩)))
  |skip
 .split at h
  .split at h
   .simp only[a01,a1o]at h;obtain⟨_,_,rfl⟩:=h;exact⟨rfl,rfl,rfl⟩
   simp at h
  simp at h
 .split at h
  .split at h
   .simp only[a0D,a1o]at h;obtain⟨_,_,_,_,rfl⟩:=h;exact⟨rfl,rfl,rfl⟩
   .simp only[a0D,a1o]at h;obtain⟨_,_,_,_,rfl⟩:=h;exact⟨rfl,rfl,rfl⟩
   simp at h
  simp at h
 rename_i c ho;rw[ho]at hm;obtain⟨callee,args,ats⟩:=c;unfold MC at h;simp only at h;split at h
 .rename_i b az;simp only[a0D,a1o]at h;obtain⟨⟨v0,s0,i0⟩,hb,_,_,rfl⟩:=h;simp only[MH]at hm;unfold qI at hb;split at hb
  .simp at hm
  .simp at hm
  .simp at hm
  .simp only[a0D,a1o]at hb;obtain⟨r,hr,_,_,rfl⟩:=hb;exact⟨rfl,rfl,rfl⟩
  .simp only[a0D,a1o]at hb;obtain⟨r,hr,_,_,rfl⟩:=hb;exact⟨rfl,rfl,rfl⟩
  simp at hb
 .simp[MH]at hm
 simp at h
variable {fl nt:Nat} {ops:Array Oper} {s':St}
theorem ug.w(h:ug P call site fl nt ops o s i s')(hm:I9 o.op=false):i.ws=[]:=by
 obtain⟨_,⟨_,v,s1,h1,_⟩|⟨_,rfl,_⟩⟩:=h
 .exact ah1 h1 hm
 rfl
theorem ug.t(h:ug P call site fl nt ops o s i s')(hm:MH o.op=false):i.ts=[]∧i.ws=[]∧i.all=false:=by
 obtain⟨_,⟨_,v,s1,h1,_⟩|⟨_,rfl,_⟩⟩:=h
 .exact ah2 h1 hm
 exact⟨rfl,rfl,rfl⟩
theorem Nk{ws:List Key}{b:lG}(h:MI ws b=true){k:Key}(hk:k∈ws):¬nV b k:=by
 simp only[MI,a4f]at h;have:=h k hk;simp only[a2r,a8m,agc]at this;obtain⟨⟨h1,h2⟩,h3⟩:=this;rintro (h4|h4|⟨h4,h5⟩)
 .simp[h4]at h2
 .simp[h4]at h3
 simp[h4,h5]at h1
theorem a1R{wX:List lG}{ol:List Oper}(hd:AV wX (lW ol)=true){x y:Nat}{a b:Oper}{ia ib:lG}{sa sa' sb sb':St}(hp:(x,y)∈nS ol)(ha:ol[x]? = some a)(hb:ol[y]? = some b)
  (hia:wX[x]? = some ia) (hib:wX[y]? = some ib) (sta:ug P call site fl nt ops a sa ia sa') (stb:ug P call site fl nt ops b sb ib sb') :
  AU a b=true∨((∀k∈ia.ws,¬nV ib k)∧(∀k∈ib.ws,¬nV ia k)):=by
 cases hsp:AU a b
 case true=>exact .inl rfl
 right;by_cases hh:((I9 a.op&&MH b.op)||(MH a.op&&I9 b.op))=true
 .have hm:(x,y)∈lW ol:=by
   simp only[lW,a8e];refine⟨hp,?_⟩;simp only[ha,hb,hsp,ab3,agy];exact hh
  have:=QI hd hm hia hib;simp only[calm,a2r]at this;exact⟨fun k hk=>Nk this.1 hk,fun k hk=>Nk this.2 hk⟩
 .simp only[a8t,a2r,ad1,not_and,aga]at hh;constructor
  .intro k hk ht;have h1:I9 a.op=true:=by
    cases h2:I9 a.op with
    |true=>rfl
    |false=>rw[sta.w h2]at hk;cases hk
   obtain⟨t1,t2,t3⟩:=stb.t (hh.1 h1);rcases ht with h|h|⟨h,_⟩
   .rw[t1]at h;cases h
   .rw[t2]at h;cases h
   .rw[t3]at h;cases h
  .intro k hk ht;have h1:I9 b.op=true:=by
    cases h2:I9 b.op with
    |true=>rfl
    |false=>rw[stb.w h2]at hk;cases hk
   have h2:MH a.op=false:=by
    cases h3:MH a.op with
    |false=>rfl
    |true=>have:=hh.2 h3;rw[h1]at this;cases this
   obtain⟨t1,t2,t3⟩:=sta.t h2;rcases ht with h|h|⟨h,_⟩
   .rw[t1]at h;cases h
   .rw[t2]at h;cases h
   .rw[t3]at h;cases h
end
end Tw
