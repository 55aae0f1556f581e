/- Part 1 of a proof: ApplyLeft -/
import Derived.RangeFuncLeaves
import Derived.OrdersIn
import Derived.Laws.CopyRow
import Derived.Laws.Rows
import Derived.Laws.Entries
set_option linter.unusedVariables false
set_option linter.unusedSimpArgs false
set_option linter.unusedSectionVars false
open Go.IntKind (i64)
noncomputable section
abbrev LI0:=List Int
abbrev LI1:=Go.Program
abbrev LI2:=Go.TypeId
abbrev LI3:=Go.Value
abbrev LI4:=Go.World
abbrev a0d:=@Option.some.injEq
abbrev a0h:=@List.getElem?_eq_some_iff
abbrev a0l:=@Option.map_eq_some_iff
abbrev a0q:=@List.getElem?_eq_getElem
abbrev a0C:=@List.getElem?_append_left
abbrev a0E:=@if_neg
abbrev a0F:=@if_pos
abbrev a0J:=@Prod.mk.injEq
abbrev a0O:=@Option.map_some
abbrev a0P:=@Nat.le_refl
abbrev a0T:=@List.getElem?_append_right
abbrev a0V:=@List.mem_map
abbrev a1z:=@decide_eq_true_eq
abbrev a1B:=@List.getElem?_set_ne
abbrev a1S:=@List.mem_singleton
abbrev a1U:=@List.length_append
abbrev a1Y:=@List.mem_cons
abbrev a2u:=@if_true
abbrev a2M:=@List.getElem?_set_self
abbrev a2O:=@Bool.and_eq_true
abbrev a2R:=@Array.getElem?_eq_some_iff
abbrev a2S:=@Bool.false_eq_true
abbrev a2Z:=@List.getElem?_cons_zero
abbrev a3b:=@decide_eq_false_iff_not
abbrev a3s:=@List.getD_eq_getElem?_getD
abbrev a3x:=@List.mem_cons_self
abbrev a3y:=@List.mem_cons_of_mem
abbrev a3P:=@List.mem_append
abbrev a3T:=@if_false
abbrev a3U:=@Nat.add_mul
abbrev a3V:=@Nat.mul_le_mul_right
abbrev a3W:=@Nat.zero_add
abbrev a4l:=@List.length_drop
abbrev a4w:=@Array.getElem?_eq_getElem
abbrev a4C:=@List.length_take
abbrev a4H:=@List.length_singleton
abbrev a4I:=@List.eq_nil_of_length_eq_zero
abbrev a4J:=@List.map_append
abbrev a4K:=@List.length_cons
abbrev a4L:=@List.getElem?_eq_none
abbrev a4M:=@List.map_cons
abbrev a4N:=@Nat.lt_or_ge
abbrev a4O:=@List.getElem?_drop
abbrev a4P:=@List.mem_range
abbrev a4Q:=@List.getElem?_set_self'
abbrev a4R:=@List.getElem?_take
abbrev a4S:=@List.length_map
abbrev a4T:=@List.getElem?_map
abbrev a4U:=@List.nodup_cons
abbrev a4V:=@Option.bind_some
abbrev a4W:=@List.all_eq_true
abbrev a4X:=@List.mem_of_getElem?
abbrev a4Y:=@List.length_set
abbrev a4Z:=@List.getElem_mem
abbrev a5a:=@List.idxOf_lt_length_iff
abbrev a5b:=@Bool.eq_iff_iff
abbrev a5c:=@List.prefix_rfl
abbrev a5d:=@List.mem_iff_getElem
abbrev a5e:=@Option.getD_some
abbrev a5h:=@List.mem_append_left
abbrev a5i:=@Nat.zero_le
abbrev a5n:=@List.length_eq_zero_iff
abbrev a5p:=@Int.toNat_natCast
abbrev a5r:=@Option.isSome_iff_exists
abbrev a5s:=@List.length_nil
abbrev a5t:=@List.contains_eq_mem
abbrev a5x:=@Nat.le_trans
abbrev a5A:=@List.append_assoc
abbrev a5B:=@not_false_eq_true
abbrev a5D:=@List.eq_nil_iff_forall_not_mem
abbrev a5L:=@List.map_congr_left
abbrev a5Z:=@List.mem_of_mem_drop
abbrev a6f:=@List.append_nil
abbrev a6x:=@List.nodup_nil
abbrev a6B:=@List.map_map
abbrev a6C:=@List.mem_filterMap
abbrev a6E:=@List.length_replicate
abbrev a6G:=@List.drop_eq_getElem_cons
abbrev a7g:=@beq_iff_eq
abbrev a7t:=@List.mem_filter
abbrev a7x:=@List.perm_ext_iff_of_nodup
abbrev a7X:=@of_decide_eq_true
abbrev a8a:=@Nat.min_eq_left
abbrev a8n:=@List.take_succ_eq_append_getElem
abbrev a8o:=@not_true
abbrev a8B:=@List.getElem_of_mem
abbrev a8Q:=@Array.getD_eq_getD_getElem?
abbrev a8U:=@Int.emod_eq_of_lt
abbrev a8W:=@Bool.not_eq_true'
abbrev a8X:=@List.getElem?_of_mem
abbrev a9b:=@List.idxOf_eq_length
abbrev a9i:=@List.getElem_idxOf
abbrev a9j:=@List.prefix_append
abbrev a9k:=@Int.mul_le_mul_of_nonneg_left
abbrev a9l:=@List.nodup_append
abbrev a9m:=@List.length_range
abbrev a9n:=@List.mem_iff_getElem?
abbrev a9o:=@Array.getElem?_setIfInBounds
abbrev a9p:=@Nat.eq_of_beq_eq_true
abbrev a9q:=@List.nil_append
abbrev a9r:=@Int.le_refl
abbrev a9s:=@List.getElem_map
abbrev a9t:=@Bool.not_true
abbrev a9u:=@List.take_of_length_le
abbrev a9v:=@List.filterMap_cons
abbrev a9w:=@Bool.or_eq_true
abbrev a9x:=@Option.some.inj
abbrev a9y:=@Classical.choose_spec
abbrev a9C:=@List.length_filter_le
abbrev a9E:=@Nat.lt_of_lt_of_le
abbrev a9G:=@Nat.le_of_lt
abbrev a9H:=@List.ext_getElem
abbrev a9I:=@List.mem_of_mem_take
abbrev a9O:=@List.mem_zipIdx_iff_getElem?
abbrev a9T:=@Bool.or_eq_false_iff
abbrev aa1:=@List.getElem?_cons_succ
abbrev aa2:=@List.getElem?_set
abbrev aa3:=@List.ext_getElem?
abbrev aa6:=@List.idxOf_append
abbrev aa9:=@Array.length_toList
abbrev aad:=@List.length_pos_iff
abbrev aae:=@List.findIdx?_eq_some_iff_getElem
abbrev aai:=@Nat.add_assoc
abbrev aak:=@Array.getElem?_append_left
abbrev aar:=@List.getElem_inj
abbrev aat:=@List.mem_append_right
abbrev aav:=@List.drop_zero
abbrev aaR:=@List.length_mergeSort
abbrev aaS:=@Int.mul_le_mul_of_nonneg_right
abbrev aaT:=@Bool.not_false
abbrev abp:=@Nat.one_mul
abbrev abu:=@Nat.eq_zero_or_pos
abbrev abL:=@List.map_nil
abbrev acg:=@Bool.not_eq_false'
abbrev ach:=@Array.getElem?_modify
abbrev aci:=@List.range_succ
abbrev aco:=@List.all_cons
abbrev acp:=@Int.add_mul_emod_self_left
abbrev acr:=@forall_congr'
abbrev acu:=@List.nodup_iff_pairwise_ne
abbrev acw:=@Classical.byContradiction
abbrev acy:=@List.pairwise_iff_getElem
abbrev acE:=@Int.mul_one
abbrev acF:=@Nat.zero_mul
abbrev acJ:=@Array.all_eq_true_iff_forall_mem
abbrev acK:=@Nat.le_of_not_lt
abbrev acL:=@and_self
abbrev adu:=@Prod.ext
abbrev adC:=@List.take_length
abbrev adI:=@List.getElem?_range
abbrev adO:=@List.filter_eq_self
abbrev adT:=@List.getElem?_replicate
abbrev adV:=@List.filter_cons_of_neg
abbrev adW:=@List.filter_cons_of_pos
abbrev ae1:=@Bool.true_and
abbrev ae2:=@List.any_cons
abbrev ae5:=@List.foldl_cons
abbrev ae6:=@not_or
abbrev aed:=@List.idxOf_cons
abbrev aee:=@List.Nodup.length_le_of_subset
abbrev aef:=@List.find?_eq_none
abbrev aei:=@Nat.le_mul_of_pos_left
abbrev aek:=@Nat.add_zero
abbrev ael:=@List.getElem?_toArray
abbrev aem:=@Array.getElem?_toList
abbrev aen:=@Array.ext'
abbrev aeo:=@Bool.not_eq_true
abbrev aep:=@List.mem_flatMap
abbrev aes:=@List.getElem?_modify
abbrev aeu:=@List.nodup_range
abbrev aew:=@List.replicate_succ
abbrev aey:=@List.mergeSort_perm
abbrev aeD:=@Int.natCast_mul
abbrev aeG:=@List.cons.injEq
abbrev aeJ:=@decide_eq_false
abbrev aeV:=@List.mem_of_find?_eq_some
abbrev aeX:=@Nat.not_lt_zero
abbrev aeY:=@List.getElem_range
abbrev afk:=@Bool.true_eq_false
abbrev afU:=@Int.le_of_lt
abbrev afV:=@List.count_pos_iff
abbrev aga:=@List.take_take
abbrev agp:=@List.drop_drop
abbrev agA:=@Option.map_map
abbrev agG:=@Int.mul_nonneg
abbrev agS:=@List.pairwise_map
abbrev ah4:=@List.drop_of_length_le
abbrev ah7:=@Bool.false_or
abbrev ahp:=@List.prefix_refl
abbrev ahq:=@List.any_eq_true
abbrev ahr:=@beq_self_eq_true
abbrev ahs:=@Bool.and_eq_false_iff
abbrev aht:=@Nat.le_of_ble_eq_true
abbrev ahu:=@Nat.le_of_eq
abbrev ahv:=@Nat.sub_self
abbrev ahw:=@Int.emod_nonneg
abbrev ahx:=@Int.ediv_nonneg
abbrev ahy:=@Int.add_comm
abbrev ahz:=@List.getElem?_mapIdx
abbrev ahA:=@List.find?_cons
abbrev ahB:=@Int.toNat_of_nonneg
abbrev ahC:=@Nat.succ_eq_add_one
abbrev ahD:=@beq_eq_false_iff_ne
abbrev ahE:=@List.length_zipWith
abbrev ahF:=@List.drop_take
abbrev ahG:=@Nat.mul_le_mul
abbrev ahH:=@Int.add_mul
abbrev ahI:=@Nat.mul_one
abbrev ahJ:=@List.contains_cons
abbrev ahK:=@Bool.and_true
namespace Tw
open Go
inductive NK where
 |ptr|aP|map|fn|ifc
 deriving DecidableEq
inductive TV where
 |bool (b:Bool)
 |int (k:IntKind) (n:Int)
 |str (s:ByteArray)
 |nil (k:NK)
 |ptr (b off lim:Nat)
 |aP (b off len cap sz:Nat) (ex:Bool)
 |map (r:Nat)
 |fn (f:FuncId) (first cap:List TV)
 |kU (l:Nat)
 |agg (cs:List TV)
 |dJ (cs:List TV)
 |iter (b:Nat)
inductive EV where
 |val (v:TV)
 |loc (k off:Nat)
 |undef
 |ent (r j:Nat) (v:TV)
 |EI (r j:Nat)
inductive BK where
 |ro|own|grow|last
 deriving DecidableEq
inductive HB where
 |cells (k:BK) (cs:List TV)
 |map (es:List (TV×TV))
 |ny (cs:List TV)
 |mark
 |dn (r n:Nat) (seen:List Nat)
 |loop (ready:Bool) (f:FuncId) (nt:Nat) (env:List (Nat×EV)) (ps:List Nat) (assign body:Code) (jQ:Option Code)
structure St where
 env:List (Nat×EV)
 loc:List (List TV)
 heap:List HB
 ws:List Nat
inductive Key where
 |h (b:Nat)
 |l (k:Nat)
 deriving DecidableEq
def St.get(s:St):Key->Option HB
 |.h b=>s.heap[b]?
 |.l k=>(s.loc[k]?).map (.cells .own)
def TV.toC:TV->Option LI3
 |.bool b=>some (.bool b)
 |.int k n=>some (.int k n)
 |.str s=>some (.string s)
 |.nil .ptr=>some (.pointer none)
 |.nil .aP=>some (.slice none 0 0)
 |.nil .map=>some (.map none)
 |.nil .fn=>some .nilFunc
 |.nil .ifc=>some .nilIface
 |_=>none
def TV.Ua:List TV->Option (List LI3)
 | []=>some []
 |c::cs=>match c.toC,TV.Ua cs with
  |some v,some vs=>some (v::vs)
  |_,_=>none
def TV.yI:TV->Option LI3
 |.agg cs=>(TV.Ua cs).map fun vs=>.agg vs.toArray
 |v=>v.toC
def TV.ofC:LI3->Option TV
 |.bool b=>some (.bool b)
 |.int k n=>some (.int k n)
 |.string s=>some (.str s)
 |.pointer none=>some (.nil .ptr)
 |.slice none 0 0=>some (.nil .aP)
 |.map none=>some (.nil .map)
 |.nilFunc=>some (.nil .fn)
 |.nilIface=>some (.nil .ifc)
 |_=>none
def TV.CB:List LI3->Option (List TV)
 | []=>some []
 |c::cs=>match TV.ofC c,TV.CB cs with
  |some v,some vs=>some (v::vs)
  |_,_=>none
def TV.Wh:LI3->Option TV
 |.agg cs=>(TV.CB cs.toList).map .agg
 |v=>TV.ofC v
def TV.ace:TV->Bool
 |.bool _|.int _ _|.str _|.nil _=>true
 |_=>false
def TV.acf:TV->Bool
 |.agg cs=>cs.all TV.ace
 |v=>v.ace
def TV.flat:TV->Bool
 |.dJ vs=>vs.all TV.acf
 |v=>v.acf
def TV.cells:TV->List TV
 |.agg cs=>cs
 |v=>[v]
def iY:TV->Bool
 |.agg _|.dJ _=>false
 |_=>true
def aC{α:Type}(P:LI1):Sem α->Option α
 |.pure a=>some a
 |.program k=>aC P (k P)
 |.mark _ k=>aC P k
 |_=>none
def dQ(t:Nat):List (Nat×EV)->Option EV
 | []=>none
 |(k,v)::r=>if k=t then some v else dQ t r
def St.put(s:St)(dst:Option Nat)(v:EV):St:=
 match dst with
 |some d=>{ s with env:=(d,v)::s.env }
 |none=>s
def pick(live:List Nat)(env:List (Nat×EV)):List (Nat×EV):=
 match live with
 | []=>[]
 |t::r=>match dQ t env with
  |some v=>(t,v)::pick r env
  |none=>pick r env
def IV(env:List (Nat×EV)):Operand->Option EV
 |.tmp t=>dQ t env
 |.const v=>(TV.Wh v).map .val
 |.func f=>some (.val (.fn f [] []))
 |.global _=>none
def qQ(env:List (Nat×EV))(x:Operand):Option TV:=
 match IV env x with
 |some (.val v)=>some v
 |_=>none
def Ub(env:List (Nat×EV)):List Operand->Option (List TV)
 | []=>some []
 |x::xs=>match qQ env x,Ub env xs with
  |some v,some vs=>some (v::vs)
  |_,_=>none
def Wq(env:List (Nat×EV)):List (Nat×Operand)->Option (List (Nat×TV))
 | []=>some []
 |(i,x)::xs=>match qQ env x,Wq env xs with
  |some v,some vs=>some ((i,v)::vs)
  |_,_=>none
structure mF where
 all:Bool
 ts:List Key
 ws:List Key
def cZ:mF:=⟨false,[],[]⟩
def xG(k:Key):mF:=⟨false,[k],[]⟩
def fJ(k:List Key):mF:=⟨false,k,[]⟩
def pF(k:Key):mF:=⟨false,[k],[k]⟩
def sub(cs:List TV)(off n:Nat):Option (List TV):=
 if off+n<=cs.length then some ((cs.drop off).take n)else none
def wo(cs:List TV)(off:Nat)(new:List TV):Option (List TV):=
 if off+new.length<=cs.length then some (cs.take off++new++cs.drop (off+new.length))else none
def wu(P:LI1)(t:LI2):Option Bool:=
 match P.underlying t with
 |some (.struct _)|some (.array _ _)=>some true
 |some _=>some false
 |none=>none
def dH(P:LI1)(t:LI2):Option Nat:=(P.info? t).map (·.size)
def uz(P:LI1)(t:LI2)(cs:List TV)(off:Nat):Option TV:=
 match wu P t,dH P t with
 |some true,some n=>(sub cs off n).map .agg
 |some false,some n=>if n=1 then cs[off]? else none
 |_,_=>none
def KD(P:LI1)(t:LI2):Option (List TV):=
 match P.info? t with
 |some i=>match i.zero with
  |some z=>(TV.Wh z).map TV.cells
  |none=>none
 |none=>none
def aW(h:List HB)(b:Nat):Option (List TV):=
 match h[b]? with
 |some (.cells _ cs)=>some cs
 |_=>none
def mG(h:List HB)(b lim:Nat):Option (List TV):=
 match h[b]? with
 |some (.cells k cs)=>if k=.last∧lim≠cs.length then none else some cs
 |_=>none
def EJ(floor:Nat)(b:Nat)(ws:List Nat):List Nat:=
 if b<floor then(if ws.contains b then ws else b::ws)else ws
def kD(floor:Nat):List Key->List Nat->List Nat
 | [],ws=>ws
 |.h b::r,ws=>kD floor r (EJ floor b ws)
 |.l _::r,ws=>kD floor r ws
def Ac(k:BK)(whole:Bool):Option BK:=
 match k,whole with
 |.own,_=>some .own
 |.grow,true=>some .last
 |.last,true=>some .last
 |_,_=>none
def Uc(h:List HB)(b off lim:Nat)(new:List TV):Option (List HB):=
 match h[b]? with
 |some (.cells k cs)=>match Ac k (lim==cs.length)with
  |some k'=>(wo cs off new).map fun cs'=>h.set b (.cells k' cs')
  |none=>none
 |_=>none
def BK.more:BK->BK
 |.last=>.last
 |_=>.grow
def sJ(place:Nat->Option (Nat×Nat)):List TV->List (Nat×TV)->Option (List TV)
 |cs,[]=>some cs
 |cs,(i,v)::r=>match place i with
  |some (off,size)=>if v.cells.length=size then(match wo cs off v.cells with|some cs'=>sJ place cs' r|none=>none)else none
  |none=>none
def Ud(P:LI1)(fs:Array Field)(i:Nat):Option (Nat×Nat):=
 match fs[i]? with
 |some f=>(dH P f.type).map fun n=>(f.offset,n)
 |none=>none
def CG(P:LI1)(fs:List Field):Bool:=fs.all fun f=>(dH P f.type).isSome
def NC(P:LI1)(t:LI2)(parts:List (Nat×TV)):Option TV:=
 match KD P t,P.underlying t with
 |some z,some (.struct fs)=>if CG P fs.toList then(sJ (Ud P fs) z parts).map .agg else none
 |some z,some (.array _ e)=>match dH P e with
  |some n=>(sJ (fun i=>some (i*n,n)) z parts).map .agg
  |none=>none
 |_,_=>none
def times(z:List TV):Nat->List TV
 | 0=>[]
 |n+1=>z++times z n
def jM(P:LI1)(t:LI2):Option (LI2×Nat):=
 match P.underlying t with
 |some (.slice e)=>match dH P e with
  |some n=>if n=0 then none else some (e,n)
  |none=>none
 |_=>none
def qR(site:Bool)(s:St)(cs:List TV):EV×St:=
 if site then(.val (.ptr s.heap.length 0 cs.length),{ s with heap:=s.heap++[.cells .own cs] })
 else(.loc s.loc.length 0,{ s with loc:=s.loc++[cs] })
def loadT(P:LI1)(t:LI2)(s:St):EV->Option (TV×mF)
 |.loc k off=>match s.loc[k]? with
  |some cs=>(uz P t cs off).map fun v=>(v,xG (.l k))
  |none=>none
 |.val (.ptr b off lim)=>match mG s.heap b lim,dH P t with
  |some cs,some n=>if off+n<=lim then(uz P t cs off).map fun v=>(v,xG (.h b))else none
  |_,_=>none
 |_=>none
def storeT(P:LI1)(t:LI2)(s:St)(a:EV)(v:TV):Option (St×mF):=
 match dH P t with
 |some n=>
  if v.cells.length=n∧v.cells.all iY=true then
   match a with
   |.loc k off=>match s.loc[k]? with
    |some cs=>(wo cs off v.cells).map fun cs'=>({ s with loc:=s.loc.set k cs' },pF (.l k))
    |none=>none
   |.val (.ptr b off lim)=>if off+n<=lim then(Uc s.heap b off lim v.cells).map fun h=>({ s with heap:=h },pF (.h b))else none
   |_=>none
  else none
 |none=>none
def QG(o:Nat):EV->Option EV
 |.loc k off=>some (.loc k (off+o))
 |.val (.ptr b off lim)=>if off+o<=lim then some (.val (.ptr b (off+o) lim))else none
 |_=>none
def Gx(P:LI1)(t:LI2)(i:Nat):Option Nat:=
 match P.underlying t with
 |some (.struct fs)=>match fs[i]? with
  |some f=>match dH P f.type with
   |some n=>if n=0 then none else some f.offset
   |none=>none
  |none=>none
 |_=>none
def idx(n:Nat):TV->Option Nat
 |.int _ i=>if 0<=i∧i<n then some i.toNat else none
 |_=>none
def mJ(P:LI1)(t:LI2)(x:EV)(i:TV):Option EV:=
 match P.underlying t with
 |some (.slice e)=>match dH P e,x with
  |some n,.val (.aP b off len cap sz _)=>if n=sz then(idx len i).map fun j=>.val (.ptr b (off+j*n) (off+cap*n))else none
  |_,_=>none
 |some (.array len e)=>match dH P e with
  |some n=>match idx len i with
   |some j=>QG (j*n) x
   |none=>none
  |none=>none
 |_=>none
def J5(P:LI1)(t:LI2)(x i:TV):Option TV:=
 match P.underlying t,x with
 |some (.array len e),.agg cs=>match dH P e,idx len i with
  |some n,some j=>uz P e cs (j*n)
  |_,_=>none
 |some .string,.str s=>match idx s.size i with
  |some j=>(s[j]?).map fun b=>.int .u8 b.toNat
  |none=>none
 |_,_=>none
def qU(n:Nat):TV->Option Nat
 |.int _ i=>if 0<=i∧i<=n then some i.toNat else none
 |_=>none
def jF(n d:Nat):Option TV->Option Nat
 |none=>some d
 |some v=>qU n v
def qV(P:LI1)(t:LI2)(x:TV)(lo hi mx:Option TV):Option TV:=
 match P.underlying t,x with
 |some .string,.str s=>match mx with
  |some _=>none
  |none=>match jF s.size s.size hi with
   |some h=>match jF h 0 lo with
    |some l=>some (.str (s.extract l h))
    |none=>none
   |none=>none
 |some (.slice e),.aP b off len cap sz ex=>match dH P e with
  |some n=>
   if n=sz then
    match mx with
    |some m=>match qU cap m,hi with
     |some m,some h=>match qU (min m len) h with
      |some h=>match jF h 0 lo with
       |some l=>some (.aP b (off+l*n) (h-l) (m-l) sz true)
       |none=>none
      |none=>none
     |_,_=>none
    |none=>match jF len len hi with
     |some h=>match jF h 0 lo with
      |some l=>some (.aP b (off+l*n) (h-l) (cap-l) sz ex)
      |none=>none
     |none=>none
   else none
  |none=>none
 |some (.slice e),.nil .aP=>match dH P e,jF 0 0 mx,jF 0 0 hi,jF 0 0 lo with
  |some _,some _,some _,some _=>if mx.isSome&&hi.isNone then none else some (.nil .aP)
  |_,_,_,_=>none
 |_,_=>none
def qI(P:LI1)(t:LI2)(x:EV)(lo hi mx:Option TV):Option TV:=
 match P.underlying t,x with
 |some (.array n e),.val (.ptr b off lim)=>match dH P e with
  |some size=>
   if size=0∨lim<off+n*size∨2^24<n then none else
   match jF n n mx with
   |some m=>match jF m n hi with
    |some h=>match jF h 0 lo with
     |some l=>if mx.isSome&&hi.isNone then none else some (.aP b (off+l*size) (h-l) (m-l) size true)
     |none=>none
    |none=>none
   |none=>none
  |none=>none
 |_,_=>none
def eu(size:Nat)(h:List HB):TV->Option (Nat×List TV)
 |.nil .aP=>some (0,[])
 |.aP b off len cap sz _=>if sz=size then(if len=0 then some (0,[])else match mG h b (off+cap*sz)with|some cs=>(sub cs off (len*size)).map fun l=>(len,l)|none=>none)else none
 |.str s=>if size=1 then some (s.size,s.data.toList.map fun b=>.int .u8 b.toNat)else none
 |_=>none
def dw:TV->List Key
 |.aP b _ _ _ _ _=>[.h b]
 |_=>[]
def Ue(P:LI1)(t:LI2):Bool:=
 match P.underlying t with
 |some (.int _)=>true
 |_=>false
def a5f(i:TypeInfo):Bool:=
 match i.zero with
 |some z=>z.cells.size==i.size
 |none=>false
def uj(P:LI1)(e:LI2)(n:Nat):Bool:=
 match P.info? e with
 |some i=>decide (n*i.bytes<=2^40)&&decide (n<=2^40)&&decide (i.bytes<=2^20)&&decide (0<i.bytes)&&a5f i
 |none=>false
def jl(P:LI1)(at_:Array LI2)(s:St)(d x:TV):Option (TV×St×mF):=
 match at_[0]?,at_[1]? with
 |some st,some xt=>
  if Ue P xt||(P.underlying xt).isNone then none else
  match jM P st with
  |some (e,size)=>match eu size s.heap x with
   |some (n,new)=>
    if n=0 then(match d with
     |.nil .aP=>some (d,s,fJ (dw x))
     |.aP _ _ _ _ sz _=>if sz=size then some (d,s,fJ (dw x))else none
     |_=>none)
    else if new.length=n*size then
     match d with
     |.nil .aP=>if uj P e n then some (.aP s.heap.length 0 n n size false,{ s with heap:=s.heap++[.cells .own new] },fJ (dw x))else none
     |.aP b off len cap sz ex=>
      if sz=size then
       if len+n<=cap then
        (Uc s.heap b (off+len*size) (off+cap*size) new).map fun h=>(.aP b off (len+n) cap sz ex,{ s with heap:=h },⟨false,.h b::dw x,[.h b]⟩)
       else if uj P e (len+n)then
        if ex then
         (eu size s.heap (.aP b off len cap sz ex)).map fun r=>(.aP s.heap.length 0 (len+n) (len+n) size false,{ s with heap:=s.heap++[.cells .own (r.2++new)] },fJ (.h b::dw x))
        else match s.heap[b]? with
         |some (.cells k cs)=>
          if k=.ro∨off≠0∨len≠cap∨cs.length≠len*size∨len=0 then none
          else some (.aP b 0 (len+n) (len+n) size false,{ s with heap:=s.heap.set b (.cells k.more (cs++new))},⟨false,.h b::dw x,[.h b]⟩)
         |_=>none
       else none
      else none
     |_=>none
    else none
   |none=>none
  |none=>none
 |_,_=>none
def isStr:TV->Bool
 |.str _=>true
 |_=>false
def Gy(P:LI1)(at_:Array LI2)(s:St)(d x:TV):Option (TV×St×mF):=
 match at_[0]? with
 |some st=>match jM P st with
  |some (_,size)=>match eu size s.heap x with
   |some (n,new)=>
    if new.length=n*size∧isStr x=false then
     match d with
     |.nil .aP=>some (.int .i64 0,s,fJ (dw x))
     |.aP b off len cap sz _=>
      if sz=size then
       if min n len=0 then some (.int .i64 0,s,fJ (dw x))
       else(Uc s.heap b off (off+cap*size) (new.take (min n len*size))).map fun h=>(.int .i64 (min n len:Nat),{ s with heap:=h },⟨false,.h b::dw x,[.h b]⟩)
      else none
     |_=>none
    else none
   |none=>none
  |none=>none
 |none=>none
def YV(P:LI1)(at_:Array LI2)(h:List HB)(x:TV):Option (TV×mF):=
 match at_[0]? with
 |some t=>match P.underlying t,x with
  |some .string,.str s=>some (.int .i64 s.size,cZ)
  |some (.array n _),_=>some (.int .i64 n,cZ)
  |some (.slice _),.aP _ _ len _ _ _=>some (.int .i64 len,cZ)
  |some (.slice _),.nil .aP=>some (.int .i64 0,cZ)
  |some (.map _ _),.nil .map=>some (.int .i64 0,cZ)
  |some (.map _ _),.map r=>match h[r]? with
   |some (.map es)=>some (.int .i64 es.length,xG (.h r))
   |_=>none
  |_,_=>none
 |none=>none
def BN:List TV->Option (List LI3)
 | []=>some []
 |c::cs=>match c.yI,BN cs with
  |some v,some vs=>some (v::vs)
  |_,_=>none
def Ws(P:LI1)(kt:LI2)(k:LI3)(ks:List LI3)(r:Option Nat):Bool:=
 match aC P (underlying kt)with
 |some kind=>(match r with|some j=>decide (j<ks.length)|none=>true)&&((ks.zipIdx.all fun(x,i)=>Instr.sameNow kind k x==some (some i==r)) ||
   (ks.zipIdx.all fun(x,i)=>Instr.sameNow kind k x==none&&aC P (Op.equal kt k x)==some (some i==r)))
 |none=>false
def ES(P:LI1)(kt:LI2)(k:LI3)(es:List (TV×TV)):Option (Option Nat):=
 match BN (es.map (·.1))with
 |some ks=>match aC P (do Instr.checkKey es.isEmpty 10000 kt k;Instr.findKey kt k (ks.map fun x=>⟨x,.bool false,0⟩))with
  |some r=>if Ws P kt k ks (r.map (·.1))then some (r.map (·.1))else none
  |none=>none
 |none=>none
def KE:TV->Option NK
 |.ptr _ _ _=>some .ptr
 |.aP _ _ _ _ _ _=>some .aP
 |.map _=>some .map
 |.fn _ _ _|.kU _=>some .fn
 |_=>none
def YW:TV->Option NK
 |.nil k=>some k
 |_=>none
def KF(P:LI1)(t:LI2):Option NK:=
 match P.underlying t with
 |some (.pointer _)=>some .ptr
 |some (.slice _)=>some .aP
 |some (.map _ _)=>some .map
 |some (.func _ _ _)=>some .fn
 |_=>none
def CJ(P:LI1)(t:LI2)(x y:TV):Bool:=
 match KF P t with
 |some k=>(YW x==some k&&KE y==some k)||(KE x==some k&&YW y==some k)
 |none=>false
def sO(P:LI1)(op:BinOp)(t:LI2)(x y:Operand)(a b:TV):Option TV:=
 match a.yI,b.yI with
 |some u,some v=>match aC P (do eqGuard op t x y u v;binOp op t u v)with
  |some r=>TV.Wh r
  |none=>none
 |_,_=>if CJ P t a b then(match op with
  |.eql=>some (.bool false)
  |.neq=>some (.bool true)
  |_=>none)else none
def unT(P:LI1)(op:UnOp)(a:TV):Option TV:=
 match a.yI with
 |some u=>match aC P (Op.unary op u)with
  |some r=>TV.Wh r
  |none=>none
 |none=>none
def Rt(P:LI1)(src dst:LI2)(a:TV):Option TV:=
 match a.yI with
 |some u=>match aC P (convert src dst u)with
  |some r=>TV.Wh r
  |none=>none
 |none=>none
def E8(P:LI1)(mx:Bool)(at_:Array LI2)(t:LI2)(az:List TV):Option TV:=
 match BN az with
 |some vs=>match aC P (if mx then Builtin.max_ at_ t vs.toArray else Builtin.min_ at_ t vs.toArray)with
  |some r=>TV.Wh r
  |none=>none
 |none=>none
def ND(P:LI1)(t:LI2)(x:TV)(i:Nat):Option TV:=
 match P.underlying t,x with
 |some (.struct fs),.agg cs=>match fs[i]? with
  |some f=>uz P f.type cs f.offset
  |none=>none
 |_,_=>none
def qJ(P:LI1)(t:LI2)(len:Nat)(s:St)(ps:List (Nat×TV)):Option (TV×St):=
 match jM P t with
 |some (e,n)=>if len*n<=2^24∧ps.all (fun p=>p.2.cells.all iY)=true then
   match KD P e with
   |some z=>if z.length=n then
     match sJ (fun i=>some (i*n,n)) (times z len) ps with
     |some cs=>some (.aP s.heap.length 0 len len n true,{ s with heap:=s.heap++[.cells .own cs] })
     |none=>none
    else none
   |none=>none
  else none
 |none=>none
def a2I:TV->Option Nat
 |.int _ i=>if 0<=i∧i<=2^40 then some i.toNat else none
 |_=>none
def sQ(P:LI1)(t:LI2)(s:St)(l c:TV):Option (TV×St):=
 match jM P t,a2I l,a2I c with
 |some (e,n),some l,some c=>
  if l<=c∧uj P e c then
   match KD P e with
   |some z=>if z.length=n then some (.aP s.heap.length 0 l c n true,{ s with heap:=s.heap++[.cells .own (times z c)] })else none
   |none=>none
  else none
 |_,_,_=>none
def gX(P:LI1)(t:LI2)(h:List HB)(m k:TV)(ok:Bool):Option TV:=
 match P.underlying t,k.yI with
 |some (.map kt e),some kv=>
  let es:=match m with
   |.nil .map=>some []
   |.map r=>match h[r]? with
    |some (.map es)=>some es
    |_=>none
   |_=>none
  match es with
  |some es=>match ES P kt kv es with
   |some (some i)=>match es[i]? with
    |some (_,v)=>some (if ok then .dJ [v,.bool true]else v)
    |none=>none
   |some none=>match P.info? e with
    |some i=>match i.zero with
     |some z=>(TV.Wh z).map fun z=>if ok then .dJ [z,.bool false]else z
     |none=>none
    |none=>none
   |none=>none
  |none=>none
 |_,_=>none
def xR(P:LI1)(t:LI2)(s:St)(m k v:TV):Option (St×mF):=
 match P.underlying t,k.yI,m with
 |some (.map kt _),some kv,.map r=>match s.heap[r]?,aC P (Instr.checkKey false 10000 kt kv)with
  |some (.map es),some ()=>match ES P kt kv es with
   |some (some i)=>match es[i]? with
    |some (old,_)=>match old.yI with
     |some ov=>if Instr.sameBits 10000 ov kv then some ({ s with heap:=s.heap.set r (.map (es.set i (k,v))) },pF (.h r))else none
     |none=>none
    |none=>none
   |some none=>some ({ s with heap:=s.heap.set r (.map (es++[(k,v)])) },pF (.h r))
   |none=>none
  |_,_=>none
 |_,_,_=>none
def Ad(P:LI1)(t:LI2)(s:St)(m k:TV):Option (EV×St×mF):=
 match P.underlying t,k.yI,m with
 |some (.map kt e),some kv,.map r=>match s.heap[r]?,aC P (Instr.checkKey false 10000 kt kv)with
  |some (.map es),some ()=>match ES P kt kv es with
   |some (some i)=>match es[i]? with
    |some (old,v)=>match old.yI with
     |some ov=>if Instr.sameBits 10000 ov kv then some (.ent r i v,{ s with heap:=s.heap.set r (.map (es.set i (k,v))) },pF (.h r))else none
     |none=>none
    |none=>none
   |some none=>match P.info? e with
    |some i=>match i.zero with
     |some z=>match TV.Wh z with
      |some z=>some (.ent r es.length z,{ s with heap:=s.heap.set r (.map (es++[(k,z)])) },pF (.h r))
      |none=>none
     |none=>none
    |none=>none
   |none=>none
  |_,_=>none
 |_,_,_=>none
def a0D(P:LI1)(t:LI2)(h h':List HB)(m k:TV):Bool:=
 match gX P t h m k false,gX P t h' m k false with
 |some (.int a x),some (.int b y)=>decide (a=b)&&x==y
 |_,_=>false
def CO(P:LI1)(t:LI2)(s:St)(m k:TV):Option (EV×St×mF):=
 match Ad P t s m k with
 |some (e,s1,i)=>if a0D P t s.heap s1.heap m k then some (e,s1,i)else none
 |none=>none
def Gz(s:St)(m:TV)(e:EV)(v:TV):Option (St×mF):=
 match m,e with
 |.map r,.EI r' j=>if r=r' then match s.heap[r]? with
  |some (.map es)=>match es[j]? with
   |some (k,_)=>some ({ s with heap:=s.heap.set r (.map (es.set j (k,v))) },pF (.h r))
   |none=>none
  |_=>none
  else none
 |_,_=>none
def yY(e:EV)(i:Nat):Option EV:=
 match e with
 |.val (.dJ vs)=>(vs[i]?).map .val
 |.ent r j v=>match i with
  | 0=>some (.val v)
  | 1=>some (.EI r j)
  |_=>none
 |_=>none
abbrev aZ:=TV->List TV->List HB->Option (TV×List HB×List Nat)
def qW(P:LI1)(b:Builtin)(at_:Array LI2)(t:LI2)(s:St)(az:List TV):Option (TV×St×mF):=
 match b,az with
 |.len,[x]=>(YV P at_ s.heap x).map fun(v,i)=>(v,s,i)
 |.append,[d,x]=>jl P at_ s d x
 |.copy,[d,x]=>Gy P at_ s d x
 |.min,az=>(E8 P false at_ t az).map fun v=>(v,s,cZ)
 |.max,az=>(E8 P true at_ t az).map fun v=>(v,s,cZ)
 |_,_=>none
def Wu(env:List (Nat×EV)):Option Operand->Option (Option TV)
 |none=>some none
 |some x=>match qQ env x with
  |some v=>some (some v)
  |none=>none
def NG(P:LI1)(call:aZ)(s:St)(c:Call)(t:LI2):Option (EV×St×mF):=
 match c.callee,Ub s.env c.args.toList with
 |.builtin b,some az=>(qW P b c.argTypes t s az).map fun(v,s,i)=>(.val v,s,i)
 |.value f,some az=>match qQ s.env f with
  |some fv=>match call fv az s.heap with
   |some (v,h,ws)=>some (.val v,{ s with heap:=h },⟨true,[],ws.map .h⟩)
   |none=>none
  |none=>none
 |_,_=>none
def pG(P:LI1)(call:aZ)(site:Nat->Bool)(s:St)(o:Oper):Option (EV×St×mF):=
 match o.op with
 |.move x|.assign x=>(IV s.env x).map fun v=>(v,s,cZ)
 |.pick c a b=>match qQ s.env c with
  |some (.bool t)=>(IV s.env (if t then a else b)).map fun v=>(v,s,cZ)
  |_=>none
 |.alloc e=>(KD P e).map fun z=>let (v,s):=qR (site (o.dst.getD 0)) s z;(v,s,cZ)
 |.box _ x=>match qQ s.env x with
  |some v=>if v.cells.all iY then let (v,s):=qR (site (o.dst.getD 0)) s v.cells;some (v,s,cZ)else none
  |none=>none
 |.build t ps=>match Wq s.env ps.toList with
  |some ps=>(NC P t ps).map fun v=>(.val v,s,cZ)
  |none=>none
 |.buildSlice t len ps=>match Wq s.env ps.toList with
  |some ps=>(qJ P t len s ps).map fun(v,s)=>(.val v,s,cZ)
  |none=>none
 |.load t a=>match IV s.env a with
  |some a=>(loadT P t s a).map fun(v,i)=>(.val v,s,i)
  |none=>none
 |.store t a x=>match IV s.env a,qQ s.env x with
  |some a,some v=>(storeT P t s a v).map fun(s,i)=>(.undef,s,i)
  |_,_=>none
 |.nilCheck x=>match IV s.env x with
  |some (.loc k o)=>some (.loc k o,s,cZ)
  |some (.val (.ptr b o lim))=>some (.val (.ptr b o lim),s,cZ)
  |some (.val (.fn f a b))=>some (.val (.fn f a b),s,cZ)
  |some (.val (.kU l))=>some (.val (.kU l),s,cZ)
  |_=>none
 |.binOp op t x y _=>match qQ s.env x,qQ s.env y with
  |some a,some b=>(sO P op t x y a b).map fun v=>(.val v,s,cZ)
  |_,_=>none
 |.unOp op _ x=>match qQ s.env x with
  |some a=>(unT P op a).map fun v=>(.val v,s,cZ)
  |none=>none
 |.convert src dst x=>match qQ s.env x with
  |some a=>(Rt P src dst a).map fun v=>(.val v,s,cZ)
  |none=>none
 |.makeFunc (.func f) first cap=>match Ub s.env first.toList,Ub s.env cap.toList with
  |some a,some b=>some (.val (.fn f a b),s,cZ)
  |_,_=>none
 |.makeMap t r=>match Wu s.env r,P.underlying t with
  |some none,_=>some (.val (.map s.heap.length),{ s with heap:=s.heap++[.map []] },cZ)
  |some (some (.int _ _)),some (.map _ _)=>some (.val (.map s.heap.length),{ s with heap:=s.heap++[.map []] },cZ)
  |_,_=>none
 |.makeSlice t l c=>match qQ s.env l,qQ s.env c with
  |some l,some c=>(sQ P t s l c).map fun(v,s)=>(.val v,s,cZ)
  |_,_=>none
 |.slice t x lo hi mx=>match IV s.env x,Wu s.env lo,Wu s.env hi,Wu s.env mx with
  |some x,some lo,some hi,some mx=>match P.underlying t,x with
   |some (.array _ _),x=>(qI P t x lo hi mx).map fun v=>(.val v,s,cZ)
   |_,.val x=>(qV P t x lo hi mx).map fun v=>(.val v,s,cZ)
   |_,_=>none
  |_,_,_,_=>none
 |.fieldAddr t x f=>match IV s.env x,Gx P t f with
  |some a,some n=>(QG n a).map fun v=>(v,s,cZ)
  |_,_=>none
 |.field t x f=>match qQ s.env x with
  |some a=>(ND P t a f).map fun v=>(.val v,s,cZ)
  |none=>none
 |.indexAddr t x i=>match IV s.env x,qQ s.env i with
  |some a,some i=>(mJ P t a i).map fun v=>(v,s,cZ)
  |_,_=>none
 |.index t x i=>match qQ s.env x,qQ s.env i with
  |some a,some i=>(J5 P t a i).map fun v=>(.val v,s,cZ)
  |_,_=>none
 |.lookup t m k ok=>match qQ s.env m,qQ s.env k with
  |some m,some k=>(gX P t s.heap m k ok).map fun v=>(.val v,s,fJ (match m with|.map r=>[.h r] |_=>[]))
  |_,_=>none
 |.mapUpdate t m k x|.insert t m k x=>match qQ s.env m,qQ s.env k,qQ s.env x with
  |some m,some k,some v=>(xR P t s m k v).map fun(s,i)=>(.undef,s,i)
  |_,_,_=>none
 |.mapEntry t m k=>match qQ s.env m,qQ s.env k with
  |some m,some k=>CO P t s m k
  |_,_=>none
 |.entryStore _ m e x=>match qQ s.env m,IV s.env e,qQ s.env x with
  |some m,some e,some v=>(Gz s m e v).map fun(s,i)=>(.undef,s,i)
  |_,_,_=>none
 |.extract t i=>match IV s.env t with
  |some e=>(yY e i).map fun v=>(v,s,cZ)
  |none=>none
 |.call c=>NG P call s c o.type
 |.range t x=>match qQ s.env x,P.underlying t with
  |some (.map r),some (.map _ _)=>match s.heap[r]? with
   |some (.map es)=>some (.val (.iter s.heap.length),{ s with heap:=s.heap++[.dn r es.length []] },xG (.h r))
   |_=>none
  |_,_=>none
 |.entry x=>match qQ s.env x with
  |some (.iter b)=>match s.heap[b]? with
   |some (.dn r n (i::_))=>match s.heap[r]? with
    |some (.map es)=>if es.length=n then(es[i]?).map fun e=>(.val (.dJ [e.1,e.2]),s,fJ [.h b,.h r])else none
    |_=>none
   |_=>none
  |_=>none
 |_=>none
def CP(ops:Array Oper)(env:List (Nat×EV))(o:Oper):Option Bool:=
 match o.guard with
 |none=>some true
 |some (j,want)=>match(ops[j]?).bind (·.dst)with
  |some d=>match dQ d env with
   |some (.val (.bool b))=>some (b==want)
   |some .undef=>some false
   |_=>none
  |none=>none
def NH(nt:Nat)(o:Oper):Bool:=
 match o.dst with
 |some d=>decide (d<nt)
 |none=>true
def lD(P:LI1)(call:aZ)(site:Nat->Bool)(fl nt:Nat)(ops:Array Oper):List Oper->St->Option (St×List mF)
 | [],s=>some (s,[])
 |o::os,s=>if !NH nt o then none else match CP ops s.env o with
  |some true=>match pG P call site s o with
   |some (v,s1,i)=>match lD P call site fl nt ops os ({ s1 with ws:=kD fl i.ws s.ws }.put o.dst v)with
    |some (s,is)=>some (s,i::is)
    |none=>none
   |none=>none
  |some false=>match lD P call site fl nt ops os (s.put o.dst .undef)with
   |some (s,is)=>some (s,cZ::is)
   |none=>none
  |none=>none
def NJ:List Nat->List Nat->List Nat
 | [],l=>l
 |x::xs,l=>NJ xs (if l.contains x then l else x::l)
def Fz(acc:List (List Nat))(o:Oper):List Nat:=
 o.after.toList.foldl (fun l e=>if Region.binds .any e then NJ (e.on::acc.getD e.on []) l else l) []
def ET:List Oper->List (List Nat)->List (List Nat)
 | [],acc=>acc
 |o::os,acc=>ET os (acc++[Fz acc o])
def J6:Op->Bool
 |.store .. |.mapUpdate .. |.insert .. |.mapEntry .. |.entryStore ..=>true
 |.call { callee:=.builtin b,.. }=>match b with
  |.len|.min|.max=>false
  |_=>true
 |.call _=>true
 |_=>false
def NM:Op->Bool
 |.store .. |.mapUpdate .. |.insert .. |.mapEntry .. |.entryStore .. |.load .. |.lookup .. |.range .. |.entry ..=>true
 |.call { callee:=.builtin b,.. }=>match b with
  |.min|.max=>false
  |_=>true
 |.call _=>true
 |_=>false
def oD(ops:List Oper):List (Nat×Nat):=
 let pr:=ET ops []
 (List.range ops.length).flatMap fun j=>((List.range j).filter fun i=>!(pr.getD j []).contains i).map fun i=>(i,j)
def nT(ops:List Oper):Bool:=
 (ops.zipIdx.all fun(o,i)=>o.after.all fun e=>!Region.binds .any e||decide (e.on<i)) &&
 (oD ops).all fun(i,j)=>match ops[i]?,ops[j]? with
  |some a,some b=>a.apart ops.toArray b&&b.apart ops.toArray a
  |_,_=>false
def Bz(a b:Oper):Bool:=match a.op,b.op,a.guard,b.guard with
 |.lookup t (.tmp m) (.tmp k) false,.mapEntry t' (.tmp m') (.tmp k'),none,none=>t==t'&&m==m'&&k==k'
 |_,_,_,_=>false
def mY(ops:List Oper):List (Nat×Nat):=
 (oD ops).filter fun(i,j)=>match ops[i]?,ops[j]? with
  |some a,some b=>((J6 a.op&&NM b.op)||(NM a.op&&J6 b.op))&&!Bz a b
  |_,_=>false
def Key.isH:Key->Bool
 |.h _=>true
 |.l _=>false
def NP(ws:List Key)(b:mF):Bool:=
 ws.all fun k=>!(b.all&&k.isH)&&!b.ts.contains k&&!b.ws.contains k
def calm(a b:mF):Bool:=NP a.ws b&&NP b.ws a
def BA(xH:List mF):List (Nat×Nat)->Bool
 | []=>true
 |(i,j)::r=>(match xH[i]?,xH[j]? with
  |some a,some b=>calm a b
  |_,_=>false)&&BA xH r
inductive Ex where
 |norm|exit (id:Nat)|ret
structure FnT where
 nt:Nat
 body:Code
 results:List ResultVar
def Uf(P:LI1)(f:Nat):Option FnT:=
 match P.funcs[f]? with
 | some fn => if fn.name == "runtime.NumGoroutine" then none else match fn.body with
  |some b=>some ⟨fn.ntmps,b,fn.results.toList⟩
  |none=>none
 |none=>none
structure qM where
 live:List (Nat×List (Nat×List Nat))
 head:List (Nat×List (Nat×List Nat))
 site:List (Nat×List Nat)
 exts:List Nat:=[]
 ext:TV->List TV->List HB->Option (TV×List HB×List Nat):=fun _ _ _=>none
 dem:List Nat:=[]
 din:List Nat:=[]
 a9z:List Nat:=[]
def Ru{α:Type}(k:Nat):List (Nat×List α)->List α
 | []=>[]
 |(j,l)::r=>if j=k then l else Ru k r
def qM.iy(T:qM)(f id:Nat):List Nat:=Ru id (Ru f T.live)
def qM.eX(T:qM)(f id:Nat):List Nat:=Ru id (Ru f T.head)
def qM.Ug(T:qM)(f d:Nat):Bool:=(Ru f T.site).contains d
def CQ:List (Nat×EV)->Nat
 | []=>0
 |(_,.loc k _)::r=>max (k+1) (CQ r)
 |_::r=>CQ r
def kE(live:List Nat)(s:St):St:=
 let env:=pick live s.env
 { s with env:=env,loc:=s.loc.take (CQ env) }
def dW:Code->Nat
 |.region id _ _=>id
 |.seq a _=>dW a
 |.block _ b=>dW b
 |.loop b=>dW b
 |.scope b=>dW b
 |_=>0
def iter(g:St->Option (Ex×St)):Nat->St->Option (Ex×St)
 | 0,_=>none
 |n+1,s=>match g s with
  |some (.norm,s)=>iter g n s
  |r=>r
def isVal:Nat×EV->Bool
 |(_,.loc _ _)|(_,.ent _ _ _)|(_,.EI _ _)=>false
 |_=>true
def Rx:Bool->Option Code->Option Ex
 |true,none=>some .norm
 |false,some .ret=>some .ret
 |false,some (.exit id)=>some (.exit id)
 |_,_=>none
def exec(P:LI1)(T:qM)(call:aZ)(L:Nat)(f:Nat)(gW:Bool)(fl nt:Nat):Code->St->Option (Ex×St)
 |.skip,s=>some (.norm,s)
 |.label _,s=>some (.norm,s)
 |.region id ops draw,s=>match lD P call (fun d=>gW||T.Ug f d) fl nt ops ops.toList s with
  |some (s,xH)=>if !draw||(nT ops.toList&&BA xH (mY ops.toList))then some (.norm,{ s with env:=pick (T.iy f id) s.env })else none
  |none=>none
 |.seq a b,s=>match exec P T call L f gW fl nt a s with
  |some (.norm,s)=>exec P T call L f gW fl nt b s
  |r=>r
 |.cond c a b,s=>match qQ s.env c with
  |some (.bool true)=>exec P T call L f gW fl nt a s
  |some (.bool false)=>exec P T call L f gW fl nt b s
  |_=>none
 |.block id b,s=>match exec P T call L f gW fl nt b s with
  |some (.exit i,s)=>some (if i=id then .norm else .exit i,s)
  |r=>r
 |.scope b,s=>exec P T call L f gW fl nt b s
 |.loop b,s=>iter (fun s=>exec P T call L f gW fl nt b (kE (T.eX f (dW b)) s)) L s
 |.exit id,s=>some (.exit id,s)
 |.ret,s=>some (.ret,s)
 |.rangeFunc g ps assign body,s=>match qQ s.env g with
  |some (.fn f1 a1 b1)=>
   if s.env.all isVal&&!gW then
    match call (.fn f1 a1 b1) [.kU (s.heap.length+1)] (s.heap++[.mark,.loop true f nt s.env ps.toList assign body none])with
    |some (_,h,ws)=>match h[s.heap.length+1]? with
     |some (.loop rd f2 QH e2 CS a2 b2 jQ)=>match Rx rd jQ with
      |some e=>some (e,{ s with heap:=h.set (s.heap.length+1) (.loop false f2 QH e2 CS a2 b2 (some .skip)),ws:=kD fl (ws.map .h) s.ws })
      |none=>none
     |_=>none
    |none=>none
   else none
  |_=>none
 |_,_=>none
def a5g(P:LI1)(s:St):ResultVar->Option TV
 |.tmp t=>match dQ t s.env with
  |some (.val v)=>some v
  |_=>none
 |.cell a t=>match dQ a s.env with
  |some a=>(loadT P t s a).map (·.1)
  |none=>none
def xU(P:LI1)(s:St):List ResultVar->Option (List TV)
 | []=>some []
 |r::rs=>match a5g P s r,xU P s rs with
  |some v,some vs=>some (v::vs)
  |_,_=>none
def one:List TV->TV
 | [v]=>v
 |vs=>.dJ vs
def nU:Nat->List TV->List (Nat×EV)
 |_,[]=>[]
 |k,v::vs=>(k,.val v)::nU (k+1) vs
def sS(env:List (Nat×EV)):List Nat->List TV->List (Nat×EV)
 |p::ps,v::vs=>sS ((p,.val v)::env) ps vs
 |_,_=>env
def anH(P:LI1)(T:qM)(call:aZ)(L:Nat)(f:Nat)(args:List TV)(h:List HB):Option (TV×List HB×List Nat):=
 match Uf P f with
 |some t=>match exec P T call L f false h.length t.nt t.body ⟨nU 0 args,[],h,[]⟩with
  |some (.norm,s)|some (.ret,s)=>match xU P s t.results with
   |some vs=>if s.ws.isEmpty&&(one vs).flat then some (one vs,h,[])else some (one vs,s.heap,s.ws)
   |none=>none
  |_=>none
 |none=>none
def sU:Ex->Option Code
 |.norm=>none
 |.ret=>some .ret
 |.exit id=>some (.exit id)
def pI:Ex->Bool
 |.norm=>true
 |_=>false
def NQ(P:LI1)(T:qM)(call:aZ)(L:Nat)(l:Nat)(args:List TV)(h:List HB):Option (TV×List HB×List Nat):=
 match h[l]? with
 |some (.loop true f nt env ps assign body _)=>
  if args.length=ps.length∧ps.all (fun p=>decide (p<nt))then
   match exec P T call L f true h.length nt assign ⟨sS env ps args,[],h,[]⟩with
   |some (.norm,s)=>match s.heap[l]? with
    |some (.loop true f' nt' env' ps' a' b' _)=>
     match exec P T call L f true h.length nt body { s with heap:=s.heap.set l (.loop false f' nt' env' ps' a' b' none),ws:=EJ h.length l s.ws }with
     |some (e,s)=>match s.heap[l]? with
      |some (.loop false f' nt' env' ps' a' b' none)=>some (.bool (pI e),s.heap.set l (.loop (pI e) f' nt' env' ps' a' b' (sU e)),EJ h.length l s.ws)
      |_=>none
     |none=>none
    |_=>none
   |_=>none
  else none
 |_=>none
def ap(P:LI1)(T:qM)(L:Nat):Nat->aZ
 | 0,_,_,_=>none
 |n+1,.fn f first cap,args,h=>anH P T (ap P T L n) L f (first++args++cap) h
 |n+1,.kU l,args,h=>NQ P T (ap P T L n) L l args h
 |_,_,_,_=>none
def run(P:LI1)(T:qM)(L n f:Nat)(args:List TV)(h:List HB):Option (TV×List HB×List Nat):=ap P T L n (.fn f [] []) args h
structure Pl where
 c:Nat
 base:Nat
 ext:Nat
 tot:Nat
inductive Lc where
 |cells (ls:List Pl)
 |obj (r:Nat) (o:List Nat)
abbrev Mp:=Key->Option Lc
abbrev Np:=Nat->Option Lc
def Mp.h(M:Mp):Np:=fun b=>M (.h b)
inductive VR(M:Np):TV->LI3->Prop
 |bool (b:Bool):VR M (.bool b) (.bool b)
 |int (k:IntKind) (n:Int):VR M (.int k n) (.int k n)
 |str (s:ByteArray):VR M (.str s) (.string s)
 |a2J:VR M (.nil .ptr) (.pointer none)
 |Uh:VR M (.nil .aP) (.slice none 0 0)
 |YX:VR M (.nil .map) (.map none)
 |nfn:VR M (.nil .fn) .nilFunc
 |a2K:VR M (.nil .ifc) .nilIface
 |ptr {b off lim:Nat} {ls:List Pl} {p:Pl} (hb:M b=some (.cells ls)) (hp:p∈ls) (h:lim<=p.ext) (ht:p.base+lim<=p.tot) :
   VR M (.ptr b off lim) (.pointer (some ⟨p.c,p.base+off,none⟩))
 |aP {b off len cap sz:Nat} {ex:Bool} {ls:List Pl} {p:Pl} {a:Addr} {cap':Nat} (hb:M b=some (.cells ls)) (hp:cap'=0∨p∈ls)
   (h:off+cap*sz<=p.ext) (hl:len<=cap) (hc:cap<=cap') (hx:ex=true->cap'=cap)
   (ha:cap'=0∨(a=⟨p.c,p.base+off,none⟩∧p.base+off+cap'*sz<=p.tot)) (hk:cap'<2^63) :
   VR M (.aP b off len cap sz ex) (.slice (some a) len cap')
 |map {r r':Nat} {o:List Nat} (h:M r=some (.obj r' o)):VR M (.map r) (.map (some r'))
 |kU {l l':Nat} {o:List Nat} (h:M l=some (.obj l' o)):VR M (.kU l) (.func (.yield l') #[] #[])
 |iter {l l':Nat} {o:List Nat} (h:M l=some (.obj l' o)):VR M (.iter l) (.pointer (some ⟨l',0,none⟩))
 |fn {f:FuncId} {az bs:List TV} {xs ys:List LI3} (h1:az.length=xs.length) (h2:∀(i:Nat) (c:TV) (v:LI3),az[i]? = some c->xs[i]? = some v->VR M c v)
   (h3:bs.length=ys.length) (h4:∀(i:Nat) (c:TV) (v:LI3),bs[i]? = some c->ys[i]? = some v->VR M c v):VR M (.fn f az bs) (.func (.func f) xs.toArray ys.toArray)
 |agg {az:List TV} {xs:List LI3} (h1:az.length=xs.length) (h2:∀(i:Nat) (c:TV) (v:LI3),az[i]? = some c->xs[i]? = some v->VR M c v):VR M (.agg az) (.agg xs.toArray)
 |dJ {az:List TV} {xs:List LI3} (h1:az.length=xs.length) (h2:∀(i:Nat) (c:TV) (v:LI3),az[i]? = some c->xs[i]? = some v->VR M c v):VR M (.dJ az) (.tuple xs.toArray)
structure bY(M:Np)(az:List TV)(xs:List LI3):Prop where
 len:az.length=xs.length
 at_:∀(i:Nat) (c:TV) (v:LI3),az[i]? = some c->xs[i]? = some v->VR M c v
theorem VR.agg'{M:Np}{az:List TV}{xs:List LI3}(h:bY M az xs):VR M (.agg az) (.agg xs.toArray):=.agg h.len h.at_
theorem VR.QI{M:Np}{az:List TV}{xs:List LI3}(h:bY M az xs):VR M (.dJ az) (.tuple xs.toArray):=.dJ h.len h.at_
theorem bY.nil{M:Np}:bY M [] []:=⟨rfl,fun i c v h=>by simp at h⟩
theorem bY.cons{M:Np}{c:TV}{v:LI3}{az:List TV}{xs:List LI3}(h:VR M c v)(hs:bY M az xs):bY M (c::az) (v::xs):=
 ⟨by simp[hs.len],fun i c' v' h1 h2=>by
  cases i with
  |zero=>simp at h1 h2;subst h1;subst h2;exact h
  |succ i=>simp at h1 h2;exact hs.at_ i _ _ h1 h2⟩
theorem bY.qp{M:Np}{xs:List LI3}(h:bY M [] xs):xs=[]:=by have:=h.len;simp at this;exact a4I this.symm
theorem bY.iQ{M:Np}{c:TV}{az:List TV}{xs:List LI3}(h:bY M (c::az) xs):∃v vs,xs=v::vs∧VR M c v∧bY M az vs:=by
 cases xs with
 |nil=>have:=h.len;simp at this
 |cons v vs=>exact⟨v,vs,rfl,h.at_ 0 c v rfl rfl,⟨by have:=h.len;simpa using this,fun i c' v' h1 h2=>h.at_ (i+1) c' v' (by simpa using h1) (by simpa using h2)⟩⟩
theorem bY.append{M:Np}{az bs:List TV}{xs ys:List LI3}(h:bY M az xs)(h':bY M bs ys):bY M (az++bs) (xs++ys):=by
 induction az generalizing xs with
 |nil=>have:=h.qp;subst this;simpa using h'
 |cons c az ih=>
  obtain⟨v,vs,rfl,hv,hvs⟩:=h.iQ;exact .cons hv (ih hvs)
theorem bY.take{M:Np}{az:List TV}{xs:List LI3}(h:bY M az xs)(n:Nat):bY M (az.take n) (xs.take n):=
 ⟨by simp[h.len],fun i c v h1 h2=>by
  rw[a4R]at h1 h2;split at h1
  .rename_i hi;rw[a0F hi]at h2;exact h.at_ i c v h1 h2
  .simp at h1⟩
theorem bY.drop{M:Np}{az:List TV}{xs:List LI3}(h:bY M az xs)(n:Nat):bY M (az.drop n) (xs.drop n):=
 ⟨by simp[h.len],fun i c v h1 h2=>by rw[a4O]at h1 h2;exact h.at_ _ c v h1 h2⟩
theorem bY.get{M:Np}{az:List TV}{xs:List LI3}(h:bY M az xs){i:Nat}{c:TV}(hc:az[i]? = some c):∃v,xs[i]? = some v∧VR M c v:=by
 have hi:i<az.length:=(a0h.1 hc).1;have xI:i<xs.length:=by rw[<-h.len];exact hi
 exact⟨xs[i],by simp[xI],h.at_ i c _ hc (by simp[xI])⟩
def Lr:Lc->Lc->Prop
 |.cells ls,.cells xX=>∀p∈ls,∃q∈xX,q.c=p.c∧q.base=p.base∧p.ext<=q.ext∧q.tot=p.tot
 |.obj r o,.obj r' o'=>r=r'∧o <+: o'
 |_,_=>False
def sK{α:Type}(M M':α->Option Lc):Prop:=∀k l,M k=some l->∃l',M' k=some l'∧Lr l l'
theorem Lr.refl(l:Lc):Lr l l:=by
 cases l with
 |cells ls=>exact fun p hp=>⟨p,hp,rfl,rfl,a0P _,rfl⟩
 |obj r o=>exact⟨rfl,ahp o⟩
theorem Lr.trans{a b c:Lc}(h:Lr a b)(h':Lr b c):Lr a c:=by
 cases a<;>cases b<;>cases c<;>simp only[Lr]at *
 .intro p hp;obtain⟨q,hq,h1,h2,h3,h4⟩:=h p hp;obtain⟨r,hr,g1,g2,g3,g4⟩:=h' q hq;exact⟨r,hr,g1.trans h1,g2.trans h2,a5x h3 g3,g4.trans h4⟩
 exact⟨h.1.trans h'.1,h.2.trans h'.2⟩
theorem sK.refl{α:Type}(M:α->Option Lc):sK M M:=fun _ l h=>⟨l,h,.refl l⟩
theorem sK.trans{α:Type}{a b c:α->Option Lc}(h:sK a b)(h':sK b c):sK a c:=fun k l hl=>
 let ⟨l',h1,h2⟩:=h k l hl
 let ⟨l'',g1,g2⟩:=h' k l' h1
 ⟨l'',g1,h2.trans g2⟩
theorem sK.h{M M':Mp}(hm:sK M M'):sK M.h M'.h:=fun b l hl=>hm (.h b) l hl
theorem VR.mono{M M':Np}(hm:sK M M'){v:TV}{x:LI3}(h:VR M v x):VR M' v x:=by
 induction h with
 |bool b=>exact .bool b
 |int k n=>exact .int k n
 |str s=>exact .str s
 |a2J=>exact .a2J
 |Uh=>exact .Uh
 |YX=>exact .YX
 |nfn=>exact .nfn
 |a2K=>exact .a2K
 |ptr hb hp h ht=>
  obtain⟨l',h1,h2⟩:=hm _ _ hb;cases l' with
  |obj r _=>exact h2.elim
  |cells xX=>
   obtain⟨q,hq,e1,e2,e3,e4⟩:=h2 _ hp;rw[<-e1,<-e2];exact .ptr h1 hq (a5x h e3) (by rw[e2,e4];exact ht)
 |aP hb hp h hl hc hx ha hk=>
  obtain⟨l',h1,h2⟩:=hm _ _ hb;cases l' with
  |obj r _=>exact h2.elim
  |cells xX=>
   rcases hp with hp|hp
   .exact .aP h1 (.inl hp) h hl hc hx (.inl hp) hk
   obtain⟨q,hq,e1,e2,e3,e4⟩:=h2 _ hp;exact .aP h1 (.inr hq) (a5x h e3) hl hc hx (by rw[e1,e2,e4];exact ha) hk
 |map h=>
  obtain⟨l',h1,h2⟩:=hm _ _ h;cases l' with
  |obj r _=>cases h2.1;exact .map h1
  |cells xX=>exact h2.elim
 |kU h=>
  obtain⟨l',h1,h2⟩:=hm _ _ h;cases l' with
  |obj r _=>cases h2.1;exact .kU h1
  |cells xX=>exact h2.elim
 |iter h=>
  obtain⟨l',h1,h2⟩:=hm _ _ h;cases l' with
  |obj r _=>cases h2.1;exact .iter h1
  |cells xX=>exact h2.elim
 |fn h1 _ h3 _ ih2 ih4=>exact .fn h1 ih2 h3 ih4
 |agg h1 _ ih=>exact .agg h1 ih
 |dJ h1 _ ih=>exact .dJ h1 ih
theorem bY.mono{M M':Np}(hm:sK M M'){az:List TV}{xs:List LI3}(h:bY M az xs):bY M' az xs:=
 ⟨h.len,fun i c v h1 h2=>(h.at_ i c v h1 h2).mono hm⟩
theorem a5j{M:Np}{v:TV}{x y:LI3}(h:v.toC=some x)(hy:VR M v y):y=x:=by cases hy<;>simp[TV.toC]at h<;>first|exact h|exact h.symm|skip
theorem a0G{M:Np}:∀{az:List TV} {xs ys:List LI3},TV.Ua az=some xs->bY M az ys->ys=xs
 | [],xs,ys,h,hy=>by simp[TV.Ua]at h;subst h;exact hy.qp
 |c::az,xs,ys,h,hy=>by
  simp only[TV.Ua]at h;split at h
  .rename_i v vs h1 h2;simp at h;subst h;obtain⟨w,ws,rfl,hw,YZ⟩:=hy.iQ;rw[a5j h1 hw,a0G h2 YZ]
  simp at h
theorem wz{M:Np}{v:TV}{x y:LI3}(h:v.yI=some x)(hy:VR M v y):y=x:=by
 unfold TV.yI at h;split at h
 .simp only[a0l]at h;obtain⟨vs,h1,rfl⟩:=h;cases hy with
  |agg g1 g2=>rw[a0G h1 ⟨g1,g2⟩]
 exact a5j h hy
theorem VR.a5k{M:Np}{v:TV}{x:LI3}(h:TV.ofC x=some v):VR M v x:=by unfold TV.ofC at h;split at h<;>simp at h<;>subst h<;>constructor
theorem bY.a0H{M:Np}:∀{xs:List LI3} {az:List TV},TV.CB xs=some az->bY M az xs
 | [],az,h=>by simp[TV.CB]at h;subst h;exact .nil
 |x::xs,az,h=>by
  simp only[TV.CB]at h;split at h
  .rename_i v vs h1 h2;simp at h;subst h;exact .cons (.a5k h1) (bY.a0H h2)
  simp at h
theorem VR.yJ{M:Np}{v:TV}{x:LI3}(h:TV.Wh x=some v):VR M v x:=by
 unfold TV.Wh at h;split at h
 .rename_i cs;simp only[a0l]at h;obtain⟨vs,h1,rfl⟩:=h;have:=VR.agg' (bY.a0H (M:=M) h1);simpa using this
 exact .a5k h
theorem VR.cells{M:Np}{v:TV}{x:LI3}(h:VR M v x):bY M v.cells x.cells.toList:=by
 cases h with
 |agg h1 h2=>exact⟨by simpa[TV.cells,Value.cells]using h1,by simpa[TV.cells,Value.cells]using h2⟩
 |_=>exact .cons (by first|assumption|constructor<;>assumption) .nil
theorem jf{α:Type}{P:LI1}:∀{s:Sem α} {a:α},aC P s=some a->∀w,s.run P w=.ok a w
 |.pure b,a,h,w=>by simp[aC]at h;simp[Sem.run,h]
 |.program k,a,h,w=>by simp only[aC]at h;simp only[Sem.run];exact jf h w
 |.mark _ k,a,h,w=>by simp only[aC]at h;simp only[Sem.run];exact jf h w
 |.load ..,a,h,w=>by simp[aC]at h
 |.store ..,a,h,w=>by simp[aC]at h
 |.new ..,a,h,w=>by simp[aC]at h
 |.shape ..,a,h,w=>by simp[aC]at h
 |.freeze ..,a,h,w=>by simp[aC]at h
 |.frozen ..,a,h,w=>by simp[aC]at h
 |.getObj ..,a,h,w=>by simp[aC]at h
 |.setObj ..,a,h,w=>by simp[aC]at h
 |.choose ..,a,h,w=>by simp[aC]at h
 |.sys ..,a,h,w=>by simp[aC]at h
 |.halt ..,a,h,w=>by simp[aC]at h
def wr:HB->Bool
 |.cells .ro _=>false
 |.mark=>false
 |_=>true
def aI:Lc->List Nat
 |.cells ls=>ls.map (·.c)
 |.obj r _=>[r]
structure NR(N:Np)(w:LI4)(k:BK)(cs:List TV)(p:Pl):Prop where
 row:∃(arr:Array LI3) (ty:LI2) (fz:Nat×Nat),w.heap[p.c]? = some (.cells arr ty fz)∧arr.size=p.tot∧(k≠.ro->fz=(0,0)) ∧
  ((k=.last->p.ext=cs.length)->∀(i:Nat) (c:TV) (v:LI3),i<p.ext->cs[i]? = some c->arr[p.base+i]? = some v->VR N c v)
 fit:p.base+p.ext<=p.tot
 ext:p.ext<=cs.length
 base:k≠.ro->p.base=0
inductive ER(M:Mp):EV->LI3->Prop
 |val {v:TV} {x:LI3} (h:VR M.h v x):ER M (.val v) x
 |loc {k off:Nat} {p:Pl} (h:M (.l k)=some (.cells [p])) (hb:p.base=0):ER M (.loc k off) (.pointer (some ⟨p.c,off,none⟩))
 |undef:ER M .undef Go.undef
 |ent {r j:Nat} {v:TV} {r1 i:Nat} {o:List Nat} {x:LI3} (h:M (.h r)=some (.obj r1 o)) (hi:o[i]? = some j) (hv:VR M.h v x):ER M (.ent r j v) (.tuple #[x,Go.goInt i])
 |EI {r j r1 i:Nat} {o:List Nat} (h:M (.h r)=some (.obj r1 o)) (hi:o[i]? = some j):ER M (.EI r j) (Go.goInt i)
theorem ER.vN{M:Mp}{v:TV}{x:LI3}(h:ER M (.val v) x):VR M.h v x:=by cases h;assumption
def ku(M:Mp)(env:List (Nat×EV))(tmps:Array LI3):Prop:=∀t e,dQ t env=some e->ER M e (tmps.getD t Go.undef)
structure a9A(N:Np)(rd:Bool)(f nt:Nat)(env:List (Nat×EV))(ps:List Nat)(a b:Code)(jQ:Option Code)(lp:Loop):Prop where
 ps:lp.params.toList=ps
 uT:lp.assign=a
 body:lp.body=b
 size:nt<=lp.tmps.size
 Ls:∀t v,dQ t env=some (.val v)->VR N v (lp.tmps.getD t Go.undef)
 Ui:∀t,dQ t env=some .undef->lp.tmps.getD t Go.undef=Go.undef
 nol:∀t e,dQ t env=some e->isVal (t,e)=true
 ready:rd=true->lp.state=.ready∧lp.pending=none
 busy:rd=false->jQ=none->lp.state=.busy
 done:rd=false->∀j,jQ=some j->j≠.skip->lp.state=.done∧lp.pending=some j
structure wB(N:Np)(o:List Nat)(es:List (TV×TV))(xs:Array MapEntry):Prop where
 len:es.length=xs.size
 ord:o.length=xs.size
 nod:o.Nodup
 sur:∀j,j<es.length->j∈o
 at_:∀(i:Nat) (x:MapEntry),xs[i]? = some x->x.born=i∧∃j e,o[i]? = some j∧es[j]? = some e∧VR N e.1 x.key∧VR N e.2 x.val
def ahY(N:Np)(w:LI4)(es:List (TV×TV))(r:Nat)(o:List Nat):Prop:=
 ∃xs:Array MapEntry,w.heap[r]? = some (.map xs xs.size)∧wB N o es xs
theorem wB.mono{N N':Np}{o:List Nat}{es:List (TV×TV)}{xs:Array MapEntry}(hm:sK N N')(h:wB N o es xs):wB N' o es xs:=
 ⟨h.len,h.ord,h.nod,h.sur,fun i x hx=>let ⟨b,j,e,h1,h2,h3,h4⟩:=h.at_ i x hx;⟨b,j,e,h1,h2,h3.mono hm,h4.mono hm⟩⟩
def mM(N:Np)(w:LI4)(k:BK)(cs:List TV)(ls:List Pl):Prop:=
 (∀c∈cs,iY c=true)∧(∀p∈ls,NR N w k cs p)∧(k=.own->∃p,ls=[p]∧p.ext=cs.length) ∧
   ((k=.grow∨k=.last)->(ls.map (·.c)).Nodup∧∀p∈ls,∀q∈ls,p.ext=cs.length->q.ext=cs.length->p=q)
def pU(N:Np)(w:LI4):HB->Lc->Prop
 |.cells k cs,.cells ls=>mM N w k cs ls
 |.ny cs,.cells ls=>∃cs',cs'.Perm cs∧mM N w .last cs' ls
 |.map es,.obj r o=>ahY N w es r o
 |.mark,.obj r _=>r<w.heap.size
 |.dn m n seen,.obj r _=>∃(b:Nat) (o:List Nat) (sa:Array Nat),N m=some (.obj b o)∧w.heap[r]? = some (.mapIter (some b) n sa n)∧n<=o.length∧sa.toList.map (fun i=>o[i]?)=seen.reverse.map some
 |.loop rd f nt env ps a b jQ,.obj r _=>∃lp,w.heap[r]? = some (.loop lp)∧a9A N rd f nt env ps a b jQ lp
 |_,_=>False
theorem NR.mono{N N':Np}{w w':LI4}{k:BK}{cs:List TV}{p:Pl}(hm:sK N N')(hw:w'.heap[p.c]? = w.heap[p.c]?)(h:NR N w k cs p):NR N' w' k cs p:=
 ⟨let ⟨arr,ty,fz,h1,h2,h3,h4⟩:=h.row;⟨arr,ty,fz,hw.trans h1,h2,h3,fun z i c v a b d=>(h4 z i c v a b d).mono hm⟩,h.fit,h.ext,h.base⟩
theorem a9A.mono{N N':Np}{rd:Bool}{f nt:Nat}{env:List (Nat×EV)}{ps:List Nat}{a b:Code}{jQ:Option Code}{lp:Loop}(hm:sK N N')(h:a9A N rd f nt env ps a b jQ lp):a9A N' rd f nt env ps a b jQ lp:=
 { h with Ls:=fun t v e=>(h.Ls t v e).mono hm }
theorem mM.mono{N N':Np}{w w':LI4}{k:BK}{cs:List TV}{ls:List Pl}(hm:sK N N')(hw:∀p∈ls,w'.heap[p.c]? = w.heap[p.c]?)(h:mM N w k cs ls):mM N' w' k cs ls:=
 ⟨h.1,fun p hp=>(h.2.1 p hp).mono hm (hw p hp),h.2.2⟩
theorem pU.mono{N N':Np}{w w':LI4}{b:HB}{l:Lc}(hm:sK N N')(hw:∀c∈aI l,w'.heap[c]? = w.heap[c]?)(h:pU N w b l):pU N' w' b l:=by
 cases b with
 |cells k cs=>
  cases l with
  |obj r _=>exact h.elim
  |cells ls=>exact mM.mono hm (fun p hp=>hw p.c (a0V.2 ⟨p,hp,rfl⟩)) h
 |ny cs=>
  cases l with
  |obj r _=>exact h.elim
  |cells ls=>
   obtain⟨cs',h1,h2⟩:=h;exact⟨cs',h1,h2.mono hm fun p hp=>hw p.c (a0V.2 ⟨p,hp,rfl⟩)⟩
 |map es=>
  cases l with
  |cells ls=>exact h.elim
  |obj r _=>
   obtain⟨xs,h1,h2⟩:=h;exact⟨xs,(hw r (by simp[aI])).trans h1,h2.mono hm⟩
 |mark=>
  cases l with
  |cells ls=>exact h.elim
  |obj r _=>
   have h':r<w.heap.size:=h;have:=hw r (by simp[aI]);rw[a4w h']at this;exact(a2R.1 this).1
 |dn m n seen=>
  cases l with
  |cells ls=>exact h.elim
  |obj r _=>
   obtain⟨b,o,sa,h1,h2,h3,h4⟩:=h;obtain⟨l',g1,g2⟩:=hm _ _ h1;cases l' with
   |cells xX=>exact g2.elim
   |obj b' o'=>
    obtain⟨rfl,g3⟩:=g2;refine⟨b,o',sa,g1,(hw r (by simp[aI])).trans h2,a5x h3 g3.length_le,?_⟩;rw[<-h4];refine a5L fun i hi=>?_;have:o[i]?∈sa.toList.map (fun i=>o[i]?):=a0V.2 ⟨i,hi,rfl⟩;rw[h4]at this;obtain⟨j,_,hj⟩:=a0V.1 this;have aT:=(a0h.1 hj.symm).1;obtain⟨t,rfl⟩:=g3;rw[a0C aT]
 |loop rd f nt env ps a b jQ=>
  cases l with
  |cells ls=>exact h.elim
  |obj r _=>
   obtain⟨lp,h1,h2⟩:=h;exact⟨lp,(hw r (by simp[aI])).trans h1,h2.mono hm⟩
theorem pU.inb{N:Np}{w:LI4}{b:HB}{l:Lc}(h:pU N w b l):∀c∈aI l,c<w.heap.size:=by
 intro c hc;cases b with
 |cells k cs=>
  cases l with
  |obj r _=>exact h.elim
  |cells ls=>
   obtain⟨p,hp,rfl⟩:=a0V.1 hc;obtain⟨arr,ty,fz,h1,_⟩:=(h.2.1 p hp).row;exact(a2R.1 h1).1
 |ny cs=>
  cases l with
  |obj r _=>exact h.elim
  |cells ls=>
   obtain⟨p,hp,rfl⟩:=a0V.1 hc;obtain⟨cs',_,h⟩:=h;obtain⟨arr,ty,fz,h1,_⟩:=(h.2.1 p hp).row;exact(a2R.1 h1).1
 |map es=>
  cases l with
  |cells ls=>exact h.elim
  |obj r _=>
   obtain⟨xs,h1,_⟩:=h;simp[aI]at hc;subst hc;exact(a2R.1 h1).1
 |mark=>
  cases l with
  |cells ls=>exact h.elim
  |obj r _=>
   simp[aI]at hc;subst hc;exact h
 |dn m n seen=>
  cases l with
  |cells ls=>exact h.elim
  |obj r _=>
   obtain⟨b,o,sa,_,h1,_⟩:=h;simp[aI]at hc;subst hc;exact(a2R.1 h1).1
 |loop rd f nt env ps a b jQ=>
  cases l with
  |cells ls=>exact h.elim
  |obj r _=>
   obtain⟨lp,h1,_⟩:=h;simp[aI]at hc;subst hc;exact(a2R.1 h1).1
abbrev Ct:=Key->Option HB
structure Valid(M:Mp)(D:Key->Prop)(C:Ct)(w:LI4):Prop where
 ok:∀k l,M k=some l->D k->∃b,C k=some b∧pU M.h w b l
 own:∀k k' l l' b,k≠k'->M k=some l->M k'=some l'->D k->C k=some b->wr b=true->∀c∈aI l,c∉aI l'
 inb:∀k l,M k=some l->∀c∈aI l,c<w.heap.size
def uU:Key->Prop:=fun _=>True
theorem Valid.has{M:Mp}{C:Ct}{w:LI4}(h:Valid M uU C w){k:Key}{l:Lc}(hk:M k=some l):(C k).isSome=true:=
 let ⟨_,h1,_⟩:=h.ok k l hk trivial;by simp[h1]
theorem Valid.of_heap{M:Mp}{D:Key->Prop}{C:Ct}{w w':LI4}(h:Valid M D C w)(hw:w'.heap=w.heap):Valid M D C w':=
 ⟨fun k l hk hd=>let ⟨b,h1,h2⟩:=h.ok k l hk hd;⟨b,h1,h2.mono (.refl _) (fun c _=>by rw[hw])⟩,h.own,by rw[hw];exact h.inb⟩
def dN(M:Mp)(k:Key)(l:Lc):Mp:=fun j=>if j=k then some l else M j
def lZ(C:Ct)(k:Key)(b:HB):Ct:=fun j=>if j=k then some b else C j
theorem mO{M:Mp}{k:Key}{l:Lc}(h:∀l0,M k=some l0->Lr l0 l):sK M (dN M k l):=by
 intro j l0 hj;by_cases hjk:j=k
 .subst hjk;exact⟨l,by simp[dN],h l0 hj⟩
 exact⟨l0,by simp[dN,hjk,hj],.refl _⟩
theorem Valid.upd{M:Mp}{D D':Key->Prop}{C:Ct}{w w':LI4}(h:Valid M D C w)(k:Key)(b:HB)(l:Lc)
  (hD:∀j,D' j->D j∨j=k)
  (hold:∀l0,M k=some l0->D k∧Lr l0 l∧∀b0,C k=some b0->wr b0=true)
  (gJ:∀c,c<w.heap.size->c∉aI l->w'.heap[c]? = w.heap[c]?)
  (fV:∀c∈aI l,(∃l0,M k=some l0∧c∈aI l0)∨w.heap.size<=c)
  (EU:w.heap.size<=w'.heap.size)
  (Ry:pU (dN M k l).h w' b l):Valid (dN M k l) D' (lZ C k b) w':=by
 have hle:sK M (dN M k l):=mO fun l0 h0=>(hold l0 h0).2.1;refine⟨?_,?_,?_⟩
 .intro j l0 hj hd;by_cases hjk:j=k
  .subst hjk;simp only[dN,a2u,a0d]at hj;subst hj;exact⟨b,by simp[lZ],Ry⟩
  .simp only[dN,hjk,a3T]at hj;obtain⟨b0,h1,h2⟩:=h.ok j l0 hj ((hD j hd).resolve_right hjk);refine⟨b0,by simp[lZ,hjk,h1],h2.mono hle.h fun c hc=>?_⟩;have aT:=h.inb j l0 hj c hc;refine gJ c aT fun pV=>?_;rcases fV c pV with⟨l1,Rz,hc1⟩|EW
   .obtain⟨hDk,_,hw⟩:=hold l1 Rz;obtain⟨b1,CU,_⟩:=h.ok k l1 Rz hDk;exact h.own k j l1 l0 b1 (fun e=>hjk e.symm) Rz hj hDk CU (hw b1 CU) c hc1 hc
   .omega
 .intro j j' l0 l0' b0 iD hj Ea hd hb hw c hc Wi;by_cases hjk:j=k
  .subst hjk;have a9B:j'≠j:=fun e=>iD e.symm;simp only[dN,a2u,a0d]at hj;subst hj;simp only[dN,a9B,a3T]at Ea;have aT:=h.inb j' l0' Ea c Wi;rcases fV c hc with⟨l1,Rz,hc1⟩|EW
   .obtain⟨hDk,_,hw⟩:=hold l1 Rz;obtain⟨b1,CU,_⟩:=h.ok j l1 Rz hDk;exact h.own j j' l1 l0' b1 iD Rz Ea hDk CU (hw b1 CU) c hc1 Wi
   .omega
  .simp only[dN,hjk,a3T]at hj;simp only[lZ,hjk,a3T]at hb;have hdj:=(hD j hd).resolve_right hjk;have aT:=h.inb j l0 hj c hc;by_cases a9B:j'=k
   .subst a9B;simp only[dN,a2u,a0d]at Ea;subst Ea;rcases fV c Wi with⟨l1,Rz,hc1⟩|EW
    .exact h.own j j' l0 l1 b0 iD hj Rz hdj hb hw c hc hc1
    .omega
   .simp only[dN,a9B,a3T]at Ea;exact h.own j j' l0 l0' b0 iD hj Ea hdj hb hw c hc Wi
 .intro j l0 hj c hc;by_cases hjk:j=k
  .subst hjk;simp only[dN,a2u,a0d]at hj;subst hj;exact Ry.inb c hc
  .simp only[dN,hjk,a3T]at hj;exact a9E (h.inb j l0 hj c hc) EU
structure Ext(M0:Mp)(C0:Ct)(w0:LI4)(M:Mp)(C:Ct)(w:LI4)(ws:List Key):Prop where
 IW:sK M0 M
 frame:∀c,c<w0.heap.size->(∀k∈ws,∀l,M0 k=some l->c∉aI l)->w.heap[c]? = w0.heap[c]?
 nN:∀k,(C0 k).isSome=true->k∉ws->C k=C0 k
 lF:∀k,((C0 k).isSome=true∨C k=none)->k∉ws->M k=M0 k
 fresh:∀k l,M k=some l->∀c∈aI l,c<w0.heap.size->∃l0,M0 k=some l0∧c∈aI l0
 size:w0.heap.size<=w.heap.size
 has:∀k,(C0 k).isSome=true->(C k).isSome=true
 wsub:∀k∈ws,(C0 k).isSome=true
 wrote:∀k∈ws,(M0 k).isSome=true∧∀b,C0 k=some b->wr b=true
 os:w.os=w0.os
 output:w.output=w0.output
 tape:w.tape=w0.tape
theorem Ext.refl(M:Mp)(C:Ct)(w:LI4):Ext M C w M C w []:=
 ⟨.refl _,fun _ _ _=>rfl,fun _ _ _=>rfl,fun _ _ _=>rfl,fun _ l h c hc _=>⟨l,h,hc⟩,a0P _,fun _ h=>h,(by simp),(by simp),rfl,rfl,rfl⟩
theorem Ext.drew{M0:Mp}{C0:Ct}{w0:LI4}{M:Mp}{C:Ct}{w w':LI4}{ws:List Key}(h:Ext M0 C0 w0 M C w ws)
  (hh:w'.heap=w.heap) (ho:w'.os=w.os) (hu:w'.output=w.output) (ht:w'.tape=w.tape):Ext M0 C0 w0 M C w' ws:=
 { h with frame:=(by rw[hh];exact h.frame),size:=(by rw[hh];exact h.size),os:=ho.trans h.os,output:=hu.trans h.output,tape:=ht.trans h.tape }
theorem Ext.trans{M0 M M':Mp}{C0 C C':Ct}{w0 w w':LI4}{ws Uj aer:List Key}(h:Ext M0 C0 w0 M C w ws)(h':Ext M C w M' C' w' Uj)
  (hd:∀k l,M0 k=some l->(C0 k).isSome=true) (hs:∀k,(C0 k).isSome=true->(k∈ws∨k∈Uj)->k∈aer) (hb:∀k∈aer,(C0 k).isSome=true∧(k∈ws∨k∈Uj)) :
  Ext M0 C0 w0 M' C' w' aer where
 IW:=h.IW.trans h'.IW
 frame:=by intro c hc hf;have h1:w.heap[c]? = w0.heap[c]?:=h.frame c hc fun k hk l hl=>hf k (hs k (h.wsub k hk) (.inl hk)) l hl;rw[<-h1];refine h'.frame c (a9E hc h.size) fun k hk l hl pV=>?_;obtain⟨l0,h2,h3⟩:=h.fresh k l hl c pV hc;exact hf k (hs k (hd k l0 h2) (.inr hk)) l0 h2 h3
 nN:=fun k hk hn=>by have hn1:k∉ws:=fun e=>hn (hs k hk (.inl e));have Eb:k∉Uj:=fun e=>hn (hs k hk (.inr e));rw[h'.nN k (h.has k hk) Eb,h.nN k hk hn1]
 lF:=fun k hk hn=>by
  rcases hk with hk|hk
  .have hn1:k∉ws:=fun e=>hn (hs k hk (.inl e));have Eb:k∉Uj:=fun e=>hn (hs k hk (.inr e));rw[h'.lF k (.inl (h.has k hk)) Eb,h.lF k (.inl hk) hn1]
  .have hC:C k=none:=by
    cases hc:C k with
    |none=>rfl
    |some b=>have:=h'.has k (by simp[hc]);simp[hk]at this
   have Eb:k∉Uj:=fun e=>by have:=h'.wsub k e;simp[hC]at this
   have hn1:k∉ws:=fun e=>by have:=h.has k (h.wsub k e);simp[hC]at this
   rw[h'.lF k (.inr hk) Eb,h.lF k (.inr hC) hn1]
 fresh:=fun k l hl c hc aT=>by obtain⟨l1,h1,h2⟩:=h'.fresh k l hl c hc (a9E aT h.size);exact h.fresh k l1 h1 c h2 aT
 size:=a5x h.size h'.size
 has:=fun k hk=>h'.has k (h.has k hk)
 wsub:=fun k hk=>(hb k hk).1
 wrote:=fun k hk=>by
  by_cases h1:k∈ws
  .exact h.wrote k h1
  .have h2:=h'.wrote k ((hb k hk).2.resolve_left h1);rw[h.lF k (.inl (hb k hk).1) h1,h.nN k (hb k hk).1 h1]at h2;exact h2
 os:=h'.os.trans h.os
 output:=h'.output.trans h.output
 tape:=h'.tape.trans h.tape
theorem Ext.upd{M:Mp}{C:Ct}{w w':LI4}(k:Key)(b:HB)(l:Lc)(ws:List Key)
  (YZ:((C k).isSome=true∧ws=[k]∧(M k).isSome=true∧∀b,C k=some b->wr b=true)∨(C k=none∧M k=none∧ws=[]))
  (hle:sK M (dN M k l))
  (gJ:∀c,c<w.heap.size->c∉aI l->w'.heap[c]? = w.heap[c]?)
  (fV:∀c∈aI l,(∃l0,M k=some l0∧c∈aI l0)∨w.heap.size<=c)
  (EU:w.heap.size<=w'.heap.size) (ho:w'.os=w.os) (hou:w'.output=w.output) (ht:w'.tape=w.tape) :
  Ext M C w (dN M k l) (lZ C k b) w' ws where
 IW:=hle
 frame:=by
  intro c hc hf;refine gJ c hc fun pV=>?_;rcases fV c pV with⟨l0,h1,h2⟩|EW
  .rcases YZ with⟨_,rfl,_⟩|⟨_,hn,_⟩
   .exact hf k (by simp) l0 h1 h2
   .rw[hn]at h1;cases h1
  .omega
 nN:=fun j hj hn=>by
  have:j≠k:=by
   rintro rfl;rcases YZ with⟨_,rfl,_⟩|⟨h1,_⟩
   .simp at hn
   .simp[h1]at hj
  simp[lZ,this]
 lF:=fun j hj hn=>by
  have:j≠k:=by
   rintro rfl;rcases YZ with⟨_,rfl,_⟩|⟨h1,_⟩
   .simp at hn
   .rcases hj with hj|hj
    .simp[h1]at hj
    .simp[lZ]at hj
  simp[dN,this]
 fresh:=fun j l0 hj c hc aT=>by
  by_cases hjk:j=k
  .subst hjk;simp only[dN,a2u,a0d]at hj;subst hj;rcases fV c hc with h1|EW
   .exact h1
   .omega
  .simp only[dN,hjk,a3T]at hj;exact⟨l0,hj,hc⟩
 size:=EU
 has:=fun j hj=>by
  by_cases hjk:j=k
  .simp[lZ,hjk]
  .simpa[lZ,hjk]using hj
 wsub:=by
  rcases YZ with⟨h1,rfl,_⟩|⟨_,_,rfl⟩
  .intro j hj;simp at hj;subst hj;exact h1
  .simp
 wrote:=by
  rcases YZ with⟨_,rfl,h1⟩|⟨_,_,rfl⟩
  .intro j hj;simp at hj;subst hj;exact h1
  .simp
 os:=ho
 output:=hou
 tape:=ht
theorem ER.mono{M M':Mp}(hm:sK M M')(hl:∀k l,M (.l k)=some l->M' (.l k)=some l){e:EV}{x:LI3}(h:ER M e x):ER M' e x:=by
 cases h with
 |val h=>exact .val (h.mono hm.h)
 |loc h hb=>exact .loc (hl _ _ h) hb
 |undef=>exact .undef
 |ent h hi hv=>
  obtain⟨l',h1,h2⟩:=hm _ _ h;cases l' with
  |cells _=>exact h2.elim
  |obj r1 o'=>
   obtain⟨rfl,t,rfl⟩:=h2;exact .ent h1 (by rw[a0C (a0h.1 hi).1];exact hi) (hv.mono hm.h)
 |EI h hi=>
  obtain⟨l',h1,h2⟩:=hm _ _ h;cases l' with
  |cells _=>exact h2.elim
  |obj r1 o'=>
   obtain⟨rfl,t,rfl⟩:=h2;exact .EI h1 (by rw[a0C (a0h.1 hi).1];exact hi)
structure NS(M:Mp)(D:Key->Prop)(C:Ct)(w:LI4)(v:EV)(C1:Ct)(ws:List Key)(x:LI3)(w':LI4)(M':Mp):Prop where
 val:Valid M' (fun k=>D k∨(C k=none∧(C1 k).isSome=true)) C1 w'
 ext:Ext M C w M' C1 w' ws
 er:ER M' v x
 loc:∀k l,M (.l k)=some l->M' (.l k)=some l
theorem NS.same{M:Mp}{D:Key->Prop}{C:Ct}{w:LI4}{v:EV}{x:LI3}(h:Valid M D C w)(he:ER M v x):NS M D C w v C [] x w M:=
 ⟨⟨fun k l hk hd=>h.ok k l hk (hd.elim id fun⟨a,b⟩=>by simp[a]at b),fun k k' l l' b a1 a2 a3 hd=>h.own k k' l l' b a1 a2 a3 (hd.elim id fun⟨a,b⟩=>by simp[a]at b),h.inb⟩,.refl M C w,he,fun _ _ h=>h⟩
theorem wC(w:LI4)(o:Obj)(i:Nat)(h:i<w.heap.size):(w.alloc o).heap[i]? = w.heap[i]?:=by show(w.heap.push o)[i]? = w.heap[i]?;rw[Array.getElem?_push,a0E (Nat.ne_of_lt h)]
section
variable {P:LI1} {w:LI4}
theorem iZ{t:LI2}{i:TypeInfo}(h:P.info? t=some i):(typeInfo t).run P w=.ok i w:=by simp[typeInfo,h]
theorem FB{t:LI2}{n:Nat}(h:dH P t=some n):∃i,P.info? t=some i∧i.size=n:=by simpa[dH]using h
theorem dh{t:LI2}{n:Nat}(h:dH P t=some n):(Go.sizeOf t).run P w=.ok n w:=by obtain⟨i,h1,h2⟩:=FB h;simp[Go.sizeOf,iZ h1,h2]
theorem Ae{t:LI2}{b:Bool}(h:wu P t=some b):(isAgg t).run P w=.ok b w:=by
 unfold wu at h;split at h<;>simp at h<;>subst h
 .simp[isAgg,run_underlying ‹_›]
 .simp[isAgg,run_underlying ‹_›]
 rename_i d _ _ hu;simp only[isAgg,Sem.run_bind,run_underlying hu,Result.andThen_ok];cases d<;>simp_all
theorem uD(c o n:Nat):(⟨c,o,none⟩:Addr).add n=⟨c,o+n,none⟩:=by unfold Addr.add;split<;>simp_all
theorem J7{N:Np}{c:TV}{v:LI3}(h:VR N c v)(ho:iY c=true):v.oneCell'=true:=by cases h<;>first|rfl|simp[iY]at ho
theorem uF{cs:List TV}{off n:Nat}{r:List TV}(h:sub cs off n=some r):off+n<=cs.length∧r=(cs.drop off).take n∧r.length=n:=by
 unfold sub at h;split at h
 .rename_i hl;simp at h;subst h;exact⟨hl,rfl,by simp;omega⟩
 simp at h
theorem vV{cs:List TV}{off:Nat}{new r:List TV}(h:wo cs off new=some r) :
  off+new.length<=cs.length∧r=cs.take off++new++cs.drop (off+new.length)∧r.length=cs.length:=by
 unfold wo at h;split at h
 .rename_i hl;simp at h;subst h;exact⟨hl,by simp,by simp;omega⟩
 .simp at h
theorem NR.slice{N:Np}{k:BK}{cs:List TV}{p:Pl}(h:NR N w k cs p){off n:Nat}{r:List TV}(hr:sub cs off n=some r)(he:off+n<=p.ext)(hz:k=.last->p.ext=cs.length) :
  ∃xs:List LI3,bY N r xs∧∀(j:Nat) (v:LI3),xs[j]? = some v->w.cell? ⟨p.c,p.base+off+j,none⟩=some v:=by
 obtain⟨arr,ty,fz,h1,h2,_,h4⟩:=h.row;obtain⟨s1,s2,s3⟩:=uF hr;have hf:=h.fit;refine⟨(arr.toList.drop (p.base+off)).take n,⟨by rw[s3];simp;omega,fun i c v a b=>?_⟩,fun j v hj=>?_⟩
 .rw[s2,a4R]at a;rw[a4R]at b;split at a
  .rename_i hi;rw[a0F hi,a4O]at b;rw[a4O]at a;exact h4 hz (off+i) c v (by omega) a (by simpa[aai]using b)
  .simp at a
 .rw[a4R]at hj;split at hj
  .rw[a4O]at hj;simp only[World.cell?,h1];simpa using hj
  .simp at hj
theorem yK{N:Np}{k:BK}{cs:List TV}{p:Pl}(h:NR N w k cs p){off n:Nat}{r:List TV}(hr:sub cs off n=some r)(he:off+n<=p.ext)(hz:k=.last->p.ext=cs.length) :
  ∃xs:List LI3,bY N r xs∧∀w':LI4,w'.heap=w.heap->(loadCells ⟨p.c,p.base+off,none⟩ n).run P w'=.ok xs.toArray w':=by
 obtain⟨xs,h1,h2⟩:=h.slice hr he hz;refine⟨xs,h1,fun w' hw'=>?_⟩;have hl:xs.length=n:=by rw[<-h1.len];exact(uF hr).2.2
 have:=run_loadCells_list (P:=P) w' ⟨p.c,p.base+off,none⟩ xs (fun j v hj=>by rw[uD];have e:=h2 j v hj;simp only[World.cell?,hw']at e ⊢;exact e)
 rwa [hl]at this
theorem KG{N:Np}{k:BK}{cs:List TV}{p:Pl}(h:NR N w k cs p){t:LI2}{off n:Nat}{v:TV}(hs:dH P t=some n)
  (hv:uz P t cs off=some v) (he:off+n<=p.ext) (hz:k=.last->p.ext=cs.length) :
  ∃x,VR N v x∧(loadVar t ⟨p.c,p.base+off,none⟩).run P w=.ok x w:=by
 unfold uz at hv;rw[hs]at hv;cases ha:wu P t with
 |none=>simp[ha]at hv
 |some b=>
  cases b with
  |true=>
   simp only[ha,a0l]at hv;obtain⟨r,hr,rfl⟩:=hv;obtain⟨xs,g1,g2⟩:=yK (P:=P) h hr he hz;exact⟨_,.agg' g1,by simp[loadVar,Ae ha,dh hs,g2 w rfl]⟩
  |false=>
   simp only[ha]at hv;split at hv
   case isFalse=>simp at hv
   rename_i hn1;have he1:off+1<=p.ext:=(by omega);have aT:=(a0h.1 hv).1;have hr:sub cs off 1=some [v]:=by unfold sub;rw[a0F (by omega)];congr 1;rw[a6G aT];have:=(a0h.1 hv).2;simp[this]
   obtain⟨xs,g1,g2⟩:=h.slice hr he1 hz;obtain⟨x,xs',rfl,gx,_⟩:=g1.iQ;have:=g2 0 x rfl;simp only[aek]at this;exact⟨x,gx,by simp[loadVar,Ae ha,this]⟩
end
theorem J8{M:Mp}{k:Key}{l:Lc}(h:M k=some l):dN M k l=M:=by
 funext j;unfold dN;split
 .rename_i e;rw[e,h]
 rfl
theorem kG(s:St)(b:HB)(e:List (Nat×EV))(ws:List Nat):St.get { s with heap:=s.heap++[b],env:=e,ws:=ws }=lZ s.get (.h s.heap.length) b:=by
 funext k
 cases k with
 |h j=>
  simp only[St.get,lZ,Key.h.injEq];split
  .rename_i e;subst e;simp
  rename_i e;by_cases hj:j<s.heap.length
  .rw[a0C hj]
  rw[a4L (by simp;omega),a4L (by omega)]
 |l j=>simp[St.get,lZ]
theorem jG(s:St)(i:Nat)(b:HB)(h:i<s.heap.length)(e:List (Nat×EV))(ws:List Nat):St.get { s with heap:=s.heap.set i b,env:=e,ws:=ws }=lZ s.get (.h i) b:=by
 funext k
 cases k with
 |h j=>
  simp only[St.get,lZ,Key.h.injEq];rw[aa2];by_cases hj:i=j
  .subst hj;simp[h]
  rw[a0E hj,a0E (fun e=>hj e.symm)]
 |l j=>simp[St.get,lZ]
theorem RD(s:St)(cs:List TV)(e:List (Nat×EV))(ws:List Nat):St.get { s with loc:=s.loc++[cs],env:=e,ws:=ws }=lZ s.get (.l s.loc.length) (.cells .own cs):=by
 funext k
 cases k with
 |l j=>
  simp only[St.get,lZ,Key.l.injEq];split
  .rename_i e;subst e;simp
  rename_i e;by_cases hj:j<s.loc.length
  .rw[a0C hj]
  rw[a4L (by simp;omega),a4L (by omega)]
 |h j=>simp[St.get,lZ]
theorem NT(s:St)(i:Nat)(cs:List TV)(h:i<s.loc.length)(e:List (Nat×EV))(ws:List Nat):St.get { s with loc:=s.loc.set i cs,env:=e,ws:=ws }=lZ s.get (.l i) (.cells .own cs):=by
 funext k
 cases k with
 |l j=>
  simp only[St.get,lZ,Key.l.injEq];rw[aa2];by_cases hj:i=j
  .subst hj;simp[h]
  rw[a0E hj,a0E (fun e=>hj e.symm)]
 |h j=>simp[St.get,lZ]
theorem xY{h:List HB}{b lim:Nat}{cs:List TV}(e:mG h b lim=some cs):∃k,h[b]? = some (.cells k cs)∧(k=.last->lim=cs.length):=by
 unfold mG at e;split at e
 .rename_i k cs' hb;split at e
  .cases e
  rename_i hn;simp at e;subst e;exact⟨k,hb,fun hk=>Decidable.not_not.1 fun hl=>hn ⟨hk,hl⟩⟩
 simp at e
theorem KH{k k':BK}{b:Bool}(e:Ac k b=some k'):(k=.own∧k'=.own)∨((k=.grow∨k=.last)∧k'=.last∧b=true):=by unfold Ac at e;split at e<;>simp_all
theorem J9{h h':List HB}{b off lim:Nat}{new:List TV}(e:Uc h b off lim new=some h') :
  ∃k k' cs cs',h[b]? = some (.cells k cs)∧((k=.own∧k'=.own)∨((k=.grow∨k=.last)∧k'=.last∧lim=cs.length))∧wo cs off new=some cs'∧h'=h.set b (.cells k' cs'):=by
 unfold Uc at e;split at e
 .rename_i k cs hb;split at e
  .rename_i k' hk;simp only[a0l]at e;obtain⟨cs',h1,h2⟩:=e;refine⟨k,k',cs,cs',hb,?_,h1,h2.symm⟩;rcases KH hk with h|⟨a,b,c⟩
   .exact .inl h
   .exact .inr ⟨a,b,by simpa using c⟩
  .cases e
 .simp at e
theorem Wv{arr:Array LI3}{off:Nat}{xs:List LI3}(i:Nat)(h:off+xs.length<=arr.size) :
  (arr.toList.take off++xs++arr.toList.drop (off+xs.length)).toArray[i]? = if i<off then arr[i]? else if i<off+xs.length then xs[i-off]? else arr[i]?:=by
 have hl:(arr.toList.take off).length=off:=by simp;omega
 simp only[ael];by_cases h1:i<off
 .rw[a0F h1,a5A,a0C (by omega),a4R,a0F h1];simp
 .rw[a0E h1];by_cases h2:i<off+xs.length
  .rw[a0F h2,a5A,a0T (by omega),hl,a0C (by omega)]
  .rw[a0E h2,a0T (by simp;omega),a4O];have:off+xs.length+(i-(List.take off arr.toList++xs).length)=i:=by simp;omega
   rw[this];simp
theorem a2L{cs new r:List TV}{off:Nat}(h:wo cs off new=some r)(i:Nat) :
  r[i]? = if i<off then cs[i]? else if i<off+new.length then new[i-off]? else cs[i]?:=by
 obtain⟨h1,h2,_⟩:=vV h;have hl:(cs.take off).length=off:=by simp;omega
 rw[h2];by_cases h1:i<off
 .rw[a0F h1,a5A,a0C (by omega),a4R,a0F h1]
 .rw[a0E h1];by_cases h2:i<off+new.length
  .rw[a0F h2,a5A,a0T (by omega),hl,a0C (by omega)]
  .rw[a0E h2,a0T (by simp;omega),a4O];congr 1;simp;omega
theorem Wx{cs new r:List TV}{off:Nat}(h:wo cs off new=some r)(hc:∀c∈cs,iY c=true)(hn:∀c∈new,iY c=true):∀c∈r,iY c=true:=by
 obtain⟨_,h2,_⟩:=vV h;intro c hcr;rw[h2]at hcr;simp only[a3P]at hcr;rcases hcr with(h|h)|h
 .exact hc c (a9I h)
 .exact hn c h
 exact hc c (a5Z h)
theorem vO(w:LI4)(g:Nat)(arr:Array LI3)(c:Nat)(h:c≠g):(w.setRow g arr).heap[c]? = w.heap[c]?:=by simp only[World.setRow,ach];rw[a0E (fun e=>h e.symm)]
theorem NU(w:LI4)(g:Nat)(arr cur:Array LI3)(ty:LI2)(fz:Nat×Nat)(h:w.heap[g]? = some (.cells cur ty fz)):(w.setRow g arr).heap[g]? = some (.cells arr ty fz):=by simp[World.setRow,ach,h]
theorem Valid.widen{M:Mp}{D:Key->Prop}{C C1:Ct}{w':LI4}(h:Valid M D C1 w')(hn:∀k,C k=none->C1 k=none):Valid M (fun j=>D j∨(C j=none∧(C1 j).isSome=true)) C1 w':=
 have aux:∀j,(D j∨(C j=none∧(C1 j).isSome=true))->D j:=fun j hj=>hj.elim id fun⟨a,b⟩=>by rw[hn j a]at b;cases b
 ⟨fun k l hk hd=>h.ok k l hk (aux k hd),fun k k' l l' b a1 a2 a3 hd=>h.own k k' l l' b a1 a2 a3 (aux k hd),h.inb⟩
theorem Ec{C:Ct}{k:Key}{b:HB}(hk:(C k).isSome=true):∀j,C j=none->lZ C k b j=none:=by
 intro j hj;unfold lZ;split
 .rename_i e;subst e;rw[hj]at hk;cases hk
 exact hj
theorem Valid.wrB{M:Mp}{D:Key->Prop}{C:Ct}{w:LI4}(h:Valid M D C w){k:Key}{ls:List Pl}{p:Pl}{cs:List TV}{kk BD:BK}(hk:M k=some (.cells ls))(hd:D k)
  (hc:C k=some (.cells kk cs)) (hp:p∈ls) (xZ:(kk=.own∧BD=.own)∨((kk=.grow∨kk=.last)∧BD=.last∧p.ext=cs.length)) :
  p.base=0∧p.ext=cs.length∧(∀c∈cs,iY c=true)∧(∀q∈ls,NR M.h w kk cs q)∧(ls.map (·.c)).Nodup∧(∀q∈ls,q.ext=cs.length->q=p) ∧
  ∃(arr:Array LI3) (ty:LI2),w.heap[p.c]? = some (.cells arr ty (0,0))∧arr.size=p.tot∧cs.length<=p.tot ∧
   ∀(i:Nat) (c:TV) (v:LI3),cs[i]? = some c->arr[i]? = some v->VR M.h c v:=by
 obtain⟨b,h1,h2⟩:=h.ok k _ hk hd;rw[hc]at h1;cases h1;obtain⟨g1,g2,g3,g4⟩:=h2;have iD:kk≠.ro:=by rcases xZ with⟨e,_⟩|⟨e|e,_⟩<;>rw[e]<;>simp
 have Gt:=g2 p hp;have hb:=Gt.base iD;have hx:p.ext=cs.length∧(ls.map (·.c)).Nodup∧∀q∈ls,q.ext=cs.length->q=p:=by
  rcases xZ with⟨e,_⟩|⟨e,_,he⟩
  .obtain⟨q,rfl,hq⟩:=g3 e;simp at hp;subst hp;exact⟨hq,by simp,fun q' hq' _=>by simpa using hq'⟩
  .obtain⟨n1,n2⟩:=g4 e;exact⟨he,n1,fun q hq hqe=>n2 q hq p hp hqe he⟩
 obtain⟨arr,ty,fz,r1,r2,r3,r4⟩:=Gt.row;have:=r3 iD;subst this;have hf:=Gt.fit;refine⟨hb,hx.1,g1,g2,hx.2.1,hx.2.2,arr,ty,r1,r2,by omega,fun i c v a b=>?_⟩;have hi:=(a0h.1 a).1;exact r4 (fun _=>hx.1) i c v (by omega) a (by simpa[hb]using b)
theorem Valid.Z4{M:Mp}{D:Key->Prop}{C:Ct}{w:LI4}(h:Valid M D C w){k:Key}{ls:List Pl}{p:Pl}{cs:List TV}{kk BD:BK}{lim:Nat}(hk:M k=some (.cells ls))(hd:D k)
  (hc:C k=some (.cells kk cs)) (hp:p∈ls) (hl:lim<=p.ext) (xZ:(kk=.own∧BD=.own)∨((kk=.grow∨kk=.last)∧BD=.last∧lim=cs.length)) :
  (kk=.own∧BD=.own)∨((kk=.grow∨kk=.last)∧BD=.last∧p.ext=cs.length):=by
 rcases xZ with e|⟨e1,e2,e3⟩
 .exact .inl e
 .obtain⟨b,h1,h2⟩:=h.ok k _ hk hd;rw[hc]at h1;cases h1;have:=(h2.2.1 p hp).ext;exact .inr ⟨e1,e2,by omega⟩
theorem NV:∀{ls:List Pl},(ls.map (·.c)).Nodup->∀{p q:Pl},p∈ls->q∈ls->q.c=p.c->q=p
 | [],_,p,q,hp,_,_=>by simp at hp
 |a::ls,h,p,q,hp,hq,e=>by
  simp only[a4M,a4U]at h;rcases a1Y.1 hp with h1|h1<;>rcases a1Y.1 hq with h2|h2
  .rw[h1,h2]
  .exact(h.1 (a0V.2 ⟨q,h2,by rw[e,h1]⟩)).elim
  .exact(h.1 (a0V.2 ⟨p,h1,by rw[<-e,h2]⟩)).elim
  exact NV h.2 h1 h2 e
theorem yZ{P:LI1}{M:Mp}{D:Key->Prop}{C:Ct}{w:LI4}(h:Valid M D C w){k:Key}{ls:List Pl}{p:Pl}{cs cs' new:List TV}{off:Nat}{xs:List LI3}{kk BD:BK}
  (hk:M k=some (.cells ls)) (hd:D k) (hc:C k=some (.cells kk cs)) (hp:p∈ls) (xZ:(kk=.own∧BD=.own)∨((kk=.grow∨kk=.last)∧BD=.last∧p.ext=cs.length))
  (ho:wo cs off new=some cs') (hx:bY M.h new xs) (hn:∀c∈new,iY c=true) :
  ∃w',(storeCells ⟨p.c,p.base+off,none⟩ xs).run P w=.ok () w'∧Valid M D (lZ C k (.cells BD cs')) w'∧Ext M C w M (lZ C k (.cells BD cs')) w' [k]:=by
 obtain⟨hb,he,h1,Gt,jH,huq,arr,ty,hr,hs,hle,hv⟩:=h.wrB hk hd hc hp xZ;obtain⟨o1,o2,o3⟩:=vV ho;have hlen:=hx.len;have iD:kk≠.ro:=by rcases xZ with⟨e,_⟩|⟨e|e,_⟩<;>rw[e]<;>simp
 have ai0:BD≠.ro:=by rcases xZ with⟨_,e⟩|⟨_,e,_⟩<;>rw[e]<;>simp
 have YL:∀b0,C k=some b0->wr b0=true:=fun b0 zZ=>by rw[hc]at zZ;cases zZ;cases kk<;>simp_all [wr]
 have FC:∀v∈xs,v.oneCell'=true:=by
  intro v hv;obtain⟨i,hi,rfl⟩:=a5d.1 hv;have xI:i<new.length:=by omega
  exact J7 (hx.at_ i new[i] xs[i] (by simp[xI]) (by simp[hi])) (hn _ (a4Z xI))
 have vP:=run_storeCells_at (P:=P) p.c (p.base+off) ty xs 0 arr w hr (by omega) FC;simp only[aek,hb,a3W]at vP
 let w':LI4:=w.setRow p.c (arr.toList.take off++xs++arr.toList.drop (off+xs.length)).toArray
 have qK:dN M k (.cells ls)=M:=J8 hk;have gJ:∀c,c<w.heap.size->c∉aI (.cells ls)->w'.heap[c]? = w.heap[c]?:=fun c _ hc=>vO w p.c _ c (fun e=>hc (by rw[e];exact a0V.2 ⟨p,hp,rfl⟩));have fV:∀c∈aI (.cells ls),(∃l0,M k=some l0∧c∈aI l0)∨w.heap.size<=c:=fun c hc=>.inl ⟨_,hk,hc⟩;have vC:w.heap.size<=w'.heap.size:=by simp[w']
 have Ja:sK M (dN M k (.cells ls)):=by rw[qK];exact .refl _
 refine⟨w',by rw[hb,a3W];exact vP,?_,?_⟩
 .have:=h.upd (D':=D) (w':=w') k (.cells BD cs') (.cells ls) (fun j hj=>.inl hj) (fun l0 h0=>by
   rw[hk]at h0;cases h0;exact⟨hd,.refl _,YL⟩) gJ fV vC (by
   rw[qK];refine⟨Wx ho h1 hn,fun q hq=>?_,fun e=>?_,fun e=>⟨jH,fun q1 IX q2 GH e1 e2=>by rw[huq q1 IX (by omega),huq q2 GH (by omega)]⟩⟩
   .have Z5:=Gt q hq;by_cases YM:q.c=p.c
    .have:=NV jH hp hq YM;subst this;refine⟨⟨_,ty,(0,0),NU w q.c _ arr ty (0,0) hr,by simp;omega,fun _=>rfl,fun _ i c v hi a b=>?_⟩,by omega,by omega,fun _=>hb⟩;rw[hb,a3W,Wv i (by omega)]at b;rw[a2L ho i,hlen]at a;split at a
     .rename_i hi1;rw[a0F hi1]at b;exact hv i c v a b
     .rename_i hi1;rw[a0E hi1]at b;split at a
      .rename_i KI;rw[a0F KI]at b;exact hx.at_ _ c v a b
      .rename_i KI;rw[a0E KI]at b;exact hv i c v a b
    .obtain⟨uV,ty',fz',t1,t2,t3,t4⟩:=Z5.row;refine⟨⟨uV,ty',fz',(vO w p.c _ q.c YM).trans t1,t2,fun _=>t3 iD,fun hz i c v hi a b=>?_⟩,Z5.fit,by have:=Z5.ext;omega,fun _=>Z5.base iD⟩;exfalso;apply YM;rcases xZ with⟨e,_⟩|⟨_,e,_⟩
     .obtain⟨b',g1,g2⟩:=h.ok k _ hk hd;rw[hc]at g1;cases g1;obtain⟨q',g3,_⟩:=g2.2.2.1 e;rw[g3]at hq hp;simp at hq hp;rw[hq,hp]
     .rw[huq q hq (by rw[hz e];omega)]
   .rcases xZ with⟨e0,_⟩|⟨_,e1,_⟩
    .obtain⟨b',g1,g2⟩:=h.ok k _ hk hd;rw[hc]at g1;cases g1;obtain⟨q',g3,g4⟩:=g2.2.2.1 e0;exact⟨q',g3,by omega⟩
    .rw[e1]at e;cases e)
  rwa [qK]at this
 .have:=Ext.upd (M:=M) (C:=C) (w:=w) (w':=w') k (.cells BD cs') (.cells ls) [k] (.inl ⟨by simp[hc],rfl,by simp[hk],YL⟩) Ja gJ fV vC rfl rfl rfl
  rwa [qK]at this
theorem NW{M:Mp}{D:Key->Prop}{C:Ct}{w:LI4}(h:Valid M D C w){k:Key}{cs:List TV}{arr:Array LI3}(ty:LI2)
  (hk:M k=none) (hc:C k=none) (hl:cs.length<=arr.size) (hx:∀(i:Nat) (c:TV) (v:LI3),cs[i]? = some c->arr[i]? = some v->VR M.h c v) (hn:∀c∈cs,iY c=true) :
  Valid (dN M k (.cells [⟨w.heap.size,0,cs.length,arr.size⟩])) (fun j=>D j∨(C j=none∧(lZ C k (.cells .own cs) j).isSome=true)) (lZ C k (.cells .own cs)) (w.alloc (.cells arr ty)) ∧
  Ext M C w (dN M k (.cells [⟨w.heap.size,0,cs.length,arr.size⟩])) (lZ C k (.cells .own cs)) (w.alloc (.cells arr ty)) []:=by
 have hle:sK M (dN M k (.cells [⟨w.heap.size,0,cs.length,arr.size⟩])):=mO fun l0 h0=>by rw[hk]at h0;cases h0
 have gJ:∀c,c<w.heap.size->c∉aI (.cells [⟨w.heap.size,0,cs.length,arr.size⟩])->(w.alloc (.cells arr ty)).heap[c]? = w.heap[c]?:=fun c hc _=>wC w _ c hc;have fV:∀c∈aI (.cells [⟨w.heap.size,0,cs.length,arr.size⟩]),(∃l0,M k=some l0∧c∈aI l0)∨w.heap.size<=c:=fun c hc=>.inr (by simp[aI]at hc;omega);refine⟨h.upd k _ _ (fun j hj=>?_) (fun l0 h0=>by rw[hk]at h0;cases h0) gJ fV (by simp) ?_,Ext.upd k _ _ [] (.inr ⟨hc,hk,rfl⟩) hle gJ fV (by simp) rfl rfl rfl⟩
 .rcases hj with hj|⟨a,b⟩
  .exact .inl hj
  .right;unfold lZ at b;split at b
   .assumption
   .simp[a]at b
 .refine⟨hn,fun q hq=>?_,fun _=>⟨_,rfl,rfl⟩,by simp⟩;simp at hq;subst hq;exact⟨⟨arr,ty,(0,0),heap_alloc_new w _,rfl,fun _=>rfl,fun _ i c v _ a b=>(hx i c v a (by simpa using b)).mono hle.h⟩,by simpa using hl,a0P _,fun _=>rfl⟩
theorem a5l{M:Mp}{env:List (Nat×EV)}{a:Act}(hE:ku M env a.tmps){x:Operand}{e:EV}(h:IV env x=some e):ER M e (a.eval x):=by
 cases x with
 |tmp t=>exact hE t e h
 |const v=>
  simp only[IV,a0l]at h;obtain⟨t,h1,rfl⟩:=h;exact .val (.yJ h1)
 |func f=>
  simp only[IV,a0d]at h;subst h;exact .val (VR.fn (xs:=[]) (ys:=[]) rfl (by simp) rfl (by simp))
 |global g=>simp[IV]at h
theorem Z7{M:Mp}{env:List (Nat×EV)}{a:Act}(hE:ku M env a.tmps){x:Operand}{v:TV}(h:qQ env x=some v):VR M.h v (a.eval x):=by
 unfold qQ at h;split at h
 .rename_i v' he;simp at h;subst h;exact(a5l hE he).vN
 simp at h
structure PR(N:Np)(ps:List (Nat×TV))(qs:List (Nat×LI3)):Prop where
 len:ps.length=qs.length
 at_:∀(i:Nat) (p:Nat×TV) (q:Nat×LI3),ps[i]? = some p->qs[i]? = some q->p.1=q.1∧VR N p.2 q.2
theorem PR.nil{N:Np}:PR N [] []:=⟨rfl,by simp⟩
theorem PR.cons{N:Np}{i:Nat}{v:TV}{x:LI3}{ps:List (Nat×TV)}{qs:List (Nat×LI3)}(h:VR N v x)(hs:PR N ps qs):PR N ((i,v)::ps) ((i,x)::qs):=
 ⟨by simp[hs.len],fun j p q a b=>by
  cases j with
  |zero=>simp at a b;subst a;subst b;exact⟨rfl,h⟩
  |succ j=>simp at a b;exact hs.at_ j p q a b⟩
theorem PR.iQ{N:Np}{i:Nat}{v:TV}{ps:List (Nat×TV)}{qs:List (Nat×LI3)}(h:PR N ((i,v)::ps) qs):∃x qs',qs=(i,x)::qs'∧VR N v x∧PR N ps qs':=by
 cases qs with
 |nil=>have:=h.len;simp at this
 |cons q qs'=>
  have h0:=h.at_ 0 (i,v) q rfl rfl;obtain⟨j,x⟩:=q;obtain⟨h1,h2⟩:=h0;simp only at h1;subst h1;exact⟨x,qs',rfl,h2,⟨by have:=h.len;simpa using this,fun j p q a b=>h.at_ (j+1) p q (by simpa using a) (by simpa using b)⟩⟩
theorem PR.qp{N:Np}{qs:List (Nat×LI3)}(h:PR N [] qs):qs=[]:=by have:=h.len;simp at this;exact a4I this.symm
def ai3(P:LI1)(c:Sem Next)(w:LI4)(x:LI3)(w':LI4):Prop:=
 c.run P w=.ok (.value x) w'∨(x=Go.undef∧c.run P w=.ok .skip w')
def GI(P:LI1)(M:Mp)(D:Key->Prop)(C:Ct)(w:LI4)(c:Sem Next)(v:EV)(C1:Ct)(ws:List Key):Prop:=
 ∃x w' M',ai3 P c w x w'∧NS M D C w v C1 ws x w' M'
section
variable {P:LI1} {M:Mp} {D:Key->Prop} {w:LI4} {s:St}
theorem GI.same{C:Ct}{c:Sem Next}{v:EV}{x:LI3}(hV:Valid M D C w)(hr:c.run P w=.ok (.value x) w)(he:ER M v x):GI P M D C w c v C []:=
 ⟨x,w,M,.inl hr,.same hV he⟩
theorem qX{k:Key}{l:Lc}(hk:M k=none):∀j l',M (.l j)=some l'->dN M k l (.l j)=some l':=by intro j l' h;unfold dN;rw[a0E (fun e=>by rw[<-e,h]at hk;cases hk)];exact h
theorem a5m(hV:Valid M D s.get w)(zf:M (.h s.heap.length)=none)(hnl:M (.l s.loc.length)=none)(site:Bool){cs:List TV}{xs:Array LI3}(ty:LI2)
  (hx:bY M.h cs xs.toList) (hn:∀c∈cs,iY c=true) {v:EV} {s1:St} (h:qR site s cs=(v,s1)) :
  ∃M',NS M D s.get w v s1.get [] (.pointer (some ⟨w.heap.size,0,none⟩)) (w.alloc (.cells xs ty)) M':=by
 have hlen:cs.length<=xs.size:=by have:=hx.len;simpa using ahu this
 have IY:∀(i:Nat) (c:TV) (v:LI3),cs[i]? = some c->xs[i]? = some v->VR M.h c v:=fun i c v a b=>hx.at_ i c v a (by simpa using b);unfold qR at h;cases site with
 |true=>
  simp only[a2u,a0J]at h;obtain⟨rfl,rfl⟩:=h;have hc:s.get (.h s.heap.length)=none:=by simp[St.get]
  have:=NW hV ty zf hc hlen IY hn;refine⟨dN M (.h s.heap.length) (.cells [⟨w.heap.size,0,cs.length,xs.size⟩]),⟨?_,?_,?_,qX zf⟩⟩
  .rw[kG];exact this.1
  .rw[kG];exact this.2
  .exact .val (VR.ptr (p:=⟨w.heap.size,0,cs.length,xs.size⟩) (ls:=[⟨w.heap.size,0,cs.length,xs.size⟩]) (by simp[Mp.h,dN]) (by simp) (a0P _) (by simpa using hlen))
 |false=>
  simp only[a2S,a3T,a0J]at h;obtain⟨rfl,rfl⟩:=h;have hc:s.get (.l s.loc.length)=none:=by simp[St.get]
  have:=NW hV ty hnl hc hlen IY hn;refine⟨dN M (.l s.loc.length) (.cells [⟨w.heap.size,0,cs.length,xs.size⟩]),⟨?_,?_,?_,qX hnl⟩⟩
  .rw[RD];exact this.1
  .rw[RD];exact this.2
  .exact ER.loc (p:=⟨w.heap.size,0,cs.length,xs.size⟩) (by simp[dN]) rfl
theorem a0I{x:LI3}{c:TV}(h:TV.ofC x=some c):iY c=true:=by unfold TV.ofC at h;split at h<;>simp at h<;>subst h<;>rfl
theorem Wy:∀{xs:List LI3} {cs:List TV},TV.CB xs=some cs->∀c∈cs,iY c=true
 | [],cs,h=>by simp[TV.CB]at h;subst h;simp
 |x::xs,cs,h=>by
  simp only[TV.CB]at h;split at h
  .rename_i v vs h1 h2;simp at h;subst h;intro c hc;rcases a1Y.1 hc with rfl|hc
   .exact a0I h1
   exact Wy h2 c hc
  simp at h
theorem a2N{x:LI3}{v:TV}(h:TV.Wh x=some v):∀c∈v.cells,iY c=true:=by
 unfold TV.Wh at h;split at h
 .simp only[a0l]at h;obtain⟨vs,h1,rfl⟩:=h;exact Wy h1
 have h1:=a0I h;cases v<;>simp[iY]at h1<;>simp[TV.cells,iY]
theorem wE{t:LI2}{z:List TV}(h:KD P t=some z):∃i x v,P.info? t=some i∧i.zero=some x∧TV.Wh x=some v∧z=v.cells∧(∀c∈z,iY c=true) ∧
  (∀N:Np,bY N z x.cells.toList)∧∀w,(zeroValue t).run P w=.ok x w:=by
 unfold KD at h;split at h
 .rename_i i hi;split at h
  .rename_i x hx;simp only[a0l]at h;obtain⟨v,h1,rfl⟩:=h;exact⟨i,x,v,hi,hx,h1,rfl,a2N h1,fun N=>(VR.yJ h1).cells,fun w=>by simp[zeroValue,iZ hi,hx]⟩
  .simp at h
 .simp at h
theorem Z8(vs:List LI3):∀(k off:Nat) (arr:Array LI3),off+k+vs.length<=arr.size ->
  ((vs.zipIdx k).foldl (fun(cs:Array LI3) (c:LI3×Nat)=>cs.setIfInBounds (off+c.2) c.1) arr).toList=arr.toList.take (off+k)++vs++arr.toList.drop (off+k+vs.length):=by
 induction vs with
 |nil=>intro k off arr h;simp
 |cons v vs ih=>
  intro k off arr h;simp only[a4K]at h;simp only[List.zipIdx_cons,ae5];rw[ih (k+1) off _ (by simp;omega)];have e:=list_seg_step arr.toList (off+k) v vs (by simp;omega);simpa[Array.toList_setIfInBounds,aai]using e
theorem LZ{N:Np}{place place':Nat->Option (Nat×Nat)}(hp:∀i x,place i=some x->place' i=some x):∀{ps:List (Nat×TV)} {qs:List (Nat×LI3)} {cs r:List TV} {arr:Array LI3},sJ place cs ps=some r->PR N ps qs ->
  bY N cs arr.toList->∃uV,Instr.fill place' arr qs=some uV∧bY N r uV.toList
 | [],qs,cs,r,arr,h,hq,hc=>by have:=hq.qp;subst this;simp[sJ]at h;subst h;exact⟨arr,rfl,hc⟩
 |(i,v)::ps,qs,cs,r,arr,h,hq,hc=>by
  obtain⟨x,qs',rfl,hx,hq'⟩:=hq.iQ;simp only[sJ]at h;split at h
  .rename_i off size Gt;split at h
   .rename_i vC;split at h
    .rename_i cs' ho;obtain⟨o1,o2,o3⟩:=vV ho;have hxc:=hx.cells;have hl1:=hxc.len;have RF:=hc.len;simp only[aa9]at hl1 RF;have e:(x.cells.zipIdx.foldl (fun(cs:Array LI3) (c:LI3×Nat)=>cs.setIfInBounds (off+c.2) c.1) arr).toList=arr.toList.take off++x.cells.toList++arr.toList.drop (off+x.cells.toList.length):=by rw[<-Array.foldl_toList,Array.toList_zipIdx];have:=Z8 x.cells.toList 0 off arr (by simp;omega);simpa using this
     have Wi:bY N cs' (x.cells.zipIdx.foldl (fun(cs:Array LI3) (c:LI3×Nat)=>cs.setIfInBounds (off+c.2) c.1) arr).toList:=by have hlx:x.cells.toList.length=v.cells.length:=(by simp[hl1]);rw[e,o2,hlx];exact((hc.take off).append hxc).append (hc.drop _)
     obtain⟨uV,g1,g2⟩:=LZ hp h hq' Wi;refine⟨uV,?_,g2⟩;simp only[Instr.fill,hp i _ Gt];rw[a0E (by simp;omega)];exact g1
    .simp at h
   .simp at h
  .simp at h
theorem NY{w:LI4}:∀(fs:List Field),CG P fs=true->(fs.mapM (fun f=>Functor.map (Prod.mk f.offset) (Go.sizeOf f.type):Field->Sem (Nat×Nat))).run P w=.ok (fs.map fun f=>(f.offset,(dH P f.type).getD 0)) w
 | [],_=>by simp
 |f::fs,h=>by simp only[CG,aco,a2O]at h;obtain⟨n,hn⟩:=a5r.1 h.1;have ih:=NY (w:=w) fs (by simpa[CG]using h.2);simp only[List.mapM_cons,Sem.run_bind,Sem.run_map,dh hn,Result.andThen_ok,Sem.run_pure,ih,a4M,hn,a5e]
theorem a5o{N:Np}{t:LI2}{ps:List (Nat×TV)}{qs:List (Nat×LI3)}{v:TV}(h:NC P t ps=some v)(hq:PR N ps qs) :
  ∃x,VR N v x∧∀w,(Instr.build t qs.toArray).run P w=.ok x w:=by
 unfold NC at h;split at h
 .rename_i z fs hz hu;split at h
  .rename_i ha;simp only[a0l]at h;obtain⟨r,hr,rfl⟩:=h;obtain⟨i,x,v,_,_,_,_,_,hvr,hzr⟩:=wE hz;obtain⟨uV,g1,g2⟩:=LZ (place':=fun i=>(fs.map fun f=>(f.offset,(dH P f.type).getD 0))[i]?) (fun i x hx=>by
    unfold Ud at hx;split at hx
    .rename_i f hf;simp only[a0l]at hx;obtain⟨n,hn,rfl⟩:=hx;simp[hf,hn]
    .simp at hx) hr hq (hvr N)
   refine⟨_,.agg' g2,fun w=>?_⟩;have hm:(fs.mapM (fun f=>Functor.map (Prod.mk f.offset) (Go.sizeOf f.type):Field->Sem (Nat×Nat))).run P w=.ok (fs.map fun f=>(f.offset,(dH P f.type).getD 0)) w:=by rw[Array.mapM_eq_mapM_toList,Sem.run_map,NY fs.toList ha];simp only[Result.andThen_ok];congr 1;apply aen;simp
   simp only[Array.getElem?_map]at g1;simp[Instr.build,hzr w,run_underlying hu,hm,g1]
  .simp at h
 .rename_i z n e hz hu;split at h
  .rename_i n hn;simp only[a0l]at h;obtain⟨r,hr,rfl⟩:=h;obtain⟨i,x,v,_,_,_,_,_,hvr,hzr⟩:=wE hz;obtain⟨uV,g1,g2⟩:=LZ (place':=fun i=>some (i*n,n)) (fun i x hx=>hx) hr hq (hvr N);exact⟨_,.agg' g2,fun w=>by simp[Instr.build,hzr w,run_underlying hu,dh hn,g1]⟩
  .simp at h
 .simp at h
end
section
variable {P:LI1} {M:Mp} {D:Key->Prop} {w:LI4} {s:St}
theorem WA{t:LI2}{cs:List TV}{off:Nat}{v:TV}(h:uz P t cs off=some v):∃n,dH P t=some n∧off+n<=cs.length:=by
 unfold uz at h;split at h
 .rename_i n _ hn;simp only[a0l]at h;obtain⟨r,hr,_⟩:=h;exact⟨n,hn,(uF hr).1⟩
 .rename_i n _ hn;split at h
  .rename_i h1;subst h1;exact⟨1,hn,(a0h.1 h).1⟩
  simp at h
 simp at h
theorem a0K{N:Np}{t:LI2}{cs:List TV}{off:Nat}{v:TV}{xs:List LI3}(h:uz P t cs off=some v)(hx:bY N cs xs) :
  ∃x,VR N v x∧(Go.part t xs.toArray off).run P w=.ok x w:=by
 unfold uz at h;split at h
 .rename_i n ha hn;simp only[a0l]at h;obtain⟨r,hr,rfl⟩:=h;obtain⟨s1,s2,s3⟩:=uF hr;have hl:=hx.len;refine⟨.agg ((xs.drop off).take n).toArray,.agg' (by rw[s2];exact(hx.drop off).take n),?_⟩;simp[Go.part,Ae ha,dh hn]
 .rename_i n ha hn;split at h
  .obtain⟨x,h1,h2⟩:=hx.get h;exact⟨x,h2,by simp[Go.part,Ae ha,h1]⟩
  .simp at h
 .simp at h
theorem GK{t:LI2}{e:EV}{v:TV}{i:mF}{x:LI3}(hV:Valid M D s.get w)(h:loadT P t s e=some (v,i))(hx:ER M e x)(hD:∀k∈i.ts,D k) :
  i.ws=[]∧∃y,VR M.h v y∧(Instr.loadAt t x).run P w=.ok y w:=by
 unfold loadT at h;split at h
 .rename_i k off;split at h
  .rename_i cs hk;simp only[a0l,a0J]at h;obtain⟨v',hv,rfl,rfl⟩:=h;cases hx with
   |loc hm hb=>
    rename_i p;have hg:s.get (.l k)=some (.cells .own cs):=(by simp[St.get,hk]);have hd:=hD (.l k) (by simp[xG]);obtain⟨b,h1,h2⟩:=hV.ok _ _ hm hd;rw[hg]at h1;cases h1;obtain⟨_,h3,h4,_⟩:=h2;obtain⟨q,hq,he⟩:=h4 rfl;simp at hq;subst hq;obtain⟨n,hn,hle⟩:=WA hv;obtain⟨y,g1,g2⟩:=KG (P:=P) (h3 p (by simp)) hn hv (by omega) (fun e=>by cases e);rw[hb,a3W]at g2;exact⟨rfl,y,g1,by simp[Instr.loadAt,Instr.sureAddr,g2]⟩
  .simp at h
 .rename_i b off lim;split at h
  .rename_i cs n hb hn;split at h
   .rename_i Lu;simp only[a0l,a0J]at h;obtain⟨v',hv,rfl,rfl⟩:=h;cases hx with
    |val hx=>
     cases hx with
     |ptr hm hp hl ht=>
      rename_i ls p;obtain⟨k,hk,WB⟩:=xY hb;have hd:=hD (.h b) (by simp[xG]);obtain⟨gq,h1,h2⟩:=hV.ok _ _ hm hd;simp only[St.get,hk,a0d]at h1;subst h1;obtain⟨_,h3,_⟩:=h2;obtain⟨y,g1,g2⟩:=KG (P:=P) (h3 p hp) hn hv (by omega) (fun e=>by have:=WB e;have:=(h3 p hp).ext;omega);exact⟨rfl,y,g1,by simp[Instr.loadAt,Instr.sureAddr,g2]⟩
   .simp at h
  .simp at h
 .simp at h
theorem Mc{l:List TV}(h:l.all iY=true):∀c∈l,iY c=true:=by simpa using h
theorem Z9{t:LI2}{e:EV}{v:TV}{i:mF}{x y:LI3}{s1:St}(hV:Valid M D s.get w)(h:storeT P t s e v=some (s1,i))(hx:ER M e x)(hy:VR M.h v y)(hD:∀k∈i.ts,D k) :
  s1.env=s.env∧∃w',(Instr.storeAt t x y).run P w=.ok () w'∧Valid M D s1.get w'∧Ext M s.get w M s1.get w' i.ws∧∀k,s.get k=none->s1.get k=none:=by
 unfold storeT at h;split at h
 case h_2=>simp at h
 rename_i n hn;split at h
 case isFalse=>simp at h
 rename_i hc;obtain⟨hlen,FC⟩:=hc;have hyc:=hy.cells;have hyl:y.cells.size=n:=by have:=hyc.len;simp at this;omega
 split at h
 .rename_i k off;split at h
  .rename_i cs hk;simp only[a0l,a0J]at h;obtain⟨cs',ho,rfl,rfl⟩:=h;cases hx with
   |loc hm hb=>
    rename_i p;have hg:s.get (.l k)=some (.cells .own cs):=(by simp[St.get,hk]);obtain⟨w',r1,r2,r3⟩:=yZ (P:=P) hV hm (hD _ (by simp[pF])) hg (a1S.2 rfl) (.inl ⟨rfl,rfl⟩) ho hyc (Mc FC);have KJ:=(a0h.1 hk).1;refine⟨rfl,w',?_,?_,?_,?_⟩
    .rw[hb,a3W]at r1;simp[Instr.storeAt,Instr.sureAddr,storeVar,dh hn,hyl,r1]
    .rw[NT s k cs' KJ];exact r2
    .rw[NT s k cs' KJ];exact r3
    .rw[NT s k cs' KJ];exact Ec (by simp[hg])
  .simp at h
 .rename_i b off lim;split at h
  .rename_i Lu;simp only[a0l,a0J]at h;obtain⟨h',hs,rfl,rfl⟩:=h;cases hx with
   |val hx=>
    cases hx with
    |ptr hm hp hl ht=>
     rename_i ls p;obtain⟨kk,BD,cs,cs',hb,xZ,ho,rfl⟩:=J9 hs;have hg:s.get (.h b)=some (.cells kk cs):=(by simp[St.get,hb]);obtain⟨w',r1,r2,r3⟩:=yZ (P:=P) hV hm (hD _ (by simp[pF])) hg hp (hV.Z4 hm (hD _ (by simp[pF])) hg hp hl xZ) ho hyc (Mc FC);have KJ:=(a0h.1 hb).1;refine⟨rfl,w',?_,?_,?_,?_⟩
     .simp[Instr.storeAt,Instr.sureAddr,storeVar,dh hn,hyl,r1]
     .rw[jG s b _ KJ];exact r2
     .rw[jG s b _ KJ];exact r3
     .rw[jG s b _ KJ];exact Ec (by simp[hg])
  .simp at h
 .simp at h
theorem GL{n:Nat}{v:TV}{j:Nat}{N:Np}{x:LI3}(h:idx n v=some j)(hx:VR N v x):∃k i,x=.int k i∧0<=i∧i<n∧j=i.toNat∧j<n:=by
 unfold idx at h;split at h
 .rename_i k i;split at h
  .rename_i hc;simp at h;subst h;cases hx;exact⟨k,i,rfl,hc.1,hc.2,rfl,by omega⟩
  simp at h
 simp at h
theorem NZ{o:Nat}{e e':EV}{x:LI3}(h:QG o e=some e')(hx:ER M e x):∃a,x=.pointer (some a)∧ER M e' (.pointer (some (a.add o))):=by
 unfold QG at h;split at h
 .simp at h;subst h;cases hx with
  |loc hm hb=>exact⟨_,rfl,by rw[uD];exact .loc hm hb⟩
 .rename_i b off lim;split at h
  .rename_i hl;simp at h;subst h;cases hx with
   |val hx=>
    cases hx with
    |ptr hm hp hl ht=>exact⟨_,rfl,by rw[uD,aai];exact .val (.ptr hm hp hl ht)⟩
  simp at h
 simp at h
theorem Uk{t:LI2}{f n:Nat}{e e':EV}{x:LI3}(h1:Gx P t f=some n)(h:QG n e=some e')(hx:ER M e x) :
  ∃y,ER M e' y∧(Instr.fieldAt t x f).run P w=.ok y w:=by
 obtain⟨a,rfl,he⟩:=NZ h hx;unfold Gx at h1;split at h1
 .rename_i fs hu;split at h1
  .rename_i fd hf;split at h1
   .rename_i m hm;split at h1
    .simp at h1
    .rename_i hz;simp at h1;subst h1;refine⟨_,he,?_⟩;simp[Instr.fieldAt,run_underlying hu,hf,Instr.sureAddr,fieldPlace,dh hm,hz]
   .simp at h1
  .simp at h1
 .simp at h1
theorem O1{N:Np}{t:LI2}{f:Nat}{v v':TV}{x:LI3}(h:ND P t v f=some v')(hx:VR N v x) :
  ∃y,VR N v' y∧(Instr.field t x f).run P w=.ok y w:=by
 unfold ND at h;split at h
 .rename_i fs cs hu;split at h
  .rename_i fd hf;cases hx with
   |agg g1 g2=>
    obtain⟨y,r1,r2⟩:=a0K (P:=P) (w:=w) h ⟨g1,g2⟩;exact⟨y,r1,by simp[Instr.field,run_underlying hu,hf,asAgg,r2]⟩
  .simp at h
 .simp at h
theorem Af{t:LI2}{e e':EV}{v:TV}{x y:LI3}(h:mJ P t e v=some e')(hx:ER M e x)(hy:VR M.h v y) :
  ∃z,ER M e' z∧(Instr.indexAt t x y).run P w=.ok z w:=by
 unfold mJ at h;split at h
 .rename_i el hu;split at h
  .rename_i n b off len cap sz ex hn;split at h
   .rename_i vC;simp only[a0l]at h;obtain⟨j,hj,rfl⟩:=h;subst vC;obtain⟨k,i,rfl,h0,h1,rfl,h2⟩:=GL hj hy;cases hx with
    |val hx=>
     cases hx with
     |aP hb hp hl hle hc hex ha hk=>
      rename_i ls p a cap';rcases ha with ha|⟨rfl,ha⟩
      .omega
      .have hmul:i.toNat*n+n<=len*n:=by
        have:=a3V n (show i.toNat+1<=len by omega)
        rwa [a3U,abp]at this
       have acj:cap*n<=cap'*n:=a3V n (by omega);have hp:=hp.resolve_left (by omega);refine⟨_,.val (.ptr hb hp (lim:=off+cap*n) (off:=off+i.toNat*n) (by omega) (by omega)),?_⟩;simp[Instr.indexAt,asIntOf,run_underlying hu,h0,h1,dh hn,uD,aai]
   .simp at h
  .simp at h
 .rename_i len el hu;split at h
  .rename_i n hn;split at h
   .rename_i j hj;obtain⟨k,i,rfl,h0,h1,rfl,h2⟩:=GL hj hy;obtain⟨a,rfl,he⟩:=NZ h hx;refine⟨_,he,?_⟩;simp[Instr.indexAt,asIntOf,run_underlying hu,Instr.sureAddr,h0,h1,dh hn]
   .simp at h
  .simp at h
 .simp at h
theorem O4{N:Np}{t:LI2}{v u r:TV}{x y:LI3}(h:J5 P t v u=some r)(hx:VR N v x)(hy:VR N u y) :
  ∃z,VR N r z∧(Instr.index t x y).run P w=.ok z w:=by
 unfold J5 at h;split at h
 .rename_i len el cs hu;split at h
  .rename_i n j hn hj;obtain⟨k,i,rfl,h0,h1,rfl,h2⟩:=GL hj hy;cases hx with
   |agg g1 g2=>
    obtain⟨z,r1,r2⟩:=a0K (P:=P) (w:=w) h ⟨g1,g2⟩;exact⟨z,r1,by simp[Instr.index,asIntOf,run_underlying hu,h0,h1,dh hn,r2]⟩
  .simp at h
 .rename_i bs hu;split at h
  .rename_i j hj;obtain⟨k,i,rfl,h0,h1,rfl,h2⟩:=GL hj hy;simp only[a0l]at h;obtain⟨b,hb,rfl⟩:=h;cases hx;exact⟨_,.int _ _,by simp[Instr.index,asIntOf,run_underlying hu,h0,hb]⟩
  .simp at h
 .simp at h
end
section
variable {P:LI1} {M:Mp} {D:Key->Prop} {w:LI4} {s:St}
theorem a0L{N:Np}:∀{az:List TV} {xs ys:List LI3},BN az=some xs->bY N az ys->ys=xs
 | [],xs,ys,h,hy=>by simp[BN]at h;subst h;exact hy.qp
 |c::az,xs,ys,h,hy=>by
  simp only[BN]at h;split at h
  .rename_i v vs h1 h2;simp at h;subst h;obtain⟨u,us,rfl,hu,hus⟩:=hy.iQ;rw[wz h1 hu,a0L h2 hus]
  simp at h
def GN:NK->LI3->Prop
 |.ptr,x=>x=.pointer none
 |.aP,x=>x=.slice none 0 0
 |.map,x=>x=.map none
 |.fn,x=>x=.nilFunc
 |.ifc,x=>x=.nilIface
def yL:NK->LI3->Prop
 |.ptr,x=>∃a,x=.pointer (some a)
 |.aP,x=>∃a l c,x=.slice (some a) l c
 |.map,x=>∃r,x=.map (some r)
 |.fn,x=>∃f a c,x=.func f a c
 |.ifc,_=>False
theorem a0M{N:Np}{v:TV}{k:NK}{x:LI3}(h:YW v=some k)(hx:VR N v x):GN k x:=by cases hx<;>simp[YW]at h<;>subst h<;>rfl
theorem WC{N:Np}{v:TV}{k:NK}{x:LI3}(h:KE v=some k)(hx:VR N v x):yL k x:=by cases hx<;>simp[KE]at h<;>subst h<;>simp[yL]
theorem a5q{t:LI2}{k:NK}(h:KF P t=some k):match k with
  |.ptr=>∃e,P.underlying t=some (.pointer e)
  |.aP=>∃e,P.underlying t=some (.slice e)
  |.map=>∃e f,P.underlying t=some (.map e f)
  |.fn=>∃e f g,P.underlying t=some (.func e f g)
  |.ifc=>False:=by
 unfold KF at h;split at h<;>simp at h<;>subst h<;>simp_all
theorem a2P{t:LI2}{k:NK}{x y:LI3}(h:KF P t=some k)(hxy:(GN k x∧yL k y)∨(yL k x∧GN k y))(d:Nat) :
  (Op.equalIn (d+1) t x y).run P w=.ok false w:=by
 have hk:=a5q h;cases k with
 |ptr=>
  obtain⟨e,hu⟩:=hk;rcases hxy with⟨hx,a,rfl⟩|⟨⟨a,rfl⟩,hy⟩
  .cases hx;simp[Op.equalIn,run_underlying hu]
  .cases hy;simp[Op.equalIn,run_underlying hu]
 |aP=>
  obtain⟨e,hu⟩:=hk;rcases hxy with⟨hx,a,l,c,rfl⟩|⟨⟨a,l,c,rfl⟩,hy⟩
  .cases hx;simp[Op.equalIn,run_underlying hu]
  .cases hy;simp[Op.equalIn,run_underlying hu]
 |map=>
  obtain⟨e,f,hu⟩:=hk;rcases hxy with⟨hx,a,rfl⟩|⟨⟨a,rfl⟩,hy⟩
  .cases hx;simp[Op.equalIn,run_underlying hu]
  .cases hy;simp[Op.equalIn,run_underlying hu]
 |fn=>
  obtain⟨e,f,g,hu⟩:=hk;rcases hxy with⟨hx,a,b,c,rfl⟩|⟨⟨a,b,c,rfl⟩,hy⟩
  .cases hx;simp[Op.equalIn,run_underlying hu]
  .cases hy;simp[Op.equalIn,run_underlying hu]
 |ifc=>exact hk.elim
theorem a0N{t:LI2}{k:NK}{ox oy:Operand}{x y:LI3}(h:KF P t=some k)(hxy:(GN k x∧yL k y)∨(yL k x∧GN k y))(b:Bool)(op:BinOp)(hb:(op=.eql∧b=false)∨(op=.neq∧b=true)) :
  (do eqGuard op t ox oy x y;binOp op t x y:Sem LI3).run P w=.ok (.bool b) w:=by
 have he:(Op.equal t x y).run P w=.ok false w:=a2P h hxy 9999;have hg:(eqGuard op t ox oy x y).run P w=.ok () w:=by
  cases k<;>rcases hxy with⟨hx,hy⟩|⟨hx,hy⟩<;>simp only[GN,yL]at hx hy <;>
   (first|(exact hy.elim)|(exact hx.elim)|skip)<;>(try obtain⟨_,rfl⟩:=hx)<;>(try obtain⟨_,rfl⟩:=hy)<;>(try obtain⟨_,_,rfl⟩:=hx)<;>(try obtain⟨_,_,rfl⟩:=hy)<;>(try subst hx)<;>(try subst hy) <;>
   (try obtain⟨_,_,_,rfl⟩:=hx)<;>(try obtain⟨_,_,_,rfl⟩:=hy)<;>rcases hb with⟨rfl,rfl⟩|⟨rfl,rfl⟩<;>simp[eqGuard]
 have QJ:(binOp op t x y).run P w=.ok (.bool b) w:=by
  cases k<;>rcases hxy with⟨hx,hy⟩|⟨hx,hy⟩<;>simp only[GN,yL]at hx hy <;>
   (first|(exact hy.elim)|(exact hx.elim)|skip)<;>(try obtain⟨_,rfl⟩:=hx)<;>(try obtain⟨_,rfl⟩:=hy)<;>(try obtain⟨_,_,rfl⟩:=hx)<;>(try obtain⟨_,_,rfl⟩:=hy)<;>(try subst hx)<;>(try subst hy) <;>
   (try obtain⟨_,_,_,rfl⟩:=hx)<;>(try obtain⟨_,_,_,rfl⟩:=hy)<;>rcases hb with⟨rfl,rfl⟩|⟨rfl,rfl⟩<;>simp only[binOp,Sem.run_bind,he,Result.andThen_ok,Sem.run_pure,aaT]
 simp only[Sem.run_bind,hg,Result.andThen_ok,QJ]
theorem Za{N:Np}{op:BinOp}{t:LI2}{ox oy:Operand}{a b r:TV}{x y:LI3}(h:sO P op t ox oy a b=some r)(hx:VR N a x)(hy:VR N b y) :
  ∃z,VR N r z∧(do eqGuard op t ox oy x y;binOp op t x y:Sem LI3).run P w=.ok z w:=by
 unfold sO at h;split at h
 .rename_i u v hu hv;split at h
  .rename_i z hz;have e1:=wz hu hx;have e2:=wz hv hy;subst e1;subst e2;exact⟨z,.yJ h,jf hz w⟩
  .simp at h
 .split at h
  .rename_i hn;unfold CJ at hn;split at hn
   case h_2=>simp at hn
   rename_i k hk;have hxy:(GN k x∧yL k y)∨(yL k x∧GN k y):=by
    simp only[a9w,a2O,a7g]at hn;rcases hn with⟨h1,h2⟩|⟨h1,h2⟩
    .exact .inl ⟨a0M h1 hx,WC h2 hy⟩
    .exact .inr ⟨WC h1 hx,a0M h2 hy⟩
   split at h
   .simp at h;subst h;exact⟨_,.bool false,a0N hk hxy false _ (.inl ⟨rfl,rfl⟩)⟩
   .simp at h;subst h;exact⟨_,.bool true,a0N hk hxy true _ (.inr ⟨rfl,rfl⟩)⟩
   .simp at h
  .simp at h
theorem iV{N:Np}{op:UnOp}{a r:TV}{x:LI3}(h:unT P op a=some r)(hx:VR N a x):∃z,VR N r z∧(Op.unary op x).run P w=.ok z w:=by
 unfold unT at h;split at h
 .rename_i u hu;split at h
  .rename_i z hz;have e1:=wz hu hx;subst e1;exact⟨z,.yJ h,jf hz w⟩
  simp at h
 simp at h
theorem Ul{N:Np}{t u:LI2}{a r:TV}{x:LI3}(h:Rt P t u a=some r)(hx:VR N a x):∃z,VR N r z∧(convert t u x).run P w=.ok z w:=by
 unfold Rt at h;split at h
 .rename_i u hu;split at h
  .rename_i z hz;have e1:=wz hu hx;subst e1;exact⟨z,.yJ h,jf hz w⟩
  simp at h
 simp at h
theorem zi{N:Np}{mx:Bool}{at_:Array LI2}{t:LI2}{az:List TV}{r:TV}{xs:List LI3}(h:E8 P mx at_ t az=some r)(hx:bY N az xs) :
  ∃z,VR N r z∧(if mx then Builtin.max_ at_ t xs.toArray else Builtin.min_ at_ t xs.toArray).run P w=.ok z w:=by
 unfold E8 at h;split at h
 .rename_i us hu;split at h
  .rename_i z hz;have e1:=a0L hu hx;subst e1;exact⟨z,.yJ h,jf hz w⟩
  .simp at h
 .simp at h
theorem lG{n j:Nat}{v:TV}(h:qU n v=some j):j<=n:=by
 unfold qU at h;split at h
 .split at h
  .simp at h;omega
  simp at h
 simp at h
theorem sV{N:Np}{n j m:Nat}{v:TV}{x:LI3}{code:BoundsCode}(h:qU n v=some j)(hx:VR N v x)(hm:j<=m) :
  (Instr.sliceBound x m code).run P w=.ok j w:=by
 unfold qU at h;split at h
 .rename_i k i;split at h
  .rename_i hc;simp at h;subst h;cases hx;have:i<=(m:Int):=(by omega);simp[Instr.sliceBound,asIntOf,hc.1,this]
  .simp at h
 .simp at h
inductive OR(N:Np):Option TV->Option LI3->Prop
 |none:OR N none none
 |some {v:TV} {x:LI3} (h:VR N v x):OR N (some v) (some x)
theorem y9{N:Np}{is:Bool}{len cap' n l0 hg:Nat}{lo hi:Option TV}{Zb xI:Option LI3}(hl:OR N lo Zb)(hh:OR N hi xI)
  (h1:jF n len hi=some hg) (h2:jF hg 0 lo=some l0) (h3:hg<=cap'):(Instr.sliceBounds is len cap' Zb xI none).run P w=.ok (l0,hg,cap') w:=by
 cases hh with
 |none=>
  simp only[jF,a0d]at h1;subst h1;cases hl with
  |none=>simp only[jF,a0d]at h2;subst h2;simp[Instr.sliceBounds]
  |some hv=>simp only[jF]at h2;simp[Instr.sliceBounds,sV (P:=P) (w:=w) h2 hv (lG h2)]
 |some hv'=>
  simp only[jF]at h1;cases hl with
  |none=>simp only[jF,a0d]at h2;subst h2;simp[Instr.sliceBounds,sV (P:=P) (w:=w) h1 hv' h3]
  |some hv=>simp only[jF]at h2;simp[Instr.sliceBounds,sV (P:=P) (w:=w) h1 hv' h3,sV (P:=P) (w:=w) h2 hv (lG h2)]
theorem FD{N:Np}{is:Bool}{len cap' n k l0 hg m:Nat}{lo:Option TV}{hi mx:TV}{Zb:Option LI3}{xI mx':LI3}(hl:OR N lo Zb)(hh:VR N hi xI)(hm:VR N mx mx')
  (h0:qU k mx=some m) (h1:qU n hi=some hg) (h2:jF hg 0 lo=some l0) (h3:hg<=m) (h4:m<=cap'):(Instr.sliceBounds is len cap' Zb (some xI) (some mx')).run P w=.ok (l0,hg,m) w:=by
 have r1:=fun code=>sV (P:=P) (w:=w) (code:=code) h0 hm h4;have r2:=fun code=>sV (P:=P) (w:=w) (code:=code) h1 hh h3;cases hl with
 |none=>simp only[jF,a0d]at h2;subst h2;simp[Instr.sliceBounds,r1,r2]
 |some hv=>simp only[jF]at h2;simp[Instr.sliceBounds,r1,r2,sV (P:=P) (w:=w) h2 hv (lG h2)]
theorem O5{N:Np}{t:LI2}{v r:TV}{lo hi mx:Option TV}{x:LI3}{Zb xI mx':Option LI3}(h:qV P t v lo hi mx=some r)(hx:VR N v x)
  (hl:OR N lo Zb) (hh:OR N hi xI) (hm:OR N mx mx'):∃z,VR N r z∧(Instr.sliceAt t x Zb xI mx').run P w=.ok z w:=by
 unfold qV at h;split at h
 .-- strings
  rename_i bs hu;split at h
  .simp at h
  .cases hm;split at h
   .rename_i h0 gY;split at h
    .rename_i l0 qO;simp at h;subst h;cases hx;refine⟨_,.str _,?_⟩;have hle:h0<=bs.size:=by
      cases hi with
      |none=>simp only[jF,a0d]at gY;omega
      |some v=>simp only[jF]at gY;exact lG gY
     have e1:=y9 (P:=P) (w:=w) (is:=false) (cap':=bs.size) hl hh gY qO hle;simp[Instr.sliceAt,Instr.slice,run_underlying hu,e1]
    .simp at h
   .simp at h
 .-- slices
  rename_i e b off len cap sz ex hu;split at h
  .rename_i n hn;split at h
   case isFalse=>simp at h
   rename_i vC;subst vC;cases hx with
   |aP hb hp FH hle wF hex ha hk=>
    rename_i ls p a cap';have fin:∀(l hgh m:Nat) (ex':Bool),l<=hgh->hgh<=len->hgh<=m->m<=cap'->(m':Nat)->m'<=m->m'<=cap->hgh<=m'->(ex'=true->m=m') ->
      VR N (.aP b (off+l*n) (hgh-l) (m'-l) n ex') (.slice (if m=l then some a else(some a).map (·.add (l*n))) (hgh-l) (m-l)):=by
     intro l hgh m ex' h1 h2 h3 h4 m' h5 h5' h6 h7;have hmul:l*n+(hgh-l)*n=hgh*n:=by rw[<-a3U];congr 1;omega
     have acj:m'*n<=cap*n:=a3V n h5';have arU:l*n+(m'-l)*n=m'*n:=by rw[<-a3U];congr 1;omega
     have BF:(if m=l then some a else(some a).map (·.add (l*n)))=some (if m=l then a else a.add (l*n)):=by split<;>rfl
     rw[BF];refine .aP hb (hp.imp (fun e=>by omega) id) (by omega) (by omega) (by omega) (fun e=>by have:=h7 e;omega) ?_ (by omega);by_cases hml:m=l
     .left;omega
     .right;rcases ha with ha|⟨rfl,ha⟩
      .omega
      .rw[a0E hml,uD];have arV:l*n+(m-l)*n=m*n:=by rw[<-a3U];congr 1;omega
       have arW:m*n<=cap'*n:=a3V n h4;exact⟨by rw[aai],by omega⟩
    split at h
    .rename_i m0;cases hm with
     |some QK=>
      split at h
      .rename_i m h0 hm1;split at h
       .rename_i hg yc;split at h
        .rename_i l0 qO;simp at h;subst h;cases hh with
         |some hhv=>
          have b1:=lG hm1;have b2:=lG yc;have b3:l0<=hg:=by
           cases lo with
           |none=>simp only[jF,a0d]at qO;omega
           |some v=>simp only[jF]at qO;exact lG qO
          have e1:=FD (P:=P) (w:=w) (is:=true) (len:=len) (cap':=cap') hl hhv QK hm1 yc qO (by omega) (by omega);exact⟨_,fin l0 hg m true b3 (by omega) (by omega) (by omega) m (by omega) (by omega) (by omega) (fun _=>rfl),by simp[Instr.sliceAt,Instr.slice,run_underlying hu,e1,dh hn]⟩
        .simp at h
       .simp at h
      .simp at h
    .cases hm;split at h
     .rename_i hg gY;split at h
      .rename_i l0 qO;simp at h;subst h;have hgl:hg<=len:=by
        cases hi with
        |none=>simp only[jF,a0d]at gY;omega
        |some v=>simp only[jF]at gY;exact lG gY
       have hlg:l0<=hg:=by
        cases lo with
        |none=>simp only[jF,a0d]at qO;omega
        |some v=>simp only[jF]at qO;exact lG qO
       refine⟨_,fin l0 hg cap' ex hlg hgl (by omega) (by omega) cap wF (by omega) (by omega) hex,?_⟩;have e1:=y9 (P:=P) (w:=w) (is:=true) (cap':=cap') hl hh gY qO (by omega);simp[Instr.sliceAt,Instr.slice,run_underlying hu,e1,dh hn]
      .simp at h
     .simp at h
  .simp at h
 .-- nil
  rename_i e hu;split at h
  .rename_i x0 x1 x2 x3 hn RG gY qO;split at h
   .simp at h
   .rename_i hg;simp at h;subst h;cases hx;refine⟨_,.Uh,?_⟩;have z1:∀{o:Option TV} {k:Nat},jF 0 0 o=some k->k=0:=fun{o k} e=>by
     cases o with
     |none=>simp only[jF,a0d]at e;omega
     |some v=>simp only[jF]at e;have:=lG e;omega
    have e2:=z1 gY;subst e2;have e3:=z1 qO;subst e3;have e1:(Instr.sliceBounds true 0 0 Zb xI mx').run P w=.ok (0,0,0) w:=by
     cases hm with
     |none=>exact y9 hl hh gY qO (by omega)
     |some QK=>
      have e4:=z1 RG;subst e4;cases hh with
      |none=>simp at hg
      |some hhv=>exact FD hl hhv QK RG gY qO (by omega) (by omega)
    simp[Instr.sliceAt,Instr.slice,run_underlying hu,e1,dh hn]
  .simp at h
 .simp at h
theorem CV{t:LI2}{e:EV}{r:TV}{lo hi mx:Option TV}{x:LI3}{Zb xI mx':Option LI3}(h:qI P t e lo hi mx=some r)(hx:ER M e x)
  (hl:OR M.h lo Zb) (hh:OR M.h hi xI) (hm:OR M.h mx mx'):∃z,VR M.h r z∧(Instr.sliceAt t x Zb xI mx').run P w=.ok z w:=by
 unfold qI at h;split at h
 .rename_i n el b off lim hu;split at h
  .rename_i size hn;split at h
   .simp at h
   .rename_i hc;cases hx with
    |val hx=>
    cases hx with
    |ptr hb hp FH anM=>
    rename_i ls p;split at h
    .rename_i m RG;split at h
     .rename_i hg gY;split at h
      .rename_i l0 qO;split at h
       .simp at h
       .rename_i hs;simp at h;subst h;have hmn:m<=n:=by
         cases mx with
         |none=>simp only[jF,a0d]at RG;omega
         |some v=>simp only[jF]at RG;exact lG RG
        have hgm:hg<=m:=by
         cases hi with
         |none=>
          cases mx with
          |some v=>simp at hs
          |none=>simp only[jF,a0d]at gY RG;omega
         |some v=>simp only[jF]at gY;exact lG gY
        have hlg:l0<=hg:=by
         cases lo with
         |none=>simp only[jF,a0d]at qO;omega
         |some v=>simp only[jF]at qO;exact lG qO
        have e1:(Instr.sliceBounds false n n Zb xI mx').run P w=.ok (l0,hg,m) w:=by
         cases hm with
         |none=>
          simp only[jF,a0d]at RG;subst RG;exact y9 hl hh gY qO (by omega)
         |some QK=>
          cases hh with
          |none=>simp at hs
          |some hhv=>
           simp only[jF]at RG gY;exact FD hl hhv QK RG gY qO (by omega) hmn
        have m1:l0*size+(hg-l0)*size=hg*size:=by rw[<-a3U];congr 1;omega
        have m2:l0*size+(m-l0)*size=m*size:=by rw[<-a3U];congr 1;omega
        have m3:hg*size<=n*size:=a3V size (by omega);have m4:m*size<=n*size:=a3V size (by omega);refine⟨.slice (some (if m=l0 then(⟨p.c,p.base+off,none⟩:Addr)else(⟨p.c,p.base+off,none⟩:Addr).add (l0*size))) (hg-l0) (m-l0),?_,?_⟩
        .refine .aP hb (.inr hp) (by omega) (by omega) (by omega) (fun _=>rfl) ?_ (by omega);by_cases hml:m=l0
         .left;omega
         .right;rw[a0E hml,uD];exact⟨by rw[aai],by omega⟩
        .simp[Instr.sliceAt,run_underlying hu,Instr.sureAddr,e1,dh hn]
      .simp at h
     .simp at h
    .simp at h
  .simp at h
 .simp at h
theorem oG(z:List TV):∀n,(times z n).length=n*z.length
 | 0=>by simp[times]
 |n+1=>by simp[times,oG z n,a3U,Nat.add_comm]
theorem RH(z:List TV)(hz:0<z.length):∀(n i:Nat),i<n*z.length->(times z n)[i]? = z[i%z.length]?
 | 0,i,h=>by simp at h
 |n+1,i,h=>by
  simp only[times];by_cases hi:i<z.length
  .rw[a0C hi,Nat.mod_eq_of_lt hi]
  rw[a0T (by omega),RH z hz n (i-z.length) (by rw[a3U]at h;omega)];congr 1;rw[Nat.mod_eq_sub_mod (a:=i) (by omega)]
theorem Jc{z:List TV}(h:∀c∈z,iY c=true):∀n,∀c∈times z n,iY c=true
 | 0=>by simp[times]
 |n+1=>by
  intro c hc;simp only[times,a3P]at hc;rcases hc with hc|hc
  .exact h c hc
  exact Jc h n c hc
theorem WE{N:Np}{z:List TV}{x:Array LI3}(h:bY N z x.toList)(n m:Nat)(hm:m=n*z.length) :
  bY N (times z n) ((Array.range m).map (x[·%x.size]!)).toList:=by
 have hl:=h.len;simp only[aa9]at hl;refine⟨by simp[oG,hm],fun i c v a b=>?_⟩;have hi:i<n*z.length:=by have:=(a0h.1 a).1;rwa [oG]at this
 have hz:0<z.length:=by
  rcases abu z.length with e|e
  .rw[e]at hi;simp at hi
  .exact e
 rw[RH z hz n i hi]at a;have ai5:i%x.size<x.size:=Nat.mod_lt _ (by omega);have hb:v=x[i%x.size]:=by rw[aem,Array.getElem?_map]at b;simp only[Array.getElem?_range]at b;rw[a0F (by omega)]at b;simp only[a0O,a0d]at b;rw[<-b,getElem!_pos x _ ai5]
 rw[hl]at a;exact h.at_ (i%x.size) c v a (by simp[hb,ai5])
theorem qY{t e:LI2}{n:Nat}(h:jM P t=some (e,n)):P.underlying t=some (.slice e)∧dH P e=some n∧0<n:=by
 unfold jM at h;split at h
 .rename_i e' hu;split at h
  .rename_i n' hn;split at h
   .simp at h
   simp at h;obtain⟨rfl,rfl⟩:=h;exact⟨hu,hn,by omega⟩
  simp at h
 simp at h
theorem RI{place:Nat->Option (Nat×Nat)}:∀{ps:List (Nat×TV)} {cs r:List TV},sJ place cs ps=some r->r.length=cs.length
 | [],cs,r,h=>by simp[sJ]at h;rw[h]
 |(i,v)::ps,cs,r,h=>by
  simp only[sJ]at h;split at h
  .split at h
   .split at h
    .rename_i cs' ho;rw[RI h,(vV ho).2.2]
    simp at h
   simp at h
  simp at h
theorem RJ{place:Nat->Option (Nat×Nat)}:∀{ps:List (Nat×TV)} {cs r:List TV},sJ place cs ps=some r->(∀c∈cs,iY c=true) ->
  (∀p∈ps,∀c∈p.2.cells,iY c=true)->∀c∈r,iY c=true
 | [],cs,r,h,h1,_=>by simp[sJ]at h;subst h;exact h1
 |(i,v)::ps,cs,r,h,h1,h2=>by
  simp only[sJ]at h;split at h
  .split at h
   .split at h
    .rename_i cs' ho;exact RJ h (Wx ho h1 (h2 (i,v) (by simp))) (fun p hp=>h2 p (by simp[hp]))
    .simp at h
   .simp at h
  .simp at h
theorem um{t:LI2}{len:Nat}{ps:List (Nat×TV)}{qs:List (Nat×LI3)}{r:TV}{s1:St}(hV:Valid M D s.get w)(zf:M (.h s.heap.length)=none)
  (h:qJ P t len s ps=some (r,s1)) (hq:PR M.h ps qs) :
  s1.env=s.env∧∃x w' M',(Instr.buildSlice t len qs.toArray).run P w=.ok x w'∧NS M D s.get w (.val r) s1.get [] x w' M':=by
 unfold qJ at h;split at h
 case h_2=>simp at h
 rename_i e n yM;obtain⟨hu,hn,hn0⟩:=qY yM;split at h
 case isFalse=>simp at h
 rename_i hc;obtain⟨hc1,Gu⟩:=hc;split at h
 case h_2=>simp at h
 rename_i z hz;split at h
 case isFalse=>simp at h
 rename_i WG;split at h
 case h_2=>simp at h
 rename_i cs hf;simp at h;obtain⟨rfl,rfl⟩:=h;obtain⟨i,x,v,_,_,_,_,hz1,hvr,hzr⟩:=wE hz;have hx0:=(hvr M.h).len;simp only[aa9]at hx0;have ht:=WE (hvr M.h) len (len*n) (by rw[WG]);obtain⟨uV,g1,g2⟩:=LZ (place':=fun i=>some (i*n,n)) (fun i x hx=>hx) hf hq ht;have FC:∀c∈cs,iY c=true:=RJ hf (Jc hz1 len) (fun p hp=>by have:=a4W.1 Gu p hp;exact Mc this)
 have hlen:cs.length=uV.size:=by have:=g2.len;simpa using this
 have pV:cs.length=len*n:=by rw[RI hf,oG,WG]
 have yN:s.get (.h s.heap.length)=none:=by simp[St.get]
 have IY:∀(i:Nat) (c:TV) (v:LI3),cs[i]? = some c->uV[i]? = some v->VR M.h c v:=fun i c v a b=>g2.at_ i c v a (by simpa using b);have fV:=NW hV e zf yN (ahu hlen) IY FC;refine⟨rfl,.slice (some ⟨w.heap.size,0,none⟩) len len,w.alloc (.cells uV e),dN M (.h s.heap.length) (.cells [⟨w.heap.size,0,cs.length,uV.size⟩]),?_,⟨?_,?_,?_,qX zf⟩⟩
 .have hle:¬(len*n>2^24):=by omega
  by_cases h0:len*n=0
  .have anO:cs=[]:=a4I (by omega);have g1':Instr.fill (fun i=>some (i*n,n)) ((Array.range (len*n)).map ((#[]:Array LI3)[·%(#[]:Array LI3).size]!)) qs=some uV:=by rw[h0]at g1 ⊢;have e0:Array.range 0=#[]:=rfl;rw[e0]at g1 ⊢;simpa using g1
   simp only[Instr.buildSlice,Sem.run_bind,run_underlying hu,Result.andThen_ok,dh hn];rw[a0E hle,a0F h0];simp only[Sem.run_pure,Sem.run_bind,Result.andThen_ok,g1',newRow,run_newObj,World.alloc]
  .simp only[Instr.buildSlice,Sem.run_bind,run_underlying hu,Result.andThen_ok,dh hn];rw[a0E hle,a0E h0];simp only[Sem.run_pure,Sem.run_bind,Result.andThen_ok,hzr w,g1,newRow,run_newObj,World.alloc]
 .rw[kG];exact fV.1
 .rw[kG];exact fV.2
 .have hlb:len<2^63:=by have:=Nat.le_mul_of_pos_right len (show 0<n by omega);omega
  refine .val (.aP (ls:=[⟨w.heap.size,0,cs.length,uV.size⟩]) (p:=⟨w.heap.size,0,cs.length,uV.size⟩) (by simp[Mp.h,dN]) (by simp) (by simp[pV]) (a0P _) (a0P _) (fun _=>rfl) (.inr ⟨by simp,by simp;omega⟩) hlb)
end
section
variable {P:LI1} {M:Mp} {D:Key->Prop} {w:LI4} {s:St}
theorem a0Q{i:Int}(h0:0<=i)(h1:i<=2^40):i64.wrap i=i:=by have h2:i%(2^64:Int)=i:=a8U h0 (by omega);simp only[IntKind.wrap,IntKind.bits,IntKind.signed,h2];rw[a0E];simp only[ae1,a1z,ge_iff_le];omega
theorem RN{N:Np}{v:TV}{n:Nat}{x:LI3}(h:a2I v=some n)(hx:VR N v x):∃k i,x=.int k i∧0<=i∧i<=2^40∧n=i.toNat:=by
 unfold a2I at h;split at h
 .split at h
  .rename_i k i hc;simp at h;subst h;cases hx;exact⟨k,i,rfl,hc.1,hc.2,rfl⟩
  simp at h
 simp at h
theorem Ag{e:LI2}{n:Nat}(h:uj P e n=true):∃i x,P.info? e=some i∧i.zero=some x∧x.cells.size=i.size∧n*i.bytes<=2^40∧n<=2^40∧i.bytes<=2^20∧0<i.bytes:=by
 unfold uj at h;split at h
 .rename_i i hi;simp only[a2O,a1z]at h;obtain⟨⟨⟨⟨h1,h2⟩,h3⟩,h4⟩,h5⟩:=h;unfold a5f at h5;split at h5
  .rename_i x hx;exact⟨i,x,hi,hx,by simpa using h5,h1,h2,h3,h4⟩
  simp at h5
 simp at h
theorem Ah{t:LI2}{a b r:TV}{x y:LI3}{s1:St}(hV:Valid M D s.get w)(zf:M (.h s.heap.length)=none)
  (h:sQ P t s a b=some (r,s1)) (hx:VR M.h a x) (hy:VR M.h b y) :
  s1.env=s.env∧∃z w' M',(Instr.makeSlice t x y).run P w=.ok z w'∧NS M D s.get w (.val r) s1.get [] z w' M':=by
 unfold sQ at h;split at h
 case h_2=>simp at h
 rename_i e n l c yM hl hc;obtain⟨hu,hn,hn0⟩:=qY yM;obtain⟨_,li,rfl,l0,l1,rfl⟩:=RN hl hx;obtain⟨_,ci,rfl,c0,c1,rfl⟩:=RN hc hy;split at h
 case isFalse=>simp at h
 rename_i RP;obtain⟨hlc,KL⟩:=RP;obtain⟨i,zx,hi,hzx,hzs,CU,yg,hb3,hb4⟩:=Ag KL;split at h
 case h_2=>simp at h
 rename_i z hz;split at h
 case isFalse=>simp at h
 rename_i WG;simp at h;obtain⟨rfl,rfl⟩:=h;obtain⟨i',x,v,xI,FI,_,_,hz1,hvr,hzr⟩:=wE hz;rw[hi]at xI;cases xI;have ht:=WE (hvr M.h) ci.toNat (ci.toNat*n) (by rw[WG])
 let arr:Array LI3:=(Array.range (ci.toNat*n)).map (x.cells[·%x.cells.size]!)
 have hlen:(times z ci.toNat).length=arr.size:=by have:=ht.len;simpa[arr]using this
 have pV:(times z ci.toNat).length=ci.toNat*n:=by rw[oG,WG]
 have yN:s.get (.h s.heap.length)=none:=by simp[St.get]
 have IY:∀(i:Nat) (c:TV) (v:LI3),(times z ci.toNat)[i]? = some c->arr[i]? = some v->VR M.h c v:=fun i c v a b=>ht.at_ i c v a (by rw[aem];exact b);have fV:=NW hV e zf yN (ahu hlen) IY (Jc hz1 _);have hmul:(li.toNat)*n<=ci.toNat*n:=a3V n hlc;refine⟨rfl,.slice (some ⟨w.heap.size,0,none⟩) li.toNat ci.toNat,w.alloc (.cells arr e),dN M (.h s.heap.length) (.cells [⟨w.heap.size,0,(times z ci.toNat).length,arr.size⟩]),?_,⟨?_,?_,?_,qX zf⟩⟩
 .have hwl:=a0Q l0 l1;have hwc:=a0Q c0 c1;have FK:¬((i.bytes:Int)*ci>2^48):=by
   have e1:(ci.toNat*i.bytes:Nat)<=2^40:=CU;have e2:((i.bytes:Int)*ci)=((ci.toNat*i.bytes:Nat):Int):=by rw[Nat.mul_comm,aeD,ahB c0]
   omega
  simp only[Instr.makeSlice,Sem.run_bind,run_underlying hu,Result.andThen_ok,asInt,asIntOf,Sem.run_pure,iZ hi,hwl,hwc];rw[a0E (by simp;exact⟨⟨⟨c0,by omega⟩,l0⟩,by omega⟩)];simp only[Sem.run_bind,run_askRoom,Result.andThen_ok,dh hn];by_cases h0:ci.toNat*n=0
  .rw[a0F h0];have e0:arr=#[]:=Array.eq_empty_of_size_eq_zero (by omega);have e1:(Array.range (ci.toNat*n)).map ((#[]:Array LI3)[·%(#[]:Array LI3).size]!)=#[]:=by rw[h0];have e0:Array.range 0=#[]:=rfl;rw[e0];simp
   simp only[Sem.run_pure,Result.andThen_ok,e1,newRow,Sem.run_bind,run_newObj,World.alloc,e0]
  .rw[a0E h0];simp only[Sem.run_bind,hzr w,Sem.run_pure,Result.andThen_ok,newRow,run_newObj,World.alloc,arr]
 .rw[kG];exact fV.1
 .rw[kG];exact fV.2
 .refine .val (.aP (ls:=[⟨w.heap.size,0,(times z ci.toNat).length,arr.size⟩]) (p:=⟨w.heap.size,0,(times z ci.toNat).length,arr.size⟩) (by simp[Mp.h,dN]) (by simp) (by simp[pV]) hlc (a0P _) (fun _=>rfl) (.inr ⟨by simp,by simp;omega⟩) (by omega))
theorem Zc{at_:Array LI2}{t:LI2}{v r:TV}{i:mF}{x:LI3}(hV:Valid M D s.get w)(h:YV P at_ s.heap v=some (r,i))(hx:VR M.h v x)(hD:∀k∈i.ts,D k) :
  i.ws=[]∧∃z,VR M.h r z∧(Builtin.len_ at_ t #[x]).run P w=.ok z w:=by
 unfold YV at h;split at h
 case h_2=>simp at h
 rename_i t0 ht0;split at h
 .rename_i b hu;simp at h;obtain⟨rfl,rfl⟩:=h;cases hx;exact⟨rfl,_,.int _ _,by simp[Builtin.len_,ht0,run_underlying hu,goInt]⟩
 .rename_i n el _ hu;simp at h;obtain⟨rfl,rfl⟩:=h;exact⟨rfl,_,.int _ _,by simp[Builtin.len_,ht0,run_underlying hu,goInt]⟩
 .rename_i el b off len cap sz ex hu;simp at h;obtain⟨rfl,rfl⟩:=h;cases hx;exact⟨rfl,_,.int _ _,by simp[Builtin.len_,ht0,run_underlying hu,goInt]⟩
 .rename_i el hu;simp at h;obtain⟨rfl,rfl⟩:=h;cases hx;exact⟨rfl,_,.int _ _,by simp[Builtin.len_,ht0,run_underlying hu,goInt]⟩
 .rename_i k el hu;simp at h;obtain⟨rfl,rfl⟩:=h;cases hx;exact⟨rfl,_,.int _ _,by simp[Builtin.len_,ht0,run_underlying hu,goInt]⟩
 .rename_i k el r0 hu;split at h
  .rename_i es he;simp at h;obtain⟨rfl,rfl⟩:=h;cases hx with
   |map hm=>
    obtain⟨gq,h1,h2⟩:=hV.ok _ _ hm (hD _ (by simp[xG]));simp only[St.get,he,a0d]at h1;subst h1;obtain⟨xs,g1,g2⟩:=h2;have g2:=g2.len;refine⟨rfl,_,.int _ _,?_⟩;simp[Builtin.len_,ht0,run_underlying hu,goInt,getObj,Sem.run,g1,g2]
  .simp at h
 .simp at h
end
section
variable {P:LI1} {M:Mp} {D:Key->Prop} {w:LI4} {s:St}
theorem CW{C:Ct}{size n:Nat}{v:TV}{l:List TV}{x:LI3}{h:List HB}(hh:∀b,C (.h b)=h[b]?)(hV:Valid M D C w)(hs:eu size h v=some (n,l))(hx:VR M.h v x)(hD:∀k∈dw v,D k) :
  (Builtin.lenOf x).run P w=.ok n w∧(∀c∈l,iY c=true)∧∃arr,(∀w':LI4,w'.heap=w.heap->(Builtin.firstCells size n x).run P w'=.ok arr w')∧bY M.h l arr.toList:=by
 unfold eu at hs;split at hs
 .simp at hs;obtain⟨rfl,rfl⟩:=hs;cases hx;exact⟨by simp[Builtin.lenOf],by simp,#[],fun w' _=>by simp[Builtin.firstCells],.nil⟩
 .rename_i b off len cap sz ex;split at hs
  .rename_i vC;subst vC;split at hs
   .rename_i hz;subst hz;simp at hs;obtain⟨rfl,rfl⟩:=hs;cases hx with
    |aP hm hp FH hle wF hex ha hk=>
     exact⟨by simp[Builtin.lenOf],by simp,#[],fun w' _=>by simp[Builtin.firstCells,loadCells,loadCellsFrom],.nil⟩
   split at hs
   .rename_i cs hb;simp only[a0l,a0J]at hs;obtain⟨r,hr,rfl,rfl⟩:=hs;cases hx with
    |aP hm hp FH hle wF hex ha hk=>
     rename_i ls p a cap';obtain⟨k,hk,WB⟩:=xY hb;obtain⟨gq,h1,h2⟩:=hV.ok _ _ hm (hD _ (by simp[dw]));rw[hh,hk]at h1;cases h1;obtain⟨g1,g2,_⟩:=h2;obtain⟨s1,s2,s3⟩:=uF hr;refine⟨by simp[Builtin.lenOf],fun c hc=>g1 c (by rw[s2]at hc;exact a5Z (a9I hc)),?_⟩;by_cases h0:cap'=0
     .have qO:len=0:=(by omega);subst qO;have:r=[]:=a4I (by rw[s3];simp);subst this;exact⟨#[],fun w' _=>by simp[Builtin.firstCells,loadCells,loadCellsFrom],.nil⟩
     .rcases ha with ha|⟨rfl,ha⟩
      .exact absurd ha h0
      .obtain⟨xs,x1,x2⟩:=yK (P:=P) (g2 p (hp.resolve_left h0)) hr (by have:=a3V sz hle;omega) (fun e=>by have:=WB e;have:=(g2 p (hp.resolve_left h0)).ext;omega);exact⟨xs.toArray,fun w' hw'=>by simp[Builtin.firstCells,x2 w' hw'],x1⟩
   .simp at hs
  .simp at hs
 .rename_i bs;split at hs
  .rename_i vC;simp at hs;obtain⟨rfl,rfl⟩:=hs;cases hx;refine⟨by simp[Builtin.lenOf],by simp[iY],(bs.extract 0 bs.size).data.map fun b=>.int .u8 b.toNat,fun w' _=>rfl,?_⟩;refine⟨by simp,fun i c v a b=>?_⟩;simp only[a4T,a0l]at a;obtain⟨y,hy,rfl⟩:=a;rw[show bs.extract 0 bs.size=bs from by simp]at b;simp only[Array.toList_map,a4T,hy,a0O,a0d]at b;rw[<-b];exact .int _ _
  .simp at hs
 .simp at hs
theorem Um{size n b off len cap sz:Nat}{ex:Bool}{l:List TV}{h:List HB}(hs:eu size h (.aP b off len cap sz ex)=some (n,l)):sz=size∧n=len∧l.length=len*size:=by
 simp only[eu]at hs;split at hs
 .rename_i hz;split at hs
  .rename_i h0;cases hs;exact⟨hz,h0.symm,by simp[h0]⟩
  split at hs
  .simp only[a0l,a0J]at hs;obtain⟨r,hr,rfl,rfl⟩:=hs;exact⟨hz,rfl,(uF hr).2.2⟩
  cases hs
 cases hs
theorem RQ(N:Nat):∀(r c:Nat),c<=2*N+192->Builtin.growBy N r c<=2*N+192
 | 0,c,h=>by simpa[Builtin.growBy]using h
 |r+1,c,h=>by
  simp only[Builtin.growBy];split
  .exact h
  exact RQ N r _ (by omega)
theorem Zd{LC c:Nat}(h:c<LC):Builtin.nextslicecap LC c<=2*LC+192:=by
 unfold Builtin.nextslicecap;split
 .omega
 split
 .omega
 exact RQ LC 4 c (by omega)
theorem a9D{LC c b:Nat}(h:c<LC)(h1:LC*b<=2^40)(h2:b<=2^20):¬(Builtin.nextslicecap LC c*b>2^48):=by
 have e1:=Zd h;have e2:Builtin.nextslicecap LC c*b<=(2*LC+192)*b:=a3V b e1;have e3:(2*LC+192)*b=2*(LC*b)+192*b:=by rw[a3U,Nat.mul_assoc]
 omega
theorem wH(z:Array LI3)(n:Nat):(Builtin.zeroCells z n).size=n*z.size:=by simp[Builtin.zeroCells]
def wI:TypeDesc->Bool
 |.int _=>true
 |_=>false
theorem Ze{t:LI2}(h:¬(Ue P t||(P.underlying t).isNone)=true):∃d,P.underlying t=some d∧wI d=false:=by
 simp only[a9w,ae6,aeo]at h;obtain⟨h1,h2⟩:=h;cases hu:P.underlying t with
 |none=>simp[hu]at h2
 |some d=>
  refine⟨d,rfl,?_⟩;unfold Ue at h1;rw[hu]at h1;cases d<;>simp_all [wI]
theorem FM{at_:Array LI2}{st xt e:LI2}{size n sLen sCap:Nat}{i:TypeInfo}{z sv xv:LI3}{base:Option Addr}{d:TypeDesc}{old new:Array LI3}{ty:LI2}
  (h0:at_[0]? = some st) (h1:at_[1]? = some xt) (hu:P.underlying st=some (.slice e)) (hn:dH P e=some size) (GR:P.underlying xt=some d) (hd:wI d=false)
  (hi:P.info? e=some i) (hz:i.zero=some z) (hsv:sv=.slice base sLen sCap)
  (hl:(Builtin.lenOf xv).run P w=.ok n w) (wF:sCap<sLen+n) (CU:(sLen+n)*i.bytes<=2^40) (yg:sLen+n<=2^40) (hb3:i.bytes<=2^20)
  (hold:∀w':LI4,w'.heap=w.heap->(Builtin.firstCells size sLen sv).run P w'=.ok old w') (fV:∀w':LI4,w'.heap=w.heap->(Builtin.firstCells size n xv).run P w'=.ok new w') :
  ∃kP,sLen+n<=kP∧kP<2^63∧(Builtin.append_ at_ ty #[sv,xv]).run P w=.ok (.slice (some ⟨w.heap.size,0,none⟩) (sLen+n) kP) (w.drew.alloc (.cells (old++new++Builtin.zeroCells z.cells (kP-(sLen+n))) e)):=by
 subst hsv;refine⟨(Question.appendCap (sLen+n) sCap e).cut (w.tape w.drawn (.appendCap (sLen+n) sCap e)),by simp[Question.cut],?_,?_⟩
 .have:=Nat.mod_lt (w.tape w.drawn (.appendCap (sLen+n) sCap e)) (show 0<2^63-(sLen+n) by omega);simp only[Question.cut];omega
 have hz':∀w,(zeroValue e).run P w=.ok z w:=fun w=>by simp[zeroValue,iZ hi,hz]
 have hq:(Question.appendCap (sLen+n) sCap e).forced=false:=rfl;have hle:¬(sLen+n<=sCap):=by omega
 have FK:¬(((sLen+n:Nat):Int)>i64.max):=by have:i64.max=2^63-1:=rfl;rw[this];omega
 have KL:=a9D wF CU hb3;have e1:=hold w.drew rfl;have e2:=fV w.drew rfl;unfold Builtin.append_;simp only[ael,a2Z,aa1,h0,h1];simp only[Sem.run_bind,run_underlying hu,Result.andThen_ok,dh hn,run_underlying GR,Sem.run_pure];rw[a0E (by cases d<;>simp_all [wI])];simp only[Sem.run_bind,hl,Result.andThen_ok];rw[a0E hle];simp only[Sem.run_bind,iZ hi,Result.andThen_ok];rw[a0E (fun h=>FK h.1)];simp only[Sem.run_bind,iZ hi,Result.andThen_ok];rw[a0E KL];simp only[Sem.run_bind,Sem.run_pure,run_choose,hq,a2S,a3T,Result.andThen_ok,iZ hi,run_askRoom,World.drew_eq,e1];rw[a0F (by cases d<;>simp_all [wI])];simp only[Sem.run_bind,Sem.run_pure,Result.andThen_ok,e2,hz',newRow,run_newObj,World.size_drew,World.alloc_eq]
theorem RS{at_:Array LI2}{st xt e:LI2}{size n sLen sCap:Nat}{a:Addr}{sv xv:LI3}{d:TypeDesc}{new:Array LI3}{ty:LI2}{w':LI4}
  (h0:at_[0]? = some st) (h1:at_[1]? = some xt) (hu:P.underlying st=some (.slice e)) (hn:dH P e=some size) (GR:P.underlying xt=some d) (hd:wI d=false)
  (hsv:sv=.slice (some a) sLen sCap) (hl:(Builtin.lenOf xv).run P w=.ok n w) (wF:sLen+n<=sCap)
  (fV:(Builtin.firstCells size n xv).run P w=.ok new w) (uX:(storeCells (a.add (sLen*size)) new.toList).run P w=.ok () w') :
  (Builtin.append_ at_ ty #[sv,xv]).run P w=.ok (.slice (some a) (sLen+n) sCap) w':=by
 subst hsv;unfold Builtin.append_;simp only[ael,a2Z,aa1,h0,h1];simp only[Sem.run_bind,run_underlying hu,Result.andThen_ok,dh hn,run_underlying GR,Sem.run_pure];rw[a0E (by cases d<;>simp_all [wI])];simp only[Sem.run_bind,hl,Result.andThen_ok];rw[a0F wF];rw[a0F (by cases d<;>simp_all [wI])];simp only[Sem.run_bind,fV,Result.andThen_ok,uX,Sem.run_pure]
theorem WH{at_:Array LI2}{st xt e:LI2}{size sLen sCap:Nat}{base:Option Addr}{sv xv:LI3}{d:TypeDesc}{new:Array LI3}{ty:LI2}
  (h0:at_[0]? = some st) (h1:at_[1]? = some xt) (hu:P.underlying st=some (.slice e)) (hn:dH P e=some size) (GR:P.underlying xt=some d) (hd:wI d=false)
  (hsv:sv=.slice base sLen sCap) (hl:(Builtin.lenOf xv).run P w=.ok 0 w) (wF:sLen<=sCap)
  (fV:(Builtin.firstCells size 0 xv).run P w=.ok new w) (iD:new.toList=[]) :
  (Builtin.append_ at_ ty #[sv,xv]).run P w=.ok sv w:=by
 subst hsv;unfold Builtin.append_;simp only[ael,a2Z,aa1,h0,h1];simp only[Sem.run_bind,run_underlying hu,Result.andThen_ok,dh hn,run_underlying GR,Sem.run_pure];rw[a0E (by cases d<;>simp_all [wI])];simp only[Sem.run_bind,hl,Result.andThen_ok];rw[a0F (by omega)];rw[a0F (by cases d<;>simp_all [wI])];simp only[Sem.run_bind,fV,Result.andThen_ok];cases base<;>simp[iD,storeCells]
end
section
variable {P:LI1} {M:Mp} {D:Key->Prop} {w:LI4} {s:St}
def BOk(P:LI1)(M:Mp)(D:Key->Prop)(C:Ct)(w:LI4)(c:Sem LI3)(v:TV)(C1:Ct)(ws:List Key):Prop:=
 ∃x w' M',c.run P w=.ok x w'∧NS M D C w (.val v) C1 ws x w' M'
theorem Ext.drew'{M0:Mp}{C0:Ct}{w0:LI4}{M:Mp}{C:Ct}{w:LI4}{ws:List Key}(h:Ext M0 C0 w0.drew M C w ws):Ext M0 C0 w0 M C w ws:=
 ⟨h.IW,h.frame,h.nN,h.lF,h.fresh,h.size,h.has,h.wsub,h.wrote,h.os,h.output,h.tape⟩
theorem bY.Un{N:Np}{l:List TV}{arr:Array LI3}(h:bY N l arr.toList){i:Nat}{c:TV}{v:LI3}(a:l[i]? = some c)(b:arr[i]? = some v):VR N c v:=
 h.at_ i c v a (by rw[aem];exact b)
theorem WI(hV:Valid M D s.get w)(zf:M (.h s.heap.length)=none){cs:List TV}{pre rest:Array LI3}{e:LI2}(hx:bY M.h cs pre.toList)(hn:∀c∈cs,iY c=true)
  {len kP size:Nat} (RU:cs.length=len*size) (hle:len<=kP) (hk:kP<2^63) (O6:rest.size=(kP-len)*size) :
  ∃M',NS M D s.get w (.val (.aP s.heap.length 0 len len size false)) (St.get { s with heap:=s.heap++[.cells .own cs] }) [] (.slice (some ⟨w.heap.size,0,none⟩) len kP) (w.drew.alloc (.cells (pre++rest) e)) M':=by
 have yN:s.get (.h s.heap.length)=none:=by simp[St.get]
 have Gt:pre.size=cs.length:=by have:=hx.len;simp at this;omega
 have anM:(pre++rest).size=kP*size:=by
  have:len*size+(kP-len)*size=kP*size:=by rw[<-a3U];congr 1;omega
  simp;omega
 have hmul:len*size<=kP*size:=a3V size hle;have Zf:Valid M D s.get w.drew:=hV.of_heap rfl;have fV:=NW Zf (cs:=cs) (arr:=pre++rest) e zf yN (by omega) (fun i c v a b=>by have hi:=(a0h.1 a).1;rw[aak (by omega)]at b;exact hx.Un a b) hn
 refine⟨dN M (.h s.heap.length) (.cells [⟨w.heap.size,0,cs.length,(pre++rest).size⟩]),⟨?_,?_,?_,qX zf⟩⟩
 .rw[kG];exact fV.1
 .rw[kG];exact fV.2.drew'
 .exact .val (.aP (ls:=[⟨w.heap.size,0,cs.length,(pre++rest).size⟩]) (p:=⟨w.heap.size,0,cs.length,(pre++rest).size⟩) (by simp[Mp.h,dN]) (by simp) (by simp[RU]) (a0P _) hle (fun h=>by simp at h) (.inr ⟨by simp,by simp only[a3W];omega⟩) hk)
theorem EX:∀{ls:List Pl},(ls.map (·.c)).Nodup->∀{p q:Pl},p∈ls->q∈ls->q.c=p.c->q=p
 | [],_,p,q,hp,_,_=>by simp at hp
 |a::ls,h,p,q,hp,hq,e=>by
  simp only[a4M,a4U]at h;rcases a1Y.1 hp with h1|h1<;>rcases a1Y.1 hq with h2|h2
  .rw[h1,h2]
  .exact(h.1 (a0V.2 ⟨q,h2,by rw[e,h1]⟩)).elim
  .exact(h.1 (a0V.2 ⟨p,h1,by rw[<-e,h2]⟩)).elim
  exact EX h.2 h1 h2 e
theorem a0R(hV:Valid M D s.get w){b:Nat}{k:BK}{cs new:List TV}{ls:List Pl}{p:Pl}{x:Array LI3}(hm:M (.h b)=some (.cells ls))(hd:D (.h b))(hb:s.heap[b]? = some (.cells k cs))
  (hk:k≠.ro) (hp:p∈ls) (FH:cs.length<=p.ext) (hx:bY M.h new x.toList) (hn:∀c∈new,iY c=true) (iD:new≠[]) {w':LI4}
  (fl:Bool) (old rest:Array LI3) (ty0:LI2)
  (hw:(fl=true∧cs.length+new.length<=p.tot∧(storeCells ⟨p.c,cs.length,none⟩ x.toList).run P w=.ok () w') ∨
   (fl=false∧bY M.h cs old.toList∧w'=w.drew.alloc (.cells (old++x++rest) ty0))) :
  ∃M' q,Valid M' D (St.get { s with heap:=s.heap.set b (.cells k.more (cs++new)) }) w'∧Ext M s.get w M' (St.get { s with heap:=s.heap.set b (.cells k.more (cs++new)) }) w' [.h b] ∧
   (∀j l,M (.l j)=some l->M' (.l j)=some l)∧(∃xX,M' (.h b)=some (.cells xX)∧q∈xX)∧cs.length+new.length<=q.ext∧q.base=0 ∧
   ((fl=true∧q.c=p.c∧q.tot=p.tot)∨(fl=false∧q.c=w.heap.size∧q.tot=(old++x++rest).size)):=by
 have hg:s.get (.h b)=some (.cells k cs):=by simp[St.get,hb]
 have zk:=(a0h.1 hb).1;obtain⟨gq,h1,h2⟩:=hV.ok _ _ hm hd;rw[hg]at h1;cases h1;obtain⟨ho,Gt,ai7,a0S⟩:=h2;have hxl:=hx.len;simp only[aa9]at hxl;have jH:(ls.map (·.c)).Nodup:=by
  cases k with
  |ro=>exact absurd rfl hk
  |own=>obtain⟨q,rfl,_⟩:=ai7 rfl;simp
  |grow=>exact(a0S (.inl rfl)).1
  |last=>exact(a0S (.inr rfl)).1
 have as2:∀q∈ls,q.ext=cs.length->q=p:=by
  intro q hq he;cases k with
  |ro=>exact absurd rfl hk
  |own=>
   obtain⟨q',e',_⟩:=ai7 rfl;rw[e']at hp hq;simp at hp hq;rw[hq,hp]
  |grow=>
   have:=(Gt p hp).ext;exact(a0S (.inl rfl)).2 q hq p hp he (by omega)
  |last=>
   have:=(Gt p hp).ext;exact(a0S (.inr rfl)).2 q hq p hp he (by omega)
 have hpe:p.ext=cs.length:=by have:=(Gt p hp).ext;omega
 have hpb:p.base=0:=(Gt p hp).base hk;have hmr:k.more≠.own:=by cases k<;>simp[BK.more]
 have hml:k.more=.last->k=.last:=by cases k<;>simp[BK.more]
 have FC:∀c∈cs++new,iY c=true:=by
  intro c hc;rcases a3P.1 hc with h|h
  .exact ho c h
  .exact hn c h
 rcases hw with⟨hfl,KL,uX⟩|⟨hfl,hold,rfl⟩
 .-- in place
  let p':Pl:={ p with ext:=cs.length+new.length }
  let xX:List Pl:=ls.map fun q=>if q.c=p.c then p' else q
  have hqp:∀q∈ls,q.c=p.c->q=p:=by intro q hq he;exact EX jH hp hq he
  have hp':p'∈xX:=a0V.2 ⟨p,hp,by simp⟩;have a5u:xX.map (·.c)=ls.map (·.c):=by
   simp only[xX,a6B];apply a5L;intro q hq;simp only[Function.comp];split
   .rename_i he;exact he.symm
   .rfl
  have hlc:Lr (.cells ls) (.cells xX):=by
   intro q hq;by_cases he:q.c=p.c
   .have:=hqp q hq he;subst this;exact⟨p',hp',rfl,rfl,by simp[p'];omega,rfl⟩
   .exact⟨q,a0V.2 ⟨q,hq,by simp[he]⟩,rfl,rfl,a0P _,rfl⟩
  obtain⟨arr,ty,fz,r1,r2,r3,r4⟩:=(Gt p hp).row;have:=r3 hk;subst this;have aib:∀v∈x.toList,v.oneCell'=true:=by
   intro v hv;obtain⟨i,hi,rfl⟩:=a5d.1 hv;have xI:i<new.length:=by simp at hi;omega
   exact J7 (hx.at_ i new[i] x.toList[i] (by simp[xI]) (by simp)) (hn _ (a4Z xI))
  have vP:=run_storeCells_at (P:=P) p.c cs.length ty x.toList 0 arr w r1 (by simp;omega) aib;simp only[aek,aa9]at vP;rw[vP]at uX;have anT:=Result.ok.inj uX;obtain⟨_,rfl⟩:=anT
  let w':LI4:=w.setRow p.c (arr.toList.take cs.length++x.toList++arr.toList.drop (cs.length+x.size)).toArray
  have gJ:∀c,c<w.heap.size->c∉aI (.cells xX)->w'.heap[c]? = w.heap[c]?:=fun c _ hc=>vO w p.c _ c (fun e=>hc (by rw[e];exact a0V.2 ⟨p',hp',rfl⟩));have fV:∀c∈aI (.cells xX),(∃l0,M (.h b)=some l0∧c∈aI l0)∨w.heap.size<=c:=fun c hc=>.inl ⟨_,hm,by simp only[aI]at hc ⊢;rwa [a5u]at hc⟩;have Ja:sK M (dN M (.h b) (.cells xX)):=mO fun l0 h0=>by rw[hm]at h0;cases h0;exact hlc
  have WJ:∀i,(arr.toList.take cs.length++x.toList++arr.toList.drop (cs.length+x.size)).toArray[i]? = if i<cs.length then arr[i]? else if i<cs.length+x.size then x[i-cs.length]? else arr[i]?:=by intro i;have:=Wv (arr:=arr) (off:=cs.length) (xs:=x.toList) i (by simp;omega);simpa using this
  have Ry:pU (dN M (.h b) (.cells xX)).h w' (.cells k.more (cs++new)) (.cells xX):=by
   refine⟨FC,fun q hq=>?_,fun e=>absurd e hmr,fun _=>⟨by rw[a5u];exact jH,fun q1 IX q2 GH e1 e2=>?_⟩⟩
   .obtain⟨q0,Z5,rfl⟩:=a0V.1 hq;by_cases he:q0.c=p.c
    .simp only[he,a2u];refine⟨⟨_,ty,(0,0),NU w p.c _ arr ty (0,0) r1,by simp[p'];omega,fun _=>rfl,fun _ i c v hi a b=>?_⟩,by simp[p',hpb];omega,by simp[p'],fun _=>hpb⟩;simp only[p',hpb,a3W]at b hi;rw[WJ i]at b;by_cases h1:i<cs.length
     .rw[a0F h1]at b;rw[a0C h1]at a;exact(r4 (fun _=>hpe) i c v (by omega) a (by simpa[hpb]using b)).mono Ja.h
     .rw[a0E h1,a0F (by omega)]at b;rw[a0T (by omega)]at a;exact(hx.Un a b).mono Ja.h
    .simp only[he,a3T];have IX:=Gt q0 Z5;obtain⟨uV,ty',fz',t1,t2,t3,t4⟩:=IX.row;refine⟨⟨uV,ty',fz',(vO w p.c _ q0.c he).trans t1,t2,fun _=>t3 hk,fun hz i c v hi a b=>?_⟩,IX.fit,by have:=IX.ext;simp;omega,fun _=>IX.base hk⟩;have:=IX.ext;rw[a0C (by omega)]at a;exact(t4 (fun e=>by have:=hz (by rw[e];rfl);have:0<new.length:=aad.2 iD;simp at *;omega) i c v hi a b).mono Ja.h
   .have aux:∀q∈xX,q.ext=(cs++new).length->new≠[]->q=p':=by
     intro q hq e iD;obtain⟨q0,Z5,rfl⟩:=a0V.1 hq;by_cases he:q0.c=p.c
     .simp[he]
     .simp only[he,a3T]at e;have:=(Gt q0 Z5).ext;have:0<new.length:=aad.2 iD;simp at e;omega
    rw[aux q1 IX e1 iD,aux q2 GH e2 iD]
  refine⟨dN M (.h b) (.cells xX),p',?_,?_,?_,⟨xX,by simp[dN],hp'⟩,a0P _,hpb,.inl ⟨hfl,rfl,rfl⟩⟩
  .rw[jG s b _ zk];exact hV.upd (.h b) _ _ (fun j hj=>.inl hj) (fun l0 h0=>by rw[hm]at h0;cases h0;exact⟨hd,hlc,fun b0 zZ=>by rw[hg]at zZ;cases zZ;cases k<;>simp_all [wr]⟩) gJ fV (by simp) Ry
  .rw[jG s b _ zk];exact Ext.upd (.h b) _ _ [.h b] (.inl ⟨by simp[hg],rfl,by simp[hm],fun b0 zZ=>by rw[hg]at zZ;cases zZ;cases k<;>simp_all [wr]⟩) Ja gJ fV (by simp) rfl rfl rfl
  .intro j l hj;simp[dN,hj]
 .-- a new row
  let p':Pl:=⟨w.heap.size,0,cs.length+new.length,(old++x++rest).size⟩
  let xX:List Pl:=p'::ls
  let w':LI4:=w.drew.alloc (.cells (old++x++rest) ty0)
  have QL:=hold.len;simp only[aa9]at QL;have aT:∀q∈ls,q.c<w.heap.size:=fun q hq=>hV.inb _ _ hm q.c (a0V.2 ⟨q,hq,rfl⟩);have hlc:Lr (.cells ls) (.cells xX):=fun q hq=>⟨q,a3y _ hq,rfl,rfl,a0P _,rfl⟩;have gJ:∀c,c<w.heap.size->c∉aI (.cells xX)->w'.heap[c]? = w.heap[c]?:=fun c hc _=>wC w.drew _ c hc;have fV:∀c∈aI (.cells xX),(∃l0,M (.h b)=some l0∧c∈aI l0)∨w.heap.size<=c:=by
   intro c hc;simp only[aI,xX,a4M,a1Y]at hc;rcases hc with rfl|hc
   .exact .inr (a0P _)
   .exact .inl ⟨_,hm,hc⟩
  have Ja:sK M (dN M (.h b) (.cells xX)):=mO fun l0 h0=>by rw[hm]at h0;cases h0;exact hlc
  have Ry:pU (dN M (.h b) (.cells xX)).h w' (.cells k.more (cs++new)) (.cells xX):=by
   refine⟨FC,fun q hq=>?_,fun e=>absurd e hmr,fun _=>⟨?_,fun q1 IX q2 GH e1 e2=>?_⟩⟩
   .rcases a1Y.1 hq with rfl|hq
    .refine⟨⟨_,ty0,(0,0),heap_alloc_new w.drew _,rfl,fun _=>rfl,fun _ i c v hi a b=>?_⟩,by simp[p'];omega,by simp[p'],fun _=>rfl⟩;simp only[p',a3W]at b hi;by_cases h1:i<cs.length
     .rw[a0C h1]at a;rw[Array.append_assoc,aak (by omega)]at b;exact(hold.Un a b).mono Ja.h
     .rw[a0T (by omega)]at a;rw[Array.append_assoc,Array.getElem?_append_right (by omega),aak (by omega),<-QL]at b;exact(hx.Un a b).mono Ja.h
    .have IX:=Gt q hq;obtain⟨uV,ty',fz',t1,t2,t3,t4⟩:=IX.row;refine⟨⟨uV,ty',fz',(wC w.drew _ q.c (aT q hq)).trans t1,t2,fun _=>t3 hk,fun hz i c v hi a b=>?_⟩,IX.fit,by have:=IX.ext;simp;omega,fun _=>IX.base hk⟩;have:=IX.ext;rw[a0C (by omega)]at a;exact(t4 (fun e=>by have:=hz (by rw[e];rfl);have:0<new.length:=aad.2 iD;simp at *;omega) i c v hi a b).mono Ja.h
   .simp only[xX,a4M,a4U];refine⟨fun a2Q=>?_,jH⟩;obtain⟨q,hq,he⟩:=a0V.1 a2Q;have:=aT q hq;simp only[p']at he;omega
   .have aic:0<new.length:=aad.2 iD;have aux:∀q∈xX,q.ext=(cs++new).length->q=p':=by
     intro q hq e;rcases a1Y.1 hq with rfl|hq
     .rfl
     .have:=(Gt q hq).ext;simp at e;omega
    rw[aux q1 IX e1,aux q2 GH e2]
  refine⟨dN M (.h b) (.cells xX),p',?_,?_,?_,⟨xX,by simp[dN],a3x⟩,a0P _,rfl,.inr ⟨hfl,rfl,rfl⟩⟩
  .rw[jG s b _ zk];exact hV.upd (.h b) _ _ (fun j hj=>.inl hj) (fun l0 h0=>by rw[hm]at h0;cases h0;exact⟨hd,hlc,fun b0 zZ=>by rw[hg]at zZ;cases zZ;cases k<;>simp_all [wr]⟩) gJ fV (by simp) Ry
  .rw[jG s b _ zk];exact Ext.upd (.h b) _ _ [.h b] (.inl ⟨by simp[hg],rfl,by simp[hm],fun b0 zZ=>by rw[hg]at zZ;cases zZ;cases k<;>simp_all [wr]⟩) Ja gJ fV (by simp) rfl rfl rfl
  .intro j l hj;simp[dN,hj]
end
section
variable {P:LI1} {M:Mp} {D:Key->Prop} {w:LI4} {s:St}
theorem Jd{at_:Array LI2}{ty:LI2}{d x r:TV}{s1:St}{i:mF}{dv xv:LI3}(hV:Valid M D s.get w)(zf:M (.h s.heap.length)=none)
  (h:jl P at_ s d x=some (r,s1,i)) (hd:VR M.h d dv) (hx:VR M.h x xv) (hD:∀k∈i.ts,D k) :
  s1.env=s.env∧BOk P M D s.get w (Builtin.append_ at_ ty #[dv,xv]) r s1.get i.ws:=by
 unfold jl at h;split at h
 case h_2=>simp at h
 rename_i st xt h0 h1;split at h
 .simp at h
 rename_i hint;obtain⟨dd,GR,hdd⟩:=Ze hint;split at h
 case h_2=>simp at h
 rename_i e size yM;obtain⟨hu,hn,hn0⟩:=qY yM;split at h
 case h_2=>simp at h
 rename_i n new mP;split at h
 .-- nothing
  rename_i hz;subst hz;have key:∀(base:Option Addr) (l c:Nat),dv=.slice base l c->l<=c->(∀k∈dw x,D k)->(Builtin.append_ at_ ty #[dv,xv]).run P w=.ok dv w:=by
   intro base l c e hlc hDk;obtain⟨s1',s2',arr,Uo,s4'⟩:=CW (P:=P) (fun b=>rfl) hV mP hx hDk;refine WH h0 h1 hu hn GR hdd e s1' hlc (Uo w rfl) ?_;have a5v:new=[]:=by
    unfold eu at mP;split at mP
    .simp at mP;exact mP
    .split at mP
     .split at mP
      .simpa using mP
      split at mP
      .simp only[a0l,a0J]at mP;obtain⟨r',hr',e1,e2⟩:=mP;subst e2;exact a4I (by rw[(uF hr').2.2,e1];simp)
      .simp at mP
     .simp at mP
    .split at mP
     .simp at mP;obtain⟨e1,e2⟩:=mP;rw[<-e2];rename_i bs _;have:bs.data.toList=[]:=a4I (by simpa using e1);simp[this]
     .simp at mP
    .simp at mP
   rw[a5v]at s4';exact s4'.qp
  split at h
  .simp at h;obtain⟨rfl,rfl,rfl⟩:=h;have Zg:=hd;cases hd;exact⟨rfl,_,w,M,key none 0 0 rfl (a0P _) hD,.same hV (.val Zg)⟩
  .split at h
   .simp at h;obtain⟨rfl,rfl,rfl⟩:=h;have Zg:=hd;cases hd with
    |aP hb hp FH hle wF hex ha hk=>
     exact⟨rfl,_,w,M,key _ _ _ rfl (by omega) hD,.same hV (.val Zg)⟩
   .simp at h
  .simp at h
 rename_i hz;split at h
 case isFalse=>simp at h
 rename_i hlen;have acn:new≠[]:=by intro e;have:0<n*size:=Nat.mul_pos (by omega) hn0;rw[e]at hlen;simp only[a5s]at hlen;omega
 split at h
 .-- nil
  split at h
  case isFalse=>simp at h
  rename_i KL;simp at h;obtain⟨rfl,rfl,rfl⟩:=h;obtain⟨inf,z,hi,hiz,hzs,CU,yg,hb3,hb4⟩:=Ag KL;obtain⟨s1',s2',arr,Uo,s4'⟩:=CW (P:=P) (fun b=>rfl) hV mP hx hD;have vC:inf.size=size:=by obtain⟨i',e1,e2⟩:=FB hn;rw[hi]at e1;cases e1;exact e2
  cases hd;obtain⟨kP,c1,c1',c2⟩:=FM (P:=P) (w:=w) (ty:=ty) (base:=none) (sLen:=0) (sCap:=0) (old:=#[]) (new:=arr) h0 h1 hu hn GR hdd hi hiz rfl s1' (by omega) (by simpa using CU) (by omega) hb3
   (fun w' hw'=>by simp[Builtin.firstCells]) Uo
  simp only[a3W]at c1 c2;obtain⟨M',hp⟩:=WI (size:=size) (len:=n) (rest:=Builtin.zeroCells z.cells (kP-n)) (e:=e) (pre:=#[]++arr) hV zf (by simpa using s4') s2' hlen c1 c1' (by rw[wH,hzs,vC]);exact⟨rfl,_,_,M',c2,hp⟩
 .-- a slice
  rename_i b off len cap sz ex;split at h
  case isFalse=>simp at h
  rename_i aev;subst aev;have hd0:=hd;cases hd with
  |aP hb hp FH hle wF hex ha hk=>
  rename_i ls p a cap';split at h
  .-- room
   rename_i anX;simp only[a0l,a0J]at h;obtain⟨hp',FN,rfl,rfl,rfl⟩:=h;obtain⟨kk,BD,cs,cs',hbc,xZ,ho,rfl⟩:=J9 FN;have hDs:∀k∈dw x,D k:=fun k hk=>hD k (a3y _ hk);obtain⟨s1',s2',arr,Uo,s4'⟩:=CW (P:=P) (fun b=>rfl) hV mP hx hDs;have hg:s.get (.h b)=some (.cells kk cs):=(by simp[St.get,hbc]);have zk:=(a0h.1 hbc).1;rcases ha with ha|⟨rfl,ha⟩
   .omega
   have hDb:=hD (.h b) (by simp);have hp:=hp.resolve_left (by omega);obtain⟨w',r1,r2,r3⟩:=yZ (P:=P) hV hb hDb hg hp (hV.Z4 hb hDb hg hp FH xZ) ho s4' s2';obtain⟨o1,o2,o3⟩:=vV ho;have hmul:len*sz+n*sz=(len+n)*sz:=(by rw[a3U]);refine⟨rfl,_,w',M,RS (P:=P) (w:=w) (ty:=ty) (a:=⟨p.c,p.base+off,none⟩) h0 h1 hu hn GR hdd rfl s1' (by omega) (Uo w rfl) (by rw[uD,aai];exact r1),⟨?_,?_,?_,fun _ _ h=>h⟩⟩
   .rw[jG s b _ zk];exact⟨fun k l hk hd=>r2.ok k l hk (hd.elim id fun⟨x1,x2⟩=>by
      simp only[lZ]at x2;split at x2
      .rename_i e;subst e;rw[hg]at x1;cases x1
      .simp[x1]at x2),fun k k' l l' b' a1 a2 a3 hd=>r2.own k k' l l' b' a1 a2 a3 (hd.elim id fun⟨x1,x2⟩=>by
      simp only[lZ]at x2;split at x2
      .rename_i e;subst e;rw[hg]at x1;cases x1
      .simp[x1]at x2),r2.inb⟩
   .rw[jG s b _ zk];exact r3
   .exact .val (.aP hb (.inr hp) (by omega) (by omega) wF hex (.inr ⟨rfl,ha⟩) hk)
  .rename_i anX;split at h
   case isFalse=>simp at h
   rename_i KL;obtain⟨inf,z,hi,hiz,hzs,CU,yg,hb3,hb4⟩:=Ag KL;have vC:inf.size=sz:=by obtain⟨i',e1,e2⟩:=FB hn;rw[hi]at e1;cases e1;exact e2
   have hmul:len*sz+n*sz=(len+n)*sz:=(by rw[a3U]);split at h
   .-- exact: always a new row
    rename_i aif;have O7:=hex aif;simp only[a0l,a0J]at h;obtain⟨⟨l0,old⟩,qK,rfl,rfl,rfl⟩:=h;obtain⟨_,qO,hold⟩:=Um qK;rw[qO]at qK;have hDs:∀k∈dw x,D k:=fun k hk=>hD k (a3y _ hk);obtain⟨s1',s2',arr,Uo,s4'⟩:=CW (P:=P) (fun b=>rfl) hV mP hx hDs;obtain⟨t1',t2',a5w,t3',t4'⟩:=CW (P:=P) (fun b=>rfl) hV qK hd0 (fun k hk=>hD k (by simp[dw]at hk;simp[hk,fJ]));obtain⟨kP,c1,c1',c2⟩:=FM (P:=P) (w:=w) (ty:=ty) (base:=some a) (sLen:=len) (sCap:=cap') (old:=a5w) (new:=arr) h0 h1 hu hn GR hdd hi hiz rfl s1' (by omega) CU yg hb3 t3' Uo;obtain⟨M',aii⟩:=WI (size:=sz) (len:=len+n) (rest:=Builtin.zeroCells z.cells (kP-(len+n))) (e:=e) (pre:=a5w++arr) hV zf (by simpa using t4'.append s4') (fun c hc=>(a3P.1 hc).elim (t2' c) (s2' c)) (by simp[hold,hlen,hmul]) c1 c1' (by rw[wH,hzs,vC]);exact⟨rfl,_,_,M',c2,aii⟩
   .-- it grows
    split at h
    case h_2=>simp at h
    rename_i aif _ k cs hbc;split at h
    .simp at h
    .rename_i RP;simp only[ae6,ne_eq,Decidable.not_not]at RP;have hkc:=hk;obtain⟨hk,rfl,rfl,pV,qO⟩:=RP;have hp:=hp.resolve_left (by omega);simp only[a0d,a0J]at h;obtain⟨rfl,rfl,rfl⟩:=h;have hDs:∀k∈dw x,D k:=fun k hk=>hD k (a3y _ hk);have hDb:=hD (.h b) (by simp);obtain⟨s1',s2',arr,Uo,s4'⟩:=CW (P:=P) (fun b=>rfl) hV mP hx hDs;have hg:s.get (.h b)=some (.cells k cs):=(by simp[St.get,hbc]);have hnb:∀(M':Mp) (w':LI4),Valid M' D (St.get { s with heap:=s.heap.set b (.cells k.more (cs++new)) }) w' ->
       Valid M' (fun j=>D j∨(s.get j=none∧(St.get { s with heap:=s.heap.set b (.cells k.more (cs++new)) } j).isSome=true)) (St.get { s with heap:=s.heap.set b (.cells k.more (cs++new)) }) w':=by
      intro M' w' hv;have aux:∀j,(D j∨(s.get j=none∧(St.get { s with heap:=s.heap.set b (.cells k.more (cs++new)) } j).isSome=true))->D j:=by
       intro j hj;rcases hj with hj|⟨x1,x2⟩
       .exact hj
       .rw[jG s b _ (a0h.1 hbc).1]at x2;simp only[lZ]at x2;split at x2
        .rename_i e;subst e;exact hDb
        .simp[x1]at x2
      exact⟨fun k l hk hd=>hv.ok k l hk (aux k hd),fun k k' l l' b' a1 a2 a3 hd=>hv.own k k' l l' b' a1 a2 a3 (aux k hd),hv.inb⟩
     have as6:arr.size=n*sz:=by have:=s4'.len;simp at this;omega
     have aij:p.base=0∧p.ext<=cs.length:=by obtain⟨gq,q1,q2⟩:=hV.ok _ _ hb hDb;rw[hg]at q1;cases q1;exact⟨(q2.2.1 p hp).base hk,(q2.2.1 p hp).ext⟩
     by_cases EY:len+n<=cap'
     .-- in place
      rcases ha with ha|⟨rfl,ha⟩
      .omega
      have acj:(len+n)*sz<=cap'*sz:=a3V sz EY;have FC:∀v∈arr.toList,v.oneCell'=true:=by
       intro v hv;obtain⟨i,hi,rfl⟩:=a5d.1 hv;have xI:i<new.length:=by simp at hi;omega
       exact J7 (s4'.at_ i new[i] arr.toList[i] (by simp[xI]) (by simp)) (s2' _ (a4Z xI))
      obtain⟨gq,q1,q2⟩:=hV.ok _ _ hb hDb;rw[hg]at q1;cases q1;obtain⟨row,rty,rfz,z1,z2,z3,z4⟩:=(q2.2.1 p hp).row;have:=z3 hk;subst this;have vP:=run_storeCells_at (P:=P) p.c cs.length rty arr.toList 0 row w z1 (by simp;omega) FC;obtain⟨M',q,v1,v2,v3,⟨xX,v4,v5⟩,v6,v7,v8⟩:=a0R (P:=P) hV hb hDb hbc hk hp (by omega) s4' s2' acn true #[] #[] 0 (.inl ⟨rfl,by omega,vP⟩);rcases v8 with⟨_,v9,v10⟩|⟨v9,_⟩
      .refine⟨rfl,_,_,M',RS (P:=P) (w:=w) (ty:=ty) (a:=⟨p.c,p.base+0,none⟩) h0 h1 hu hn GR hdd rfl s1' EY (Uo w rfl) (by rw[uD,aij.1];simp only[a3W,aek];rw[<-pV];exact vP),⟨hnb _ _ v1,v2,?_,v3⟩⟩;refine .val (.aP v4 (.inr v5) (by omega) (a0P _) EY (fun h=>by simp at h) (.inr ⟨by rw[v9,v7,aij.1],by rw[v7,v10];omega⟩) hkc)
      .cases v9
     .-- a new row
      have qK:eu sz s.heap (.aP b 0 len len sz ex)=some (len,cs):=by
       have:sub cs 0 (len*sz)=some cs:=by unfold sub;rw[a0F (by omega)];simp[<-pV]
       simp[eu,mG,hbc,this,pV,qO]
      obtain⟨t1',t2',a5w,t3',t4'⟩:=CW (P:=P) (fun b=>rfl) hV qK hd0 (fun k hk=>by simp[dw]at hk;rw[hk];exact hDb);obtain⟨kP,c1,c1',c2⟩:=FM (P:=P) (w:=w) (ty:=ty) (base:=some a) (sLen:=len) (sCap:=cap') (old:=a5w) (new:=arr) h0 h1 hu hn GR hdd hi hiz rfl s1' (by omega) CU yg hb3 t3' Uo;obtain⟨M',q,v1,v2,v3,⟨xX,v4,v5⟩,v6,v7,v8⟩:=a0R (P:=P) hV hb hDb hbc hk hp (by omega) s4' s2' acn false a5w (Builtin.zeroCells z.cells (kP-(len+n))) e (.inr ⟨rfl,t4',rfl⟩);rcases v8 with⟨v9,_⟩|⟨_,v10,v11⟩
      .cases v9
      .refine⟨rfl,_,_,M',c2,⟨hnb _ _ v1,v2,?_,v3⟩⟩;refine .val (.aP v4 (.inr v5) (by omega) (a0P _) c1 (fun h=>by simp at h) (.inr ⟨by rw[v10,v7],?_⟩) c1');rw[v11,v7];have QL:=t4'.len;simp only[aa9]at QL;have hm3:(len+n)*sz+(kP-(len+n))*sz=kP*sz:=by rw[<-a3U];congr 1;omega
       simp only[Array.size_append,wH,hzs,vC];omega
 .simp at h
end
section
variable {P:LI1} {M:Mp} {D:Key->Prop} {w:LI4} {s:St}
theorem a5y{cs l:List TV}{off n m:Nat}(h:sub cs off n=some l)(hm:m<=n):sub cs off m=some (l.take m):=by obtain⟨h1,h2,h3⟩:=uF h;unfold sub;rw[a0F (by omega),h2,aga,a8a hm]
theorem Ur{at_:Array LI2}{ty:LI2}{d x r:TV}{s1:St}{i:mF}{dv xv:LI3}(hV:Valid M D s.get w)
  (h:Gy P at_ s d x=some (r,s1,i)) (hd:VR M.h d dv) (hx:VR M.h x xv) (hD:∀k∈i.ts,D k) :
  s1.env=s.env∧BOk P M D s.get w (Builtin.copy_ at_ ty #[dv,xv]) r s1.get i.ws:=by
 unfold Gy at h;split at h
 case h_2=>simp at h
 rename_i st h0;split at h
 case h_2=>simp at h
 rename_i e size yM;obtain⟨hu,hn,hn0⟩:=qY yM;split at h
 case h_2=>simp at h
 rename_i n new mP;split at h
 case isFalse=>simp at h
 rename_i hlen;obtain⟨hlen,O8⟩:=hlen;have first:∀(m:Nat),m<=n->(∀k∈dw x,D k)->(Builtin.lenOf xv).run P w=.ok n w∧(∀c∈new.take (m*size),iY c=true) ∧
   ∃arr,(Builtin.firstCells size m xv).run P w=.ok arr w∧bY M.h (new.take (m*size)) arr.toList:=by
  intro m hm hDs;obtain⟨s1',s2',arr,Uo,s4'⟩:=CW (P:=P) (fun b=>rfl) hV mP hx hDs;refine⟨s1',fun c hc=>s2' c (a9I hc),?_⟩;have hmul:m*size<=n*size:=a3V size hm;cases hx with
  |Uh=>
   unfold eu at mP;simp at mP;obtain⟨rfl,rfl⟩:=mP;exact⟨#[],by simp[Builtin.firstCells],by simpa using bY.nil⟩
  |aP hb hp FH hle wF hex ha hk=>
   rename_i b off len cap sz ex ls p a cap';unfold eu at mP;simp only at mP;split at mP
   case isFalse=>simp at mP
   rename_i vC;subst vC;split at mP
   .rename_i hz;simp at mP;obtain⟨rfl,rfl⟩:=mP;have:m=0:=(by omega);subst this;exact⟨#[],by simp[Builtin.firstCells,loadCells,loadCellsFrom],by simpa using bY.nil⟩
   split at mP
   case h_2=>simp at mP
   rename_i cs hbc;simp only[a0l,a0J]at mP;obtain⟨r',hr,rfl,rfl⟩:=mP;obtain⟨k,hk,WB⟩:=xY hbc;obtain⟨gq,h1,h2⟩:=hV.ok _ _ hb (hDs _ (by simp[dw]));simp only[St.get,hk,a0d]at h1;subst h1;by_cases h00:cap'=0
   .have qO:len=0:=(by omega);subst qO;have:m=0:=(by omega);subst this;exact⟨#[],by simp[Builtin.firstCells,loadCells,loadCellsFrom],by simpa using bY.nil⟩
   .rcases ha with ha|⟨rfl,ha⟩
    .exact absurd ha h00
    .obtain⟨xs,x1,x2⟩:=yK (P:=P) (h2.2.1 p (hp.resolve_left h00)) (a5y hr hmul) (by have:=a3V sz hle;omega) (fun e=>by have:=WB e;have:=(h2.2.1 p (hp.resolve_left h00)).ext;omega);exact⟨xs.toArray,by simp[Builtin.firstCells,x2 w rfl],x1⟩
  |str bs=>simp[isStr]at O8
  |_=>simp[eu]at mP
 split at h
 .simp at h;obtain⟨rfl,rfl,rfl⟩:=h;cases hd;obtain⟨f1,f2,arr,f3,f4⟩:=first 0 (a5i _) hD
  have f5:=f4.len;simp at f5;exact⟨rfl,.int .i64 0,w,M,by simp[Builtin.copy_,h0,run_underlying hu,f1,dh hn,f3,goInt],.same hV (.val (.int _ _))⟩
 .rename_i b off len cap sz ex;split at h
  case isFalse=>simp at h
  rename_i vC;subst vC;have hd0:=hd;cases hd with
  |aP hb hp FH hle wF hex ha hk=>
  rename_i ls p a cap';split at h
  .rename_i hm;simp at h;obtain⟨rfl,rfl,rfl⟩:=h;obtain⟨f1,f2,arr,f3,f4⟩:=first 0 (a5i _) hD
   have f5:arr.toList=[]:=by have:=f4.len;simp only[acF,List.take_zero,a5s]at this;exact a4I this.symm
   refine⟨rfl,.int .i64 0,w,M,?_,.same hV (.val (.int _ _))⟩;have e1:Nat.min n len=0:=hm;simp[Builtin.copy_,h0,run_underlying hu,f1,dh hn,e1,f3,goInt,f5,storeCells]
  .rename_i hm;simp only[a0l,a0J]at h;obtain⟨hp',FN,rfl,rfl,rfl⟩:=h;obtain⟨kk,BD,cs,cs',hbc,xZ,ho,rfl⟩:=J9 FN;obtain⟨f1,f2,arr,f3,f4⟩:=first (min n len) (Nat.min_le_left _ _) (fun k hk=>hD k (a3y _ hk))
   have hg:s.get (.h b)=some (.cells kk cs):=(by simp[St.get,hbc]);have zk:=(a0h.1 hbc).1;rcases ha with ha|⟨rfl,ha⟩
   .omega
   obtain⟨w',r1,r2,r3⟩:=yZ (P:=P) hV hb (hD (.h b) (by simp)) hg (hp.resolve_left (by omega)) (hV.Z4 hb (hD (.h b) (by simp)) hg (hp.resolve_left (by omega)) FH xZ) ho f4 f2;refine⟨rfl,.int .i64 (min n len:Nat),w',M,?_,⟨?_,?_,.val (.int _ _),fun _ _ h=>h⟩⟩
   .have e1:Nat.min n len=min n len:=rfl;simp[Builtin.copy_,h0,run_underlying hu,f1,dh hn,e1,f3,goInt,r1]
   .rw[jG s b _ zk];exact r2.widen (Ec (by simp[hg]))
   .rw[jG s b _ zk];exact r3
 .simp at h
end
section
variable {P:LI1} {M:Mp} {D:Key->Prop} {w:LI4} {s:St} {N:Np}
theorem bJ{α β:Type}(x:Sem α)(f:α->Sem β):aC P (x >>= f)=(aC P x).bind fun a=>aC P (f a):=by
 show aC P (x.bind f)=_
 induction x with
 |pure a=>rfl
 |program k ih=>exact ih P
 |mark m k ih=>exact ih
 |_=>rfl
def Je(b:Nat->Bool)(L:List MapEntry)(i0:Nat):Option (Nat×LI3)->Prop
 |none=>∀i,i<L.length->b i=false
 |some (i,v)=>i0<=i∧b (i-i0)=true∧∃x,L[i-i0]? = some x∧v=x.val
theorem Je.succ{b:Nat->Bool}{e:MapEntry}{L:List MapEntry}{i0:Nat}{r:Option (Nat×LI3)}(hb:b 0=false)(h:Je (fun i=>b (i+1)) L (i0+1) r):Je b (e::L) i0 r:=by
 cases r with
 |none=>
  intro i hi;cases i with
  |zero=>exact hb
  |succ i=>exact h i (by simpa using hi)
 |some r=>
  obtain⟨h1,h2,x,h3,h4⟩:=h;have e1:r.1-i0=(r.1-(i0+1))+1:=by omega
  refine⟨by omega,by rw[e1];exact h2,x,by rw[e1];simpa using h3,h4⟩
theorem KN(kind:TypeDesc)(k:LI3):∀(L:List MapEntry) (i0:Nat) (b:Nat->Bool),(∀i x,L[i]? = some x->Instr.sameNow kind k x.key=some (b i)) ->
  ∃r,Instr.findNow kind k L i0=some r∧Je b L i0 r
 | [],i0,b,_=>⟨none,rfl,fun i hi=>absurd hi (by simp)⟩
 |e::L,i0,b,h=>by
  have h0:=h 0 e rfl;obtain⟨r,g1,g2⟩:=KN kind k L (i0+1) (fun i=>b (i+1)) fun i x hx=>h (i+1) x (by simpa using hx);simp only[Instr.findNow,h0];cases hb:b 0 with
  |true=>exact⟨_,rfl,a0P _,by simpa using hb,e,by simp,rfl⟩
  |false=>exact⟨r,g1,g2.succ hb⟩
theorem CX(kt:LI2)(k:LI3):∀(L:List MapEntry) (i0:Nat) (b:Nat->Bool),(∀i x,L[i]? = some x->aC P (Op.equal kt k x.key)=some (b i)) ->
  ∃r,(∀w,(Instr.findAsking kt k L i0).run P w=.ok r w)∧Je b L i0 r
 | [],i0,b,_=>⟨none,fun w=>rfl,fun i hi=>absurd hi (by simp)⟩
 |e::L,i0,b,h=>by
  have h0:=fun w=>jf (h 0 e rfl) w;obtain⟨r,g1,g2⟩:=CX kt k L (i0+1) (fun i=>b (i+1)) fun i x hx=>h (i+1) x (by simpa using hx);cases hb:b 0 with
  |true=>exact⟨some (i0,e.val),fun w=>by simp[Instr.findAsking,h0 w,hb],a0P _,by simpa using hb,e,by simp,rfl⟩
  |false=>exact⟨r,fun w=>by simp[Instr.findAsking,h0 w,hb,g1 w],g2.succ hb⟩
theorem a0U:∀{l:List TV} {vs:List LI3},BN l=some vs->∀(i:Nat) (c:TV),l[i]? = some c->∃v,vs[i]? = some v∧c.yI=some v
 | [],vs,h,i,c,hc=>by simp at hc
 |a::l,vs,h,i,c,hc=>by
  simp only[BN]at h;split at h
  .rename_i v ws h1 h2;cases h;cases i with
   |zero=>simp at hc;subst hc;exact⟨v,rfl,h1⟩
   |succ i=>simpa using a0U h2 i c (by simpa using hc)
  cases h
def FR(N:Np)(o:List Nat)(es:List (TV×TV))(xs:Array MapEntry):Option Nat->Option (Nat×LI3)->Prop
 |none,none=>True
 |some j,some (i,v)=>o[i]? = some j∧∃e x,es[j]? = some e∧xs[i]? = some x∧v=x.val∧VR N e.1 x.key∧VR N e.2 x.val
 |_,_=>False
theorem GU{o:List Nat}{kt:LI2}{k:LI3}{es:List (TV×TV)}{r:Option Nat}{xs:Array MapEntry}(h:ES P kt k es=some r)(hx:wB N o es xs) :
  (∀w,(Instr.checkKey xs.isEmpty 10000 kt k).run P w=.ok () w)∧∃r',(∀w,(Instr.findKey kt k xs.toList).run P w=.ok r' w) ∧
   FR N o es xs r r':=by
 unfold ES at h;split at h
 case h_2=>simp at h
 rename_i ks EZ;split at h
 case h_2=>simp at h
 rename_i r0 hr;split at h
 case isFalse=>simp at h
 rename_i RV;cases h;generalize r0.map (·.1)=r at RV ⊢;have hl:es.isEmpty=xs.isEmpty:=by rw[a5b];simp[List.isEmpty_iff,<-a5n,hx.len]
 have KJ:ks.length=es.length:=by
  have:∀{l:List TV} {vs:List LI3},BN l=some vs->vs.length=l.length:=by
   intro l
   induction l with
   |nil=>intro vs h;simp[BN]at h;subst h;rfl
   |cons a l ih=>
    intro vs h;simp only[BN]at h;split at h
    .rename_i v ws h1 h2;cases h;simp[ih h2]
    .cases h
  simpa using this EZ
 rw[bJ]at hr;cases hc:aC P (Instr.checkKey es.isEmpty 10000 kt k)with
 |none=>simp[hc]at hr
 |some u=>
  refine⟨fun w=>by rw[<-hl];exact jf hc w,?_⟩;unfold Ws at RV;split at RV
  case h_2=>simp at RV
  rename_i kind hd;have hdr:=fun w=>jf hd w;simp only[a2O]at RV;obtain⟨hj,hs⟩:=RV;have a9F:∀(i:Nat) (x:MapEntry),xs.toList[i]? = some x->∃(j:Nat) (e:TV×TV),o[i]? = some j∧es[j]? = some e∧VR N e.1 x.key∧VR N e.2 x.val∧ks[j]? = some x.key:=by intro i x hi;obtain⟨_,j,e,h1,h2,h3,h4⟩:=hx.at_ i x (by simpa using hi);obtain⟨v,g1,g2⟩:=a0U EZ j e.1 (by simp[h2]);exact⟨j,e,h1,h2,h3,h4,by rw[g1,wz g2 h3]⟩
  let b:Nat->Bool:=fun i=>o[i]? == r
  have hb:∀i j,o[i]? = some j->b i=(some j==r):=fun i j h=>by simp only[b,h]
  have fin:∀r',Je b xs.toList 0 r'->FR N o es xs r r':=by
   intro r' hf;cases r' with
   |none=>
    cases r with
    |none=>trivial
    |some j=>
     simp only[a1z]at hj;obtain⟨i,hi⟩:=a9n.1 (hx.sur j (by omega));have h1:=hf i (by have:=(a0h.1 hi).1;have:=hx.ord;simp;omega);rw[hb i j hi]at h1;simp at h1
   |some q=>
    obtain⟨i,v⟩:=q;obtain⟨_,h1,x,h2,h3⟩:=hf;simp only[Nat.sub_zero]at h1 h2;obtain⟨j,e,g1,g2,g3,g4,_⟩:=a9F i x h2;rw[hb i j g1]at h1;simp only[a7g]at h1;subst h1;exact⟨g1,e,x,g2,by simpa using h2,h3,g3,g4⟩
  have FP:∀{p:LI3×Nat->Bool},ks.zipIdx.all p=true->∀j x,ks[j]? = some x->p (x,j)=true:=by intro p hp j x hjx;exact a4W.1 hp (x,j) (a9O.2 (by simpa using hjx))
  unfold Instr.findKey;rcases a9w _ _▸hs with hs|hs
  .obtain⟨r',g1,g2⟩:=KN kind k xs.toList 0 b fun i x hi=>by obtain⟨j,e,h1,_,_,_,h5⟩:=a9F i x hi;have:=FP hs j _ h5;simp only[a7g]at this;rw[this,hb i j h1]
   exact⟨r',fun w=>by simp[hdr w,g1],fin r' g2⟩
  .by_cases h0:xs.toList=[]
   .refine⟨none,fun w=>by simp[hdr w,h0,Instr.findNow],fin none (by rw[h0];intro i hi;simp at hi)⟩
   .have YN:Instr.findNow kind k xs.toList 0=none:=by
     cases hL:xs.toList with
     |nil=>exact absurd hL h0
     |cons x L=>
      obtain⟨j,e,h1,_,_,_,h5⟩:=a9F 0 x (by rw[hL];rfl);have:=FP hs j _ h5;simp only[a2O,a7g]at this;simp only[Instr.findNow,this.1]
    obtain⟨r',g1,g2⟩:=CX (P:=P) kt k xs.toList 0 b fun i x hi=>by obtain⟨j,e,h1,_,_,_,h5⟩:=a9F i x hi;have:=FP hs j _ h5;simp only[a2O,a7g]at this;rw[this.2,hb i j h1]
    exact⟨r',fun w=>by simp[hdr w,YN,g1 w],fin r' g2⟩
theorem Ed{t:LI2}{m k r:TV}{ok:Bool}{mv kv:LI3}(hV:Valid M D s.get w)(h:gX P t s.heap m k ok=some r)(hm:VR M.h m mv)(hk:VR M.h k kv)
  (hD:∀j∈(match m with|.map r=>[Key.h r] |_=>[]),D j):∃z,VR M.h r z∧(Instr.lookup t mv kv ok).run P w=.ok z w:=by
 unfold gX at h;split at h
 case h_2=>simp at h
 rename_i kt e kx hu hkx;have:=wz hkx hk;subst this;simp only at h;have main:∀(o:List Nat) (es:List (TV×TV)) (xs:Array MapEntry),wB M.h o es xs->((mv=.map none∧xs=#[])∨∃r1 ck,mv=.map (some r1)∧w.heap[r1]? = some (.map xs ck)) ->
   (match ES P kt kv es with
   |some (some i)=>match es[i]? with
    |some (_,v)=>some (if ok then .dJ [v,.bool true]else v)
    |none=>none
   |some none=>match P.info? e with
    |some i=>match i.zero with
     |some z=>(TV.Wh z).map fun z=>if ok then .dJ [z,.bool false]else z
     |none=>none
    |none=>none
   |none=>none)=some r->∃z,VR M.h r z∧(Instr.lookup t mv kv ok).run P w=.ok z w:=by
  intro o es xs hx vP h;cases hf:ES P kt kv es with
  |none=>simp[hf]at h
  |some r0=>
   rw[hf]at h;obtain⟨c1,r',c2,c3⟩:=GU hf hx;cases r0 with
   |some j=>
    cases r' with
    |none=>exact c3.elim
    |some jv=>
     obtain⟨j',v⟩:=jv;obtain⟨_,e',x',e1,e2,rfl,_,hv⟩:=c3;simp only[e1,a0d]at h;subst h;refine⟨if ok then .tuple #[x'.val,.bool true]else x'.val,?_,?_⟩
     .cases ok
      .exact hv
      .exact .QI (.cons hv (.cons (.bool true) .nil))
     .rcases vP with⟨rfl,rfl⟩|⟨r1,ck,rfl,hmp⟩
      .simp only[Instr.lookup,Sem.run_bind,run_underlying hu,Result.andThen_ok,c1 w,c2 w,Sem.run_pure]
      .simp only[Instr.lookup,Sem.run_bind,run_underlying hu,Result.andThen_ok,getObj,Sem.run,hmp,c1 w,c2 w,Sem.run_pure]
   |none=>
    cases r' with
    |some jv=>exact c3.elim
    |none=>
     simp only at h;split at h
     case h_2=>simp at h
     rename_i inf hi;split at h
     case h_2=>simp at h
     rename_i z hz;simp only[a0l]at h;obtain⟨zt,hzt,rfl⟩:=h;have hv:VR M.h zt z:=.yJ hzt;refine⟨if ok then .tuple #[z,.bool false]else z,?_,?_⟩
     .cases ok
      .exact hv
      .exact .QI (.cons hv (.cons (.bool false) .nil))
     .have hzr:(zeroValue e).run P w=.ok z w:=(by simp[zeroValue,iZ hi,hz]);rcases vP with⟨rfl,rfl⟩|⟨r1,ck,rfl,hmp⟩
      .simp only[Instr.lookup,Sem.run_bind,run_underlying hu,Result.andThen_ok,c1 w,c2 w,Sem.run_pure,hzr]
      .simp only[Instr.lookup,Sem.run_bind,run_underlying hu,Result.andThen_ok,getObj,Sem.run,hmp,c1 w,c2 w,Sem.run_pure,hzr]
 cases hm with
 |YX=>exact main [] [] #[] ⟨rfl,rfl,.nil,by simp,by simp⟩ (.inl ⟨rfl,rfl⟩) h
 |map hmm=>
  rename_i r0 r1 o1;obtain⟨gq,b1,b2⟩:=hV.ok _ _ hmm (hD _ (by simp));simp only[St.get]at b1;simp only[b1]at h;cases gq with
  |map es=>
   obtain⟨xs,g1,g2⟩:=b2;exact main o1 es xs g2 (.inr ⟨r1,xs.size,rfl,g1⟩) h
  |cells k cs=>exact b2.elim
  |loop=>simp at h
  |mark=>simp at h
  |ny=>simp at h
  |dn=>simp at h
 |_=>simp at h
end
section
variable {P:LI1} {M:Mp} {D:Key->Prop} {w:LI4} {s:St}
theorem zl(hV:Valid M D s.get w){r r1:Nat}{o o':List Nat}{es fZ:List (TV×TV)}{xs xs':Array MapEntry}(hm:M (.h r)=some (.obj r1 o))(hd:D (.h r))(hb:s.heap[r]? = some (.map es))
  (hr:w.heap[r1]? = some (.map xs xs.size)) (ho:o <+: o') (hx:wB (dN M (.h r) (.obj r1 o')).h o' fZ xs') :
  Valid (dN M (.h r) (.obj r1 o')) (fun j=>D j∨(s.get j=none∧(St.get { s with heap:=s.heap.set r (.map fZ) } j).isSome=true)) (St.get { s with heap:=s.heap.set r (.map fZ) }) { w with heap:=w.heap.setIfInBounds r1 (.map xs' xs'.size) } ∧
  Ext M s.get w (dN M (.h r) (.obj r1 o')) (St.get { s with heap:=s.heap.set r (.map fZ) }) { w with heap:=w.heap.setIfInBounds r1 (.map xs' xs'.size) } [.h r]:=by
 have hg:s.get (.h r)=some (.map es):=by simp[St.get,hb]
 have zk:=(a0h.1 hb).1;have hle:sK M (dN M (.h r) (.obj r1 o')):=mO fun l0 h0=>by rw[hm]at h0;cases h0;exact⟨rfl,ho⟩
 have aT:r1<w.heap.size:=(a2R.1 hr).1;have gJ:∀c,c<w.heap.size->c∉aI (.obj r1 o')->(w.heap.setIfInBounds r1 (Obj.map xs' xs'.size))[c]? = w.heap[c]?:=fun c _ hc=>by rw[a9o,a0E (by simp[aI]at hc;omega)]
 have fV:∀c∈aI (.obj r1 o'),(∃l0,M (.h r)=some l0∧c∈aI l0)∨w.heap.size<=c:=fun c hc=>.inl ⟨_,hm,hc⟩;constructor
 .rw[jG s r _ zk];refine Valid.widen ?_ (Ec (by simp[hg]));exact hV.upd (D':=D) (w':={ w with heap:=w.heap.setIfInBounds r1 (.map xs' xs'.size) }) (.h r) (.map fZ) (.obj r1 o') (fun j hj=>.inl hj) (fun l0 h0=>by rw[hm]at h0;cases h0;exact⟨hd,⟨rfl,ho⟩,fun b0 zZ=>by rw[hg]at zZ;cases zZ;rfl⟩) gJ fV (by simp) ⟨xs',by simp[aT],hx⟩
 .rw[jG s r _ zk];exact Ext.upd (M:=M) (C:=s.get) (w:=w) (w':={ w with heap:=w.heap.setIfInBounds r1 (.map xs' xs'.size) }) (.h r) (.map fZ) (.obj r1 o') [.h r] (.inl ⟨by simp[hg],rfl,by simp[hm],fun b0 zZ=>by rw[hg]at zZ;cases zZ;rfl⟩) hle gJ fV (by simp) rfl rfl rfl
theorem wB.lt{N:Np}{o:List Nat}{es:List (TV×TV)}{xs:Array MapEntry}(g2:wB N o es xs):∀j∈o,j<es.length:=fun j hj=>by
 obtain⟨i,hi⟩:=a9n.1 hj;have:i<xs.size:=by rw[<-g2.ord];exact(a0h.1 hi).1
 obtain⟨_,j',e,z1,z2,_⟩:=g2.at_ i _ (a4w this);rw[hi]at z1;cases z1;exact(a0h.1 z2).1
theorem wB.upd{N N':Np}{o:List Nat}{es:List (TV×TV)}{xs:Array MapEntry}(g2:wB N o es xs)(hle:sK N N'){i j:Nat}{x':MapEntry}{f:MapEntry->MapEntry}{k v:TV}
  (q1:o[i]? = some j) (e2:xs[i]? = some x') (hb:(f x').born=x'.born) (hk:VR N' k (f x').key) (hv:VR N' v (f x').val):wB N' o (es.set j (k,v)) (xs.modify i f):=by
 have g3:=g2.mono hle;refine⟨by simp[g2.len],by simp[g2.ord],g2.nod,fun j' Ea=>g2.sur j' (by simpa using Ea),fun a x h2=>?_⟩;rw[ach]at h2;by_cases ha:i=a
 .subst ha;rw[a0F rfl,e2]at h2;simp only[a0O,a0d]at h2;subst h2;obtain⟨z1,j2,e2',z2,z3,_⟩:=g2.at_ i x' e2;rw[q1]at z2;cases z2;exact⟨hb.trans z1,j,(k,v),q1,by rw[aa2];simp[(a0h.1 z3).1],hk,hv⟩
 .rw[a0E ha]at h2;obtain⟨z1,j2,e2',z2,z3,z4,z5⟩:=g3.at_ a x h2;refine⟨z1,j2,e2',z2,?_,z4,z5⟩;have iD:j≠j2:=fun e=>by subst e;have i1:=a0h.1 q1;have i2:=a0h.1 z2;exact ha ((aar g2.nod (h₀:=i1.1) (h₁:=i2.1)).1 (i1.2.trans i2.2.symm))
  rw[aa2,a0E iD];exact z3
theorem wB.push{N N':Np}{o:List Nat}{es:List (TV×TV)}{xs:Array MapEntry}(g2:wB N o es xs)(hle:sK N N'){k v:TV}{kv vv:LI3}
  (hk:VR N' k kv) (hv:VR N' v vv):wB N' (o++[es.length]) (es++[(k,v)]) (xs.push { key:=kv,val:=vv,born:=xs.size }):=by
 have aT:=g2.lt;have g3:=g2.mono hle;refine⟨by simp[g2.len],by simp[g2.ord],?_,fun j hj=>?_,fun a x h2=>?_⟩
 .rw[a9l];exact⟨g2.nod,by simp,fun x hx y hy=>by simp at hy;subst hy;have:=aT x hx;omega⟩
 .simp only[a1U,a4K,a5s]at hj;rcases a4N j es.length with h1|h1
  .exact a5h _ (g2.sur j h1)
  .exact aat _ (by simp;omega)
 .rw[Array.getElem?_push]at h2;by_cases ha:a=xs.size
  .rw[a0F ha]at h2;simp only[a0d]at h2;subst h2;exact⟨ha.symm,es.length,(k,v),by rw[a0T (by rw[g2.ord];omega),g2.ord,ha];simp,by simp,hk,hv⟩
  .rw[a0E ha]at h2;obtain⟨z1,j2,e2',z2,z3,z4,z5⟩:=g3.at_ a x h2;exact⟨z1,j2,e2',by rw[a0C (a0h.1 z2).1];exact z2,by rw[a0C (a0h.1 z3).1];exact z3,z4,z5⟩
theorem RX{t:LI2}{m k v:TV}{s1:St}{i:mF}{mv kv vv:LI3}(hV:Valid M D s.get w)(h:xR P t s m k v=some (s1,i))(hm:VR M.h m mv)(hk:VR M.h k kv)(hv:VR M.h v vv)
  (hD:∀j∈i.ts,D j):s1.env=s.env∧∃w' M',(Instr.mapUpdate t mv kv vv).run P w=.ok () w' ∧
   Valid M' (fun j=>D j∨(s.get j=none∧(s1.get j).isSome=true)) s1.get w'∧Ext M s.get w M' s1.get w' i.ws∧(∀k l,M (.l k)=some l->M' (.l k)=some l):=by
 unfold xR at h;split at h
 case h_2=>simp at h
 rename_i kt et kx r hu hkx;have:=wz hkx hk;subst this;split at h
 case h_2=>simp at h
 rename_i es Md hck;have c0:=jf hck w;cases hm with
 |map hmm=>
 rename_i r1 o1;have zn:∀o',∀k l,M (.l k)=some l->dN M (.h r) (.obj r1 o') (.l k)=some l:=fun o' k l h=>by simp[dN,h]
 have go:D (.h r)->∃xs,w.heap[r1]? = some (.map xs xs.size)∧wB M.h o1 es xs:=by intro hd;obtain⟨gq,b1,b2⟩:=hV.ok _ _ hmm hd;simp only[St.get,Md,a0d]at b1;subst b1;exact b2
 split at h
 .-- an entry that is there
  rename_i j hf;split at h
  case h_2=>simp at h
  rename_i old ov0 hj;split at h
  case h_2=>simp at h
  rename_i ov hov;split at h
  case isFalse=>simp at h
  rename_i WL;simp only[a0d,a0J]at h;obtain⟨rfl,rfl⟩:=h;have hd:=hD (.h r) (by simp[pF]);obtain⟨xs,g1,g2⟩:=go hd;obtain⟨c1,r',c2,c3⟩:=GU hf g2;cases r' with
  |none=>exact c3.elim
  |some jv=>
   obtain⟨i,v'⟩:=jv;obtain⟨q1,e',x',e1,e2,rfl,q2,_⟩:=c3;rw[hj]at e1;cases e1;have hold:x'.key=ov:=wz hov q2;have hle:sK M (dN M (.h r) (.obj r1 o1)):=mO fun l0 h0=>by have h0':M (.h r)=some l0:=h0;have QM:M (.h r)=some (.obj r1 o1):=hmm;rw[QM]at h0';cases h0';exact .refl _
   have FI:=g2.upd (f:=fun e=>{ e with key:=kv,val:=vv }) hle.h q1 e2 rfl (hk.mono hle.h) (hv.mono hle.h);obtain⟨v1,v2⟩:=zl hV hmm hd Md g1 (ahp _) FI;refine⟨rfl,_,_,?_,v1,v2,zn _⟩;simp only[Instr.mapUpdate,Sem.run_bind,run_underlying hu,Result.andThen_ok,getObj,Sem.run,g1];simp only[c0,c2 w,Result.andThen_ok,e2,a0O,a5e,Instr.keyThatStays,hold,WL,a2u,setObj];simp only[Sem.run_bind,Sem.run_pure,Result.andThen_ok,Sem.run,g1,Array.size_modify]
 .-- a new entry
  rename_i hf;simp only[a0d,a0J]at h;obtain⟨rfl,rfl⟩:=h;have hd:=hD (.h r) (by simp[pF]);obtain⟨xs,g1,g2⟩:=go hd;obtain⟨c1,r',c2,c3⟩:=GU hf g2;cases r' with
  |some jv=>exact c3.elim
  |none=>
   have EK:o1 <+: o1++[es.length]:=⟨_,rfl⟩;have hle:sK M (dN M (.h r) (.obj r1 (o1++[es.length]))):=mO fun l0 h0=>by have h0':M (.h r)=some l0:=h0;have QM:M (.h r)=some (.obj r1 o1):=hmm;rw[QM]at h0';cases h0';exact⟨rfl,EK⟩
   have FI:=g2.push hle.h (hk.mono hle.h) (hv.mono hle.h);obtain⟨v1,v2⟩:=zl hV hmm hd Md g1 EK FI;refine⟨rfl,_,_,?_,v1,v2,zn _⟩;simp only[Instr.mapUpdate,Sem.run_bind,run_underlying hu,Result.andThen_ok,getObj,Sem.run,g1];simp only[c0,c2 w,Result.andThen_ok,setObj,Sem.run,g1,Array.size_push]
 .simp at h
theorem a2T{t:LI2}{m k:TV}{e:EV}{s1:St}{i:mF}{mv kv:LI3}(hV:Valid M D s.get w)(h:Ad P t s m k=some (e,s1,i))(hm:VR M.h m mv)(hk:VR M.h k kv)
  (hD:∀j∈i.ts,D j):s1.env=s.env∧∃x w' M',(Instr.mapEntry t mv kv).run P w=.ok x w'∧ER M' e x ∧
   Valid M' (fun j=>D j∨(s.get j=none∧(s1.get j).isSome=true)) s1.get w'∧Ext M s.get w M' s1.get w' i.ws∧(∀k l,M (.l k)=some l->M' (.l k)=some l):=by
 unfold Ad at h;split at h
 case h_2=>simp at h
 rename_i kt et kx r hu hkx;have:=wz hkx hk;subst this;split at h
 case h_2=>simp at h
 rename_i es Md hck;have c0:=jf hck w;cases hm with
 |map hmm=>
 rename_i r1 o1;have zn:∀o',∀k l,M (.l k)=some l->dN M (.h r) (.obj r1 o') (.l k)=some l:=fun o' k l h=>by simp[dN,h]
 have go:D (.h r)->∃xs,w.heap[r1]? = some (.map xs xs.size)∧wB M.h o1 es xs:=by intro hd;obtain⟨gq,b1,b2⟩:=hV.ok _ _ hmm hd;simp only[St.get,Md,a0d]at b1;subst b1;exact b2
 have IZ:∀o',dN M (.h r) (.obj r1 o') (.h r)=some (.obj r1 o'):=fun o'=>by simp[dN]
 split at h
 .rename_i j hf;split at h
  case h_2=>simp at h
  rename_i old v0 hj;split at h
  case h_2=>simp at h
  rename_i ov hov;split at h
  case isFalse=>simp at h
  rename_i WL;simp only[a0d,a0J]at h;obtain⟨rfl,rfl,rfl⟩:=h;have hd:=hD (.h r) (by simp[pF]);obtain⟨xs,g1,g2⟩:=go hd;obtain⟨c1,r',c2,c3⟩:=GU hf g2;cases r' with
  |none=>exact c3.elim
  |some jv=>
   obtain⟨i,v'⟩:=jv;obtain⟨q1,e',x',e1,e2,rfl,q2,q3⟩:=c3;rw[hj]at e1;cases e1;have hold:x'.key=ov:=wz hov q2;have hle:sK M (dN M (.h r) (.obj r1 o1)):=mO fun l0 h0=>by have h0':M (.h r)=some l0:=h0;have QM:M (.h r)=some (.obj r1 o1):=hmm;rw[QM]at h0';cases h0';exact .refl _
   have FI:=g2.upd (f:=fun e=>{ e with key:=kv }) hle.h q1 e2 rfl (hk.mono hle.h) (q3.mono hle.h);obtain⟨v1,v2⟩:=zl hV hmm hd Md g1 (ahp _) FI;refine⟨rfl,.tuple #[x'.val,Go.goInt i],_,_,?_,.ent (IZ _) q1 (q3.mono hle.h),v1,v2,zn _⟩;simp only[Instr.mapEntry,Sem.run_bind,run_underlying hu,Result.andThen_ok,getObj,Sem.run,g1];simp only[c0,c2 w,Result.andThen_ok,e2,a0O,a5e,Instr.keyThatStays,hold,WL,a2u,setObj,(g2.at_ i x' e2).1];simp only[Sem.run_bind,Sem.run_pure,Result.andThen_ok,Sem.run,g1,Array.size_modify]
 .rename_i hf;split at h
  case h_2=>simp at h
  rename_i inf hi;split at h
  case h_2=>simp at h
  rename_i z hz;split at h
  case h_2=>simp at h
  rename_i zt hzt;simp only[a0d,a0J]at h;obtain⟨rfl,rfl,rfl⟩:=h;have hd:=hD (.h r) (by simp[pF]);obtain⟨xs,g1,g2⟩:=go hd;obtain⟨c1,r',c2,c3⟩:=GU hf g2;have hzr:(zeroValue et).run P w=.ok z w:=by simp[zeroValue,iZ hi,hz]
  cases r' with
  |some jv=>exact c3.elim
  |none=>
   have EK:o1 <+: o1++[es.length]:=⟨_,rfl⟩;have hle:sK M (dN M (.h r) (.obj r1 (o1++[es.length]))):=mO fun l0 h0=>by have h0':M (.h r)=some l0:=h0;have QM:M (.h r)=some (.obj r1 o1):=hmm;rw[QM]at h0';cases h0';exact⟨rfl,EK⟩
   have FI:=g2.push hle.h (hk.mono hle.h) (.yJ hzt);obtain⟨v1,v2⟩:=zl hV hmm hd Md g1 EK FI;refine⟨rfl,.tuple #[z,Go.goInt xs.size],_,_,?_,.ent (IZ _) (by rw[a0T (by rw[g2.ord];omega),g2.ord];simp) (.yJ hzt),v1,v2,zn _⟩;simp only[Instr.mapEntry,Sem.run_bind,run_underlying hu,Result.andThen_ok,getObj,Sem.run,g1];simp only[c0,c2 w,hzr,Result.andThen_ok,setObj,Sem.run,g1,Array.size_push,Sem.run_bind,Sem.run_pure]
 .simp at h
theorem a5z{t:LI2}{m k:TV}{e:EV}{s1:St}{i:mF}{mv kv:LI3}(hV:Valid M D s.get w)(h:CO P t s m k=some (e,s1,i))(hm:VR M.h m mv)(hk:VR M.h k kv)
  (hD:∀j∈i.ts,D j):s1.env=s.env∧∃x w' M',(Instr.mapEntry t mv kv).run P w=.ok x w'∧ER M' e x ∧
   Valid M' (fun j=>D j∨(s.get j=none∧(s1.get j).isSome=true)) s1.get w'∧Ext M s.get w M' s1.get w' i.ws∧(∀k l,M (.l k)=some l->M' (.l k)=some l):=by
 unfold CO at h;split at h
 .rename_i h0;split at h
  .cases h;exact a2T hV h0 hm hk hD
  .cases h
 .cases h
theorem Us{xs:Array MapEntry}{i:Nat}(h:∀(a:Nat) (x:MapEntry),xs[a]? = some x->x.born=a)(hi:i<xs.size):xs.findIdx? (fun e=>(e.born:Int)==(i:Int))=some i:=by
 rw[Array.findIdx?_eq_some_iff_getElem];refine⟨hi,?_,fun j hj=>?_⟩
 .have:=h i _ (a4w hi);simp[this]
 have:=h j _ (a4w (Nat.lt_trans hj hi));simp[this];omega
theorem a2U{t:LI2}{m v:TV}{e:EV}{s1:St}{i:mF}{mv ev vv:LI3}(hV:Valid M D s.get w)(h:Gz s m e v=some (s1,i))(hm:VR M.h m mv)(he:ER M e ev)(hv:VR M.h v vv)
  (hD:∀j∈i.ts,D j):s1.env=s.env∧∃w' M',(Instr.entryStore t mv ev vv).run P w=.ok () w' ∧
   Valid M' (fun j=>D j∨(s.get j=none∧(s1.get j).isSome=true)) s1.get w'∧Ext M s.get w M' s1.get w' i.ws∧(∀k l,M (.l k)=some l->M' (.l k)=some l):=by
 unfold Gz at h;split at h
 case h_2=>simp at h
 rename_i r r' j;split at h
 case isFalse=>simp at h
 rename_i hrr;subst hrr;split at h
 case h_2=>simp at h
 rename_i es Md;split at h
 case h_2=>simp at h
 rename_i k v0 hj;simp only[a0d,a0J]at h;obtain⟨rfl,rfl⟩:=h;cases hm with
 |map hmm=>
 rename_i r1 o1;cases he with
 |EI h1 q1=>
 rename_i r2 i o2;have QM:M (.h r)=some (.obj r1 o1):=hmm;rw[QM]at h1;cases h1;have hd:=hD (.h r) (by simp[pF]);obtain⟨gq,b1,b2⟩:=hV.ok _ _ hmm hd;simp only[St.get,Md,a0d]at b1;subst b1;obtain⟨xs,g1,g2⟩:=b2;have aT:i<xs.size:=by rw[<-g2.ord];exact(a0h.1 q1).1
 obtain⟨z1,j2,e2',z2,z3,z4,z5⟩:=g2.at_ i _ (a4w aT);rw[q1]at z2;cases z2;rw[hj]at z3;cases z3;have hle:sK M (dN M (.h r) (.obj r1 o1)):=mO fun l0 h0=>by have h0':M (.h r)=some l0:=h0;rw[QM]at h0';cases h0';exact .refl _
 have FI:=g2.upd (f:=fun e=>{ e with val:=vv }) hle.h q1 (a4w aT) rfl (z4.mono hle.h) (hv.mono hle.h);obtain⟨v1,v2⟩:=zl hV hmm hd Md g1 (ahp _) FI;refine⟨rfl,_,_,?_,v1,v2,fun k l h=>by simp[dN,h]⟩;have hf:=Us (fun a x hx=>(g2.at_ a x hx).1) aT;simp only[Instr.entryStore,Sem.run_bind,Result.andThen_ok,getObj,Sem.run,g1,asInt,asIntOf,Go.goInt,hf,setObj];simp only[Sem.run_bind,Sem.run_pure,Result.andThen_ok,Sem.run,hf,g1,Array.size_modify]
end
def GV(M:Mp)(env:List (Nat×EV))(a:Act)(X:Array Operand):Prop:=∀x∈X,∀e,IV env x=some e->ER M e (a.eval x)
theorem ku.on{M:Mp}{env:List (Nat×EV)}{a:Act}(hE:ku M env a.tmps)(X:Array Operand):GV M env a X:=fun _ _ _ he=>a5l hE he
section
variable {M:Mp} {env:List (Nat×EV)} {a:Act} {X:Array Operand}
theorem pJ(hE:GV M env a X){x:Operand}(hx:x∈X){e:EV}(h:IV env x=some e):ER M e (a.eval x):=hE x hx e h
theorem gZ(hE:GV M env a X){x:Operand}(hx:x∈X){v:TV}(h:qQ env x=some v):VR M.h v (a.eval x):=by
 unfold qQ at h;split at h
 .rename_i v' he;simp at h;subst h;exact(pJ hE hx he).vN
 simp at h
theorem GX(hE:GV M env a X):∀{xs:List Operand} {vs:List TV},(∀x∈xs,x∈X)->Ub env xs=some vs->bY M.h vs (xs.map a.eval)
 | [],vs,_,h=>by simp[Ub]at h;subst h;exact .nil
 |x::xs,vs,hx,h=>by
  simp only[Ub]at h;split at h
  .rename_i v vs' h1 h2;simp at h;subst h;exact .cons (gZ hE (hx x (by simp)) h1) (GX hE (fun y hy=>hx y (by simp[hy])) h2)
  simp at h
theorem Ut(hE:GV M env a X):∀{xs:List (Nat×Operand)} {vs:List (Nat×TV)},(∀p∈xs,p.2∈X)->Wq env xs=some vs ->
  PR M.h vs (xs.map fun(i,x)=>(i,a.eval x))
 | [],vs,_,h=>by simp[Wq]at h;subst h;exact .nil
 |(i,x)::xs,vs,hx,h=>by
  simp only[Wq]at h;split at h
  .rename_i v vs' h1 h2;simp at h;subst h;exact .cons (gZ hE (hx (i,x) (by simp)) h1) (Ut hE (fun y hy=>hx y (by simp[hy])) h2)
  .simp at h
theorem GY(hE:GV M env a X){o:Option Operand}(hx:∀x,o=some x->x∈X){v:Option TV}(h:Wu env o=some v):OR M.h v (o.map a.eval):=by
 unfold Wu at h;split at h
 .simp at h;subst h;exact .none
 rename_i x;split at h
 .rename_i v' hv;simp at h;subst h;exact .some (gZ hE (hx x rfl) hv)
 simp at h
end
section
variable {P:LI1} {M:Mp} {D:Key->Prop} {w:LI4} {s:St}
def GZ:Op->Bool
 |.call { callee:=.value _,.. }=>true
 |_=>false
theorem GI.mQ{C:Ct}{c:Sem Next}{v:TV}{S:Sem LI3}(hV:Valid M D C w)(hc:c=(do pure (.value (<-S))))(h:∃z,VR M.h v z∧S.run P w=.ok z w):GI P M D C w c (.val v) C []:=by obtain⟨z,h1,h2⟩:=h;exact .same hV (by rw[hc];simp[h2]) (.val h1)
theorem GI.O9{C:Ct}{c:Sem Next}{v:EV}{S:Sem LI3}(hV:Valid M D C w)(hc:c=(do pure (.value (<-S))))(h:∃z,ER M v z∧S.run P w=.ok z w):GI P M D C w c v C []:=by obtain⟨z,h1,h2⟩:=h;exact .same hV (by rw[hc];simp[h2]) h1
theorem GI.aik{C:Ct}{c:Sem Next}{v:TV}{S:Sem LI3}{C1:Ct}{ws:List Key}(hc:c=(do pure (.value (<-S))))(h:BOk P M D C w S v C1 ws):GI P M D C w c (.val v) C1 ws:=by obtain⟨x,w',M',h1,h2⟩:=h;exact⟨x,w',M',.inl (by rw[hc];simp[h1]),h2⟩
theorem GI.aex{C:Ct}{c:Sem Next}{S:Sem Unit}{C1:Ct}{ws:List Key}(hc:c=(do S;pure .skip))(h:∃w' M',S.run P w=.ok () w'∧Valid M' (fun j=>D j∨(C j=none∧(C1 j).isSome=true)) C1 w'∧Ext M C w M' C1 w' ws∧(∀k l,M (.l k)=some l->M' (.l k)=some l)):GI P M D C w c .undef C1 ws:=by obtain⟨w',M',h1,h2,h3,h4⟩:=h;exact⟨Go.undef,w',M',.inr ⟨rfl,by rw[hc];simp[h1]⟩,⟨h2,h3,.undef,h4⟩⟩
theorem GI.ao2{C:Ct}{c:Sem Next}{S:Sem Unit}{C1:Ct}{ws:List Key}(hc:c=(do S;pure .skip))(h:∃w',S.run P w=.ok () w'∧Valid M (fun j=>D j∨(C j=none∧(C1 j).isSome=true)) C1 w'∧Ext M C w M C1 w' ws):GI P M D C w c .undef C1 ws:=by obtain⟨w',h1,h2,h3⟩:=h;exact⟨Go.undef,w',M,.inr ⟨rfl,by rw[hc];simp[h1]⟩,⟨h2,h3,.undef,fun _ _ h=>h⟩⟩
theorem Zh{b:Builtin}{at_:Array LI2}{t:LI2}{cs:Array Bool}{az:List TV}{xs:List LI3}{v:TV}{s1:St}{i:mF}(hV:Valid M D s.get w)(zf:M (.h s.heap.length)=none)
  (h:qW P b at_ t s az=some (v,s1,i)) (hx:bY M.h az xs) (hD:∀k∈i.ts,D k):s1.env=s.env∧GI P M D s.get w (builtin b at_ t cs xs.toArray) (.val v) s1.get i.ws:=by
 unfold qW at h;split at h
 .simp only[a0l,a0J]at h;obtain⟨⟨v',i'⟩,h1,rfl,rfl,rfl⟩:=h;obtain⟨x,xs',rfl,hx1,hx2⟩:=hx.iQ;have:=hx2.qp;subst this;obtain⟨e1,e2⟩:=Zc (t:=t) hV h1 hx1 hD;refine⟨rfl,?_⟩;simp only;rw[e1];exact .mQ hV rfl e2
 .obtain⟨x,xs',rfl,hx1,hx2⟩:=hx.iQ;obtain⟨y,ys',rfl,hy1,hy2⟩:=hx2.iQ;have:=hy2.qp;subst this;obtain⟨e1,e2⟩:=Jd (ty:=t) hV zf h hx1 hy1 hD;exact⟨e1,.aik rfl e2⟩
 .obtain⟨x,xs',rfl,hx1,hx2⟩:=hx.iQ;obtain⟨y,ys',rfl,hy1,hy2⟩:=hx2.iQ;have:=hy2.qp;subst this;obtain⟨e1,e2⟩:=Ur (ty:=t) hV h hx1 hy1 hD;exact⟨e1,.aik rfl e2⟩
 .simp only[a0l,a0J]at h;obtain⟨v',h1,rfl,rfl,rfl⟩:=h;exact⟨rfl,.mQ hV rfl (zi h1 hx)⟩
 .simp only[a0l,a0J]at h;obtain⟨v',h1,rfl,rfl,rfl⟩:=h;exact⟨rfl,.mQ hV rfl (zi h1 hx)⟩
 .simp at h
theorem ail{call:aZ}{site:Nat->Bool}{o:Oper}{a:Act}{v:EV}{s1:St}{i:mF}(hV:Valid M D s.get w)(hE:GV M s.env a o.op.operands)(zf:M (.h s.heap.length)=none)(hnl:M (.l s.loc.length)=none)
  (h:pG P call site s o=some (v,s1,i)) (hc:GZ o.op=false) (hD:∀k∈i.ts,D k):s1.env=s.env∧GI P M D s.get w (execOp a.eval o) v s1.get i.ws:=by
 unfold pG at h;unfold execOp;split at h
 .-- move
  rename_i x ho;rw[ho];simp only[a0l,a0J]at h;obtain⟨e,he,rfl,rfl,rfl⟩:=h;exact⟨rfl,.same hV rfl (pJ hE (by simp[ho,Op.operands]) he)⟩
 .rename_i x ho;rw[ho];simp only[a0l,a0J]at h;obtain⟨e,he,rfl,rfl,rfl⟩:=h;exact⟨rfl,.same hV rfl (pJ hE (by simp[ho,Op.operands]) he)⟩
 .-- pick
  rename_i c x y ho;rw[ho];split at h
  .rename_i t ht;simp only[a0l,a0J]at h;obtain⟨e,he,rfl,rfl,rfl⟩:=h;have hb:=gZ hE (by simp[ho,Op.operands]) ht;have qN:a.eval c=.bool t:=by cases qN:a.eval c<;>rw[qN]at hb<;>cases hb;rfl
   have:=pJ hE (by cases t<;>simp[ho,Op.operands]) he;refine⟨rfl,.same hV (x:=a.eval (if t then x else y)) ?_ this⟩;simp only[Sem.run_bind,qN,asBool,Sem.run_pure,Result.andThen_ok];cases t<;>rfl
  .simp at h
 .-- alloc
  rename_i e ho;rw[ho];simp only[a0l]at h;obtain⟨z,hz,h⟩:=h;obtain⟨i',x,v',_,_,_,_,hz1,hvr,hzr⟩:=wE hz;simp only[a0J]at h;obtain⟨rfl,rfl,rfl⟩:=h;obtain⟨M',hp⟩:=a5m hV zf hnl (site (o.dst.getD 0)) e (hvr M.h) hz1 rfl;refine⟨by unfold qR;split<;>rfl,_,_,M',.inl ?_,hp⟩;simp[Instr.alloc,hzr w,newVar,newRow]
 .-- box
  rename_i t x ho;rw[ho];split at h
  .rename_i v0 hv0;split at h
   .rename_i FC;simp only[a0d,a0J]at h;obtain⟨rfl,rfl,rfl⟩:=h;obtain⟨M',hp⟩:=a5m hV zf hnl (site (o.dst.getD 0)) t (gZ hE (by simp[ho,Op.operands]) hv0).cells (Mc FC) rfl;refine⟨by unfold qR;split<;>rfl,_,_,M',.inl ?_,hp⟩;simp[Instr.box,newVar,newRow]
   .simp at h
  .simp at h
 .-- build
  rename_i t ps ho;rw[ho];split at h
  .rename_i qs hq;simp only[a0l,a0J]at h;obtain⟨v0,hb,rfl,rfl,rfl⟩:=h;obtain⟨x,h1,h2⟩:=a5o hb (Ut hE (fun p hp=>by simp[ho,Op.operands];exact⟨p.1,by simpa using hp⟩) hq);refine⟨rfl,.mQ hV rfl ⟨x,h1,?_⟩⟩;have:=h2 w
   rwa [show(List.map (fun x=>(x.1,a.eval x.2)) ps.toList).toArray=ps.map (fun x=>(x.1,a.eval x.2))from by apply aen;simp]at this
  .simp at h
 .-- buildSlice
  rename_i t len ps ho;rw[ho];split at h
  .rename_i qs hq;simp only[a0l,a0J]at h;obtain⟨⟨v0,s0⟩,hb,rfl,rfl,rfl⟩:=h;obtain⟨e1,x,w',M',h1,h2⟩:=um hV zf hb (Ut hE (fun p hp=>by simp[ho,Op.operands];exact⟨p.1,by simpa using hp⟩) hq);refine⟨e1,x,w',M',.inl ?_,h2⟩;rw[show(List.map (fun x=>(x.1,a.eval x.2)) ps.toList).toArray=ps.map (fun x=>(x.1,a.eval x.2))from by apply aen;simp]at h1;simp[h1]
  .simp at h
 .-- load
  rename_i t x ho;rw[ho];split at h
  .rename_i e he;simp only[a0l,a0J]at h;obtain⟨⟨v0,i0⟩,hl,rfl,rfl,rfl⟩:=h;obtain⟨e1,e2⟩:=GK hV hl (pJ hE (by simp[ho,Op.operands]) he) hD;refine⟨rfl,?_⟩;simp only;rw[e1];exact .mQ hV rfl e2
  .simp at h
 .-- store
  rename_i t x y ho;rw[ho];split at h
  .rename_i e v0 he hv0;simp only[a0l,a0J]at h;obtain⟨⟨s0,i0⟩,hl,rfl,rfl,rfl⟩:=h;obtain⟨e1,w',e2,e3,e4,e5⟩:=Z9 hV hl (pJ hE (by simp[ho,Op.operands]) he) (gZ hE (by simp[ho,Op.operands]) hv0) hD;exact⟨e1,.ao2 rfl ⟨w',e2,e3.widen e5,e4⟩⟩
  .simp at h
 .-- nilCheck
  rename_i x ho;rw[ho];split at h
  .rename_i k off he;simp only[a0d,a0J]at h;obtain⟨rfl,rfl,rfl⟩:=h;have hx:=pJ hE (by simp[ho,Op.operands]) he;refine⟨rfl,.same hV (x:=a.eval x) ?_ hx⟩;cases hxe:a.eval x<;>rw[hxe]at hx<;>cases hx
   simp[hxe]
  .rename_i b off lim he;simp only[a0d,a0J]at h;obtain⟨rfl,rfl,rfl⟩:=h;have hx:=pJ hE (by simp[ho,Op.operands]) he;refine⟨rfl,.same hV (x:=a.eval x) ?_ hx⟩;have FI:=hx.vN;cases hxe:a.eval x<;>rw[hxe]at FI<;>cases FI
   simp[hxe]
  .rename_i f b c he;simp only[a0d,a0J]at h;obtain⟨rfl,rfl,rfl⟩:=h;have hx:=pJ hE (by simp[ho,Op.operands]) he;refine⟨rfl,.same hV (x:=a.eval x) ?_ hx⟩;have FI:=hx.vN;cases hxe:a.eval x<;>rw[hxe]at FI<;>cases FI
   simp[hxe]
  .rename_i l he;simp only[a0d,a0J]at h;obtain⟨rfl,rfl,rfl⟩:=h;have hx:=pJ hE (by simp[ho,Op.operands]) he;refine⟨rfl,.same hV (x:=a.eval x) ?_ hx⟩;have FI:=hx.vN;cases hxe:a.eval x<;>rw[hxe]at FI<;>cases FI
   simp[hxe]
  .simp at h
 .-- binOp
  rename_i op t x y t' ho;rw[ho];split at h
  .rename_i u v0 hu hv;simp only[a0l,a0J]at h;obtain⟨r,hb,rfl,rfl,rfl⟩:=h;exact⟨rfl,.mQ hV rfl (Za hb (gZ hE (by simp[ho,Op.operands]) hu) (gZ hE (by simp[ho,Op.operands]) hv))⟩
  .simp at h
 .-- unOp
  rename_i op t x ho;rw[ho];split at h
  .rename_i u hu;simp only[a0l,a0J]at h;obtain⟨r,hb,rfl,rfl,rfl⟩:=h;exact⟨rfl,.mQ hV rfl (iV hb (gZ hE (by simp[ho,Op.operands]) hu))⟩
  .simp at h
 .-- convert
  rename_i t t' x ho;rw[ho];split at h
  .rename_i u hu;simp only[a0l,a0J]at h;obtain⟨r,hb,rfl,rfl,rfl⟩:=h;exact⟨rfl,.mQ hV rfl (Ul hb (gZ hE (by simp[ho,Op.operands]) hu))⟩
  .simp at h
 .-- makeFunc
  rename_i f az bs ho;rw[ho];split at h
  .rename_i us vs hu hv;simp only[a0d,a0J]at h;obtain⟨rfl,rfl,rfl⟩:=h;have h1:=GX hE (fun x hx=>by simp[ho,Op.operands];exact .inl (by simpa using hx)) hu;have h2:=GX hE (fun x hx=>by simp[ho,Op.operands];exact .inr (by simpa using hx)) hv;refine⟨rfl,.mQ hV rfl ⟨.func (.func f) (az.map a.eval) (bs.map a.eval),?_,rfl⟩⟩;have:=VR.fn (f:=f) h1.len h1.at_ h2.len h2.at_
   rwa [show(List.map a.eval az.toList).toArray=az.map a.eval from by apply aen;simp,show(List.map a.eval bs.toList).toArray=bs.map a.eval from by apply aen;simp]at this
  .simp at h
 .-- makeMap
  rename_i t r ho;rw[ho];have yN:s.get (.h s.heap.length)=none:=by simp[St.get]
  have hle:sK M (dN M (.h s.heap.length) (.obj w.heap.size [])):=mO fun l0 h0=>by rw[zf]at h0;cases h0
  have gJ:∀c,c<w.heap.size->c∉aI (.obj w.heap.size [])->(w.alloc (.map #[] 0)).heap[c]? = w.heap[c]?:=fun c hc _=>wC w _ c hc;have fV:∀c∈aI (.obj w.heap.size []),(∃l0,M (.h s.heap.length)=some l0∧c∈aI l0)∨w.heap.size<=c:=fun c hc=>.inr (by simp[aI]at hc;omega);have key:NS M D s.get w (.val (.map s.heap.length)) (St.get { s with heap:=s.heap++[.map []] }) [] (.map (some w.heap.size)) (w.alloc (.map #[] 0)) (dN M (.h s.heap.length) (.obj w.heap.size [])):=by
   refine⟨?_,?_,.val (.map (o:=[]) (by simp[Mp.h,dN])),qX zf⟩
   .rw[kG];refine hV.upd _ _ _ (fun j hj=>?_) (fun l0 h0=>by rw[zf]at h0;cases h0) gJ fV (by simp) ⟨#[],heap_alloc_new w _,rfl,rfl,.nil,by simp,by simp⟩;rcases hj with hj|⟨x1,x2⟩
    .exact .inl hj
    .right;unfold lZ at x2;split at x2
     .assumption
     .simp[x1]at x2
   .rw[kG];exact Ext.upd _ _ _ [] (.inr ⟨yN,zf,rfl⟩) hle gJ fV (by simp) rfl rfl rfl
  split at h
  .rename_i _ hr;simp only[a0d,a0J]at h;obtain⟨rfl,rfl,rfl⟩:=h;have:=GY hE (fun x hx=>by simp[ho,Op.operands,hx]) hr;refine⟨rfl,_,_,_,.inl ?_,key⟩;cases hrr:r.map a.eval with
   |none=>simp[hrr,Instr.makeMap]
   |some y=>rw[hrr]at this;cases this
  .rename_i k n _ _ hr hu;simp only[a0d,a0J]at h;obtain⟨rfl,rfl,rfl⟩:=h;have:=GY hE (fun x hx=>by simp[ho,Op.operands,hx]) hr;refine⟨rfl,_,_,_,.inl ?_,key⟩;cases hrr:r.map a.eval with
   |none=>rw[hrr]at this;cases this
   |some y=>
    rw[hrr]at this;cases this with
    |some hy=>
     cases hy;simp[hrr,Instr.makeMap,run_underlying hu,asInt,asIntOf]
  .simp at h
 .-- makeSlice
  rename_i t l c ho;rw[ho];split at h
  .rename_i u v0 hu hv;simp only[a0l,a0J]at h;obtain⟨⟨r,s0⟩,hb,rfl,rfl,rfl⟩:=h;obtain⟨e1,z,w',M',e2,e3⟩:=Ah hV zf hb (gZ hE (by simp[ho,Op.operands]) hu) (gZ hE (by simp[ho,Op.operands]) hv);exact⟨e1,z,w',M',.inl (by simp[e2]),e3⟩
  .simp at h
 .-- slice
  rename_i t x lo hi mx ho;rw[ho];split at h
  .rename_i e Zb xI mx' he H6 hhi hmx;have h1:=GY hE (fun x hx=>by simp[ho,Op.operands,hx]) H6;have h2:=GY hE (fun x hx=>by simp[ho,Op.operands,hx]) hhi;have h3:=GY hE (fun x hx=>by simp[ho,Op.operands,hx]) hmx;split at h
   .simp only[a0l,a0J]at h;obtain⟨r,hb,rfl,rfl,rfl⟩:=h;exact⟨rfl,.mQ hV rfl (CV hb (pJ hE (by simp[ho,Op.operands]) he) h1 h2 h3)⟩
   .simp only[a0l,a0J]at h;obtain⟨r,hb,rfl,rfl,rfl⟩:=h;exact⟨rfl,.mQ hV rfl (O5 hb (pJ hE (by simp[ho,Op.operands]) he).vN h1 h2 h3)⟩
   .simp at h
  .simp at h
 .-- fieldAddr
  rename_i t x f ho;rw[ho];split at h
  .rename_i e n he hn;simp only[a0l,a0J]at h;obtain⟨r,hb,rfl,rfl,rfl⟩:=h;exact⟨rfl,.O9 hV rfl (Uk hn hb (pJ hE (by simp[ho,Op.operands]) he))⟩
  .simp at h
 .-- field
  rename_i t x f ho;rw[ho];split at h
  .rename_i u hu;simp only[a0l,a0J]at h;obtain⟨r,hb,rfl,rfl,rfl⟩:=h;exact⟨rfl,.mQ hV rfl (O1 hb (gZ hE (by simp[ho,Op.operands]) hu))⟩
  .simp at h
 .-- indexAddr
  rename_i t x y ho;rw[ho];split at h
  .rename_i e u he hu;simp only[a0l,a0J]at h;obtain⟨r,hb,rfl,rfl,rfl⟩:=h;exact⟨rfl,.O9 hV rfl (Af hb (pJ hE (by simp[ho,Op.operands]) he) (gZ hE (by simp[ho,Op.operands]) hu))⟩
  .simp at h
 .-- index
  rename_i t x y ho;rw[ho];split at h
  .rename_i u v0 hu hv;simp only[a0l,a0J]at h;obtain⟨r,hb,rfl,rfl,rfl⟩:=h;exact⟨rfl,.mQ hV rfl (O4 hb (gZ hE (by simp[ho,Op.operands]) hu) (gZ hE (by simp[ho,Op.operands]) hv))⟩
  .simp at h
 .-- lookup
  rename_i t m k ok ho;rw[ho];split at h
  .rename_i u v0 hu hv;simp only[a0l,a0J]at h;obtain⟨r,hb,rfl,rfl,rfl⟩:=h;exact⟨rfl,.mQ hV rfl (Ed hV hb (gZ hE (by simp[ho,Op.operands]) hu) (gZ hE (by simp[ho,Op.operands]) hv) hD)⟩
  .simp at h
 .-- mapUpdate
  rename_i t m k x ho;rw[ho];split at h
  .rename_i u v0 y hu hv hy;simp only[a0l,a0J]at h;obtain⟨⟨s0,i0⟩,hb,rfl,rfl,rfl⟩:=h;obtain⟨e1,e2⟩:=RX hV hb (gZ hE (by simp[ho,Op.operands]) hu) (gZ hE (by simp[ho,Op.operands]) hv) (gZ hE (by simp[ho,Op.operands]) hy) hD;exact⟨e1,.aex rfl e2⟩
  .simp at h
 .-- insert
  rename_i t m k x ho;rw[ho];split at h
  .rename_i u v0 y hu hv hy;simp only[a0l,a0J]at h;obtain⟨⟨s0,i0⟩,hb,rfl,rfl,rfl⟩:=h;obtain⟨e1,e2⟩:=RX hV hb (gZ hE (by simp[ho,Op.operands]) hu) (gZ hE (by simp[ho,Op.operands]) hv) (gZ hE (by simp[ho,Op.operands]) hy) hD;exact⟨e1,.aex rfl e2⟩
  .simp at h
 .-- mapEntry
  rename_i t m k ho;rw[ho];split at h
  .rename_i u v0 hu hv;obtain⟨e1,z,w',M',h1,h2,h3,h4,h5⟩:=a5z hV h (gZ hE (by simp[ho,Op.operands]) hu) (gZ hE (by simp[ho,Op.operands]) hv) hD;exact⟨e1,z,w',M',.inl (by show(do pure (.value (<-Instr.mapEntry t _ _)):Sem Next).run P w=_;simp[h1]),h3,h4,h2,h5⟩
  .simp at h
 .-- entryStore
  rename_i t m k x ho;rw[ho];split at h
  .rename_i u v0 y hu hv hy;simp only[a0l,a0J]at h;obtain⟨⟨s0,i0⟩,hb,rfl,rfl,rfl⟩:=h;obtain⟨e1,e2⟩:=a2U (t:=t) hV hb (gZ hE (by simp[ho,Op.operands]) hu) (pJ hE (by simp[ho,Op.operands]) hv) (gZ hE (by simp[ho,Op.operands]) hy) hD;exact⟨e1,.aex rfl e2⟩
  .simp at h
 .-- extract
  rename_i x n ho;rw[ho];split at h
  .rename_i e he;simp only[a0l,a0J]at h;obtain⟨r,hb,rfl,rfl,rfl⟩:=h;have hx:=pJ hE (by simp[ho,Op.operands]) he;refine⟨rfl,.O9 hV rfl ?_⟩;generalize a.eval x=xv at hx;unfold yY at hb;split at hb
   .simp only[a0l]at hb;obtain⟨y0,hb,rfl⟩:=hb;cases hx with
    |val hx=>
     cases hx with
     |dJ g1 g2=>
      obtain⟨y,y1,y2⟩:=(bY.mk g1 g2).get hb;exact⟨y,.val y2,by simp[Instr.extract,y1]⟩
   .cases hx with
    |ent q1 q2 q3=>
     split at hb<;>cases hb
     .exact⟨_,.val q3,by simp[Instr.extract]⟩
     .exact⟨_,.EI q1 q2,by simp[Instr.extract]⟩
   .cases hb
  .simp at h
 .-- call
  rename_i c ho;rw[ho]at hc ⊢;unfold NG at h;split at h
  .rename_i b az hb has;simp only[a0l,a0J]at h;obtain⟨⟨v0,s0,i0⟩,qN,rfl,rfl,rfl⟩:=h;obtain⟨e1,e2⟩:=Zh (cs:=c.args.map fun|.const _=>true|_=>false) hV zf qN (GX hE (fun x hx=>by simp[ho,Op.operands,Call.operands,hb];simpa using hx) has) hD;refine⟨e1,?_⟩;obtain⟨x,w',M',r1,r2⟩:=e2;refine⟨x,w',M',?_,r2⟩;rw[show(List.map a.eval c.args.toList).toArray=c.args.map a.eval from by apply aen;simp]at r1;unfold ai3 at r1 ⊢;simp only[resolve,hb,Sem.run_bind,Sem.run_pure,Result.andThen_ok,invoke];exact r1
  .rename_i f az hf has;obtain⟨callee,args,ats⟩:=c;simp only at hf;subst hf;simp[GZ]at hc
  .simp at h
 .-- range
  rename_i t x ho;rw[ho];split at h
  .rename_i r k el hv hu;split at h
   .rename_i es Md;simp only[a0d,a0J]at h;obtain⟨rfl,rfl,rfl⟩:=h;have hx:=gZ hE (by simp[ho,Op.operands]) hv;refine⟨rfl,?_⟩;generalize hxv:a.eval x=xv at hx;cases hx with
    |map hm=>
    rename_i r1 o1;obtain⟨gq,b1,b2⟩:=hV.ok _ _ hm (hD (.h r) (by simp[xG]));simp only[St.get,Md,a0d]at b1;subst b1;obtain⟨xs,g1,g2⟩:=b2;have yN:s.get (.h s.heap.length)=none:=(by simp[St.get]);have hrl:r<s.heap.length:=(a0h.1 Md).1;have hle:sK M (dN M (.h s.heap.length) (.obj w.heap.size [])):=mO fun l0 h0=>by rw[zf]at h0;cases h0
    have gJ:∀c,c<w.heap.size->c∉aI (.obj w.heap.size [])->(w.alloc (.mapIter (some r1) xs.size #[] xs.size)).heap[c]? = w.heap[c]?:=fun c hc _=>wC w _ c hc;have fV:∀c∈aI (.obj w.heap.size []),(∃l0,M (.h s.heap.length)=some l0∧c∈aI l0)∨w.heap.size<=c:=fun c hc=>.inr (by simp[aI]at hc;omega);refine⟨.pointer (some ⟨w.heap.size,0,none⟩),w.alloc (.mapIter (some r1) xs.size #[] xs.size),dN M (.h s.heap.length) (.obj w.heap.size []),.inl ?_,?_,?_,.val (.iter (o:=[]) (by simp[Mp.h,dN])),qX zf⟩
    .simp[hxv,Instr.range,run_underlying hu,getObj,Sem.run,g1,newObj]
    .rw[kG];refine hV.upd _ _ _ (fun j hj=>?_) (fun l0 h0=>by rw[zf]at h0;cases h0) gJ fV (by simp) ⟨r1,o1,#[],?_,?_,?_,rfl⟩
     .rcases hj with hj|⟨x1,x2⟩
      .exact .inl hj
      .right;unfold lZ at x2;split at x2
       .assumption
       .simp[x1]at x2
     .have:(Key.h r)≠.h s.heap.length:=fun e=>by cases e;omega
      simp only[Mp.h,dN,a0E this];exact hm
     .rw[g2.len];exact heap_alloc_new w _
     .rw[g2.len,g2.ord];exact a0P _
    .rw[kG];exact Ext.upd _ _ _ [] (.inr ⟨yN,zf,rfl⟩) hle gJ fV (by simp) rfl rfl rfl
   .simp at h
  .simp at h
 .-- entry
  rename_i x ho;rw[ho];split at h
  .rename_i b hv;split at h
   .rename_i r n i seen hb;split at h
    .rename_i es Md;split at h
     case isFalse=>simp at h
     rename_i hn;simp only[a0l,a0J]at h;obtain⟨e,he,rfl,rfl,rfl⟩:=h;have hx:=gZ hE (by simp[ho,Op.operands]) hv;refine⟨rfl,.mQ hV rfl ?_⟩;generalize a.eval x=xv at hx;cases hx with
     |iter hm=>
     rename_i b1 o1;obtain⟨gq,c1,c2⟩:=hV.ok _ _ hm (hD (.h b) (by simp[fJ]));simp only[St.get,hb,a0d]at c1;subst c1;obtain⟨r1,o,sa,d1,d2,d3,d4⟩:=c2;obtain⟨gq,c1,c2⟩:=hV.ok (.h r) _ d1 (hD (.h r) (by simp[fJ]));simp only[St.get,Md,a0d]at c1;subst c1;obtain⟨xs,g1,g2⟩:=c2;have iD:sa.toList≠[]:=fun e=>by rw[e]at d4;simp at d4
     obtain⟨k,hk⟩:∃k,sa.back? = some k∧o[k]? = some i:=by
      have h1:(sa.toList.map fun i=>o[i]?).getLast? = some (some i):=by rw[d4];simp
      rw[List.getLast?_map]at h1;simp only[a0l]at h1;obtain⟨k,h2,h3⟩:=h1;exact⟨k,by rw[<-Array.getLast?_toList];exact h2,h3⟩
     have kQ:k<xs.size:=by rw[<-g2.ord];exact(a0h.1 hk.2).1
     obtain⟨q1,j,e',q2,q3,q4,q5⟩:=g2.at_ k _ (a4w kQ);rw[hk.2]at q2;cases q2;rw[he]at q3;cases q3;refine⟨.tuple #[xs[k].key,xs[k].val],.QI (.cons q4 (.cons q5 .nil)),?_⟩;have hf:xs.find? (·.born==k)=some xs[k]:=by rw[<-Array.find?_toList];have:xs[k].born==k:=(by simpa using q1);rw[List.find?_eq_some_iff_getElem];refine⟨this,k,by simpa using kQ,by simp,fun j hj=>?_⟩;have sF:j<xs.size:=(by omega);have:=(g2.at_ j _ (a4w sF)).1;simp only[Array.getElem_toList];rw[this];simp;omega
     have hc:xs.size=n:=by rw[<-g2.len];exact hn
     simp only[Instr.entry,getObj,Sem.run_bind,Sem.run,d2,g1,Result.andThen_ok,hk.1,hc,bne_self_eq_false,a2S,a3T,hf];rfl
    .simp at h
   .simp at h
  .simp at h
 .simp at h
end
abbrev l9(h:List HB):Ct:=St.get ⟨[],[],h,[]⟩
def Mp.only(M:Mp):Mp
 |.h b=>M (.h b)
 |.l _=>none
abbrev nV(r:Option Nat):Fence:={ Fence.wide with round:=r }
def LD(R:LI3->LI4->Prop):Ending->LI4->Prop
 |.returned v,w=>R v w
 |_,_=>False
def jR(M:Mp)(h:List HB)(w:LI4)(v:TV)(h':List HB)(ws:List Nat)(y:LI3)(w':LI4):Prop:=
 ∃M',Valid M' uU (l9 h') w'∧(∀k,M' (.l k)=none)∧Ext M (l9 h) w M' (l9 h') w' (ws.map .h)∧VR M'.h v y
def Me(P:LI1)(d:Deferred)(w:LI4)(R:LI3->LI4->Prop):Prop:=
 ∃f az,(invoke d.target d.args).run P w=.ok (.enter f az) w∧∀n,CallsIn Fence.wide n P f az w (LD R)
def Uu(P:LI1)(d:Deferred)(w:LI4)(R:LI3->LI4->Prop):Prop:=
 ∃l f tmps uT body,(invoke d.target d.args).run P w=.ok (.round l f tmps uT body) w∧∀n,RoundIn Fence.wide n P l f tmps uT body w (LD R)
def iF(P:LI1)(call:aZ):Prop:=
 ∀fv args h v h' ws,call fv args h=some (v,h',ws)->∀(M:Mp) (w:LI4) (x:LI3) (xs:List LI3),Valid M uU (l9 h) w->(∀k,M (.l k)=none)->VR M.h fv x->bY M.h args xs ->
  ∃d,(∀w,(Deferred.ofValue x xs.toArray).run P w=.ok d w)∧((Me P d w (jR M h w v h' ws)∧∃f a b,fv=.fn f a b)∨(Uu P d w (jR M h w v h' ws)∧∃l,fv=.kU l))
theorem CallsIn.ex{n:Nat}{P:LI1}{f:FuncId}{az:Array LI3}{w:LI4}{R:LI3->LI4->Prop}(h:CallsIn Fence.wide n P f az w (LD R)):∃y w',R y w':=by
 obtain⟨e,w',fr,hR,_⟩:=h.2 [] (room_wide _);cases e with
 |returned v=>exact⟨v,w',hR⟩
 |panicked c=>exact hR.elim
 |outgrown=>exact hR.elim
theorem RoundIn.ex{n:Nat}{P:LI1}{l:Nat}{f:FuncId}{tmps:Array LI3}{uT body:Code}{w:LI4}{R:LI3->LI4->Prop}(h:RoundIn Fence.wide n P l f tmps uT body w (LD R)):∃y w',R y w':=by
 obtain⟨e,w',hR,_⟩:=h.2 default [] (room_wide _);cases e with
 |returned v=>exact⟨v,w',hR⟩
 |panicked c=>exact hR.elim
 |outgrown=>exact hR.elim
section
variable {P:LI1} {call:aZ}
theorem iF.ex(hC:iF P call){fv:TV}{args:List TV}{h:List HB}{v:TV}{h':List HB}{ws:List Nat}(hc:call fv args h=some (v,h',ws)){M:Mp}{w:LI4}{x:LI3}{xs:List LI3}
  (hV:Valid M uU (l9 h) w) (hl:∀k,M (.l k)=none) (hx:VR M.h fv x) (Oa:bY M.h args xs):∃y w',jR M h w v h' ws y w':=by
 obtain⟨d,_,h1|h1⟩:=hC _ _ _ _ _ _ hc M w x xs hV hl hx Oa
 .obtain⟨⟨f,az,_,h2⟩,_⟩:=h1;exact CallsIn.ex (h2 0)
 .obtain⟨⟨l,f,tmps,uT,body,_,h2⟩,_⟩:=h1;exact RoundIn.ex (h2 0)
def acs(M' M:Mp):Mp
 |.h b=>M' (.h b)
 |.l j=>M (.l j)
theorem FQ{M:Mp}{D:Key->Prop}{s:St}{w:LI4}(hV:Valid M D s.get w)(hh:∀b l,M (.h b)=some l->D (.h b)):Valid M.only uU (l9 s.heap) w:=by
 refine⟨?_,?_,?_⟩
 .intro k l hk _;cases k with
  |l j=>cases hk
  |h b=>exact hV.ok (.h b) l hk (hh b l hk)
 .intro k k' l l' b iD hk oH _ hc hw;cases k with
  |l j=>cases hk
  |h b=>
   cases k' with
   |l j=>cases oH
   |h b'=>exact hV.own _ _ _ _ _ iD hk oH (hh b l hk) hc hw
 intro k l hk;cases k with
 |l j=>cases hk
 |h b=>exact hV.inb _ _ hk
theorem RY{M:Mp}{D:Key->Prop}{s:St}{w:LI4}(hV:Valid M D s.get w)
  (zn:∀j l,M (.l j)=some l->∀k' l',Key.l j≠k'->M k'=some l'->∀c∈aI l,c∉aI l')
  {v:TV} {h':List HB} {ws:List Nat} {y:LI3} {w':LI4} (hr:jR M.only s.heap w v h' ws y w') :
  ∃M',NS M D s.get w (.val v) (St.get { s with heap:=h' }) (ws.map .h) y w' M':=by
 obtain⟨M',Zf,hl',hX,hy⟩:=hr;have pV:∀(b j:Nat) (l l':Lc),M' (.h b)=some l->M (.l j)=some l'->∀c∈aI l,c∉aI l':=by intro b j l l' hb hj c hc Wi;have aT:=hV.inb _ _ hj c Wi;obtain⟨l0,h1,h2⟩:=hX.fresh _ _ hb c hc aT;exact zn j l' hj (.h b) l0 (by simp) h1 c Wi h2
 refine⟨acs M' M,⟨⟨?_,?_,?_⟩,?_,.val hy,fun _ _ h=>h⟩⟩
 .intro k l hk hd;cases k with
  |h b=>exact Zf.ok (.h b) l hk trivial
  |l j=>
   rcases hd with hd|⟨h1,h2⟩
   .obtain⟨b0,h1,h2⟩:=hV.ok (.l j) l hk hd;refine⟨b0,h1,h2.mono (N:=M.h) (N':=(acs M' M).h) (hX.IW.h) fun c hc=>?_⟩;refine hX.frame c (hV.inb _ _ hk c hc) fun k' oH l' hl' ao5=>?_;obtain⟨b',_,rfl⟩:=a0V.1 oH;exact zn j l hk (.h b') l' (by simp) hl' c hc ao5
   .simp only[St.get]at h1 h2;rw[h1]at h2;cases h2
 .intro k k' l l' b0 iD hk oH hd hc hw;cases k with
  |h b=>
   cases k' with
   |h b'=>exact Zf.own (.h b) (.h b') l l' b0 iD hk oH trivial hc hw
   |l j=>exact pV b j l l' hk oH
  |l j=>
   cases k' with
   |h b'=>exact fun c hc Wi=>pV b' j l' l oH hk c Wi hc
   |l j'=>exact zn j l hk (.l j') l' iD oH
 .intro k l hk c hc;cases k with
  |h b=>exact Zf.inb (.h b) l hk c hc
  |l j=>exact a9E (hV.inb (.l j) l hk c hc) hX.size
 .exact
  {IW:=by
    intro k l hk;cases k with
    |h b=>exact hX.IW (.h b) l hk
    |l j=>exact⟨l,hk,.refl l⟩
   frame:=fun c hc hf=>hX.frame c hc fun k hk l hl=>by obtain⟨b',_,rfl⟩:=a0V.1 hk;exact hf _ hk l hl
   nN:=fun k hk hn=>by
    cases k with
    |h b=>exact hX.nN (.h b) hk hn
    |l j=>rfl
   lF:=fun k hk hn=>by
    cases k with
    |h b=>exact hX.lF (.h b) hk hn
    |l j=>rfl
   fresh:=fun k l hk c hc aT=>by
    cases k with
    |h b=>exact hX.fresh (.h b) l hk c hc aT
    |l j=>exact⟨l,hk,hc⟩
   size:=hX.size
   has:=fun k hk=>by
    cases k with
    |h b=>exact hX.has (.h b) hk
    |l j=>exact hk
   wsub:=fun k hk=>by obtain⟨b',_,rfl⟩:=a0V.1 hk;exact hX.wsub _ hk
   wrote:=fun k hk=>by obtain⟨b',_,rfl⟩:=a0V.1 hk;exact hX.wrote _ hk
   os:=hX.os
   output:=hX.output
   tape:=hX.tape }
theorem getEnv(s:St)(env:List (Nat×EV))(ws:List Nat):St.get { s with env:=env,ws:=ws }=s.get:=by funext k;cases k<;>rfl
theorem Zi(s:St)(d:Option Nat)(v:EV):St.get (s.put d v)=s.get:=by funext k;cases d<;>cases k<;>rfl
theorem Valid.sub{M:Mp}{D D':Key->Prop}{C:Ct}{w:LI4}(hV:Valid M D C w)(h:∀k,D' k->D k):Valid M D' C w:=
 ⟨fun k l hk hd=>hV.ok k l hk (h k hd),fun k k' l l' b a1 a2 a3 hd=>hV.own k k' l l' b a1 a2 a3 (h k hd),hV.inb⟩
theorem a2V{site:Nat->Bool}{s:St}{o:Oper}{c:Call}(h:o.op=.defer c):pG P call site s o=none:=by simp[pG,h]
def uG(P:LI1)(call:aZ)(site:Nat->Bool)(fl nt:Nat)(ops:Array Oper)(o:Oper)(s:St)(i:mF)(s':St):Prop:=
 NH nt o=true∧((CP ops s.env o=some true∧∃v s1,pG P call site s o=some (v,s1,i)∧s'=St.put { s1 with ws:=kD fl i.ws s.ws } o.dst v) ∨
  (CP ops s.env o=some false∧i=cZ∧s'=s.put o.dst .undef))
def oJ(i:mF)(k:Key):Prop:=k∈i.ts∨k∈i.ws∨(i.all=true∧k.isH=true)
def MC(M:Mp)(env:List (Nat×EV))(tmps:Array LI3)(ops:Array Oper)(o:Oper):Prop:=
 ∀j want d,o.guard=some (j,want)->(ops[j]?).bind (·.dst)=some d->∀e,dQ d env=some e->ER M e (tmps.getD d Go.undef)
theorem MF{M:Mp}{env:List (Nat×EV)}{tmps:Array LI3}{ops:Array Oper}{o:Oper}{b:Bool}(hG:MC M env tmps ops o)(h:CP ops env o=some b):Region.wanted o (yielded ops tmps)=b:=by
 unfold CP at h;unfold Region.wanted;split at h
 .rename_i hg;rw[hg];simpa using h
 rename_i j want hg;rw[hg];simp only;split at h
 rotate_left
 .simp at h
 rename_i d hd;split at h
 .rename_i b0 he;have h3:=(hG j want d hg hd _ he).vN;have hb:tmps.getD d Go.undef=.bool b0:=by generalize tmps.getD d Go.undef=z at h3;cases h3;rfl
  have:tmps[d]? = some (.bool b0):=by
   by_cases h1:d<tmps.size
   .simp only[Array.getD,h1,dite_true]at hb;rw[a4w h1];exact congrArg some hb
   simp[Array.getD,h1,Go.undef]at hb
  simp only[yielded,hd,a4V,this];simpa using h
 .rename_i he;have h2:=hG j want d hg hd _ he;have hb:tmps.getD d Go.undef=Go.undef:=by generalize tmps.getD d Go.undef=z at h2;cases h2;rfl
  have:tmps[d]? = some Go.undef∨tmps[d]? = none:=by
   by_cases h1:d<tmps.size
   .simp only[Array.getD,h1,dite_true]at hb;rw[a4w h1];exact .inl (congrArg some hb)
   right;simpa using h1
  simp at h;subst h;rcases this with this|this<;>simp only[yielded,hd,a4V,this]<;>rfl
 simp at h
def KO(M:Mp)(D:Key->Prop)(s:St)(w:LI4)(o:Oper)(i:mF)(s':St)(x:LI3)(w':LI4):Prop:=
 ∃v M',s'=St.put { s' with env:=s.env } o.dst v∧NS M D s.get w v s'.get i.ws x w' M'
theorem Uw(s:St)(env:List (Nat×EV))(d:Option Nat)(v:EV)(h:s.env=env):s.put d v=St.put { s.put d v with env:=env } d v:=by subst h;cases d<;>rfl
theorem a0W(hC:iF P call){site:Nat->Bool}{fl nt:Nat}{ops:Array Oper}{o:Oper}{s s':St}{i:mF}{M:Mp}{D:Key->Prop}{w:LI4}{a:Act}
  (hS:uG P call site fl nt ops o s i s') (hV:Valid M D s.get w) (zf:M (.h s.heap.length)=none) (hnl:M (.l s.loc.length)=none)
  (zn:∀j l,M (.l j)=some l->∀k' l',Key.l j≠k'->M k'=some l'->∀c∈aI l,c∉aI l')
  (hE:GV M s.env a o.op.operands) (hG:MC M s.env a.tmps ops o) (hD:∀k,oJ i k->(M k).isSome=true->D k) :
  (∃x w',KO M D s w o i s' x w') ∧
   ∀(r:Option Nat) (n:Nat) (Q:Exit->Act->LI4->Prop) (idx:Nat) (K:Act->LI4->Prop),ops[idx]? = some o ->
    (∀x w',KO M D s w o i s' x w'->K (a.put o.dst x) w')->wpOpIn (nV r) n P ops Q idx K a w:=by
 obtain⟨_,⟨hw,v,s1,kW,rfl⟩|⟨hw,rfl,rfl⟩⟩:=hS
 .have a0X:=MF hG hw;by_cases hc:GZ o.op=true
  .-- a call
   have:∃f args ats,o.op=.call { callee:=.value f,args:=args,argTypes:=ats }:=by
    unfold GZ at hc;split at hc
    .rename_i f args ats ho;exact⟨_,_,_,ho⟩
    .cases hc
   obtain⟨f,args,ats,ho⟩:=this;simp only[pG,ho,NG]at kW;split at kW
   .rename_i b az hb has;cases hb
   .rename_i f' az hf has;injection hf with hf;subst hf;split at kW
    .rename_i fv hfv;split at kW
     .rename_i v0 h' ws yh;simp only[a0d,a0J]at kW;obtain⟨rfl,rfl,rfl⟩:=kW;have hh:∀b l,M (.h b)=some l->D (.h b):=fun b l hb=>hD _ (.inr (.inr ⟨rfl,rfl⟩)) (by simp[hb]);have hVo:=FQ hV hh;have hfx:VR M.only.h fv (a.eval f):=gZ hE (by simp[ho,Op.operands,Call.operands]) hfv;have hax:bY M.only.h az (args.toList.map a.eval):=GX hE (fun x hx=>by simp[ho,Op.operands,Call.operands];exact .inr (by simpa using hx)) has;have conv:∀y w',jR M.only s.heap w v0 h' ws y w'->KO M D s w o ⟨true,[],ws.map .h⟩ (St.put { s with heap:=h',ws:=kD fl (ws.map .h) s.ws } o.dst (.val v0)) y w':=by intro y w' hr;obtain⟨M',hp⟩:=RY hV zn hr;refine⟨.val v0,M',Uw _ _ _ _ rfl,?_⟩;rw[Zi];exact hp
      obtain⟨d,hd,vG⟩:=hC _ _ _ _ _ _ yh M.only w (a.eval f) (args.toList.map a.eval) hVo (fun _=>rfl) hfx hax;refine⟨?_,?_⟩
      .obtain⟨y,w',hr⟩:=iF.ex hC yh hVo (fun _=>rfl) hfx hax;exact⟨y,w',conv y w' hr⟩
      .intro r n Q idx K Ux hK;unfold wpOpIn;simp only[Ux,a0X,a2u];refine⟨fun _ _=>trivial,?_⟩;have a5C:∀nx,(invoke d.target d.args).run P w=.ok nx w->(o.semAt (nV r).round a.eval).run P w=.ok nx w:=by intro nx hnx;rw[Oper.semAt_eq _ _ _ (fun c=>by rw[ho];simp)];unfold execOp;rw[ho];have:=hd w;rw[show(List.map a.eval args.toList).toArray=args.map a.eval from by apply aen;simp]at this;simp[resolve,this,hnx]
       rcases vG with⟨⟨f1,as1,hinv,pV⟩,_⟩|⟨⟨l1,f1,tm1,ag1,bd1,hinv,hrd⟩,_⟩
       .rw[a5C _ hinv];refine⟨fun h=>by simp[Fence.wide]at h,CallsIn.mono (F:=nV r) (pV (n-1)) fun e w' he=>?_⟩;cases e with
        |returned y=>exact hK y w' (conv y w' he)
        |panicked c=>exact he.elim
        |outgrown=>exact he.elim
       .rw[a5C _ hinv];refine⟨fun h=>by simp[Fence.wide]at h,RoundIn.mono (F:=nV r) (hrd (n-1)) fun e w' he=>?_⟩;cases e with
        |returned y=>exact hK y w' (conv y w' he)
        |panicked c=>exact he.elim
        |outgrown=>exact he.elim
     .simp at kW
    .simp at kW
   .simp at kW
  .-- no call
   have Wi:GZ o.op=false:=(by simpa using hc);have Zf:Valid M (fun k=>D k∨M k=none) s.get w:=⟨fun k l hk hd=>hV.ok k l hk (hd.resolve_right (by simp[hk])),fun k k' l l' b a1 a2 a3 hd=>hV.own k k' l l' b a1 a2 a3 (hd.resolve_right (by simp[a2])),hV.inb⟩;obtain⟨he,x,w',M',hr,hp⟩:=ail Zf hE zf hnl kW Wi (fun k hk=>by
    cases hm:M k with
    |none=>exact .inr rfl
    |some l=>exact .inl (hD k (.inl hk) (by simp[hm])))
   have uX:KO M D s w o i (St.put { s1 with ws:=kD fl i.ws s.ws } o.dst v) x w':=by refine⟨v,M',Uw _ _ _ _ he,?_⟩;have hg:St.get { s1 with ws:=kD fl i.ws s.ws }=s1.get:=getEnv s1 s1.env _;rw[Zi,hg];exact⟨hp.val.sub fun k hk=>hk.imp .inl id,hp.ext,hp.er,hp.loc⟩
   refine⟨⟨x,w',uX⟩,fun r n Q idx K Ux hK=>?_⟩;unfold wpOpIn;simp only[Ux,a0X,a2u];refine⟨fun _ _=>trivial,?_⟩;rw[Oper.semAt_eq _ _ _ (fun c ho=>by rw[a2V ho]at kW;cases kW)];rcases hr with hr|⟨rfl,hr⟩
   .rw[hr];exact hK x w' uX
   .rw[hr];exact hK _ w' uX
 .have a0X:=MF hG hw;have uX:KO M D s w o cZ (s.put o.dst .undef) Go.undef w:=by refine⟨.undef,M,Uw _ _ _ _ rfl,?_⟩;rw[Zi];exact .same hV .undef
  refine⟨⟨_,_,uX⟩,fun r n Q idx K Ux hK=>?_⟩;unfold wpOpIn;simp only[Ux,a0X,a2S,a3T];exact⟨fun _ _=>trivial,hK _ _ uX⟩
end
structure wJ(M0:Mp)(h0:List HB)(w0:LI4):Prop where
 val:Valid M0 uU (l9 h0) w0
 loc:∀k,M0 (.l k)=none
structure Rel(M0:Mp)(h0:List HB)(w0:LI4)(nt:Nat)(M:Mp)(s:St)(a:Act)(w:LI4):Prop where
 val:Valid M uU s.get w
 ext:Ext M0 (l9 h0) w0 M s.get w (s.ws.map .h)
 env:ku M s.env a.tmps
 size:nt<=a.tmps.size
 marks:∀d∈a.defers,∃k r,d=⟨.collected r,#[]⟩∧l9 h0 (.h k)=none∧(∃o,M (.h k)=some (.obj r o))∧s.get (.h k)=some .mark∧w.heap[r]? = some (.deferred (some []))
 apart:a.defers.Pairwise (·≠·)
theorem a5E{fl b c:Nat}{ws:List Nat}:c∈EJ fl b ws↔c∈ws∨(c=b∧b<fl):=by
 unfold EJ;split
 .rename_i h;split
  .rename_i hc;have hc:b∈ws:=(by simpa using hc);constructor
   .exact .inl
   rintro (h1|⟨rfl,_⟩)
   .exact h1
   exact hc
  simp only[a1Y];constructor
  .rintro (rfl|h1)
   .exact .inr ⟨rfl,h⟩
   exact .inl h1
  rintro (h1|⟨rfl,_⟩)
  .exact .inr h1
  exact .inl rfl
 rename_i h;constructor
 .exact .inl
 rintro (h1|⟨_,h1⟩)
 .exact h1
 exact absurd h1 h
theorem oK{fl c:Nat}:∀{ks:List Key} {ws:List Nat},c∈kD fl ks ws↔c∈ws∨(Key.h c∈ks∧c<fl)
 | [],ws=>by simp[kD]
 |.h b::ks,ws=>by
  rw[kD,oK,a5E];simp only[a1Y,Key.h.injEq];constructor
  .rintro ((h|⟨rfl,h⟩)|⟨h1,h2⟩)
   .exact .inl h
   .exact .inr ⟨.inl rfl,h⟩
   exact .inr ⟨.inr h1,h2⟩
  rintro (h|⟨rfl|h1,h2⟩)
  .exact .inl (.inl h)
  .exact .inl (.inr ⟨rfl,h2⟩)
  exact .inr ⟨h1,h2⟩
 |.l b::ks,ws=>by rw[kD,oK];simp
theorem zo{t:Nat}{s:St}{d:Option Nat}{v:EV}:dQ t (s.put d v).env=if d=some t then some v else dQ t s.env:=by
 cases d with
 |none=>simp[St.put]
 |some d=>simp[St.put,dQ]
theorem zq{a:Act}{d:Option Nat}{x:LI3}{t:Nat}:(a.put d x).tmps.getD t Go.undef=if d=some t∧t<a.tmps.size then x else a.tmps.getD t Go.undef:=by
 cases d with
 |none=>simp[Act.put]
 |some d=>
  simp only[Act.put,a0d];simp only[<-aem,a8Q,a9o];by_cases h:d=t
  .subst h;by_cases h1:d<a.tmps.size
   .simp[h1]
   simp[h1]
  simp[h]
theorem H7{a:Act}{d:Option Nat}{x:LI3}:(a.put d x).tmps.size=a.tmps.size:=by cases d<;>simp[Act.put]
theorem jS{a:Act}{d:Option Nat}{x:LI3}:(a.put d x).defers=a.defers:=by cases d<;>rfl
section
variable {P:LI1} {call:aZ} {site:Nat->Bool} {fl nt:Nat} {ops:Array Oper} {o:Oper} {s s':St} {i:mF}
theorem uG.a0Y(h:uG P call site fl nt ops o s i s'):s'.ws=kD fl i.ws s.ws:=by
 obtain⟨_,⟨_,v,s1,_,rfl⟩|⟨_,rfl,rfl⟩⟩:=h
 .cases o.dst<;>rfl
 cases o.dst<;>rfl
theorem uG.dst(h:uG P call site fl nt ops o s i s'){d:Nat}(hd:o.dst=some d):d<nt:=by have:=h.1;simp only[NH,hd]at this;simpa using this
variable {M0:Mp} {h0:List HB} {w0:LI4} {M:Mp} {a:Act} {w:LI4}
theorem Rel.loc(hR:Rel M0 h0 w0 nt M s a w):∀j l,M (.l j)=some l->∀k' l',Key.l j≠k'->M k'=some l'->∀c∈aI l,c∉aI l':=by intro j l hj k' l' iD oH;obtain⟨b,h1,_⟩:=hR.val.ok _ _ hj trivial;refine hR.val.own _ _ _ _ b iD hj oH trivial h1 ?_;simp only[St.get,a0l]at h1;obtain⟨_,_,rfl⟩:=h1;rfl
theorem Rel.nh(hR:Rel M0 h0 w0 nt M s a w):M (.h s.heap.length)=none:=by
 cases h:M (.h s.heap.length)with
 |none=>rfl
 |some l=>have:=hR.val.has h;simp[St.get]at this
theorem Rel.nl(hR:Rel M0 h0 w0 nt M s a w):M (.l s.loc.length)=none:=by
 cases h:M (.l s.loc.length)with
 |none=>rfl
 |some l=>have:=hR.val.has h;simp[St.get]at this
theorem CY{h:List HB}{k:Key}(hk:(l9 h k).isSome=true):∃b,k=.h b∧b<h.length:=by
 cases k with
 |h b=>exact⟨b,rfl,by simpa[l9,St.get]using hk⟩
 |l j=>simp[l9,St.get]at hk
theorem Zj{h:List HB}{b:Nat}(hb:b<h.length):(l9 h (.h b)).isSome=true:=by simp[l9,St.get,hb]
theorem RZ(hR:Rel M0 h0 w0 nt M s a w){M':Mp}{C':Ct}{w':LI4}{ws:List Key}(hX:Ext M s.get w M' C' w' ws) :
  ∀d∈a.defers,∃k r,d=⟨.collected r,#[]⟩∧l9 h0 (.h k)=none∧(∃o,M' (.h k)=some (.obj r o))∧C' (.h k)=some .mark∧w'.heap[r]? = some (.deferred (some [])):=by
 intro d hd;obtain⟨k,r,h1,h2,⟨o,h3⟩,h4,h5⟩:=hR.marks d hd;have hn:Key.h k∉ws:=fun EY=>by have:=(hX.wrote _ EY).2 _ h4;cases this
 obtain⟨l',g1,g2⟩:=hX.IW _ _ h3;obtain⟨o',hl⟩:∃o',l'=.obj r o':=by
  cases l' with
  |cells ls=>exact g2.elim
  |obj r' o'=>cases g2.1;exact⟨o',rfl⟩
 refine⟨k,r,h1,h2,⟨o',by rw[g1,hl]⟩,by rw[hX.nN _ (by simp[h4]) hn,h4],?_⟩;rw[hX.frame r (a2R.1 h5).1 fun k' oH l0 qO hc=>?_,h5];obtain⟨b,hb,_⟩:=hR.val.ok _ _ qO trivial;exact hR.val.own k' (.h k) l0 (.obj r o) b (fun e=>hn (e▸oH)) qO h3 trivial hb ((hX.wrote _ oH).2 b hb) r hc (by simp[aI])
theorem Ob(hB:wJ M0 h0 w0)(hR:Rel M0 h0 w0 nt M s a w)(hS:uG P call site h0.length nt ops o s i s'){x:LI3}{w':LI4}(uX:KO M uU s w o i s' x w') :
  ∃M',Rel M0 h0 w0 nt M' s' (a.put o.dst x) w':=by
 obtain⟨v,M',he,hp⟩:=uX;refine⟨M',hp.val.sub fun k _=>.inl trivial,?_,?_,by rw[H7];exact hR.size,by rw[jS];exact RZ hR hp.ext,by rw[jS];exact hR.apart⟩
 .refine hR.ext.trans hp.ext (fun k l hk=>hB.val.has hk) (fun k hk EY=>?_) (fun k hk=>?_)
  .obtain⟨b,rfl,hb⟩:=CY hk;rw[hS.a0Y];refine a0V.2 ⟨b,oK.2 ?_,rfl⟩;rcases EY with h1|h1
   .obtain⟨b',h2,h3⟩:=a0V.1 h1;cases h3;exact .inl h2
   .exact .inr ⟨h1,hb⟩
  .rw[hS.a0Y]at hk;obtain⟨b,hb,rfl⟩:=a0V.1 hk;rcases oK.1 hb with h1|⟨h1,h2⟩
   .have:Key.h b∈s.ws.map .h:=a0V.2 ⟨b,h1,rfl⟩;exact⟨hR.ext.wsub _ this,.inl this⟩
   .exact⟨Zj h2,.inr h1⟩
 .intro t e hl;rw[he,zo]at hl;rw[zq];by_cases hd:o.dst=some t
  .rw[a0F hd]at hl;have:=hS.dst hd;have:=hR.size;rw[a0F ⟨hd,by omega⟩];cases hl;exact hp.er
  .rw[a0E hd]at hl;rw[a0E (fun h=>hd h.1)];exact(hR.env t e hl).mono hp.ext.IW hp.loc
theorem Rel.guard(hR:Rel M0 h0 w0 nt M s a w):MC M s.env a.tmps ops o:=fun _ _ d _ _ e he=>hR.env d e he
theorem H8(hC:iF P call)(hR:Rel M0 h0 w0 nt M s a w)(hS:uG P call site h0.length nt ops o s i s') :
  (∃x w',KO M uU s w o i s' x w') ∧
   ∀(r:Option Nat) (n:Nat) (Q:Exit->Act->LI4->Prop) (idx:Nat) (K:Act->LI4->Prop),ops[idx]? = some o ->
    (∀x w',KO M uU s w o i s' x w'->K (a.put o.dst x) w')->wpOpIn (nV r) n P ops Q idx K a w:=
 a0W hC hS hR.val hR.nh hR.nl hR.loc (hR.env.on _) hR.guard fun _ _ _=>trivial
theorem CZ{o:Oper}{os:List Oper}{s s':St}{is:List mF}(h:lD P call site fl nt ops (o::os) s=some (s',is)) :
  ∃i s1 is',uG P call site fl nt ops o s i s1∧lD P call site fl nt ops os s1=some (s',is')∧is=i::is':=by
 simp only[lD]at h;split at h
 .simp at h
 .rename_i hd;have hd:NH nt o=true:=by simpa using hd
  split at h
  .rename_i hw;split at h
   .rename_i v s1 i kW;split at h
    .rename_i s2 is2 hr;simp only[a0d,a0J]at h;obtain⟨rfl,rfl⟩:=h;exact⟨i,_,_,⟨hd,.inl ⟨hw,v,s1,kW,rfl⟩⟩,hr,rfl⟩
    .simp at h
   .simp at h
  .rename_i hw;split at h
   .rename_i s2 is2 hr;simp only[a0d,a0J]at h;obtain⟨rfl,rfl⟩:=h;exact⟨_,_,_,⟨hd,.inr ⟨hw,rfl,rfl⟩⟩,hr,rfl⟩
   .simp at h
  .simp at h
theorem a5F(hC:iF P call)(hB:wJ M0 h0 w0){r:Option Nat}{n:Nat}{Q:Exit->Act->LI4->Prop}:∀(os:List Oper) (k:Nat) (s s':St) (is:List mF) (M:Mp) (a:Act) (w:LI4),ops.toList.drop k=os ->
  lD P call site h0.length nt ops os s=some (s',is)->Rel M0 h0 w0 nt M s a w ->
  (∀M' a' w',Rel M0 h0 w0 nt M' s' a' w'->a'.defers=a.defers->Q .normal a' w')->wpOpsIn (nV r) n P ops Q (List.range' k os.length) a w
 | [],k,s,s',is,M,a,w,_,h,hR,hQ=>by simp only[lD,a0d,a0J]at h;obtain⟨rfl,rfl⟩:=h;exact hQ M a w hR rfl
 |o::os,k,s,s',is,M,a,w,hd,h,hR,hQ=>by
  obtain⟨i,s1,is',hS,hr,rfl⟩:=CZ h;have ho:ops[k]? = some o:=by have:=congrArg (fun l=>l[0]?) hd;simpa using this
  have Zg:ops.toList.drop (k+1)=os:=by rw[<-agp,hd];rfl
  simp only[a4K,List.range'_succ];rw[wpOpsIn_cons];refine(H8 hC hR hS).2 r n Q k _ ho fun x w' uX=>?_;obtain⟨M',FT⟩:=Ob hB hR hS uX;exact a5F hC hB os (k+1) s1 s' is' M' _ w' Zg hr FT fun M2 a2 w2 h2 hdf=>hQ M2 a2 w2 h2 (hdf.trans jS)
theorem a2W(hC:iF P call)(hB:wJ M0 h0 w0){r:Option Nat}{n:Nat}{Q:Exit->Act->LI4->Prop}{id:Nat}{s s':St}{is:List mF}{M:Mp}{a:Act}{w:LI4}
  (h:lD P call site h0.length nt ops ops.toList s=some (s',is)) (hR:Rel M0 h0 w0 nt M s a w)
  (hQ:∀M' a' w',Rel M0 h0 w0 nt M' s' a' w'->a'.defers=a.defers->Q .normal a' w'):(Code.region id ops false).wpIn (nV r) n P Q a w:=by
 refine wpIn_region ?_;have:=a5F (r:=r) (n:=n) (Q:=Q) hC hB ops.toList 0 s s' is M a w rfl h hR hQ;simpa[List.range_eq_range']using this
end
theorem Oc{i:Nat}:∀{xs l:List Nat},i∈NJ xs l->i∈xs∨i∈l
 | [],l,h=>.inr h
 |x::xs,l,h=>by
  simp only[NJ]at h;rcases Oc h with h1|h1
  .exact .inl (a3y _ h1)
  split at h1
  .exact .inr h1
  rcases a1Y.1 h1 with rfl|h2
  .exact .inl a3x
  exact .inr h2
theorem H9{acc:List (List Nat)}{i:Nat}:∀{es:List Edge} {l:List Nat},
  i∈es.foldl (fun l e=>if Region.binds .any e then NJ (e.on::acc.getD e.on []) l else l) l->i∈l∨∃e∈es,Region.binds .any e=true∧(i=e.on∨i∈acc.getD e.on [])
 | [],l,h=>.inl h
 |e::es,l,h=>by
  simp only[ae5]at h;rcases H9 h with h1|⟨e',h2,h3⟩
  .split at h1
   .rename_i hb;rcases Oc h1 with h2|h2
    .refine .inr ⟨e,a3x,hb,?_⟩;exact a1Y.1 h2
    .exact .inl h2
   .exact .inl h1
  .exact .inr ⟨e',a3y _ h2,h3⟩
theorem Zk{acc:List (List Nat)}{o:Oper}{i:Nat}(h:i∈Fz acc o):∃e∈o.after,Region.binds .any e=true∧(i=e.on∨i∈acc.getD e.on []):=by
 rcases H9 h with h1|⟨e,h2,h3⟩
 .cases h1
 exact⟨e,by simpa using h2,h3⟩
theorem He:∀(os:List Oper) (acc:List (List Nat)),∃t,ET os acc=acc++t
 | [],acc=>⟨[],by simp[ET]⟩
 |o::os,acc=>by obtain⟨t,ht⟩:=He os (acc++[Fz acc o]);exact⟨Fz acc o::t,by simp[ET,ht]⟩
theorem S9:∀(os:List Oper) (acc:List (List Nat)) (k:Nat) (o:Oper),os[k]? = some o ->
  (ET os acc)[acc.length+k]? = some (Fz ((ET os acc).take (acc.length+k)) o)
 | [],acc,k,o,h=>by simp at h
 |o'::os,acc,0,o,h=>by simp at h;subst h;obtain⟨t,ht⟩:=He os (acc++[Fz acc o']);simp[ET,ht]
 |o'::os,acc,k+1,o,h=>by
  have:=S9 os (acc++[Fz acc o']) k o (by simpa using h);simp only[ET];simp only[a1U,a4K,a5s]at this
  rwa [show acc.length+(0+1)+k=acc.length+(k+1) by omega]at this
def WM(ops:List Oper)(j:Nat):List Nat:=(ET ops []).getD j []
theorem a5G{ops:List Oper}{j i:Nat}{o:Oper}(hj:ops[j]? = some o)(h:i∈WM ops j):∃e∈o.after,Region.binds .any e=true∧(i=e.on∨(e.on<j∧i∈WM ops e.on)):=by
 have:=S9 ops [] j o hj;simp only[a5s,a3W]at this;unfold WM at h;rw[a3s,this]at h;simp only[a5e]at h;obtain⟨e,h1,h2,h3⟩:=Zk h;refine⟨e,h1,h2,h3.imp id fun h4=>?_⟩;rw[a3s,a4R]at h4;split at h4
 .rename_i aT;exact⟨aT,by unfold WM;rw[a3s];exact h4⟩
 simp at h4
def uH(D:Nat->Prop)(o:Oper):Prop:=∀e∈o.after,Region.binds .any e=true->D e.on
theorem Uy{ops:List Oper}{D:Nat->Prop}(hc:∀j o,ops[j]? = some o->D j->uH D o):∀(j:Nat) (o:Oper),ops[j]? = some o->uH D o->∀i∈WM ops j,D i:=by
 intro j
 induction j using Nat.strongRecOn with
 |_ j ih=>
  intro o ho hw i hi;obtain⟨e,h1,h2,h3⟩:=a5G ho hi;rcases h3 with rfl|⟨aT,h4⟩
  .exact hw e h1 h2
  have hd:=hw e h1 h2;have hl:j<ops.length:=(a0h.1 ho).1;have hoe:ops[e.on]? = some ops[e.on]:=a0q (by omega);exact ih e.on aT _ hoe (hc _ _ hoe hd) i h4
theorem yO{ops:List Oper}{i j:Nat}(Ai:i<j)(hj:j<ops.length)(hn:i∉WM ops j):(i,j)∈oD ops:=by simp only[oD,aep,a4P,a0V,a7t];exact⟨j,hj,i,⟨Ai,by simpa[WM]using hn⟩,rfl⟩
theorem WO{ops:List Oper}(h:nT ops=true){i:Nat}{o:Oper}(ho:ops[i]? = some o){e:Edge}(he:e∈o.after)(hb:Region.binds .any e=true):e.on<i:=by
 simp only[nT,a2O,a4W]at h;have:=h.1 (o,i) (by rw[a9O];simpa using ho)
 simp only[acJ]at this;have:=this e he;simpa[hb]using this
theorem Aj{ops:List Oper}(h:nT ops=true){i j:Nat}{a b:Oper}(hp:(i,j)∈oD ops)(ha:ops[i]? = some a)(hb:ops[j]? = some b):a.apart ops.toArray b=true∧b.apart ops.toArray a=true:=by simp only[nT,a2O,a4W]at h;have:=h.2 (i,j) hp;simpa[ha,hb]using this
theorem Si{xH:List mF}:∀{ps:List (Nat×Nat)},BA xH ps=true->∀{i j:Nat} {a b:mF},(i,j)∈ps->xH[i]? = some a->xH[j]? = some b->calm a b=true
 | [],_,i,j,a,b,h,_,_=>by cases h
 |(x,y)::r,hd,i,j,a,b,h,ha,hb=>by
  simp only[BA,a2O]at hd;rcases a1Y.1 h with h1|h1
  .cases h1;simpa[ha,hb]using hd.1
  exact Si hd.2 h1 ha hb
section
variable {P:LI1} {call:aZ} {site:Nat->Bool} {s s1:St} {o:Oper} {v:EV} {i:mF}
theorem a5H{t:LI2}{a:EV}{r:TV×mF}(h:loadT P t s a=some r):r.2.ws=[]:=by
 unfold loadT at h;split at h
 .split at h
  .simp only[a0l]at h;obtain⟨_,_,rfl⟩:=h;rfl
  simp at h
 .split at h
  .split at h
   .simp only[a0l]at h;obtain⟨_,_,rfl⟩:=h;rfl
   simp at h
  simp at h
 simp at h
theorem a9J{at_:Array LI2}{h0:List HB}{x:TV}{r:TV×mF}(h:YV P at_ h0 x=some r):r.2.ws=[]:=by
 unfold YV at h
 repeat' (split at h)
 all_goals first
  |(simp at h;done)
  |(simp only[a0d]at h;subst h;rfl)
theorem ain(h:pG P call site s o=some (v,s1,i))(hm:J6 o.op=false):i.ws=[]:=by
 unfold pG at h;split at h
 all_goals first
  |(simp at h;done)
  |(rename_i ho;rw[ho]at hm;simp[J6]at hm;done)
  |(simp only[a0l,a0J]at h;obtain⟨_,_,_,_,rfl⟩:=h;rfl)
  |(split at h<;>first|(simp at h;done)|(simp only[a0l,a0J,a0d]at h;first|(obtain⟨_,_,_,_,rfl⟩:=h;rfl)|(obtain⟨_,_,rfl⟩:=h;rfl)))
  |skip
 .split at h
  .split at h
   .simp only[a0d,a0J]at h;obtain⟨_,_,rfl⟩:=h;rfl
   simp at h
  simp at h
 .split at h
  .simp only[a0l,a0J]at h;obtain⟨r,hr,_,_,rfl⟩:=h;exact a5H hr
  simp at h
 .split at h
  .split at h
   .simp only[a0l,a0J]at h;obtain⟨_,_,_,_,rfl⟩:=h;rfl
   .simp only[a0l,a0J]at h;obtain⟨_,_,_,_,rfl⟩:=h;rfl
   simp at h
  simp at h
 .rename_i c ho;rw[ho]at hm;obtain⟨callee,args,ats⟩:=c;unfold NG at h;simp only at h;split at h
  .rename_i b az;simp only[a0l,a0J]at h;obtain⟨⟨v0,s0,i0⟩,hb,_,_,rfl⟩:=h;simp only[J6]at hm;unfold qW at hb;split at hb
   .simp only[a0l,a0J]at hb;obtain⟨r,hr,_,_,rfl⟩:=hb;exact a9J hr
   .simp at hm
   .simp at hm
   .simp only[a0l,a0J]at hb;obtain⟨r,hr,_,_,rfl⟩:=hb;rfl
   .simp only[a0l,a0J]at hb;obtain⟨r,hr,_,_,rfl⟩:=hb;rfl
   simp at hb
  .simp[J6]at hm
  simp at h
 .split at h
  .split at h
   .simp only[a0d,a0J]at h;obtain⟨_,_,rfl⟩:=h;rfl
   simp at h
  simp at h
 split at h
 .split at h
  .split at h
   .split at h
    .simp only[a0l,a0J]at h;obtain⟨_,_,_,_,rfl⟩:=h;rfl
    simp at h
   simp at h
  simp at h
 simp at h
theorem aio(h:pG P call site s o=some (v,s1,i))(hm:NM o.op=false):i.ts=[]∧i.ws=[]∧i.all=false:=by
 unfold pG at h;split at h
 all_goals first
  |(simp at h;done)
  |(rename_i ho;rw[ho]at hm;simp[NM]at hm;done)
  |(simp only[a0l,a0J]at h;obtain⟨_,_,_,_,rfl⟩:=h;exact⟨rfl,rfl,rfl⟩)
  |(split at h<;>first|(simp at h;done)|(simp only[a0l,a0J,a0d]at h;first|(obtain⟨_,_,_,_,rfl⟩:=h;exact⟨rfl,rfl,rfl⟩)|(obtain⟨_,_,rfl⟩:=h;exact⟨rfl,rfl,rfl⟩)))
  |skip
 .split at h
  .split at h
   .simp only[a0d,a0J]at h;obtain⟨_,_,rfl⟩:=h;exact⟨rfl,rfl,rfl⟩
   simp at h
  simp at h
 .split at h
  .split at h
   .simp only[a0l,a0J]at h;obtain⟨_,_,_,_,rfl⟩:=h;exact⟨rfl,rfl,rfl⟩
   .simp only[a0l,a0J]at h;obtain⟨_,_,_,_,rfl⟩:=h;exact⟨rfl,rfl,rfl⟩
   simp at h
  simp at h
 rename_i c ho;rw[ho]at hm;obtain⟨callee,args,ats⟩:=c;unfold NG at h;simp only at h;split at h
 .rename_i b az;simp only[a0l,a0J]at h;obtain⟨⟨v0,s0,i0⟩,hb,_,_,rfl⟩:=h;simp only[NM]at hm;unfold qW at hb;split at hb
  .simp at hm
  .simp at hm
  .simp at hm
  .simp only[a0l,a0J]at hb;obtain⟨r,hr,_,_,rfl⟩:=hb;exact⟨rfl,rfl,rfl⟩
  .simp only[a0l,a0J]at hb;obtain⟨r,hr,_,_,rfl⟩:=hb;exact⟨rfl,rfl,rfl⟩
  simp at hb
 .simp[NM]at hm
 simp at h
variable {fl nt:Nat} {ops:Array Oper} {s':St}
theorem uG.w(h:uG P call site fl nt ops o s i s')(hm:J6 o.op=false):i.ws=[]:=by
 obtain⟨_,⟨_,v,s1,h1,_⟩|⟨_,rfl,_⟩⟩:=h
 .exact ain h1 hm
 rfl
theorem uG.t(h:uG P call site fl nt ops o s i s')(hm:NM o.op=false):i.ts=[]∧i.ws=[]∧i.all=false:=by
 obtain⟨_,⟨_,v,s1,h1,_⟩|⟨_,rfl,_⟩⟩:=h
 .exact aio h1 hm
 exact⟨rfl,rfl,rfl⟩
theorem Oe{ws:List Key}{b:mF}(h:NP ws b=true){k:Key}(hk:k∈ws):¬oJ b k:=by
 simp only[NP,a4W]at h;have:=h k hk;simp only[a2O,a8W,ahs]at this;obtain⟨⟨h1,h2⟩,h3⟩:=this;rintro (h4|h4|⟨h4,h5⟩)
 .simp[h4]at h2
 .simp[h4]at h3
 simp[h4,h5]at h1
theorem a2X{xH:List mF}{ol:List Oper}(hd:BA xH (mY ol)=true){x y:Nat}{a b:Oper}{ia ib:mF}{sa sa' sb sb':St}(hp:(x,y)∈oD ol)(ha:ol[x]? = some a)(hb:ol[y]? = some b)
  (hia:xH[x]? = some ia) (hib:xH[y]? = some ib) (sta:uG P call site fl nt ops a sa ia sa') (stb:uG P call site fl nt ops b sb ib sb') :
  Bz a b=true∨((∀k∈ia.ws,¬oJ ib k)∧(∀k∈ib.ws,¬oJ ia k)):=by
 cases hsp:Bz a b
 case true=>exact .inl rfl
 right;by_cases hh:((J6 a.op&&NM b.op)||(NM a.op&&J6 b.op))=true
 .have hm:(x,y)∈mY ol:=by simp only[mY,a7t];refine⟨hp,?_⟩;simp only[ha,hb,hsp,aaT,ahK];exact hh
  have:=Si hd hm hia hib;simp only[calm,a2O]at this;exact⟨fun k hk=>Oe this.1 hk,fun k hk=>Oe this.2 hk⟩
 .simp only[a9w,a2O,ae6,not_and,aeo]at hh;constructor
  .intro k hk ht;have h1:J6 a.op=true:=by
    cases h2:J6 a.op with
    |true=>rfl
    |false=>rw[sta.w h2]at hk;cases hk
   obtain⟨t1,t2,t3⟩:=stb.t (hh.1 h1);rcases ht with h|h|⟨h,_⟩
   .rw[t1]at h;cases h
   .rw[t2]at h;cases h
   .rw[t3]at h;cases h
  .intro k hk ht;have h1:J6 b.op=true:=by
    cases h2:J6 b.op with
    |true=>rfl
    |false=>rw[stb.w h2]at hk;cases hk
   have h2:NM a.op=false:=by
    cases h3:NM a.op with
    |false=>rfl
    |true=>have:=hh.2 h3;rw[h1]at this;cases this
   obtain⟨t1,t2,t3⟩:=sta.t h2;rcases ht with h|h|⟨h,_⟩
   .rw[t1]at h;cases h
   .rw[t2]at h;cases h
   .rw[t3]at h;cases h
end
end Tw
