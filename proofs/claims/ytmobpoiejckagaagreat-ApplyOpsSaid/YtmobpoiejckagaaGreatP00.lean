/- Part 1 of a proof: ApplyOps -/
import Derived.RangeFuncLeaves
import Derived.OrdersIn
import Derived.Laws.CopyRow
import Derived.Laws.Rows
import Derived.Laws.Entries
set_option linter.unusedVariables false
set_option linter.unusedSimpArgs false
set_option linter.unusedSectionVars false
open Go.IntKind (i64)
noncomputable section
abbrev LI0:=List Int
abbrev LI1:=Go.Program
abbrev LI2:=Go.TypeId
abbrev LI3:=Go.Value
abbrev LI4:=Go.World
abbrev a0k:=@Option.some.injEq
abbrev a0n:=@List.getElem?_eq_some_iff
abbrev a0A:=@Option.map_eq_some_iff
abbrev a0D:=@List.getElem?_eq_getElem
abbrev a0E:=@List.getElem?_append_left
abbrev a0F:=@if_neg
abbrev a0I:=@if_pos
abbrev a0T:=@Prod.mk.injEq
abbrev a15:=@Nat.le_refl
abbrev a19:=@Option.map_some
abbrev a1a:=@List.getElem?_append_right
abbrev a1e:=@List.mem_map
abbrev a1j:=@List.getElem?_set_ne
abbrev a1n:=@decide_eq_true_eq
abbrev a1p:=@List.length_append
abbrev a1Z:=@List.getElem?_set_self
abbrev a2b:=@decide_eq_false_iff_not
abbrev a2c:=@Bool.and_eq_true
abbrev a2s:=@if_true
abbrev a2t:=@Array.getElem?_eq_some_iff
abbrev a2x:=@List.mem_cons
abbrev a2U:=@List.mem_singleton
abbrev a3p:=@List.getElem?_cons_zero
abbrev a3r:=@List.getD_eq_getElem?_getD
abbrev a3u:=@Bool.false_eq_true
abbrev a3v:=@List.mem_append
abbrev a3C:=@Nat.add_mul
abbrev a3E:=@List.mem_cons_self
abbrev a3U:=@if_false
abbrev a3Z:=@Nat.mul_le_mul_right
abbrev a4a:=@List.mem_cons_of_mem
abbrev a4b:=@List.length_singleton
abbrev a4u:=@List.length_drop
abbrev a4v:=@Nat.zero_add
abbrev a4w:=@Array.getElem?_eq_getElem
abbrev a4x:=@List.length_take
abbrev a4J:=@List.eq_nil_of_length_eq_zero
abbrev a4O:=@List.length_cons
abbrev a4Y:=@List.getElem?_eq_none
abbrev a4Z:=@List.map_append
abbrev a5c:=@List.length_map
abbrev a5f:=@List.mem_range
abbrev a5g:=@List.map_cons
abbrev a5h:=@Nat.lt_or_ge
abbrev a5i:=@List.getElem?_take
abbrev a5j:=@List.getElem?_drop
abbrev a5k:=@List.getElem?_set_self'
abbrev a5l:=@List.length_set
abbrev a5m:=@List.getElem?_map
abbrev a5n:=@List.nodup_cons
abbrev a5o:=@Option.bind_some
abbrev a5p:=@List.getElem_mem
abbrev a5q:=@List.mem_of_getElem?
abbrev a5r:=@List.prefix_rfl
abbrev a5s:=@List.all_eq_true
abbrev a5t:=@List.idxOf_lt_length_iff
abbrev a5u:=@Nat.zero_le
abbrev a5v:=@List.map_congr_left
abbrev a5w:=@Bool.eq_iff_iff
abbrev a5x:=@List.mem_iff_getElem
abbrev a5y:=@not_false_eq_true
abbrev a5z:=@Option.getD_some
abbrev a5C:=@List.length_nil
abbrev a5D:=@Int.toNat_natCast
abbrev a5I:=@List.mem_of_mem_drop
abbrev a5K:=@List.contains_eq_mem
abbrev a5M:=@Nat.le_trans
abbrev a5N:=@Option.isSome_iff_exists
abbrev a5O:=@List.mem_append_left
abbrev a5S:=@List.take_succ_eq_append_getElem
abbrev a5U:=@List.append_assoc
abbrev a5W:=@List.nodup_nil
abbrev a5X:=@List.drop_eq_getElem_cons
abbrev a5Z:=@List.append_nil
abbrev a6h:=@Int.mul_le_mul_of_nonneg_right
abbrev a6v:=@List.mem_filterMap
abbrev a6B:=@of_decide_eq_true
abbrev a6T:=@List.length_range
abbrev a6X:=@List.idxOf_eq_length
abbrev a6Z:=@beq_iff_eq
abbrev a7B:=@List.eq_nil_iff_forall_not_mem
abbrev a7P:=@List.perm_ext_iff_of_nodup
abbrev a7T:=@not_true
abbrev a8r:=@List.length_eq_zero_iff
abbrev a8J:=@Nat.min_eq_left
abbrev a8K:=@List.map_map
abbrev a8W:=@Array.getD_eq_getD_getElem?
abbrev a9j:=@List.length_replicate
abbrev a9k:=@Int.emod_eq_of_lt
abbrev a9m:=@Bool.not_eq_true'
abbrev a9n:=@List.mem_filter
abbrev a9B:=@List.getElem?_of_mem
abbrev a9C:=@List.getElem_idxOf
abbrev a9D:=@List.prefix_append
abbrev a9E:=@Int.mul_le_mul_of_nonneg_left
abbrev a9F:=@List.getElem_of_mem
abbrev a9G:=@List.nodup_append
abbrev a9H:=@List.mem_iff_getElem?
abbrev a9I:=@Array.getElem?_setIfInBounds
abbrev a9J:=@Nat.eq_of_beq_eq_true
abbrev a9K:=@List.mem_of_mem_take
abbrev a9L:=@List.getElem_map
abbrev a9M:=@Bool.not_true
abbrev a9N:=@List.take_of_length_le
abbrev a9O:=@List.filterMap_cons
abbrev a9P:=@Bool.or_eq_true
abbrev a9Q:=@Option.some.inj
abbrev a9R:=@Classical.choose_spec
abbrev a9S:=@List.length_filter_le
abbrev a9T:=@Nat.lt_of_lt_of_le
abbrev a9U:=@Nat.le_of_lt
abbrev a9Y:=@List.ext_getElem
abbrev aa0:=@Int.le_refl
abbrev aa2:=@List.mem_zipIdx_iff_getElem?
abbrev aa8:=@Bool.or_eq_false_iff
abbrev aaf:=@List.getElem?_cons_succ
abbrev aan:=@List.getElem?_set
abbrev aao:=@List.ext_getElem?
abbrev aap:=@List.idxOf_append
abbrev aas:=@Array.length_toList
abbrev aav:=@Nat.one_mul
abbrev aax:=@List.findIdx?_eq_some_iff_getElem
abbrev aay:=@Nat.add_assoc
abbrev aaz:=@Array.getElem?_append_left
abbrev aaD:=@List.getElem_inj
abbrev aaF:=@List.length_mergeSort
abbrev aaM:=@List.length_pos_iff
abbrev aaO:=@Bool.not_false
abbrev aaQ:=@List.drop_zero
abbrev abh:=@List.take_length
abbrev abj:=@Nat.eq_zero_or_pos
abbrev abk:=@List.map_nil
abbrev abA:=@Bool.not_eq_false'
abbrev abO:=@Array.getElem?_modify
abbrev abS:=@List.mem_append_right
abbrev acB:=@List.nil_append
abbrev acF:=@List.all_cons
abbrev acG:=@Int.add_mul_emod_self_left
abbrev acH:=@forall_congr'
abbrev acK:=@List.nodup_iff_pairwise_ne
abbrev acL:=@Classical.byContradiction
abbrev acN:=@List.pairwise_iff_getElem
abbrev acP:=@Int.mul_one
abbrev acQ:=@Nat.zero_mul
abbrev acW:=@Array.all_eq_true_iff_forall_mem
abbrev acX:=@Nat.le_of_not_lt
abbrev ad1:=@and_self
abbrev ad3:=@Prod.ext
abbrev ad4:=@List.filter_cons_of_neg
abbrev ad5:=@List.filter_cons_of_pos
abbrev adX:=@Bool.true_and
abbrev ae5:=@List.any_cons
abbrev aeb:=@List.foldl_cons
abbrev aeh:=@not_or
abbrev aem:=@List.range_succ
abbrev aeo:=@List.idxOf_cons
abbrev aep:=@List.Nodup.length_le_of_subset
abbrev aew:=@Nat.le_mul_of_pos_left
abbrev aex:=@Nat.add_zero
abbrev aeA:=@List.getElem?_toArray
abbrev aeB:=@Array.getElem?_toList
abbrev aeH:=@Int.mul_nonneg
abbrev aeI:=@Array.ext'
abbrev aeJ:=@Bool.not_eq_true
abbrev aeL:=@List.mem_flatMap
abbrev aeN:=@List.getElem?_modify
abbrev aeO:=@Int.ediv_le_self
abbrev aeP:=@List.nodup_range
abbrev aeQ:=@List.replicate_succ
abbrev aeR:=@List.getElem?_range
abbrev aeT:=@List.mergeSort_perm
abbrev aeU:=@List.length_zipWith
abbrev aeV:=@Int.natCast_mul
abbrev aeX:=@List.cons.injEq
abbrev aeZ:=@Int.ediv_nonneg
abbrev af4:=@decide_eq_false
abbrev af8:=@Bool.true_eq_false
abbrev afb:=@Int.lt_or_le
abbrev afd:=@Int.le_of_lt
abbrev afq:=@List.find?_eq_none
abbrev afr:=@List.take_take
abbrev afL:=@List.drop_drop
abbrev agr:=@Option.map_map
abbrev ags:=@List.getElem?_replicate
abbrev agG:=@List.pairwise_map
abbrev agO:=@Int.add_mul
abbrev agT:=@List.drop_of_length_le
abbrev ah4:=@Bool.false_or
abbrev aha:=@List.prefix_refl
abbrev ahe:=@List.any_eq_true
abbrev ahm:=@Bool.and_eq_false_iff
abbrev ahx:=@Nat.le_of_ble_eq_true
abbrev ahA:=@Nat.le_of_eq
abbrev ahU:=@Nat.sub_self
abbrev ahV:=@Int.emod_nonneg
abbrev ahW:=@Int.add_comm
abbrev ahX:=@List.getElem?_mapIdx
abbrev ahY:=@List.find?_cons
abbrev ahZ:=@Nat.zero_lt_one
abbrev ai0:=@Int.toNat_of_nonneg
abbrev ai1:=@Nat.succ_eq_add_one
abbrev ai2:=@beq_eq_false_iff_ne
abbrev ai3:=@List.drop_take
abbrev ai4:=@Int.mul_le_mul
abbrev ai5:=@Nat.mul_le_mul
abbrev ai6:=@Nat.mul_one
abbrev ai7:=@List.contains_cons
abbrev ai8:=@List.getElem_range
abbrev ai9:=@Bool.and_true
abbrev aia:=@Int.mul_assoc
abbrev aib:=@List.cons.inj
namespace Tw
open Go
inductive NK where
 |ptr|aP|map|fn|ifc
 deriving DecidableEq
inductive TV where
 |bool (b:Bool)
 |int (k:IntKind) (n:Int)
 |str (s:ByteArray)
 |nil (k:NK)
 |ptr (b off lim:Nat)
 |aP (b off len cap sz:Nat) (ex:Bool)
 |map (r:Nat)
 |fn (f:FuncId) (first cap:List TV)
 |lF (l:Nat)
 |agg (cs:List TV)
 |dJ (cs:List TV)
 |iter (b:Nat)
inductive EV where
 |val (v:TV)
 |loc (k off:Nat)
 |undef
 |ent (r j:Nat) (v:TV)
 |Fa (r j:Nat)
inductive BK where
 |ro|own|grow|last
 deriving DecidableEq
inductive HB where
 |cells (k:BK) (cs:List TV)
 |map (es:List (TV×TV))
 |nX (cs:List TV)
 |mark
 |dD (r n:Nat) (seen:List Nat)
 |loop (ready:Bool) (f:FuncId) (nt:Nat) (env:List (Nat×EV)) (ps:List Nat) (assign body:Code) (jW:Option Code)
structure St where
 env:List (Nat×EV)
 loc:List (List TV)
 heap:List HB
 ws:List Nat
inductive Key where
 |h (b:Nat)
 |l (k:Nat)
 deriving DecidableEq
def St.get(s:St):Key->Option HB
 |.h b=>s.heap[b]?
 |.l k=>(s.loc[k]?).map (.cells .own)
def TV.toC:TV->Option LI3
 |.bool b=>some (.bool b)
 |.int k n=>some (.int k n)
 |.str s=>some (.string s)
 |.nil .ptr=>some (.pointer none)
 |.nil .aP=>some (.slice none 0 0)
 |.nil .map=>some (.map none)
 |.nil .fn=>some .nilFunc
 |.nil .ifc=>some .nilIface
 |_=>none
def TV.UE:List TV->Option (List LI3)
 | []=>some []
 |c::cs=>match c.toC,TV.UE cs with
  |some v,some vs=>some (v::vs)
  |_,_=>none
def TV.zk:TV->Option LI3
 |.agg cs=>(TV.UE cs).map fun vs=>.agg vs.toArray
 |v=>v.toC
def TV.ofC:LI3->Option TV
 |.bool b=>some (.bool b)
 |.int k n=>some (.int k n)
 |.string s=>some (.str s)
 |.pointer none=>some (.nil .ptr)
 |.slice none 0 0=>some (.nil .aP)
 |.map none=>some (.nil .map)
 |.nilFunc=>some (.nil .fn)
 |.nilIface=>some (.nil .ifc)
 |_=>none
def TV.Di:List LI3->Option (List TV)
 | []=>some []
 |c::cs=>match TV.ofC c,TV.Di cs with
  |some v,some vs=>some (v::vs)
  |_,_=>none
def TV.WV:LI3->Option TV
 |.agg cs=>(TV.Di cs.toList).map .agg
 |v=>TV.ofC v
def TV.acD:TV->Bool
 |.bool _|.int _ _|.str _|.nil _=>true
 |_=>false
def TV.acE:TV->Bool
 |.agg cs=>cs.all TV.acD
 |v=>v.acD
def TV.flat:TV->Bool
 |.dJ vs=>vs.all TV.acE
 |v=>v.acE
def TV.cells:TV->List TV
 |.agg cs=>cs
 |v=>[v]
def jk:TV->Bool
 |.agg _|.dJ _=>false
 |_=>true
def aF{α:Type}(P:LI1):Sem α->Option α
 |.pure a=>some a
 |.program k=>aF P (k P)
 |.mark _ k=>aF P k
 |_=>none
def dR(t:Nat):List (Nat×EV)->Option EV
 | []=>none
 |(k,v)::r=>if k=t then some v else dR t r
def St.put(s:St)(dst:Option Nat)(v:EV):St:=
 match dst with
 |some d=>{ s with env:=(d,v)::s.env }
 |none=>s
def pick(live:List Nat)(env:List (Nat×EV)):List (Nat×EV):=
 match live with
 | []=>[]
 |t::r=>match dR t env with
  |some v=>(t,v)::pick r env
  |none=>pick r env
def Jk(env:List (Nat×EV)):Operand->Option EV
 |.tmp t=>dR t env
 |.const v=>(TV.WV v).map .val
 |.func f=>some (.val (.fn f [] []))
 |.global _=>none
def rH(env:List (Nat×EV))(x:Operand):Option TV:=
 match Jk env x with
 |some (.val v)=>some v
 |_=>none
def UF(env:List (Nat×EV)):List Operand->Option (List TV)
 | []=>some []
 |x::xs=>match rH env x,UF env xs with
  |some v,some vs=>some (v::vs)
  |_,_=>none
def X3(env:List (Nat×EV)):List (Nat×Operand)->Option (List (Nat×TV))
 | []=>some []
 |(i,x)::xs=>match rH env x,X3 env xs with
  |some v,some vs=>some ((i,v)::vs)
  |_,_=>none
structure ni where
 all:Bool
 ts:List Key
 ws:List Key
def cZ:ni:=⟨false,[],[]⟩
def yA(k:Key):ni:=⟨false,[k],[]⟩
def iE(k:List Key):ni:=⟨false,k,[]⟩
def qo(k:Key):ni:=⟨false,[k],[k]⟩
def sub(cs:List TV)(off n:Nat):Option (List TV):=
 if off+n<=cs.length then some ((cs.drop off).take n)else none
def wZ(cs:List TV)(off:Nat)(new:List TV):Option (List TV):=
 if off+new.length<=cs.length then some (cs.take off++new++cs.drop (off+new.length))else none
def xg(P:LI1)(t:LI2):Option Bool:=
 match P.underlying t with
 |some (.struct _)|some (.array _ _)=>some true
 |some _=>some false
 |none=>none
def dI(P:LI1)(t:LI2):Option Nat:=(P.info? t).map (·.size)
def uU(P:LI1)(t:LI2)(cs:List TV)(off:Nat):Option TV:=
 match xg P t,dI P t with
 |some true,some n=>(sub cs off n).map .agg
 |some false,some n=>if n=1 then cs[off]? else none
 |_,_=>none
def KR(P:LI1)(t:LI2):Option (List TV):=
 match P.info? t with
 |some i=>match i.zero with
  |some z=>(TV.WV z).map TV.cells
  |none=>none
 |none=>none
def aX(h:List HB)(b:Nat):Option (List TV):=
 match h[b]? with
 |some (.cells _ cs)=>some cs
 |_=>none
def ny(h:List HB)(b lim:Nat):Option (List TV):=
 match h[b]? with
 |some (.cells k cs)=>if k=.last∧lim≠cs.length then none else some cs
 |_=>none
def Fb(floor:Nat)(b:Nat)(ws:List Nat):List Nat:=
 if b<floor then(if ws.contains b then ws else b::ws)else ws
def kN(floor:Nat):List Key->List Nat->List Nat
 | [],ws=>ws
 |.h b::r,ws=>kN floor r (Fb floor b ws)
 |.l _::r,ws=>kN floor r ws
def AV(k:BK)(whole:Bool):Option BK:=
 match k,whole with
 |.own,_=>some .own
 |.grow,true=>some .last
 |.last,true=>some .last
 |_,_=>none
def UG(h:List HB)(b off lim:Nat)(new:List TV):Option (List HB):=
 match h[b]? with
 |some (.cells k cs)=>match AV k (lim==cs.length)with
  |some k'=>(wZ cs off new).map fun cs'=>h.set b (.cells k' cs')
  |none=>none
 |_=>none
def BK.more:BK->BK
 |.last=>.last
 |_=>.grow
def tK(place:Nat->Option (Nat×Nat)):List TV->List (Nat×TV)->Option (List TV)
 |cs,[]=>some cs
 |cs,(i,v)::r=>match place i with
  |some (off,size)=>if v.cells.length=size then(match wZ cs off v.cells with|some cs'=>tK place cs' r|none=>none)else none
  |none=>none
def UH(P:LI1)(fs:Array Field)(i:Nat):Option (Nat×Nat):=
 match fs[i]? with
 |some f=>(dI P f.type).map fun n=>(f.offset,n)
 |none=>none
def Dj(P:LI1)(fs:List Field):Bool:=fs.all fun f=>(dI P f.type).isSome
def O8(P:LI1)(t:LI2)(parts:List (Nat×TV)):Option TV:=
 match KR P t,P.underlying t with
 |some z,some (.struct fs)=>if Dj P fs.toList then(tK (UH P fs) z parts).map .agg else none
 |some z,some (.array _ e)=>match dI P e with
  |some n=>(tK (fun i=>some (i*n,n)) z parts).map .agg
  |none=>none
 |_,_=>none
def times(z:List TV):Nat->List TV
 | 0=>[]
 |n+1=>z++times z n
def jU(P:LI1)(t:LI2):Option (LI2×Nat):=
 match P.underlying t with
 |some (.slice e)=>match dI P e with
  |some n=>if n=0 then none else some (e,n)
  |none=>none
 |_=>none
def rJ(site:Bool)(s:St)(cs:List TV):EV×St:=
 if site then(.val (.ptr s.heap.length 0 cs.length),{ s with heap:=s.heap++[.cells .own cs] })
 else(.loc s.loc.length 0,{ s with loc:=s.loc++[cs] })
def loadT(P:LI1)(t:LI2)(s:St):EV->Option (TV×ni)
 |.loc k off=>match s.loc[k]? with
  |some cs=>(uU P t cs off).map fun v=>(v,yA (.l k))
  |none=>none
 |.val (.ptr b off lim)=>match ny s.heap b lim,dI P t with
  |some cs,some n=>if off+n<=lim then(uU P t cs off).map fun v=>(v,yA (.h b))else none
  |_,_=>none
 |_=>none
def storeT(P:LI1)(t:LI2)(s:St)(a:EV)(v:TV):Option (St×ni):=
 match dI P t with
 |some n=>
  if v.cells.length=n∧v.cells.all jk=true then
   match a with
   |.loc k off=>match s.loc[k]? with
    |some cs=>(wZ cs off v.cells).map fun cs'=>({ s with loc:=s.loc.set k cs' },qo (.l k))
    |none=>none
   |.val (.ptr b off lim)=>if off+n<=lim then(UG s.heap b off lim v.cells).map fun h=>({ s with heap:=h },qo (.h b))else none
   |_=>none
  else none
 |none=>none
def Rk(o:Nat):EV->Option EV
 |.loc k off=>some (.loc k (off+o))
 |.val (.ptr b off lim)=>if off+o<=lim then some (.val (.ptr b (off+o) lim))else none
 |_=>none
def H6(P:LI1)(t:LI2)(i:Nat):Option Nat:=
 match P.underlying t with
 |some (.struct fs)=>match fs[i]? with
  |some f=>match dI P f.type with
   |some n=>if n=0 then none else some f.offset
   |none=>none
  |none=>none
 |_=>none
def idx(n:Nat):TV->Option Nat
 |.int _ i=>if 0<=i∧i<n then some i.toNat else none
 |_=>none
def nC(P:LI1)(t:LI2)(x:EV)(i:TV):Option EV:=
 match P.underlying t with
 |some (.slice e)=>match dI P e,x with
  |some n,.val (.aP b off len cap sz _)=>if n=sz then(idx len i).map fun j=>.val (.ptr b (off+j*n) (off+cap*n))else none
  |_,_=>none
 |some (.array len e)=>match dI P e with
  |some n=>match idx len i with
   |some j=>Rk (j*n) x
   |none=>none
  |none=>none
 |_=>none
def Jp(P:LI1)(t:LI2)(x i:TV):Option TV:=
 match P.underlying t,x with
 |some (.array len e),.agg cs=>match dI P e,idx len i with
  |some n,some j=>uU P e cs (j*n)
  |_,_=>none
 |some .string,.str s=>match idx s.size i with
  |some j=>(s[j]?).map fun b=>.int .u8 b.toNat
  |none=>none
 |_,_=>none
def rM(n:Nat):TV->Option Nat
 |.int _ i=>if 0<=i∧i<=n then some i.toNat else none
 |_=>none
def jJ(n d:Nat):Option TV->Option Nat
 |none=>some d
 |some v=>rM n v
def rO(P:LI1)(t:LI2)(x:TV)(lo hi mx:Option TV):Option TV:=
 match P.underlying t,x with
 |some .string,.str s=>match mx with
  |some _=>none
  |none=>match jJ s.size s.size hi with
   |some h=>match jJ h 0 lo with
    |some l=>some (.str (s.extract l h))
    |none=>none
   |none=>none
 |some (.slice e),.aP b off len cap sz ex=>match dI P e with
  |some n=>
   if n=sz then
    match mx with
    |some m=>match rM cap m,hi with
     |some m,some h=>match rM (min m len) h with
      |some h=>match jJ h 0 lo with
       |some l=>some (.aP b (off+l*n) (h-l) (m-l) sz true)
       |none=>none
      |none=>none
     |_,_=>none
    |none=>match jJ len len hi with
     |some h=>match jJ h 0 lo with
      |some l=>some (.aP b (off+l*n) (h-l) (cap-l) sz ex)
      |none=>none
     |none=>none
   else none
  |none=>none
 |some (.slice e),.nil .aP=>match dI P e,jJ 0 0 mx,jJ 0 0 hi,jJ 0 0 lo with
  |some _,some _,some _,some _=>if mx.isSome&&hi.isNone then none else some (.nil .aP)
  |_,_,_,_=>none
 |_,_=>none
def qU(P:LI1)(t:LI2)(x:EV)(lo hi mx:Option TV):Option TV:=
 match P.underlying t,x with
 |some (.array n e),.val (.ptr b off lim)=>match dI P e with
  |some size=>
   if size=0∨lim<off+n*size∨2^24<n then none else
   match jJ n n mx with
   |some m=>match jJ m n hi with
    |some h=>match jJ h 0 lo with
     |some l=>if mx.isSome&&hi.isNone then none else some (.aP b (off+l*size) (h-l) (m-l) size true)
     |none=>none
    |none=>none
   |none=>none
  |none=>none
 |_,_=>none
def fM(size:Nat)(h:List HB):TV->Option (Nat×List TV)
 |.nil .aP=>some (0,[])
 |.aP b off len cap sz _=>if sz=size then(if len=0 then some (0,[])else match ny h b (off+cap*sz)with|some cs=>(sub cs off (len*size)).map fun l=>(len,l)|none=>none)else none
 |.str s=>if size=1 then some (s.size,s.data.toList.map fun b=>.int .u8 b.toNat)else none
 |_=>none
def dN:TV->List Key
 |.aP b _ _ _ _ _=>[.h b]
 |_=>[]
def UJ(P:LI1)(t:LI2):Bool:=
 match P.underlying t with
 |some (.int _)=>true
 |_=>false
def a5A(i:TypeInfo):Bool:=
 match i.zero with
 |some z=>z.cells.size==i.size
 |none=>false
def uM(P:LI1)(e:LI2)(n:Nat):Bool:=
 match P.info? e with
 |some i=>decide (n*i.bytes<=2^40)&&decide (n<=2^40)&&decide (i.bytes<=2^20)&&decide (0<i.bytes)&&a5A i
 |none=>false
def kU(P:LI1)(at_:Array LI2)(s:St)(d x:TV):Option (TV×St×ni):=
 match at_[0]?,at_[1]? with
 |some st,some xt=>
  if UJ P xt||(P.underlying xt).isNone then none else
  match jU P st with
  |some (e,size)=>match fM size s.heap x with
   |some (n,new)=>
    if n=0 then(match d with
     |.nil .aP=>some (d,s,iE (dN x))
     |.aP _ _ _ _ sz _=>if sz=size then some (d,s,iE (dN x))else none
     |_=>none)
    else if new.length=n*size then
     match d with
     |.nil .aP=>if uM P e n then some (.aP s.heap.length 0 n n size false,{ s with heap:=s.heap++[.cells .own new] },iE (dN x))else none
     |.aP b off len cap sz ex=>
      if sz=size then
       if len+n<=cap then
        (UG s.heap b (off+len*size) (off+cap*size) new).map fun h=>(.aP b off (len+n) cap sz ex,{ s with heap:=h },⟨false,.h b::dN x,[.h b]⟩)
       else if uM P e (len+n)then
        if ex then
         (fM size s.heap (.aP b off len cap sz ex)).map fun r=>(.aP s.heap.length 0 (len+n) (len+n) size false,{ s with heap:=s.heap++[.cells .own (r.2++new)] },iE (.h b::dN x))
        else match s.heap[b]? with
         |some (.cells k cs)=>
          if k=.ro∨off≠0∨len≠cap∨cs.length≠len*size∨len=0 then none
          else some (.aP b 0 (len+n) (len+n) size false,{ s with heap:=s.heap.set b (.cells k.more (cs++new))},⟨false,.h b::dN x,[.h b]⟩)
         |_=>none
       else none
      else none
     |_=>none
    else none
   |none=>none
  |none=>none
 |_,_=>none
def isStr:TV->Bool
 |.str _=>true
 |_=>false
def H7(P:LI1)(at_:Array LI2)(s:St)(d x:TV):Option (TV×St×ni):=
 match at_[0]? with
 |some st=>match jU P st with
  |some (_,size)=>match fM size s.heap x with
   |some (n,new)=>
    if new.length=n*size∧isStr x=false then
     match d with
     |.nil .aP=>some (.int .i64 0,s,iE (dN x))
     |.aP b off len cap sz _=>
      if sz=size then
       if min n len=0 then some (.int .i64 0,s,iE (dN x))
       else(UG s.heap b off (off+cap*size) (new.take (min n len*size))).map fun h=>(.int .i64 (min n len:Nat),{ s with heap:=h },⟨false,.h b::dN x,[.h b]⟩)
      else none
     |_=>none
    else none
   |none=>none
  |none=>none
 |none=>none
def Zt(P:LI1)(at_:Array LI2)(h:List HB)(x:TV):Option (TV×ni):=
 match at_[0]? with
 |some t=>match P.underlying t,x with
  |some .string,.str s=>some (.int .i64 s.size,cZ)
  |some (.array n _),_=>some (.int .i64 n,cZ)
  |some (.slice _),.aP _ _ len _ _ _=>some (.int .i64 len,cZ)
  |some (.slice _),.nil .aP=>some (.int .i64 0,cZ)
  |some (.map _ _),.nil .map=>some (.int .i64 0,cZ)
  |some (.map _ _),.map r=>match h[r]? with
   |some (.map es)=>some (.int .i64 es.length,yA (.h r))
   |_=>none
  |_,_=>none
 |none=>none
def CZ:List TV->Option (List LI3)
 | []=>some []
 |c::cs=>match c.zk,CZ cs with
  |some v,some vs=>some (v::vs)
  |_,_=>none
def X4(P:LI1)(kt:LI2)(k:LI3)(ks:List LI3)(r:Option Nat):Bool:=
 match aF P (underlying kt)with
 |some kind=>(match r with|some j=>decide (j<ks.length)|none=>true)&&((ks.zipIdx.all fun(x,i)=>Instr.sameNow kind k x==some (some i==r)) ||
   (ks.zipIdx.all fun(x,i)=>Instr.sameNow kind k x==none&&aF P (Op.equal kt k x)==some (some i==r)))
 |none=>false
def FC(P:LI1)(kt:LI2)(k:LI3)(es:List (TV×TV)):Option (Option Nat):=
 match CZ (es.map (·.1))with
 |some ks=>match aF P (do Instr.checkKey es.isEmpty 10000 kt k;Instr.findKey kt k (ks.map fun x=>⟨x,.bool false,0⟩))with
  |some r=>if X4 P kt k ks (r.map (·.1))then some (r.map (·.1))else none
  |none=>none
 |none=>none
def KT:TV->Option NK
 |.ptr _ _ _=>some .ptr
 |.aP _ _ _ _ _ _=>some .aP
 |.map _=>some .map
 |.fn _ _ _|.lF _=>some .fn
 |_=>none
def Zu:TV->Option NK
 |.nil k=>some k
 |_=>none
def KU(P:LI1)(t:LI2):Option NK:=
 match P.underlying t with
 |some (.pointer _)=>some .ptr
 |some (.slice _)=>some .aP
 |some (.map _ _)=>some .map
 |some (.func _ _ _)=>some .fn
 |_=>none
def Dk(P:LI1)(t:LI2)(x y:TV):Bool:=
 match KU P t with
 |some k=>(Zu x==some k&&KT y==some k)||(KT x==some k&&Zu y==some k)
 |none=>false
def tZ(P:LI1)(op:BinOp)(t:LI2)(x y:Operand)(a b:TV):Option TV:=
 match a.zk,b.zk with
 |some u,some v=>match aF P (do eqGuard op t x y u v;binOp op t u v)with
  |some r=>TV.WV r
  |none=>none
 |_,_=>if Dk P t a b then(match op with
  |.eql=>some (.bool false)
  |.neq=>some (.bool true)
  |_=>none)else none
def unT(P:LI1)(op:UnOp)(a:TV):Option TV:=
 match a.zk with
 |some u=>match aF P (Op.unary op u)with
  |some r=>TV.WV r
  |none=>none
 |none=>none
def S9(P:LI1)(src dst:LI2)(a:TV):Option TV:=
 match a.zk with
 |some u=>match aF P (convert src dst u)with
  |some r=>TV.WV r
  |none=>none
 |none=>none
def Ew(P:LI1)(mx:Bool)(at_:Array LI2)(t:LI2)(az:List TV):Option TV:=
 match CZ az with
 |some vs=>match aF P (if mx then Builtin.max_ at_ t vs.toArray else Builtin.min_ at_ t vs.toArray)with
  |some r=>TV.WV r
  |none=>none
 |none=>none
def O9(P:LI1)(t:LI2)(x:TV)(i:Nat):Option TV:=
 match P.underlying t,x with
 |some (.struct fs),.agg cs=>match fs[i]? with
  |some f=>uU P f.type cs f.offset
  |none=>none
 |_,_=>none
def qV(P:LI1)(t:LI2)(len:Nat)(s:St)(ps:List (Nat×TV)):Option (TV×St):=
 match jU P t with
 |some (e,n)=>if len*n<=2^24∧ps.all (fun p=>p.2.cells.all jk)=true then
   match KR P e with
   |some z=>if z.length=n then
     match tK (fun i=>some (i*n,n)) (times z len) ps with
     |some cs=>some (.aP s.heap.length 0 len len n true,{ s with heap:=s.heap++[.cells .own cs] })
     |none=>none
    else none
   |none=>none
  else none
 |none=>none
def a3l:TV->Option Nat
 |.int _ i=>if 0<=i∧i<=2^40 then some i.toNat else none
 |_=>none
def uf(P:LI1)(t:LI2)(s:St)(l c:TV):Option (TV×St):=
 match jU P t,a3l l,a3l c with
 |some (e,n),some l,some c=>
  if l<=c∧uM P e c then
   match KR P e with
   |some z=>if z.length=n then some (.aP s.heap.length 0 l c n true,{ s with heap:=s.heap++[.cells .own (times z c)] })else none
   |none=>none
  else none
 |_,_,_=>none
def iD(P:LI1)(t:LI2)(h:List HB)(m k:TV)(ok:Bool):Option TV:=
 match P.underlying t,k.zk with
 |some (.map kt e),some kv=>
  let es:=match m with
   |.nil .map=>some []
   |.map r=>match h[r]? with
    |some (.map es)=>some es
    |_=>none
   |_=>none
  match es with
  |some es=>match FC P kt kv es with
   |some (some i)=>match es[i]? with
    |some (_,v)=>some (if ok then .dJ [v,.bool true]else v)
    |none=>none
   |some none=>match P.info? e with
    |some i=>match i.zero with
     |some z=>(TV.WV z).map fun z=>if ok then .dJ [z,.bool false]else z
     |none=>none
    |none=>none
   |none=>none
  |none=>none
 |_,_=>none
def yH(P:LI1)(t:LI2)(s:St)(m k v:TV):Option (St×ni):=
 match P.underlying t,k.zk,m with
 |some (.map kt _),some kv,.map r=>match s.heap[r]?,aF P (Instr.checkKey false 10000 kt kv)with
  |some (.map es),some ()=>match FC P kt kv es with
   |some (some i)=>match es[i]? with
    |some (old,_)=>match old.zk with
     |some ov=>if Instr.sameBits 10000 ov kv then some ({ s with heap:=s.heap.set r (.map (es.set i (k,v))) },qo (.h r))else none
     |none=>none
    |none=>none
   |some none=>some ({ s with heap:=s.heap.set r (.map (es++[(k,v)])) },qo (.h r))
   |none=>none
  |_,_=>none
 |_,_,_=>none
def AX(P:LI1)(t:LI2)(s:St)(m k:TV):Option (EV×St×ni):=
 match P.underlying t,k.zk,m with
 |some (.map kt e),some kv,.map r=>match s.heap[r]?,aF P (Instr.checkKey false 10000 kt kv)with
  |some (.map es),some ()=>match FC P kt kv es with
   |some (some i)=>match es[i]? with
    |some (old,v)=>match old.zk with
     |some ov=>if Instr.sameBits 10000 ov kv then some (.ent r i v,{ s with heap:=s.heap.set r (.map (es.set i (k,v))) },qo (.h r))else none
     |none=>none
    |none=>none
   |some none=>match P.info? e with
    |some i=>match i.zero with
     |some z=>match TV.WV z with
      |some z=>some (.ent r es.length z,{ s with heap:=s.heap.set r (.map (es++[(k,z)])) },qo (.h r))
      |none=>none
     |none=>none
    |none=>none
   |none=>none
  |_,_=>none
 |_,_,_=>none
def a18(P:LI1)(t:LI2)(h h':List HB)(m k:TV):Bool:=
 match iD P t h m k false,iD P t h' m k false with
 |some (.int a x),some (.int b y)=>decide (a=b)&&x==y
 |_,_=>false
def Dl(P:LI1)(t:LI2)(s:St)(m k:TV):Option (EV×St×ni):=
 match AX P t s m k with
 |some (e,s1,i)=>if a18 P t s.heap s1.heap m k then some (e,s1,i)else none
 |none=>none
def H8(s:St)(m:TV)(e:EV)(v:TV):Option (St×ni):=
 match m,e with
 |.map r,.Fa r' j=>if r=r' then match s.heap[r]? with
  |some (.map es)=>match es[j]? with
   |some (k,_)=>some ({ s with heap:=s.heap.set r (.map (es.set j (k,v))) },qo (.h r))
   |none=>none
  |_=>none
  else none
 |_,_=>none
def zG(e:EV)(i:Nat):Option EV:=
 match e with
 |.val (.dJ vs)=>(vs[i]?).map .val
 |.ent r j v=>match i with
  | 0=>some (.val v)
  | 1=>some (.Fa r j)
  |_=>none
 |_=>none
abbrev bn:=TV->List TV->List HB->Option (TV×List HB×List Nat)
def rP(P:LI1)(b:Builtin)(at_:Array LI2)(t:LI2)(s:St)(az:List TV):Option (TV×St×ni):=
 match b,az with
 |.len,[x]=>(Zt P at_ s.heap x).map fun(v,i)=>(v,s,i)
 |.append,[d,x]=>kU P at_ s d x
 |.copy,[d,x]=>H7 P at_ s d x
 |.min,az=>(Ew P false at_ t az).map fun v=>(v,s,cZ)
 |.max,az=>(Ew P true at_ t az).map fun v=>(v,s,cZ)
 |_,_=>none
def X5(env:List (Nat×EV)):Option Operand->Option (Option TV)
 |none=>some none
 |some x=>match rH env x with
  |some v=>some (some v)
  |none=>none
def Oa(P:LI1)(call:bn)(s:St)(c:Call)(t:LI2):Option (EV×St×ni):=
 match c.callee,UF s.env c.args.toList with
 |.builtin b,some az=>(rP P b c.argTypes t s az).map fun(v,s,i)=>(.val v,s,i)
 |.value f,some az=>match rH s.env f with
  |some fv=>match call fv az s.heap with
   |some (v,h,ws)=>some (.val v,{ s with heap:=h },⟨true,[],ws.map .h⟩)
   |none=>none
  |none=>none
 |_,_=>none
def qp(P:LI1)(call:bn)(site:Nat->Bool)(s:St)(o:Oper):Option (EV×St×ni):=
 match o.op with
 |.move x|.assign x=>(Jk s.env x).map fun v=>(v,s,cZ)
 |.pick c a b=>match rH s.env c with
  |some (.bool t)=>(Jk s.env (if t then a else b)).map fun v=>(v,s,cZ)
  |_=>none
 |.alloc e=>(KR P e).map fun z=>let (v,s):=rJ (site (o.dst.getD 0)) s z;(v,s,cZ)
 |.box _ x=>match rH s.env x with
  |some v=>if v.cells.all jk then let (v,s):=rJ (site (o.dst.getD 0)) s v.cells;some (v,s,cZ)else none
  |none=>none
 |.build t ps=>match X3 s.env ps.toList with
  |some ps=>(O8 P t ps).map fun v=>(.val v,s,cZ)
  |none=>none
 |.buildSlice t len ps=>match X3 s.env ps.toList with
  |some ps=>(qV P t len s ps).map fun(v,s)=>(.val v,s,cZ)
  |none=>none
 |.load t a=>match Jk s.env a with
  |some a=>(loadT P t s a).map fun(v,i)=>(.val v,s,i)
  |none=>none
 |.store t a x=>match Jk s.env a,rH s.env x with
  |some a,some v=>(storeT P t s a v).map fun(s,i)=>(.undef,s,i)
  |_,_=>none
 |.nilCheck x=>match Jk s.env x with
  |some (.loc k o)=>some (.loc k o,s,cZ)
  |some (.val (.ptr b o lim))=>some (.val (.ptr b o lim),s,cZ)
  |some (.val (.fn f a b))=>some (.val (.fn f a b),s,cZ)
  |some (.val (.lF l))=>some (.val (.lF l),s,cZ)
  |_=>none
 |.binOp op t x y _=>match rH s.env x,rH s.env y with
  |some a,some b=>(tZ P op t x y a b).map fun v=>(.val v,s,cZ)
  |_,_=>none
 |.unOp op _ x=>match rH s.env x with
  |some a=>(unT P op a).map fun v=>(.val v,s,cZ)
  |none=>none
 |.convert src dst x=>match rH s.env x with
  |some a=>(S9 P src dst a).map fun v=>(.val v,s,cZ)
  |none=>none
 |.makeFunc (.func f) first cap=>match UF s.env first.toList,UF s.env cap.toList with
  |some a,some b=>some (.val (.fn f a b),s,cZ)
  |_,_=>none
 |.makeMap t r=>match X5 s.env r,P.underlying t with
  |some none,_=>some (.val (.map s.heap.length),{ s with heap:=s.heap++[.map []] },cZ)
  |some (some (.int _ _)),some (.map _ _)=>some (.val (.map s.heap.length),{ s with heap:=s.heap++[.map []] },cZ)
  |_,_=>none
 |.makeSlice t l c=>match rH s.env l,rH s.env c with
  |some l,some c=>(uf P t s l c).map fun(v,s)=>(.val v,s,cZ)
  |_,_=>none
 |.slice t x lo hi mx=>match Jk s.env x,X5 s.env lo,X5 s.env hi,X5 s.env mx with
  |some x,some lo,some hi,some mx=>match P.underlying t,x with
   |some (.array _ _),x=>(qU P t x lo hi mx).map fun v=>(.val v,s,cZ)
   |_,.val x=>(rO P t x lo hi mx).map fun v=>(.val v,s,cZ)
   |_,_=>none
  |_,_,_,_=>none
 |.fieldAddr t x f=>match Jk s.env x,H6 P t f with
  |some a,some n=>(Rk n a).map fun v=>(v,s,cZ)
  |_,_=>none
 |.field t x f=>match rH s.env x with
  |some a=>(O9 P t a f).map fun v=>(.val v,s,cZ)
  |none=>none
 |.indexAddr t x i=>match Jk s.env x,rH s.env i with
  |some a,some i=>(nC P t a i).map fun v=>(v,s,cZ)
  |_,_=>none
 |.index t x i=>match rH s.env x,rH s.env i with
  |some a,some i=>(Jp P t a i).map fun v=>(.val v,s,cZ)
  |_,_=>none
 |.lookup t m k ok=>match rH s.env m,rH s.env k with
  |some m,some k=>(iD P t s.heap m k ok).map fun v=>(.val v,s,iE (match m with|.map r=>[.h r] |_=>[]))
  |_,_=>none
 |.mapUpdate t m k x|.insert t m k x=>match rH s.env m,rH s.env k,rH s.env x with
  |some m,some k,some v=>(yH P t s m k v).map fun(s,i)=>(.undef,s,i)
  |_,_,_=>none
 |.mapEntry t m k=>match rH s.env m,rH s.env k with
  |some m,some k=>Dl P t s m k
  |_,_=>none
 |.entryStore _ m e x=>match rH s.env m,Jk s.env e,rH s.env x with
  |some m,some e,some v=>(H8 s m e v).map fun(s,i)=>(.undef,s,i)
  |_,_,_=>none
 |.extract t i=>match Jk s.env t with
  |some e=>(zG e i).map fun v=>(v,s,cZ)
  |none=>none
 |.call c=>Oa P call s c o.type
 |.range t x=>match rH s.env x,P.underlying t with
  |some (.map r),some (.map _ _)=>match s.heap[r]? with
   |some (.map es)=>some (.val (.iter s.heap.length),{ s with heap:=s.heap++[.dD r es.length []] },yA (.h r))
   |_=>none
  |_,_=>none
 |.entry x=>match rH s.env x with
  |some (.iter b)=>match s.heap[b]? with
   |some (.dD r n (i::_))=>match s.heap[r]? with
    |some (.map es)=>if es.length=n then(es[i]?).map fun e=>(.val (.dJ [e.1,e.2]),s,iE [.h b,.h r])else none
    |_=>none
   |_=>none
  |_=>none
 |_=>none
def Dn(ops:Array Oper)(env:List (Nat×EV))(o:Oper):Option Bool:=
 match o.guard with
 |none=>some true
 |some (j,want)=>match(ops[j]?).bind (·.dst)with
  |some d=>match dR d env with
   |some (.val (.bool b))=>some (b==want)
   |some .undef=>some false
   |_=>none
  |none=>none
def Ob(nt:Nat)(o:Oper):Bool:=
 match o.dst with
 |some d=>decide (d<nt)
 |none=>true
def lS(P:LI1)(call:bn)(site:Nat->Bool)(fl nt:Nat)(ops:Array Oper):List Oper->St->Option (St×List ni)
 | [],s=>some (s,[])
 |o::os,s=>if !Ob nt o then none else match Dn ops s.env o with
  |some true=>match qp P call site s o with
   |some (v,s1,i)=>match lS P call site fl nt ops os ({ s1 with ws:=kN fl i.ws s.ws }.put o.dst v)with
    |some (s,is)=>some (s,i::is)
    |none=>none
   |none=>none
  |some false=>match lS P call site fl nt ops os (s.put o.dst .undef)with
   |some (s,is)=>some (s,cZ::is)
   |none=>none
  |none=>none
def Oc:List Nat->List Nat->List Nat
 | [],l=>l
 |x::xs,l=>Oc xs (if l.contains x then l else x::l)
def G5(acc:List (List Nat))(o:Oper):List Nat:=
 o.after.toList.foldl (fun l e=>if Region.binds .any e then Oc (e.on::acc.getD e.on []) l else l) []
def FD:List Oper->List (List Nat)->List (List Nat)
 | [],acc=>acc
 |o::os,acc=>FD os (acc++[G5 acc o])
def Jq:Op->Bool
 |.store .. |.mapUpdate .. |.insert .. |.mapEntry .. |.entryStore ..=>true
 |.call { callee:=.builtin b,.. }=>match b with
  |.len|.min|.max=>false
  |_=>true
 |.call _=>true
 |_=>false
def Oe:Op->Bool
 |.store .. |.mapUpdate .. |.insert .. |.mapEntry .. |.entryStore .. |.load .. |.lookup .. |.range .. |.entry ..=>true
 |.call { callee:=.builtin b,.. }=>match b with
  |.min|.max=>false
  |_=>true
 |.call _=>true
 |_=>false
def pz(ops:List Oper):List (Nat×Nat):=
 let pr:=FD ops []
 (List.range ops.length).flatMap fun j=>((List.range j).filter fun i=>!(pr.getD j []).contains i).map fun i=>(i,j)
def oC(ops:List Oper):Bool:=
 (ops.zipIdx.all fun(o,i)=>o.after.all fun e=>!Region.binds .any e||decide (e.on<i)) &&
 (pz ops).all fun(i,j)=>match ops[i]?,ops[j]? with
  |some a,some b=>a.apart ops.toArray b&&b.apart ops.toArray a
  |_,_=>false
def CJ(a b:Oper):Bool:=match a.op,b.op,a.guard,b.guard with
 |.lookup t (.tmp m) (.tmp k) false,.mapEntry t' (.tmp m') (.tmp k'),none,none=>t==t'&&m==m'&&k==k'
 |_,_,_,_=>false
def nP(ops:List Oper):List (Nat×Nat):=
 (pz ops).filter fun(i,j)=>match ops[i]?,ops[j]? with
  |some a,some b=>((Jq a.op&&Oe b.op)||(Oe a.op&&Jq b.op))&&!CJ a b
  |_,_=>false
def Key.isH:Key->Bool
 |.h _=>true
 |.l _=>false
def Og(ws:List Key)(b:ni):Bool:=
 ws.all fun k=>!(b.all&&k.isH)&&!b.ts.contains k&&!b.ws.contains k
def calm(a b:ni):Bool:=Og a.ws b&&Og b.ws a
def CO(yB:List ni):List (Nat×Nat)->Bool
 | []=>true
 |(i,j)::r=>(match yB[i]?,yB[j]? with
  |some a,some b=>calm a b
  |_,_=>false)&&CO yB r
inductive Ex where
 |norm|exit (id:Nat)|ret
structure FnT where
 nt:Nat
 body:Code
 results:List ResultVar
def UK(P:LI1)(f:Nat):Option FnT:=
 match P.funcs[f]? with
 | some fn => if fn.name == "runtime.NumGoroutine" then none else match fn.body with
  |some b=>some ⟨fn.ntmps,b,fn.results.toList⟩
  |none=>none
 |none=>none
structure ru where
 live:List (Nat×List (Nat×List Nat))
 head:List (Nat×List (Nat×List Nat))
 site:List (Nat×List Nat)
 exts:List Nat:=[]
 ext:TV->List TV->List HB->Option (TV×List HB×List Nat):=fun _ _ _=>none
 dem:List Nat:=[]
 din:List Nat:=[]
 a9V:List Nat:=[]
def Si{α:Type}(k:Nat):List (Nat×List α)->List α
 | []=>[]
 |(j,l)::r=>if j=k then l else Si k r
def ru.iK(T:ru)(f id:Nat):List Nat:=Si id (Si f T.live)
def ru.fC(T:ru)(f id:Nat):List Nat:=Si id (Si f T.head)
def ru.UL(T:ru)(f d:Nat):Bool:=(Si f T.site).contains d
def Dq:List (Nat×EV)->Nat
 | []=>0
 |(_,.loc k _)::r=>max (k+1) (Dq r)
 |_::r=>Dq r
def kR(live:List Nat)(s:St):St:=
 let env:=pick live s.env
 { s with env:=env,loc:=s.loc.take (Dq env) }
def eu:Code->Nat
 |.region id _ _=>id
 |.seq a _=>eu a
 |.block _ b=>eu b
 |.loop b=>eu b
 |.scope b=>eu b
 |_=>0
def iter(g:St->Option (Ex×St)):Nat->St->Option (Ex×St)
 | 0,_=>none
 |n+1,s=>match g s with
  |some (.norm,s)=>iter g n s
  |r=>r
def isVal:Nat×EV->Bool
 |(_,.loc _ _)|(_,.ent _ _ _)|(_,.Fa _ _)=>false
 |_=>true
def Sj:Bool->Option Code->Option Ex
 |true,none=>some .norm
 |false,some .ret=>some .ret
 |false,some (.exit id)=>some (.exit id)
 |_,_=>none
def exec(P:LI1)(T:ru)(call:bn)(L:Nat)(f:Nat)(iy:Bool)(fl nt:Nat):Code->St->Option (Ex×St)
 |.skip,s=>some (.norm,s)
 |.label _,s=>some (.norm,s)
 |.region id ops draw,s=>match lS P call (fun d=>iy||T.UL f d) fl nt ops ops.toList s with
  |some (s,yB)=>if !draw||(oC ops.toList&&CO yB (nP ops.toList))then some (.norm,{ s with env:=pick (T.iK f id) s.env })else none
  |none=>none
 |.seq a b,s=>match exec P T call L f iy fl nt a s with
  |some (.norm,s)=>exec P T call L f iy fl nt b s
  |r=>r
 |.cond c a b,s=>match rH s.env c with
  |some (.bool true)=>exec P T call L f iy fl nt a s
  |some (.bool false)=>exec P T call L f iy fl nt b s
  |_=>none
 |.block id b,s=>match exec P T call L f iy fl nt b s with
  |some (.exit i,s)=>some (if i=id then .norm else .exit i,s)
  |r=>r
 |.scope b,s=>exec P T call L f iy fl nt b s
 |.loop b,s=>iter (fun s=>exec P T call L f iy fl nt b (kR (T.fC f (eu b)) s)) L s
 |.exit id,s=>some (.exit id,s)
 |.ret,s=>some (.ret,s)
 |.rangeFunc g ps assign body,s=>match rH s.env g with
  |some (.fn f1 a1 b1)=>
   if s.env.all isVal&&!iy then
    match call (.fn f1 a1 b1) [.lF (s.heap.length+1)] (s.heap++[.mark,.loop true f nt s.env ps.toList assign body none])with
    |some (_,h,ws)=>match h[s.heap.length+1]? with
     |some (.loop rd f2 Rl e2 Du a2 b2 jW)=>match Sj rd jW with
      |some e=>some (e,{ s with heap:=h.set (s.heap.length+1) (.loop false f2 Rl e2 Du a2 b2 (some .skip)),ws:=kN fl (ws.map .h) s.ws })
      |none=>none
     |_=>none
    |none=>none
   else none
  |_=>none
 |_,_=>none
def a5B(P:LI1)(s:St):ResultVar->Option TV
 |.tmp t=>match dR t s.env with
  |some (.val v)=>some v
  |_=>none
 |.cell a t=>match dR a s.env with
  |some a=>(loadT P t s a).map (·.1)
  |none=>none
def yI(P:LI1)(s:St):List ResultVar->Option (List TV)
 | []=>some []
 |r::rs=>match a5B P s r,yI P s rs with
  |some v,some vs=>some (v::vs)
  |_,_=>none
def one:List TV->TV
 | [v]=>v
 |vs=>.dJ vs
def oD:Nat->List TV->List (Nat×EV)
 |_,[]=>[]
 |k,v::vs=>(k,.val v)::oD (k+1) vs
def ug(env:List (Nat×EV)):List Nat->List TV->List (Nat×EV)
 |p::ps,v::vs=>ug ((p,.val v)::env) ps vs
 |_,_=>env
def aoJ(P:LI1)(T:ru)(call:bn)(L:Nat)(f:Nat)(args:List TV)(h:List HB):Option (TV×List HB×List Nat):=
 match UK P f with
 |some t=>match exec P T call L f false h.length t.nt t.body ⟨oD 0 args,[],h,[]⟩with
  |some (.norm,s)|some (.ret,s)=>match yI P s t.results with
   |some vs=>if s.ws.isEmpty&&(one vs).flat then some (one vs,h,[])else some (one vs,s.heap,s.ws)
   |none=>none
  |_=>none
 |none=>none
def uh:Ex->Option Code
 |.norm=>none
 |.ret=>some .ret
 |.exit id=>some (.exit id)
def qw:Ex->Bool
 |.norm=>true
 |_=>false
def Oh(P:LI1)(T:ru)(call:bn)(L:Nat)(l:Nat)(args:List TV)(h:List HB):Option (TV×List HB×List Nat):=
 match h[l]? with
 |some (.loop true f nt env ps assign body _)=>
  if args.length=ps.length∧ps.all (fun p=>decide (p<nt))then
   match exec P T call L f true h.length nt assign ⟨ug env ps args,[],h,[]⟩with
   |some (.norm,s)=>match s.heap[l]? with
    |some (.loop true f' nt' env' ps' a' b' _)=>
     match exec P T call L f true h.length nt body { s with heap:=s.heap.set l (.loop false f' nt' env' ps' a' b' none),ws:=Fb h.length l s.ws }with
     |some (e,s)=>match s.heap[l]? with
      |some (.loop false f' nt' env' ps' a' b' none)=>some (.bool (qw e),s.heap.set l (.loop (qw e) f' nt' env' ps' a' b' (uh e)),Fb h.length l s.ws)
      |_=>none
     |none=>none
    |_=>none
   |_=>none
  else none
 |_=>none
def ap(P:LI1)(T:ru)(L:Nat):Nat->bn
 | 0,_,_,_=>none
 |n+1,.fn f first cap,args,h=>aoJ P T (ap P T L n) L f (first++args++cap) h
 |n+1,.lF l,args,h=>Oh P T (ap P T L n) L l args h
 |_,_,_,_=>none
def run(P:LI1)(T:ru)(L n f:Nat)(args:List TV)(h:List HB):Option (TV×List HB×List Nat):=ap P T L n (.fn f [] []) args h
structure Pl where
 c:Nat
 base:Nat
 ext:Nat
 tot:Nat
inductive Lc where
 |cells (ls:List Pl)
 |obj (r:Nat) (o:List Nat)
abbrev Mp:=Key->Option Lc
abbrev Np:=Nat->Option Lc
def Mp.h(M:Mp):Np:=fun b=>M (.h b)
inductive VR(M:Np):TV->LI3->Prop
 |bool (b:Bool):VR M (.bool b) (.bool b)
 |int (k:IntKind) (n:Int):VR M (.int k n) (.int k n)
 |str (s:ByteArray):VR M (.str s) (.string s)
 |a3m:VR M (.nil .ptr) (.pointer none)
 |UM:VR M (.nil .aP) (.slice none 0 0)
 |Zv:VR M (.nil .map) (.map none)
 |nfn:VR M (.nil .fn) .nilFunc
 |a3n:VR M (.nil .ifc) .nilIface
 |ptr {b off lim:Nat} {ls:List Pl} {p:Pl} (hb:M b=some (.cells ls)) (hp:p∈ls) (h:lim<=p.ext) (ht:p.base+lim<=p.tot) :
   VR M (.ptr b off lim) (.pointer (some ⟨p.c,p.base+off,none⟩))
 |aP {b off len cap sz:Nat} {ex:Bool} {ls:List Pl} {p:Pl} {a:Addr} {cap':Nat} (hb:M b=some (.cells ls)) (hp:cap'=0∨p∈ls)
   (h:off+cap*sz<=p.ext) (hl:len<=cap) (hc:cap<=cap') (hx:ex=true->cap'=cap)
   (ha:cap'=0∨(a=⟨p.c,p.base+off,none⟩∧p.base+off+cap'*sz<=p.tot)) (hk:cap'<2^63) :
   VR M (.aP b off len cap sz ex) (.slice (some a) len cap')
 |map {r r':Nat} {o:List Nat} (h:M r=some (.obj r' o)):VR M (.map r) (.map (some r'))
 |lF {l l':Nat} {o:List Nat} (h:M l=some (.obj l' o)):VR M (.lF l) (.func (.yield l') #[] #[])
 |iter {l l':Nat} {o:List Nat} (h:M l=some (.obj l' o)):VR M (.iter l) (.pointer (some ⟨l',0,none⟩))
 |fn {f:FuncId} {az bs:List TV} {xs ys:List LI3} (h1:az.length=xs.length) (h2:∀(i:Nat) (c:TV) (v:LI3),az[i]? = some c->xs[i]? = some v->VR M c v)
   (h3:bs.length=ys.length) (h4:∀(i:Nat) (c:TV) (v:LI3),bs[i]? = some c->ys[i]? = some v->VR M c v):VR M (.fn f az bs) (.func (.func f) xs.toArray ys.toArray)
 |agg {az:List TV} {xs:List LI3} (h1:az.length=xs.length) (h2:∀(i:Nat) (c:TV) (v:LI3),az[i]? = some c->xs[i]? = some v->VR M c v):VR M (.agg az) (.agg xs.toArray)
 |dJ {az:List TV} {xs:List LI3} (h1:az.length=xs.length) (h2:∀(i:Nat) (c:TV) (v:LI3),az[i]? = some c->xs[i]? = some v->VR M c v):VR M (.dJ az) (.tuple xs.toArray)
structure bZ(M:Np)(az:List TV)(xs:List LI3):Prop where
 len:az.length=xs.length
 at_:∀(i:Nat) (c:TV) (v:LI3),az[i]? = some c->xs[i]? = some v->VR M c v
theorem VR.agg'{M:Np}{az:List TV}{xs:List LI3}(h:bZ M az xs):VR M (.agg az) (.agg xs.toArray):=.agg h.len h.at_
theorem VR.Ro{M:Np}{az:List TV}{xs:List LI3}(h:bZ M az xs):VR M (.dJ az) (.tuple xs.toArray):=.dJ h.len h.at_
theorem bZ.nil{M:Np}:bZ M [] []:=⟨rfl,fun i c v h=>by simp at h⟩
theorem bZ.cons{M:Np}{c:TV}{v:LI3}{az:List TV}{xs:List LI3}(h:VR M c v)(hs:bZ M az xs):bZ M (c::az) (v::xs):=
 ⟨by simp[hs.len],fun i c' v' h1 h2=>by
  cases i with
  |zero=>simp at h1 h2;subst h1;subst h2;exact h
  |succ i=>simp at h1 h2;exact hs.at_ i _ _ h1 h2⟩
theorem bZ.qI{M:Np}{xs:List LI3}(h:bZ M [] xs):xs=[]:=by have:=h.len;simp at this;exact a4J this.symm
theorem bZ.iY{M:Np}{c:TV}{az:List TV}{xs:List LI3}(h:bZ M (c::az) xs):∃v vs,xs=v::vs∧VR M c v∧bZ M az vs:=by
 cases xs with
 |nil=>have:=h.len;simp at this
 |cons v vs=>exact⟨v,vs,rfl,h.at_ 0 c v rfl rfl,⟨by have:=h.len;simpa using this,fun i c' v' h1 h2=>h.at_ (i+1) c' v' (by simpa using h1) (by simpa using h2)⟩⟩
theorem bZ.append{M:Np}{az bs:List TV}{xs ys:List LI3}(h:bZ M az xs)(h':bZ M bs ys):bZ M (az++bs) (xs++ys):=by
 induction az generalizing xs with
 |nil=>have:=h.qI;subst this;simpa using h'
 |cons c az ih=>
  obtain⟨v,vs,rfl,hv,hvs⟩:=h.iY;exact .cons hv (ih hvs)
theorem bZ.take{M:Np}{az:List TV}{xs:List LI3}(h:bZ M az xs)(n:Nat):bZ M (az.take n) (xs.take n):=
 ⟨by simp[h.len],fun i c v h1 h2=>by
  rw[a5i]at h1 h2;split at h1
  .rename_i hi;rw[a0I hi]at h2;exact h.at_ i c v h1 h2
  .simp at h1⟩
theorem bZ.drop{M:Np}{az:List TV}{xs:List LI3}(h:bZ M az xs)(n:Nat):bZ M (az.drop n) (xs.drop n):=
 ⟨by simp[h.len],fun i c v h1 h2=>by rw[a5j]at h1 h2;exact h.at_ _ c v h1 h2⟩
theorem bZ.get{M:Np}{az:List TV}{xs:List LI3}(h:bZ M az xs){i:Nat}{c:TV}(hc:az[i]? = some c):∃v,xs[i]? = some v∧VR M c v:=by
 have hi:i<az.length:=(a0n.1 hc).1;have xk:i<xs.length:=by rw[<-h.len];exact hi
 exact⟨xs[i],by simp[xk],h.at_ i c _ hc (by simp[xk])⟩
def Mc:Lc->Lc->Prop
 |.cells ls,.cells yJ=>∀p∈ls,∃q∈yJ,q.c=p.c∧q.base=p.base∧p.ext<=q.ext∧q.tot=p.tot
 |.obj r o,.obj r' o'=>r=r'∧o <+: o'
 |_,_=>False
def tV{α:Type}(M M':α->Option Lc):Prop:=∀k l,M k=some l->∃l',M' k=some l'∧Mc l l'
theorem Mc.refl(l:Lc):Mc l l:=by
 cases l with
 |cells ls=>exact fun p hp=>⟨p,hp,rfl,rfl,a15 _,rfl⟩
 |obj r o=>exact⟨rfl,aha o⟩
theorem Mc.trans{a b c:Lc}(h:Mc a b)(h':Mc b c):Mc a c:=by
 cases a<;>cases b<;>cases c<;>simp only[Mc]at *
 .intro p hp;obtain⟨q,hq,h1,h2,h3,h4⟩:=h p hp;obtain⟨r,hr,g1,g2,g3,g4⟩:=h' q hq;exact⟨r,hr,g1.trans h1,g2.trans h2,a5M h3 g3,g4.trans h4⟩
 exact⟨h.1.trans h'.1,h.2.trans h'.2⟩
theorem tV.refl{α:Type}(M:α->Option Lc):tV M M:=fun _ l h=>⟨l,h,.refl l⟩
theorem tV.trans{α:Type}{a b c:α->Option Lc}(h:tV a b)(h':tV b c):tV a c:=fun k l hl=>
 let ⟨l',h1,h2⟩:=h k l hl
 let ⟨l'',g1,g2⟩:=h' k l' h1
 ⟨l'',g1,h2.trans g2⟩
theorem tV.h{M M':Mp}(hm:tV M M'):tV M.h M'.h:=fun b l hl=>hm (.h b) l hl
theorem VR.mono{M M':Np}(hm:tV M M'){v:TV}{x:LI3}(h:VR M v x):VR M' v x:=by
 induction h with
 |bool b=>exact .bool b
 |int k n=>exact .int k n
 |str s=>exact .str s
 |a3m=>exact .a3m
 |UM=>exact .UM
 |Zv=>exact .Zv
 |nfn=>exact .nfn
 |a3n=>exact .a3n
 |ptr hb hp h ht=>
  obtain⟨l',h1,h2⟩:=hm _ _ hb;cases l' with
  |obj r _=>exact h2.elim
  |cells yJ=>
   obtain⟨q,hq,e1,e2,e3,e4⟩:=h2 _ hp;rw[<-e1,<-e2];exact .ptr h1 hq (a5M h e3) (by rw[e2,e4];exact ht)
 |aP hb hp h hl hc hx ha hk=>
  obtain⟨l',h1,h2⟩:=hm _ _ hb;cases l' with
  |obj r _=>exact h2.elim
  |cells yJ=>
   rcases hp with hp|hp
   .exact .aP h1 (.inl hp) h hl hc hx (.inl hp) hk
   obtain⟨q,hq,e1,e2,e3,e4⟩:=h2 _ hp;exact .aP h1 (.inr hq) (a5M h e3) hl hc hx (by rw[e1,e2,e4];exact ha) hk
 |map h=>
  obtain⟨l',h1,h2⟩:=hm _ _ h;cases l' with
  |obj r _=>cases h2.1;exact .map h1
  |cells yJ=>exact h2.elim
 |lF h=>
  obtain⟨l',h1,h2⟩:=hm _ _ h;cases l' with
  |obj r _=>cases h2.1;exact .lF h1
  |cells yJ=>exact h2.elim
 |iter h=>
  obtain⟨l',h1,h2⟩:=hm _ _ h;cases l' with
  |obj r _=>cases h2.1;exact .iter h1
  |cells yJ=>exact h2.elim
 |fn h1 _ h3 _ ih2 ih4=>exact .fn h1 ih2 h3 ih4
 |agg h1 _ ih=>exact .agg h1 ih
 |dJ h1 _ ih=>exact .dJ h1 ih
theorem bZ.mono{M M':Np}(hm:tV M M'){az:List TV}{xs:List LI3}(h:bZ M az xs):bZ M' az xs:=
 ⟨h.len,fun i c v h1 h2=>(h.at_ i c v h1 h2).mono hm⟩
theorem a5E{M:Np}{v:TV}{x y:LI3}(h:v.toC=some x)(hy:VR M v y):y=x:=by cases hy<;>simp[TV.toC]at h<;>first|exact h|exact h.symm|skip
theorem a1b{M:Np}:∀{az:List TV} {xs ys:List LI3},TV.UE az=some xs->bZ M az ys->ys=xs
 | [],xs,ys,h,hy=>by simp[TV.UE]at h;subst h;exact hy.qI
 |c::az,xs,ys,h,hy=>by
  simp only[TV.UE]at h;split at h
  .rename_i v vs h1 h2;simp at h;subst h;obtain⟨w,ws,rfl,hw,Zw⟩:=hy.iY;rw[a5E h1 hw,a1b h2 Zw]
  simp at h
theorem xq{M:Np}{v:TV}{x y:LI3}(h:v.zk=some x)(hy:VR M v y):y=x:=by
 unfold TV.zk at h;split at h
 .simp only[a0A]at h;obtain⟨vs,h1,rfl⟩:=h;cases hy with
  |agg g1 g2=>rw[a1b h1 ⟨g1,g2⟩]
 exact a5E h hy
theorem VR.a5F{M:Np}{v:TV}{x:LI3}(h:TV.ofC x=some v):VR M v x:=by unfold TV.ofC at h;split at h<;>simp at h<;>subst h<;>constructor
theorem bZ.a1c{M:Np}:∀{xs:List LI3} {az:List TV},TV.Di xs=some az->bZ M az xs
 | [],az,h=>by simp[TV.Di]at h;subst h;exact .nil
 |x::xs,az,h=>by
  simp only[TV.Di]at h;split at h
  .rename_i v vs h1 h2;simp at h;subst h;exact .cons (.a5F h1) (bZ.a1c h2)
  simp at h
theorem VR.zl{M:Np}{v:TV}{x:LI3}(h:TV.WV x=some v):VR M v x:=by
 unfold TV.WV at h;split at h
 .rename_i cs;simp only[a0A]at h;obtain⟨vs,h1,rfl⟩:=h;have:=VR.agg' (bZ.a1c (M:=M) h1);simpa using this
 exact .a5F h
theorem VR.cells{M:Np}{v:TV}{x:LI3}(h:VR M v x):bZ M v.cells x.cells.toList:=by
 cases h with
 |agg h1 h2=>exact⟨by simpa[TV.cells,Value.cells]using h1,by simpa[TV.cells,Value.cells]using h2⟩
 |_=>exact .cons (by first|assumption|constructor<;>assumption) .nil
theorem jq{α:Type}{P:LI1}:∀{s:Sem α} {a:α},aF P s=some a->∀w,s.run P w=.ok a w
 |.pure b,a,h,w=>by simp[aF]at h;simp[Sem.run,h]
 |.program k,a,h,w=>by simp only[aF]at h;simp only[Sem.run];exact jq h w
 |.mark _ k,a,h,w=>by simp only[aF]at h;simp only[Sem.run];exact jq h w
 |.load ..,a,h,w=>by simp[aF]at h
 |.store ..,a,h,w=>by simp[aF]at h
 |.new ..,a,h,w=>by simp[aF]at h
 |.shape ..,a,h,w=>by simp[aF]at h
 |.freeze ..,a,h,w=>by simp[aF]at h
 |.frozen ..,a,h,w=>by simp[aF]at h
 |.getObj ..,a,h,w=>by simp[aF]at h
 |.setObj ..,a,h,w=>by simp[aF]at h
 |.choose ..,a,h,w=>by simp[aF]at h
 |.sys ..,a,h,w=>by simp[aF]at h
 |.halt ..,a,h,w=>by simp[aF]at h
def wr:HB->Bool
 |.cells .ro _=>false
 |.mark=>false
 |_=>true
def aK:Lc->List Nat
 |.cells ls=>ls.map (·.c)
 |.obj r _=>[r]
structure Oi(N:Np)(w:LI4)(k:BK)(cs:List TV)(p:Pl):Prop where
 row:∃(arr:Array LI3) (ty:LI2) (fz:Nat×Nat),w.heap[p.c]? = some (.cells arr ty fz)∧arr.size=p.tot∧(k≠.ro->fz=(0,0)) ∧
  ((k=.last->p.ext=cs.length)->∀(i:Nat) (c:TV) (v:LI3),i<p.ext->cs[i]? = some c->arr[p.base+i]? = some v->VR N c v)
 fit:p.base+p.ext<=p.tot
 ext:p.ext<=cs.length
 base:k≠.ro->p.base=0
inductive ER(M:Mp):EV->LI3->Prop
 |val {v:TV} {x:LI3} (h:VR M.h v x):ER M (.val v) x
 |loc {k off:Nat} {p:Pl} (h:M (.l k)=some (.cells [p])) (hb:p.base=0):ER M (.loc k off) (.pointer (some ⟨p.c,off,none⟩))
 |undef:ER M .undef Go.undef
 |ent {r j:Nat} {v:TV} {r1 i:Nat} {o:List Nat} {x:LI3} (h:M (.h r)=some (.obj r1 o)) (hi:o[i]? = some j) (hv:VR M.h v x):ER M (.ent r j v) (.tuple #[x,Go.goInt i])
 |Fa {r j r1 i:Nat} {o:List Nat} (h:M (.h r)=some (.obj r1 o)) (hi:o[i]? = some j):ER M (.Fa r j) (Go.goInt i)
theorem ER.wF{M:Mp}{v:TV}{x:LI3}(h:ER M (.val v) x):VR M.h v x:=by cases h;assumption
def kM(M:Mp)(env:List (Nat×EV))(tmps:Array LI3):Prop:=∀t e,dR t env=some e->ER M e (tmps.getD t Go.undef)
structure a9W(N:Np)(rd:Bool)(f nt:Nat)(env:List (Nat×EV))(ps:List Nat)(a b:Code)(jW:Option Code)(lp:Loop):Prop where
 ps:lp.params.toList=ps
 vM:lp.assign=a
 body:lp.body=b
 size:nt<=lp.tmps.size
 Md:∀t v,dR t env=some (.val v)->VR N v (lp.tmps.getD t Go.undef)
 UN:∀t,dR t env=some .undef->lp.tmps.getD t Go.undef=Go.undef
 nol:∀t e,dR t env=some e->isVal (t,e)=true
 ready:rd=true->lp.state=.ready∧lp.pending=none
 busy:rd=false->jW=none->lp.state=.busy
 done:rd=false->∀j,jW=some j->j≠.skip->lp.state=.done∧lp.pending=some j
structure xC(N:Np)(o:List Nat)(es:List (TV×TV))(xs:Array MapEntry):Prop where
 len:es.length=xs.size
 ord:o.length=xs.size
 nod:o.Nodup
 sur:∀j,j<es.length->j∈o
 at_:∀(i:Nat) (x:MapEntry),xs[i]? = some x->x.born=i∧∃j e,o[i]? = some j∧es[j]? = some e∧VR N e.1 x.key∧VR N e.2 x.val
def aiB(N:Np)(w:LI4)(es:List (TV×TV))(r:Nat)(o:List Nat):Prop:=
 ∃xs:Array MapEntry,w.heap[r]? = some (.map xs xs.size)∧xC N o es xs
theorem xC.mono{N N':Np}{o:List Nat}{es:List (TV×TV)}{xs:Array MapEntry}(hm:tV N N')(h:xC N o es xs):xC N' o es xs:=
 ⟨h.len,h.ord,h.nod,h.sur,fun i x hx=>let ⟨b,j,e,h1,h2,h3,h4⟩:=h.at_ i x hx;⟨b,j,e,h1,h2,h3.mono hm,h4.mono hm⟩⟩
def nD(N:Np)(w:LI4)(k:BK)(cs:List TV)(ls:List Pl):Prop:=
 (∀c∈cs,jk c=true)∧(∀p∈ls,Oi N w k cs p)∧(k=.own->∃p,ls=[p]∧p.ext=cs.length) ∧
   ((k=.grow∨k=.last)->(ls.map (·.c)).Nodup∧∀p∈ls,∀q∈ls,p.ext=cs.length->q.ext=cs.length->p=q)
def qA(N:Np)(w:LI4):HB->Lc->Prop
 |.cells k cs,.cells ls=>nD N w k cs ls
 |.nX cs,.cells ls=>∃cs',cs'.Perm cs∧nD N w .last cs' ls
 |.map es,.obj r o=>aiB N w es r o
 |.mark,.obj r _=>r<w.heap.size
 |.dD m n seen,.obj r _=>∃(b:Nat) (o:List Nat) (sa:Array Nat),N m=some (.obj b o)∧w.heap[r]? = some (.mapIter (some b) n sa n)∧n<=o.length∧sa.toList.map (fun i=>o[i]?)=seen.reverse.map some
 |.loop rd f nt env ps a b jW,.obj r _=>∃lp,w.heap[r]? = some (.loop lp)∧a9W N rd f nt env ps a b jW lp
 |_,_=>False
theorem Oi.mono{N N':Np}{w w':LI4}{k:BK}{cs:List TV}{p:Pl}(hm:tV N N')(hw:w'.heap[p.c]? = w.heap[p.c]?)(h:Oi N w k cs p):Oi N' w' k cs p:=
 ⟨let ⟨arr,ty,fz,h1,h2,h3,h4⟩:=h.row;⟨arr,ty,fz,hw.trans h1,h2,h3,fun z i c v a b d=>(h4 z i c v a b d).mono hm⟩,h.fit,h.ext,h.base⟩
theorem a9W.mono{N N':Np}{rd:Bool}{f nt:Nat}{env:List (Nat×EV)}{ps:List Nat}{a b:Code}{jW:Option Code}{lp:Loop}(hm:tV N N')(h:a9W N rd f nt env ps a b jW lp):a9W N' rd f nt env ps a b jW lp:=
 { h with Md:=fun t v e=>(h.Md t v e).mono hm }
theorem nD.mono{N N':Np}{w w':LI4}{k:BK}{cs:List TV}{ls:List Pl}(hm:tV N N')(hw:∀p∈ls,w'.heap[p.c]? = w.heap[p.c]?)(h:nD N w k cs ls):nD N' w' k cs ls:=
 ⟨h.1,fun p hp=>(h.2.1 p hp).mono hm (hw p hp),h.2.2⟩
theorem qA.mono{N N':Np}{w w':LI4}{b:HB}{l:Lc}(hm:tV N N')(hw:∀c∈aK l,w'.heap[c]? = w.heap[c]?)(h:qA N w b l):qA N' w' b l:=by
 cases b with
 |cells k cs=>
  cases l with
  |obj r _=>exact h.elim
  |cells ls=>exact nD.mono hm (fun p hp=>hw p.c (a1e.2 ⟨p,hp,rfl⟩)) h
 |nX cs=>
  cases l with
  |obj r _=>exact h.elim
  |cells ls=>
   obtain⟨cs',h1,h2⟩:=h;exact⟨cs',h1,h2.mono hm fun p hp=>hw p.c (a1e.2 ⟨p,hp,rfl⟩)⟩
 |map es=>
  cases l with
  |cells ls=>exact h.elim
  |obj r _=>
   obtain⟨xs,h1,h2⟩:=h;exact⟨xs,(hw r (by simp[aK])).trans h1,h2.mono hm⟩
 |mark=>
  cases l with
  |cells ls=>exact h.elim
  |obj r _=>
   have h':r<w.heap.size:=h;have:=hw r (by simp[aK]);rw[a4w h']at this;exact(a2t.1 this).1
 |dD m n seen=>
  cases l with
  |cells ls=>exact h.elim
  |obj r _=>
   obtain⟨b,o,sa,h1,h2,h3,h4⟩:=h;obtain⟨l',g1,g2⟩:=hm _ _ h1;cases l' with
   |cells yJ=>exact g2.elim
   |obj b' o'=>
    obtain⟨rfl,g3⟩:=g2;refine⟨b,o',sa,g1,(hw r (by simp[aK])).trans h2,a5M h3 g3.length_le,?_⟩;rw[<-h4];refine a5v fun i hi=>?_;have:o[i]?∈sa.toList.map (fun i=>o[i]?):=a1e.2 ⟨i,hi,rfl⟩;rw[h4]at this;obtain⟨j,_,hj⟩:=a1e.1 this;have aQ:=(a0n.1 hj.symm).1;obtain⟨t,rfl⟩:=g3;rw[a0E aQ]
 |loop rd f nt env ps a b jW=>
  cases l with
  |cells ls=>exact h.elim
  |obj r _=>
   obtain⟨lp,h1,h2⟩:=h;exact⟨lp,(hw r (by simp[aK])).trans h1,h2.mono hm⟩
theorem qA.inb{N:Np}{w:LI4}{b:HB}{l:Lc}(h:qA N w b l):∀c∈aK l,c<w.heap.size:=by
 intro c hc;cases b with
 |cells k cs=>
  cases l with
  |obj r _=>exact h.elim
  |cells ls=>
   obtain⟨p,hp,rfl⟩:=a1e.1 hc;obtain⟨arr,ty,fz,h1,_⟩:=(h.2.1 p hp).row;exact(a2t.1 h1).1
 |nX cs=>
  cases l with
  |obj r _=>exact h.elim
  |cells ls=>
   obtain⟨p,hp,rfl⟩:=a1e.1 hc;obtain⟨cs',_,h⟩:=h;obtain⟨arr,ty,fz,h1,_⟩:=(h.2.1 p hp).row;exact(a2t.1 h1).1
 |map es=>
  cases l with
  |cells ls=>exact h.elim
  |obj r _=>
   obtain⟨xs,h1,_⟩:=h;simp[aK]at hc;subst hc;exact(a2t.1 h1).1
 |mark=>
  cases l with
  |cells ls=>exact h.elim
  |obj r _=>
   simp[aK]at hc;subst hc;exact h
 |dD m n seen=>
  cases l with
  |cells ls=>exact h.elim
  |obj r _=>
   obtain⟨b,o,sa,_,h1,_⟩:=h;simp[aK]at hc;subst hc;exact(a2t.1 h1).1
 |loop rd f nt env ps a b jW=>
  cases l with
  |cells ls=>exact h.elim
  |obj r _=>
   obtain⟨lp,h1,_⟩:=h;simp[aK]at hc;subst hc;exact(a2t.1 h1).1
abbrev Ct:=Key->Option HB
structure Valid(M:Mp)(D:Key->Prop)(C:Ct)(w:LI4):Prop where
 ok:∀k l,M k=some l->D k->∃b,C k=some b∧qA M.h w b l
 own:∀k k' l l' b,k≠k'->M k=some l->M k'=some l'->D k->C k=some b->wr b=true->∀c∈aK l,c∉aK l'
 inb:∀k l,M k=some l->∀c∈aK l,c<w.heap.size
def vN:Key->Prop:=fun _=>True
theorem Valid.has{M:Mp}{C:Ct}{w:LI4}(h:Valid M vN C w){k:Key}{l:Lc}(hk:M k=some l):(C k).isSome=true:=
 let ⟨_,h1,_⟩:=h.ok k l hk trivial;by simp[h1]
theorem Valid.of_heap{M:Mp}{D:Key->Prop}{C:Ct}{w w':LI4}(h:Valid M D C w)(hw:w'.heap=w.heap):Valid M D C w':=
 ⟨fun k l hk hd=>let ⟨b,h1,h2⟩:=h.ok k l hk hd;⟨b,h1,h2.mono (.refl _) (fun c _=>by rw[hw])⟩,h.own,by rw[hw];exact h.inb⟩
def dQ(M:Mp)(k:Key)(l:Lc):Mp:=fun j=>if j=k then some l else M j
def mY(C:Ct)(k:Key)(b:HB):Ct:=fun j=>if j=k then some b else C j
theorem nG{M:Mp}{k:Key}{l:Lc}(h:∀l0,M k=some l0->Mc l0 l):tV M (dQ M k l):=by
 intro j l0 hj;by_cases hjk:j=k
 .subst hjk;exact⟨l,by simp[dQ],h l0 hj⟩
 exact⟨l0,by simp[dQ,hjk,hj],.refl _⟩
theorem Valid.upd{M:Mp}{D D':Key->Prop}{C:Ct}{w w':LI4}(h:Valid M D C w)(k:Key)(b:HB)(l:Lc)
  (hD:∀j,D' j->D j∨j=k)
  (hold:∀l0,M k=some l0->D k∧Mc l0 l∧∀b0,C k=some b0->wr b0=true)
  (gV:∀c,c<w.heap.size->c∉aK l->w'.heap[c]? = w.heap[c]?)
  (gG:∀c∈aK l,(∃l0,M k=some l0∧c∈aK l0)∨w.heap.size<=c)
  (FH:w.heap.size<=w'.heap.size)
  (Sl:qA (dQ M k l).h w' b l):Valid (dQ M k l) D' (mY C k b) w':=by
 have hle:tV M (dQ M k l):=nG fun l0 h0=>(hold l0 h0).2.1;refine⟨?_,?_,?_⟩
 .intro j l0 hj hd;by_cases hjk:j=k
  .subst hjk;simp only[dQ,a2s,a0k]at hj;subst hj;exact⟨b,by simp[mY],Sl⟩
  .simp only[dQ,hjk,a3U]at hj;obtain⟨b0,h1,h2⟩:=h.ok j l0 hj ((hD j hd).resolve_right hjk);refine⟨b0,by simp[mY,hjk,h1],h2.mono hle.h fun c hc=>?_⟩;have aQ:=h.inb j l0 hj c hc;refine gV c aQ fun qM=>?_;rcases gG c qM with⟨l1,X6,hc1⟩|FI
   .obtain⟨hDk,_,hw⟩:=hold l1 X6;obtain⟨b1,zn,_⟩:=h.ok k l1 X6 hDk;exact h.own k j l1 l0 b1 (fun e=>hjk e.symm) X6 hj hDk zn (hw b1 zn) c hc1 hc
   .omega
 .intro j j' l0 l0' b0 iM hj Ey hd hb hw c hc Rq;by_cases hjk:j=k
  .subst hjk;have a9X:j'≠j:=fun e=>iM e.symm;simp only[dQ,a2s,a0k]at hj;subst hj;simp only[dQ,a9X,a3U]at Ey;have aQ:=h.inb j' l0' Ey c Rq;rcases gG c hc with⟨l1,X6,hc1⟩|FI
   .obtain⟨hDk,_,hw⟩:=hold l1 X6;obtain⟨b1,zn,_⟩:=h.ok j l1 X6 hDk;exact h.own j j' l1 l0' b1 iM X6 Ey hDk zn (hw b1 zn) c hc1 Rq
   .omega
  .simp only[dQ,hjk,a3U]at hj;simp only[mY,hjk,a3U]at hb;have hdj:=(hD j hd).resolve_right hjk;have aQ:=h.inb j l0 hj c hc;by_cases a9X:j'=k
   .subst a9X;simp only[dQ,a2s,a0k]at Ey;subst Ey;rcases gG c Rq with⟨l1,X6,hc1⟩|FI
    .exact h.own j j' l0 l1 b0 iM hj X6 hdj hb hw c hc hc1
    .omega
   .simp only[dQ,a9X,a3U]at Ey;exact h.own j j' l0 l0' b0 iM hj Ey hdj hb hw c hc Rq
 .intro j l0 hj c hc;by_cases hjk:j=k
  .subst hjk;simp only[dQ,a2s,a0k]at hj;subst hj;exact Sl.inb c hc
  .simp only[dQ,hjk,a3U]at hj;exact a9T (h.inb j l0 hj c hc) FH
structure Ext(M0:Mp)(C0:Ct)(w0:LI4)(M:Mp)(C:Ct)(w:LI4)(ws:List Key):Prop where
 Jl:tV M0 M
 frame:∀c,c<w0.heap.size->(∀k∈ws,∀l,M0 k=some l->c∉aK l)->w.heap[c]? = w0.heap[c]?
 oh:∀k,(C0 k).isSome=true->k∉ws->C k=C0 k
 lT:∀k,((C0 k).isSome=true∨C k=none)->k∉ws->M k=M0 k
 fresh:∀k l,M k=some l->∀c∈aK l,c<w0.heap.size->∃l0,M0 k=some l0∧c∈aK l0
 size:w0.heap.size<=w.heap.size
 has:∀k,(C0 k).isSome=true->(C k).isSome=true
 wsub:∀k∈ws,(C0 k).isSome=true
 wrote:∀k∈ws,(M0 k).isSome=true∧∀b,C0 k=some b->wr b=true
 os:w.os=w0.os
 output:w.output=w0.output
 tape:w.tape=w0.tape
theorem Ext.refl(M:Mp)(C:Ct)(w:LI4):Ext M C w M C w []:=
 ⟨.refl _,fun _ _ _=>rfl,fun _ _ _=>rfl,fun _ _ _=>rfl,fun _ l h c hc _=>⟨l,h,hc⟩,a15 _,fun _ h=>h,(by simp),(by simp),rfl,rfl,rfl⟩
theorem Ext.drew{M0:Mp}{C0:Ct}{w0:LI4}{M:Mp}{C:Ct}{w w':LI4}{ws:List Key}(h:Ext M0 C0 w0 M C w ws)
  (hh:w'.heap=w.heap) (ho:w'.os=w.os) (hu:w'.output=w.output) (ht:w'.tape=w.tape):Ext M0 C0 w0 M C w' ws:=
 { h with frame:=(by rw[hh];exact h.frame),size:=(by rw[hh];exact h.size),os:=ho.trans h.os,output:=hu.trans h.output,tape:=ht.trans h.tape }
theorem Ext.trans{M0 M M':Mp}{C0 C C':Ct}{w0 w w':LI4}{ws UO aeS:List Key}(h:Ext M0 C0 w0 M C w ws)(h':Ext M C w M' C' w' UO)
  (hd:∀k l,M0 k=some l->(C0 k).isSome=true) (hs:∀k,(C0 k).isSome=true->(k∈ws∨k∈UO)->k∈aeS) (hb:∀k∈aeS,(C0 k).isSome=true∧(k∈ws∨k∈UO)) :
  Ext M0 C0 w0 M' C' w' aeS where
 Jl:=h.Jl.trans h'.Jl
 frame:=by intro c hc hf;have h1:w.heap[c]? = w0.heap[c]?:=h.frame c hc fun k hk l hl=>hf k (hs k (h.wsub k hk) (.inl hk)) l hl;rw[<-h1];refine h'.frame c (a9T hc h.size) fun k hk l hl qM=>?_;obtain⟨l0,h2,h3⟩:=h.fresh k l hl c qM hc;exact hf k (hs k (hd k l0 h2) (.inr hk)) l0 h2 h3
 oh:=fun k hk hn=>by have hn1:k∉ws:=fun e=>hn (hs k hk (.inl e));have Ez:k∉UO:=fun e=>hn (hs k hk (.inr e));rw[h'.oh k (h.has k hk) Ez,h.oh k hk hn1]
 lT:=fun k hk hn=>by
  rcases hk with hk|hk
  .have hn1:k∉ws:=fun e=>hn (hs k hk (.inl e));have Ez:k∉UO:=fun e=>hn (hs k hk (.inr e));rw[h'.lT k (.inl (h.has k hk)) Ez,h.lT k (.inl hk) hn1]
  .have hC:C k=none:=by
    cases hc:C k with
    |none=>rfl
    |some b=>have:=h'.has k (by simp[hc]);simp[hk]at this
   have Ez:k∉UO:=fun e=>by have:=h'.wsub k e;simp[hC]at this
   have hn1:k∉ws:=fun e=>by have:=h.has k (h.wsub k e);simp[hC]at this
   rw[h'.lT k (.inr hk) Ez,h.lT k (.inr hC) hn1]
 fresh:=fun k l hl c hc aQ=>by obtain⟨l1,h1,h2⟩:=h'.fresh k l hl c hc (a9T aQ h.size);exact h.fresh k l1 h1 c h2 aQ
 size:=a5M h.size h'.size
 has:=fun k hk=>h'.has k (h.has k hk)
 wsub:=fun k hk=>(hb k hk).1
 wrote:=fun k hk=>by
  by_cases h1:k∈ws
  .exact h.wrote k h1
  .have h2:=h'.wrote k ((hb k hk).2.resolve_left h1);rw[h.lT k (.inl (hb k hk).1) h1,h.oh k (hb k hk).1 h1]at h2;exact h2
 os:=h'.os.trans h.os
 output:=h'.output.trans h.output
 tape:=h'.tape.trans h.tape
theorem Ext.upd{M:Mp}{C:Ct}{w w':LI4}(k:Key)(b:HB)(l:Lc)(ws:List Key)
  (Zw:((C k).isSome=true∧ws=[k]∧(M k).isSome=true∧∀b,C k=some b->wr b=true)∨(C k=none∧M k=none∧ws=[]))
  (hle:tV M (dQ M k l))
  (gV:∀c,c<w.heap.size->c∉aK l->w'.heap[c]? = w.heap[c]?)
  (gG:∀c∈aK l,(∃l0,M k=some l0∧c∈aK l0)∨w.heap.size<=c)
  (FH:w.heap.size<=w'.heap.size) (ho:w'.os=w.os) (hou:w'.output=w.output) (ht:w'.tape=w.tape) :
  Ext M C w (dQ M k l) (mY C k b) w' ws where
 Jl:=hle
 frame:=by
  intro c hc hf;refine gV c hc fun qM=>?_;rcases gG c qM with⟨l0,h1,h2⟩|FI
  .rcases Zw with⟨_,rfl,_⟩|⟨_,hn,_⟩
   .exact hf k (by simp) l0 h1 h2
   .rw[hn]at h1;cases h1
  .omega
 oh:=fun j hj hn=>by
  have:j≠k:=by
   rintro rfl;rcases Zw with⟨_,rfl,_⟩|⟨h1,_⟩
   .simp at hn
   .simp[h1]at hj
  simp[mY,this]
 lT:=fun j hj hn=>by
  have:j≠k:=by
   rintro rfl;rcases Zw with⟨_,rfl,_⟩|⟨h1,_⟩
   .simp at hn
   .rcases hj with hj|hj
    .simp[h1]at hj
    .simp[mY]at hj
  simp[dQ,this]
 fresh:=fun j l0 hj c hc aQ=>by
  by_cases hjk:j=k
  .subst hjk;simp only[dQ,a2s,a0k]at hj;subst hj;rcases gG c hc with h1|FI
   .exact h1
   .omega
  .simp only[dQ,hjk,a3U]at hj;exact⟨l0,hj,hc⟩
 size:=FH
 has:=fun j hj=>by
  by_cases hjk:j=k
  .simp[mY,hjk]
  .simpa[mY,hjk]using hj
 wsub:=by
  rcases Zw with⟨h1,rfl,_⟩|⟨_,_,rfl⟩
  .intro j hj;simp at hj;subst hj;exact h1
  .simp
 wrote:=by
  rcases Zw with⟨_,rfl,h1⟩|⟨_,_,rfl⟩
  .intro j hj;simp at hj;subst hj;exact h1
  .simp
 os:=ho
 output:=hou
 tape:=ht
theorem ER.mono{M M':Mp}(hm:tV M M')(hl:∀k l,M (.l k)=some l->M' (.l k)=some l){e:EV}{x:LI3}(h:ER M e x):ER M' e x:=by
 cases h with
 |val h=>exact .val (h.mono hm.h)
 |loc h hb=>exact .loc (hl _ _ h) hb
 |undef=>exact .undef
 |ent h hi hv=>
  obtain⟨l',h1,h2⟩:=hm _ _ h;cases l' with
  |cells _=>exact h2.elim
  |obj r1 o'=>
   obtain⟨rfl,t,rfl⟩:=h2;exact .ent h1 (by rw[a0E (a0n.1 hi).1];exact hi) (hv.mono hm.h)
 |Fa h hi=>
  obtain⟨l',h1,h2⟩:=hm _ _ h;cases l' with
  |cells _=>exact h2.elim
  |obj r1 o'=>
   obtain⟨rfl,t,rfl⟩:=h2;exact .Fa h1 (by rw[a0E (a0n.1 hi).1];exact hi)
structure Oj(M:Mp)(D:Key->Prop)(C:Ct)(w:LI4)(v:EV)(C1:Ct)(ws:List Key)(x:LI3)(w':LI4)(M':Mp):Prop where
 val:Valid M' (fun k=>D k∨(C k=none∧(C1 k).isSome=true)) C1 w'
 ext:Ext M C w M' C1 w' ws
 er:ER M' v x
 loc:∀k l,M (.l k)=some l->M' (.l k)=some l
theorem Oj.same{M:Mp}{D:Key->Prop}{C:Ct}{w:LI4}{v:EV}{x:LI3}(h:Valid M D C w)(he:ER M v x):Oj M D C w v C [] x w M:=
 ⟨⟨fun k l hk hd=>h.ok k l hk (hd.elim id fun⟨a,b⟩=>by simp[a]at b),fun k k' l l' b a1 a2 a3 hd=>h.own k k' l l' b a1 a2 a3 (hd.elim id fun⟨a,b⟩=>by simp[a]at b),h.inb⟩,.refl M C w,he,fun _ _ h=>h⟩
theorem xE(w:LI4)(o:Obj)(i:Nat)(h:i<w.heap.size):(w.alloc o).heap[i]? = w.heap[i]?:=by show(w.heap.push o)[i]? = w.heap[i]?;rw[Array.getElem?_push,a0F (Nat.ne_of_lt h)]
section
variable {P:LI1} {w:LI4}
theorem jl{t:LI2}{i:TypeInfo}(h:P.info? t=some i):(typeInfo t).run P w=.ok i w:=by simp[typeInfo,h]
theorem G6{t:LI2}{n:Nat}(h:dI P t=some n):∃i,P.info? t=some i∧i.size=n:=by simpa[dI]using h
theorem dh{t:LI2}{n:Nat}(h:dI P t=some n):(Go.sizeOf t).run P w=.ok n w:=by obtain⟨i,h1,h2⟩:=G6 h;simp[Go.sizeOf,jl h1,h2]
theorem AY{t:LI2}{b:Bool}(h:xg P t=some b):(isAgg t).run P w=.ok b w:=by
 unfold xg at h;split at h<;>simp at h<;>subst h
 .simp[isAgg,run_underlying ‹_›]
 .simp[isAgg,run_underlying ‹_›]
 rename_i d _ _ hu;simp only[isAgg,Sem.run_bind,run_underlying hu,Result.andThen_ok];cases d<;>simp_all
theorem uV(c o n:Nat):(⟨c,o,none⟩:Addr).add n=⟨c,o+n,none⟩:=by unfold Addr.add;split<;>simp_all
theorem Jr{N:Np}{c:TV}{v:LI3}(h:VR N c v)(ho:jk c=true):v.oneCell'=true:=by cases h<;>first|rfl|simp[jk]at ho
theorem uX{cs:List TV}{off n:Nat}{r:List TV}(h:sub cs off n=some r):off+n<=cs.length∧r=(cs.drop off).take n∧r.length=n:=by
 unfold sub at h;split at h
 .rename_i hl;simp at h;subst h;exact⟨hl,rfl,by simp;omega⟩
 simp at h
theorem wR{cs:List TV}{off:Nat}{new r:List TV}(h:wZ cs off new=some r) :
  off+new.length<=cs.length∧r=cs.take off++new++cs.drop (off+new.length)∧r.length=cs.length:=by
 unfold wZ at h;split at h
 .rename_i hl;simp at h;subst h;exact⟨hl,by simp,by simp;omega⟩
 .simp at h
theorem Oi.slice{N:Np}{k:BK}{cs:List TV}{p:Pl}(h:Oi N w k cs p){off n:Nat}{r:List TV}(hr:sub cs off n=some r)(he:off+n<=p.ext)(hz:k=.last->p.ext=cs.length) :
  ∃xs:List LI3,bZ N r xs∧∀(j:Nat) (v:LI3),xs[j]? = some v->w.cell? ⟨p.c,p.base+off+j,none⟩=some v:=by
 obtain⟨arr,ty,fz,h1,h2,_,h4⟩:=h.row;obtain⟨s1,s2,s3⟩:=uX hr;have hf:=h.fit;refine⟨(arr.toList.drop (p.base+off)).take n,⟨by rw[s3];simp;omega,fun i c v a b=>?_⟩,fun j v hj=>?_⟩
 .rw[s2,a5i]at a;rw[a5i]at b;split at a
  .rename_i hi;rw[a0I hi,a5j]at b;rw[a5j]at a;exact h4 hz (off+i) c v (by omega) a (by simpa[aay]using b)
  .simp at a
 .rw[a5i]at hj;split at hj
  .rw[a5j]at hj;simp only[World.cell?,h1];simpa using hj
  .simp at hj
theorem zo{N:Np}{k:BK}{cs:List TV}{p:Pl}(h:Oi N w k cs p){off n:Nat}{r:List TV}(hr:sub cs off n=some r)(he:off+n<=p.ext)(hz:k=.last->p.ext=cs.length) :
  ∃xs:List LI3,bZ N r xs∧∀w':LI4,w'.heap=w.heap->(loadCells ⟨p.c,p.base+off,none⟩ n).run P w'=.ok xs.toArray w':=by
 obtain⟨xs,h1,h2⟩:=h.slice hr he hz;refine⟨xs,h1,fun w' hw'=>?_⟩;have hl:xs.length=n:=by rw[<-h1.len];exact(uX hr).2.2
 have:=run_loadCells_list (P:=P) w' ⟨p.c,p.base+off,none⟩ xs (fun j v hj=>by rw[uV];have e:=h2 j v hj;simp only[World.cell?,hw']at e ⊢;exact e)
 rwa [hl]at this
theorem KW{N:Np}{k:BK}{cs:List TV}{p:Pl}(h:Oi N w k cs p){t:LI2}{off n:Nat}{v:TV}(hs:dI P t=some n)
  (hv:uU P t cs off=some v) (he:off+n<=p.ext) (hz:k=.last->p.ext=cs.length) :
  ∃x,VR N v x∧(loadVar t ⟨p.c,p.base+off,none⟩).run P w=.ok x w:=by
 unfold uU at hv;rw[hs]at hv;cases ha:xg P t with
 |none=>simp[ha]at hv
 |some b=>
  cases b with
  |true=>
   simp only[ha,a0A]at hv;obtain⟨r,hr,rfl⟩:=hv;obtain⟨xs,g1,g2⟩:=zo (P:=P) h hr he hz;exact⟨_,.agg' g1,by simp[loadVar,AY ha,dh hs,g2 w rfl]⟩
  |false=>
   simp only[ha]at hv;split at hv
   case isFalse=>simp at hv
   rename_i hn1;have he1:off+1<=p.ext:=(by omega);have aQ:=(a0n.1 hv).1;have hr:sub cs off 1=some [v]:=by unfold sub;rw[a0I (by omega)];congr 1;rw[a5X aQ];have:=(a0n.1 hv).2;simp[this]
   obtain⟨xs,g1,g2⟩:=h.slice hr he1 hz;obtain⟨x,xs',rfl,gx,_⟩:=g1.iY;have:=g2 0 x rfl;simp only[aex]at this;exact⟨x,gx,by simp[loadVar,AY ha,this]⟩
end
theorem Js{M:Mp}{k:Key}{l:Lc}(h:M k=some l):dQ M k l=M:=by
 funext j;unfold dQ;split
 .rename_i e;rw[e,h]
 rfl
theorem kW(s:St)(b:HB)(e:List (Nat×EV))(ws:List Nat):St.get { s with heap:=s.heap++[b],env:=e,ws:=ws }=mY s.get (.h s.heap.length) b:=by
 funext k
 cases k with
 |h j=>
  simp only[St.get,mY,Key.h.injEq];split
  .rename_i e;subst e;simp
  rename_i e;by_cases hj:j<s.heap.length
  .rw[a0E hj]
  rw[a4Y (by simp;omega),a4Y (by omega)]
 |l j=>simp[St.get,mY]
theorem jK(s:St)(i:Nat)(b:HB)(h:i<s.heap.length)(e:List (Nat×EV))(ws:List Nat):St.get { s with heap:=s.heap.set i b,env:=e,ws:=ws }=mY s.get (.h i) b:=by
 funext k
 cases k with
 |h j=>
  simp only[St.get,mY,Key.h.injEq];rw[aan];by_cases hj:i=j
  .subst hj;simp[h]
  rw[a0F hj,a0F (fun e=>hj e.symm)]
 |l j=>simp[St.get,mY]
theorem Sm(s:St)(cs:List TV)(e:List (Nat×EV))(ws:List Nat):St.get { s with loc:=s.loc++[cs],env:=e,ws:=ws }=mY s.get (.l s.loc.length) (.cells .own cs):=by
 funext k
 cases k with
 |l j=>
  simp only[St.get,mY,Key.l.injEq];split
  .rename_i e;subst e;simp
  rename_i e;by_cases hj:j<s.loc.length
  .rw[a0E hj]
  rw[a4Y (by simp;omega),a4Y (by omega)]
 |h j=>simp[St.get,mY]
theorem Ol(s:St)(i:Nat)(cs:List TV)(h:i<s.loc.length)(e:List (Nat×EV))(ws:List Nat):St.get { s with loc:=s.loc.set i cs,env:=e,ws:=ws }=mY s.get (.l i) (.cells .own cs):=by
 funext k
 cases k with
 |l j=>
  simp only[St.get,mY,Key.l.injEq];rw[aan];by_cases hj:i=j
  .subst hj;simp[h]
  rw[a0F hj,a0F (fun e=>hj e.symm)]
 |h j=>simp[St.get,mY]
theorem yK{h:List HB}{b lim:Nat}{cs:List TV}(e:ny h b lim=some cs):∃k,h[b]? = some (.cells k cs)∧(k=.last->lim=cs.length):=by
 unfold ny at e;split at e
 .rename_i k cs' hb;split at e
  .cases e
  rename_i hn;simp at e;subst e;exact⟨k,hb,fun hk=>Decidable.not_not.1 fun hl=>hn ⟨hk,hl⟩⟩
 simp at e
theorem KX{k k':BK}{b:Bool}(e:AV k b=some k'):(k=.own∧k'=.own)∨((k=.grow∨k=.last)∧k'=.last∧b=true):=by unfold AV at e;split at e<;>simp_all
theorem Jt{h h':List HB}{b off lim:Nat}{new:List TV}(e:UG h b off lim new=some h') :
  ∃k k' cs cs',h[b]? = some (.cells k cs)∧((k=.own∧k'=.own)∨((k=.grow∨k=.last)∧k'=.last∧lim=cs.length))∧wZ cs off new=some cs'∧h'=h.set b (.cells k' cs'):=by
 unfold UG at e;split at e
 .rename_i k cs hb;split at e
  .rename_i k' hk;simp only[a0A]at e;obtain⟨cs',h1,h2⟩:=e;refine⟨k,k',cs,cs',hb,?_,h1,h2.symm⟩;rcases KX hk with h|⟨a,b,c⟩
   .exact .inl h
   .exact .inr ⟨a,b,by simpa using c⟩
  .cases e
 .simp at e
theorem X7{arr:Array LI3}{off:Nat}{xs:List LI3}(i:Nat)(h:off+xs.length<=arr.size) :
  (arr.toList.take off++xs++arr.toList.drop (off+xs.length)).toArray[i]? = if i<off then arr[i]? else if i<off+xs.length then xs[i-off]? else arr[i]?:=by
 have hl:(arr.toList.take off).length=off:=by simp;omega
 simp only[aeA];by_cases h1:i<off
 .rw[a0I h1,a5U,a0E (by omega),a5i,a0I h1];simp
 .rw[a0F h1];by_cases h2:i<off+xs.length
  .rw[a0I h2,a5U,a1a (by omega),hl,a0E (by omega)]
  .rw[a0F h2,a1a (by simp;omega),a5j];have:off+xs.length+(i-(List.take off arr.toList++xs).length)=i:=by simp;omega
   rw[this];simp
theorem a3o{cs new r:List TV}{off:Nat}(h:wZ cs off new=some r)(i:Nat) :
  r[i]? = if i<off then cs[i]? else if i<off+new.length then new[i-off]? else cs[i]?:=by
 obtain⟨h1,h2,_⟩:=wR h;have hl:(cs.take off).length=off:=by simp;omega
 rw[h2];by_cases h1:i<off
 .rw[a0I h1,a5U,a0E (by omega),a5i,a0I h1]
 .rw[a0F h1];by_cases h2:i<off+new.length
  .rw[a0I h2,a5U,a1a (by omega),hl,a0E (by omega)]
  .rw[a0F h2,a1a (by simp;omega),a5j];congr 1;simp;omega
theorem X8{cs new r:List TV}{off:Nat}(h:wZ cs off new=some r)(hc:∀c∈cs,jk c=true)(hn:∀c∈new,jk c=true):∀c∈r,jk c=true:=by
 obtain⟨_,h2,_⟩:=wR h;intro c hcr;rw[h2]at hcr;simp only[a3v]at hcr;rcases hcr with(h|h)|h
 .exact hc c (a9K h)
 .exact hn c h
 exact hc c (a5I h)
theorem wH(w:LI4)(g:Nat)(arr:Array LI3)(c:Nat)(h:c≠g):(w.setRow g arr).heap[c]? = w.heap[c]?:=by simp only[World.setRow,abO];rw[a0F (fun e=>h e.symm)]
theorem Om(w:LI4)(g:Nat)(arr cur:Array LI3)(ty:LI2)(fz:Nat×Nat)(h:w.heap[g]? = some (.cells cur ty fz)):(w.setRow g arr).heap[g]? = some (.cells arr ty fz):=by simp[World.setRow,abO,h]
theorem Valid.widen{M:Mp}{D:Key->Prop}{C C1:Ct}{w':LI4}(h:Valid M D C1 w')(hn:∀k,C k=none->C1 k=none):Valid M (fun j=>D j∨(C j=none∧(C1 j).isSome=true)) C1 w':=
 have aux:∀j,(D j∨(C j=none∧(C1 j).isSome=true))->D j:=fun j hj=>hj.elim id fun⟨a,b⟩=>by rw[hn j a]at b;cases b
 ⟨fun k l hk hd=>h.ok k l hk (aux k hd),fun k k' l l' b a1 a2 a3 hd=>h.own k k' l l' b a1 a2 a3 (aux k hd),h.inb⟩
theorem EC{C:Ct}{k:Key}{b:HB}(hk:(C k).isSome=true):∀j,C j=none->mY C k b j=none:=by
 intro j hj;unfold mY;split
 .rename_i e;subst e;rw[hj]at hk;cases hk
 exact hj
theorem Valid.wrB{M:Mp}{D:Key->Prop}{C:Ct}{w:LI4}(h:Valid M D C w){k:Key}{ls:List Pl}{p:Pl}{cs:List TV}{kk CP:BK}(hk:M k=some (.cells ls))(hd:D k)
  (hc:C k=some (.cells kk cs)) (hp:p∈ls) (yL:(kk=.own∧CP=.own)∨((kk=.grow∨kk=.last)∧CP=.last∧p.ext=cs.length)) :
  p.base=0∧p.ext=cs.length∧(∀c∈cs,jk c=true)∧(∀q∈ls,Oi M.h w kk cs q)∧(ls.map (·.c)).Nodup∧(∀q∈ls,q.ext=cs.length->q=p) ∧
  ∃(arr:Array LI3) (ty:LI2),w.heap[p.c]? = some (.cells arr ty (0,0))∧arr.size=p.tot∧cs.length<=p.tot ∧
   ∀(i:Nat) (c:TV) (v:LI3),cs[i]? = some c->arr[i]? = some v->VR M.h c v:=by
 obtain⟨b,h1,h2⟩:=h.ok k _ hk hd;rw[hc]at h1;cases h1;obtain⟨g1,g2,g3,g4⟩:=h2;have iM:kk≠.ro:=by rcases yL with⟨e,_⟩|⟨e|e,_⟩<;>rw[e]<;>simp
 have ED:=g2 p hp;have hb:=ED.base iM;have hx:p.ext=cs.length∧(ls.map (·.c)).Nodup∧∀q∈ls,q.ext=cs.length->q=p:=by
  rcases yL with⟨e,_⟩|⟨e,_,he⟩
  .obtain⟨q,rfl,hq⟩:=g3 e;simp at hp;subst hp;exact⟨hq,by simp,fun q' hq' _=>by simpa using hq'⟩
  .obtain⟨n1,n2⟩:=g4 e;exact⟨he,n1,fun q hq hqe=>n2 q hq p hp hqe he⟩
 obtain⟨arr,ty,fz,r1,r2,r3,r4⟩:=ED.row;have:=r3 iM;subst this;have hf:=ED.fit;refine⟨hb,hx.1,g1,g2,hx.2.1,hx.2.2,arr,ty,r1,r2,by omega,fun i c v a b=>?_⟩;have hi:=(a0n.1 a).1;exact r4 (fun _=>hx.1) i c v (by omega) a (by simpa[hb]using b)
theorem Valid.Zx{M:Mp}{D:Key->Prop}{C:Ct}{w:LI4}(h:Valid M D C w){k:Key}{ls:List Pl}{p:Pl}{cs:List TV}{kk CP:BK}{lim:Nat}(hk:M k=some (.cells ls))(hd:D k)
  (hc:C k=some (.cells kk cs)) (hp:p∈ls) (hl:lim<=p.ext) (yL:(kk=.own∧CP=.own)∨((kk=.grow∨kk=.last)∧CP=.last∧lim=cs.length)) :
  (kk=.own∧CP=.own)∨((kk=.grow∨kk=.last)∧CP=.last∧p.ext=cs.length):=by
 rcases yL with e|⟨e1,e2,e3⟩
 .exact .inl e
 .obtain⟨b,h1,h2⟩:=h.ok k _ hk hd;rw[hc]at h1;cases h1;have:=(h2.2.1 p hp).ext;exact .inr ⟨e1,e2,by omega⟩
theorem Oo:∀{ls:List Pl},(ls.map (·.c)).Nodup->∀{p q:Pl},p∈ls->q∈ls->q.c=p.c->q=p
 | [],_,p,q,hp,_,_=>by simp at hp
 |a::ls,h,p,q,hp,hq,e=>by
  simp only[a5g,a5n]at h;rcases a2x.1 hp with h1|h1<;>rcases a2x.1 hq with h2|h2
  .rw[h1,h2]
  .exact(h.1 (a1e.2 ⟨q,h2,by rw[e,h1]⟩)).elim
  .exact(h.1 (a1e.2 ⟨p,h1,by rw[<-e,h2]⟩)).elim
  exact Oo h.2 h1 h2 e
theorem zH{P:LI1}{M:Mp}{D:Key->Prop}{C:Ct}{w:LI4}(h:Valid M D C w){k:Key}{ls:List Pl}{p:Pl}{cs cs' new:List TV}{off:Nat}{xs:List LI3}{kk CP:BK}
  (hk:M k=some (.cells ls)) (hd:D k) (hc:C k=some (.cells kk cs)) (hp:p∈ls) (yL:(kk=.own∧CP=.own)∨((kk=.grow∨kk=.last)∧CP=.last∧p.ext=cs.length))
  (ho:wZ cs off new=some cs') (hx:bZ M.h new xs) (hn:∀c∈new,jk c=true) :
  ∃w',(storeCells ⟨p.c,p.base+off,none⟩ xs).run P w=.ok () w'∧Valid M D (mY C k (.cells CP cs')) w'∧Ext M C w M (mY C k (.cells CP cs')) w' [k]:=by
 obtain⟨hb,he,h1,ED,jL,huq,arr,ty,hr,hs,hle,hv⟩:=h.wrB hk hd hc hp yL;obtain⟨o1,o2,o3⟩:=wR ho;have hlen:=hx.len;have iM:kk≠.ro:=by rcases yL with⟨e,_⟩|⟨e|e,_⟩<;>rw[e]<;>simp
 have aiD:CP≠.ro:=by rcases yL with⟨_,e⟩|⟨_,e,_⟩<;>rw[e]<;>simp
 have Zj:∀b0,C k=some b0->wr b0=true:=fun b0 uN=>by rw[hc]at uN;cases uN;cases kk<;>simp_all [wr]
 have G7:∀v∈xs,v.oneCell'=true:=by
  intro v hv;obtain⟨i,hi,rfl⟩:=a5x.1 hv;have xk:i<new.length:=by omega
  exact Jr (hx.at_ i new[i] xs[i] (by simp[xk]) (by simp[hi])) (hn _ (a5p xk))
 have wI:=run_storeCells_at (P:=P) p.c (p.base+off) ty xs 0 arr w hr (by omega) G7;simp only[aex,hb,a4v]at wI
 let w':LI4:=w.setRow p.c (arr.toList.take off++xs++arr.toList.drop (off+xs.length)).toArray
 have qW:dQ M k (.cells ls)=M:=Js hk;have gV:∀c,c<w.heap.size->c∉aK (.cells ls)->w'.heap[c]? = w.heap[c]?:=fun c _ hc=>wH w p.c _ c (fun e=>hc (by rw[e];exact a1e.2 ⟨p,hp,rfl⟩));have gG:∀c∈aK (.cells ls),(∃l0,M k=some l0∧c∈aK l0)∨w.heap.size<=c:=fun c hc=>.inl ⟨_,hk,hc⟩;have vW:w.heap.size<=w'.heap.size:=by simp[w']
 have Ju:tV M (dQ M k (.cells ls)):=by rw[qW];exact .refl _
 refine⟨w',by rw[hb,a4v];exact wI,?_,?_⟩
 .have:=h.upd (D':=D) (w':=w') k (.cells CP cs') (.cells ls) (fun j hj=>.inl hj) (fun l0 h0=>by
   rw[hk]at h0;cases h0;exact⟨hd,.refl _,Zj⟩) gV gG vW (by
   rw[qW];refine⟨X8 ho h1 hn,fun q hq=>?_,fun e=>?_,fun e=>⟨jL,fun q1 H9 q2 He e1 e2=>by rw[huq q1 H9 (by omega),huq q2 He (by omega)]⟩⟩
   .have WW:=ED q hq;by_cases Zk:q.c=p.c
    .have:=Oo jL hp hq Zk;subst this;refine⟨⟨_,ty,(0,0),Om w q.c _ arr ty (0,0) hr,by simp;omega,fun _=>rfl,fun _ i c v hi a b=>?_⟩,by omega,by omega,fun _=>hb⟩;rw[hb,a4v,X7 i (by omega)]at b;rw[a3o ho i,hlen]at a;split at a
     .rename_i hi1;rw[a0I hi1]at b;exact hv i c v a b
     .rename_i hi1;rw[a0F hi1]at b;split at a
      .rename_i KY;rw[a0I KY]at b;exact hx.at_ _ c v a b
      .rename_i KY;rw[a0F KY]at b;exact hv i c v a b
    .obtain⟨vO,ty',fz',t1,t2,t3,t4⟩:=WW.row;refine⟨⟨vO,ty',fz',(wH w p.c _ q.c Zk).trans t1,t2,fun _=>t3 iM,fun hz i c v hi a b=>?_⟩,WW.fit,by have:=WW.ext;omega,fun _=>WW.base iM⟩;exfalso;apply Zk;rcases yL with⟨e,_⟩|⟨_,e,_⟩
     .obtain⟨b',g1,g2⟩:=h.ok k _ hk hd;rw[hc]at g1;cases g1;obtain⟨q',g3,_⟩:=g2.2.2.1 e;rw[g3]at hq hp;simp at hq hp;rw[hq,hp]
     .rw[huq q hq (by rw[hz e];omega)]
   .rcases yL with⟨e0,_⟩|⟨_,e1,_⟩
    .obtain⟨b',g1,g2⟩:=h.ok k _ hk hd;rw[hc]at g1;cases g1;obtain⟨q',g3,g4⟩:=g2.2.2.1 e0;exact⟨q',g3,by omega⟩
    .rw[e1]at e;cases e)
  rwa [qW]at this
 .have:=Ext.upd (M:=M) (C:=C) (w:=w) (w':=w') k (.cells CP cs') (.cells ls) [k] (.inl ⟨by simp[hc],rfl,by simp[hk],Zj⟩) Ju gV gG vW rfl rfl rfl
  rwa [qW]at this
theorem Oq{M:Mp}{D:Key->Prop}{C:Ct}{w:LI4}(h:Valid M D C w){k:Key}{cs:List TV}{arr:Array LI3}(ty:LI2)
  (hk:M k=none) (hc:C k=none) (hl:cs.length<=arr.size) (hx:∀(i:Nat) (c:TV) (v:LI3),cs[i]? = some c->arr[i]? = some v->VR M.h c v) (hn:∀c∈cs,jk c=true) :
  Valid (dQ M k (.cells [⟨w.heap.size,0,cs.length,arr.size⟩])) (fun j=>D j∨(C j=none∧(mY C k (.cells .own cs) j).isSome=true)) (mY C k (.cells .own cs)) (w.alloc (.cells arr ty)) ∧
  Ext M C w (dQ M k (.cells [⟨w.heap.size,0,cs.length,arr.size⟩])) (mY C k (.cells .own cs)) (w.alloc (.cells arr ty)) []:=by
 have hle:tV M (dQ M k (.cells [⟨w.heap.size,0,cs.length,arr.size⟩])):=nG fun l0 h0=>by rw[hk]at h0;cases h0
 have gV:∀c,c<w.heap.size->c∉aK (.cells [⟨w.heap.size,0,cs.length,arr.size⟩])->(w.alloc (.cells arr ty)).heap[c]? = w.heap[c]?:=fun c hc _=>xE w _ c hc;have gG:∀c∈aK (.cells [⟨w.heap.size,0,cs.length,arr.size⟩]),(∃l0,M k=some l0∧c∈aK l0)∨w.heap.size<=c:=fun c hc=>.inr (by simp[aK]at hc;omega);refine⟨h.upd k _ _ (fun j hj=>?_) (fun l0 h0=>by rw[hk]at h0;cases h0) gV gG (by simp) ?_,Ext.upd k _ _ [] (.inr ⟨hc,hk,rfl⟩) hle gV gG (by simp) rfl rfl rfl⟩
 .rcases hj with hj|⟨a,b⟩
  .exact .inl hj
  .right;unfold mY at b;split at b
   .assumption
   .simp[a]at b
 .refine⟨hn,fun q hq=>?_,fun _=>⟨_,rfl,rfl⟩,by simp⟩;simp at hq;subst hq;exact⟨⟨arr,ty,(0,0),heap_alloc_new w _,rfl,fun _=>rfl,fun _ i c v _ a b=>(hx i c v a (by simpa using b)).mono hle.h⟩,by simpa using hl,a15 _,fun _=>rfl⟩
theorem a5G{M:Mp}{env:List (Nat×EV)}{a:Act}(hE:kM M env a.tmps){x:Operand}{e:EV}(h:Jk env x=some e):ER M e (a.eval x):=by
 cases x with
 |tmp t=>exact hE t e h
 |const v=>
  simp only[Jk,a0A]at h;obtain⟨t,h1,rfl⟩:=h;exact .val (.zl h1)
 |func f=>
  simp only[Jk,a0k]at h;subst h;exact .val (VR.fn (xs:=[]) (ys:=[]) rfl (by simp) rfl (by simp))
 |global g=>simp[Jk]at h
theorem Zy{M:Mp}{env:List (Nat×EV)}{a:Act}(hE:kM M env a.tmps){x:Operand}{v:TV}(h:rH env x=some v):VR M.h v (a.eval x):=by
 unfold rH at h;split at h
 .rename_i v' he;simp at h;subst h;exact(a5G hE he).wF
 simp at h
structure PR(N:Np)(ps:List (Nat×TV))(qs:List (Nat×LI3)):Prop where
 len:ps.length=qs.length
 at_:∀(i:Nat) (p:Nat×TV) (q:Nat×LI3),ps[i]? = some p->qs[i]? = some q->p.1=q.1∧VR N p.2 q.2
theorem PR.nil{N:Np}:PR N [] []:=⟨rfl,by simp⟩
theorem PR.cons{N:Np}{i:Nat}{v:TV}{x:LI3}{ps:List (Nat×TV)}{qs:List (Nat×LI3)}(h:VR N v x)(hs:PR N ps qs):PR N ((i,v)::ps) ((i,x)::qs):=
 ⟨by simp[hs.len],fun j p q a b=>by
  cases j with
  |zero=>simp at a b;subst a;subst b;exact⟨rfl,h⟩
  |succ j=>simp at a b;exact hs.at_ j p q a b⟩
theorem PR.iY{N:Np}{i:Nat}{v:TV}{ps:List (Nat×TV)}{qs:List (Nat×LI3)}(h:PR N ((i,v)::ps) qs):∃x qs',qs=(i,x)::qs'∧VR N v x∧PR N ps qs':=by
 cases qs with
 |nil=>have:=h.len;simp at this
 |cons q qs'=>
  have h0:=h.at_ 0 (i,v) q rfl rfl;obtain⟨j,x⟩:=q;obtain⟨h1,h2⟩:=h0;simp only at h1;subst h1;exact⟨x,qs',rfl,h2,⟨by have:=h.len;simpa using this,fun j p q a b=>h.at_ (j+1) p q (by simpa using a) (by simpa using b)⟩⟩
theorem PR.qI{N:Np}{qs:List (Nat×LI3)}(h:PR N [] qs):qs=[]:=by have:=h.len;simp at this;exact a4J this.symm
def aiG(P:LI1)(c:Sem Next)(w:LI4)(x:LI3)(w':LI4):Prop:=
 c.run P w=.ok (.value x) w'∨(x=Go.undef∧c.run P w=.ok .skip w')
def Hf(P:LI1)(M:Mp)(D:Key->Prop)(C:Ct)(w:LI4)(c:Sem Next)(v:EV)(C1:Ct)(ws:List Key):Prop:=
 ∃x w' M',aiG P c w x w'∧Oj M D C w v C1 ws x w' M'
section
variable {P:LI1} {M:Mp} {D:Key->Prop} {w:LI4} {s:St}
theorem Hf.same{C:Ct}{c:Sem Next}{v:EV}{x:LI3}(hV:Valid M D C w)(hr:c.run P w=.ok (.value x) w)(he:ER M v x):Hf P M D C w c v C []:=
 ⟨x,w,M,.inl hr,.same hV he⟩
theorem rQ{k:Key}{l:Lc}(hk:M k=none):∀j l',M (.l j)=some l'->dQ M k l (.l j)=some l':=by intro j l' h;unfold dQ;rw[a0F (fun e=>by rw[<-e,h]at hk;cases hk)];exact h
theorem a5H(hV:Valid M D s.get w)(zI:M (.h s.heap.length)=none)(hnl:M (.l s.loc.length)=none)(site:Bool){cs:List TV}{xs:Array LI3}(ty:LI2)
  (hx:bZ M.h cs xs.toList) (hn:∀c∈cs,jk c=true) {v:EV} {s1:St} (h:rJ site s cs=(v,s1)) :
  ∃M',Oj M D s.get w v s1.get [] (.pointer (some ⟨w.heap.size,0,none⟩)) (w.alloc (.cells xs ty)) M':=by
 have hlen:cs.length<=xs.size:=by have:=hx.len;simpa using ahA this
 have KZ:∀(i:Nat) (c:TV) (v:LI3),cs[i]? = some c->xs[i]? = some v->VR M.h c v:=fun i c v a b=>hx.at_ i c v a (by simpa using b);unfold rJ at h;cases site with
 |true=>
  simp only[a2s,a0T]at h;obtain⟨rfl,rfl⟩:=h;have hc:s.get (.h s.heap.length)=none:=by simp[St.get]
  have:=Oq hV ty zI hc hlen KZ hn;refine⟨dQ M (.h s.heap.length) (.cells [⟨w.heap.size,0,cs.length,xs.size⟩]),⟨?_,?_,?_,rQ zI⟩⟩
  .rw[kW];exact this.1
  .rw[kW];exact this.2
  .exact .val (VR.ptr (p:=⟨w.heap.size,0,cs.length,xs.size⟩) (ls:=[⟨w.heap.size,0,cs.length,xs.size⟩]) (by simp[Mp.h,dQ]) (by simp) (a15 _) (by simpa using hlen))
 |false=>
  simp only[a3u,a3U,a0T]at h;obtain⟨rfl,rfl⟩:=h;have hc:s.get (.l s.loc.length)=none:=by simp[St.get]
  have:=Oq hV ty hnl hc hlen KZ hn;refine⟨dQ M (.l s.loc.length) (.cells [⟨w.heap.size,0,cs.length,xs.size⟩]),⟨?_,?_,?_,rQ hnl⟩⟩
  .rw[Sm];exact this.1
  .rw[Sm];exact this.2
  .exact ER.loc (p:=⟨w.heap.size,0,cs.length,xs.size⟩) (by simp[dQ]) rfl
theorem a1d{x:LI3}{c:TV}(h:TV.ofC x=some c):jk c=true:=by unfold TV.ofC at h;split at h<;>simp at h<;>subst h<;>rfl
theorem X9:∀{xs:List LI3} {cs:List TV},TV.Di xs=some cs->∀c∈cs,jk c=true
 | [],cs,h=>by simp[TV.Di]at h;subst h;simp
 |x::xs,cs,h=>by
  simp only[TV.Di]at h;split at h
  .rename_i v vs h1 h2;simp at h;subst h;intro c hc;rcases a2x.1 hc with rfl|hc
   .exact a1d h1
   exact X9 h2 c hc
  simp at h
theorem a3q{x:LI3}{v:TV}(h:TV.WV x=some v):∀c∈v.cells,jk c=true:=by
 unfold TV.WV at h;split at h
 .simp only[a0A]at h;obtain⟨vs,h1,rfl⟩:=h;exact X9 h1
 have h1:=a1d h;cases v<;>simp[jk]at h1<;>simp[TV.cells,jk]
theorem xG{t:LI2}{z:List TV}(h:KR P t=some z):∃i x v,P.info? t=some i∧i.zero=some x∧TV.WV x=some v∧z=v.cells∧(∀c∈z,jk c=true) ∧
  (∀N:Np,bZ N z x.cells.toList)∧∀w,(zeroValue t).run P w=.ok x w:=by
 unfold KR at h;split at h
 .rename_i i hi;split at h
  .rename_i x hx;simp only[a0A]at h;obtain⟨v,h1,rfl⟩:=h;exact⟨i,x,v,hi,hx,h1,rfl,a3q h1,fun N=>(VR.zl h1).cells,fun w=>by simp[zeroValue,jl hi,hx]⟩
  .simp at h
 .simp at h
theorem Zz(vs:List LI3):∀(k off:Nat) (arr:Array LI3),off+k+vs.length<=arr.size ->
  ((vs.zipIdx k).foldl (fun(cs:Array LI3) (c:LI3×Nat)=>cs.setIfInBounds (off+c.2) c.1) arr).toList=arr.toList.take (off+k)++vs++arr.toList.drop (off+k+vs.length):=by
 induction vs with
 |nil=>intro k off arr h;simp
 |cons v vs ih=>
  intro k off arr h;simp only[a4O]at h;simp only[List.zipIdx_cons,aeb];rw[ih (k+1) off _ (by simp;omega)];have e:=list_seg_step arr.toList (off+k) v vs (by simp;omega);simpa[Array.toList_setIfInBounds,aay]using e
theorem N7{N:Np}{place place':Nat->Option (Nat×Nat)}(hp:∀i x,place i=some x->place' i=some x):∀{ps:List (Nat×TV)} {qs:List (Nat×LI3)} {cs r:List TV} {arr:Array LI3},tK place cs ps=some r->PR N ps qs ->
  bZ N cs arr.toList->∃vO,Instr.fill place' arr qs=some vO∧bZ N r vO.toList
 | [],qs,cs,r,arr,h,hq,hc=>by have:=hq.qI;subst this;simp[tK]at h;subst h;exact⟨arr,rfl,hc⟩
 |(i,v)::ps,qs,cs,r,arr,h,hq,hc=>by
  obtain⟨x,qs',rfl,hx,hq'⟩:=hq.iY;simp only[tK]at h;split at h
  .rename_i off size ED;split at h
   .rename_i vW;split at h
    .rename_i cs' ho;obtain⟨o1,o2,o3⟩:=wR ho;have hxc:=hx.cells;have hl1:=hxc.len;have Sr:=hc.len;simp only[aas]at hl1 Sr;have e:(x.cells.zipIdx.foldl (fun(cs:Array LI3) (c:LI3×Nat)=>cs.setIfInBounds (off+c.2) c.1) arr).toList=arr.toList.take off++x.cells.toList++arr.toList.drop (off+x.cells.toList.length):=by rw[<-Array.foldl_toList,Array.toList_zipIdx];have:=Zz x.cells.toList 0 off arr (by simp;omega);simpa using this
     have Rq:bZ N cs' (x.cells.zipIdx.foldl (fun(cs:Array LI3) (c:LI3×Nat)=>cs.setIfInBounds (off+c.2) c.1) arr).toList:=by have hlx:x.cells.toList.length=v.cells.length:=(by simp[hl1]);rw[e,o2,hlx];exact((hc.take off).append hxc).append (hc.drop _)
     obtain⟨vO,g1,g2⟩:=N7 hp h hq' Rq;refine⟨vO,?_,g2⟩;simp only[Instr.fill,hp i _ ED];rw[a0F (by simp;omega)];exact g1
    .simp at h
   .simp at h
  .simp at h
theorem Ot{w:LI4}:∀(fs:List Field),Dj P fs=true->(fs.mapM (fun f=>Functor.map (Prod.mk f.offset) (Go.sizeOf f.type):Field->Sem (Nat×Nat))).run P w=.ok (fs.map fun f=>(f.offset,(dI P f.type).getD 0)) w
 | [],_=>by simp
 |f::fs,h=>by simp only[Dj,acF,a2c]at h;obtain⟨n,hn⟩:=a5N.1 h.1;have ih:=Ot (w:=w) fs (by simpa[Dj]using h.2);simp only[List.mapM_cons,Sem.run_bind,Sem.run_map,dh hn,Result.andThen_ok,Sem.run_pure,ih,a5g,hn,a5z]
theorem a5J{N:Np}{t:LI2}{ps:List (Nat×TV)}{qs:List (Nat×LI3)}{v:TV}(h:O8 P t ps=some v)(hq:PR N ps qs) :
  ∃x,VR N v x∧∀w,(Instr.build t qs.toArray).run P w=.ok x w:=by
 unfold O8 at h;split at h
 .rename_i z fs hz hu;split at h
  .rename_i ha;simp only[a0A]at h;obtain⟨r,hr,rfl⟩:=h;obtain⟨i,x,v,_,_,_,_,_,hvr,hzr⟩:=xG hz;obtain⟨vO,g1,g2⟩:=N7 (place':=fun i=>(fs.map fun f=>(f.offset,(dI P f.type).getD 0))[i]?) (fun i x hx=>by
    unfold UH at hx;split at hx
    .rename_i f hf;simp only[a0A]at hx;obtain⟨n,hn,rfl⟩:=hx;simp[hf,hn]
    .simp at hx) hr hq (hvr N)
   refine⟨_,.agg' g2,fun w=>?_⟩;have hm:(fs.mapM (fun f=>Functor.map (Prod.mk f.offset) (Go.sizeOf f.type):Field->Sem (Nat×Nat))).run P w=.ok (fs.map fun f=>(f.offset,(dI P f.type).getD 0)) w:=by rw[Array.mapM_eq_mapM_toList,Sem.run_map,Ot fs.toList ha];simp only[Result.andThen_ok];congr 1;apply aeI;simp
   simp only[Array.getElem?_map]at g1;simp[Instr.build,hzr w,run_underlying hu,hm,g1]
  .simp at h
 .rename_i z n e hz hu;split at h
  .rename_i n hn;simp only[a0A]at h;obtain⟨r,hr,rfl⟩:=h;obtain⟨i,x,v,_,_,_,_,_,hvr,hzr⟩:=xG hz;obtain⟨vO,g1,g2⟩:=N7 (place':=fun i=>some (i*n,n)) (fun i x hx=>hx) hr hq (hvr N);exact⟨_,.agg' g2,fun w=>by simp[Instr.build,hzr w,run_underlying hu,dh hn,g1]⟩
  .simp at h
 .simp at h
end
section
variable {P:LI1} {M:Mp} {D:Key->Prop} {w:LI4} {s:St}
theorem Xa{t:LI2}{cs:List TV}{off:Nat}{v:TV}(h:uU P t cs off=some v):∃n,dI P t=some n∧off+n<=cs.length:=by
 unfold uU at h;split at h
 .rename_i n _ hn;simp only[a0A]at h;obtain⟨r,hr,_⟩:=h;exact⟨n,hn,(uX hr).1⟩
 .rename_i n _ hn;split at h
  .rename_i h1;subst h1;exact⟨1,hn,(a0n.1 h).1⟩
  simp at h
 simp at h
theorem a1f{N:Np}{t:LI2}{cs:List TV}{off:Nat}{v:TV}{xs:List LI3}(h:uU P t cs off=some v)(hx:bZ N cs xs) :
  ∃x,VR N v x∧(Go.part t xs.toArray off).run P w=.ok x w:=by
 unfold uU at h;split at h
 .rename_i n ha hn;simp only[a0A]at h;obtain⟨r,hr,rfl⟩:=h;obtain⟨s1,s2,s3⟩:=uX hr;have hl:=hx.len;refine⟨.agg ((xs.drop off).take n).toArray,.agg' (by rw[s2];exact(hx.drop off).take n),?_⟩;simp[Go.part,AY ha,dh hn]
 .rename_i n ha hn;split at h
  .obtain⟨x,h1,h2⟩:=hx.get h;exact⟨x,h2,by simp[Go.part,AY ha,h1]⟩
  .simp at h
 .simp at h
theorem Hg{t:LI2}{e:EV}{v:TV}{i:ni}{x:LI3}(hV:Valid M D s.get w)(h:loadT P t s e=some (v,i))(hx:ER M e x)(hD:∀k∈i.ts,D k) :
  i.ws=[]∧∃y,VR M.h v y∧(Instr.loadAt t x).run P w=.ok y w:=by
 unfold loadT at h;split at h
 .rename_i k off;split at h
  .rename_i cs hk;simp only[a0A,a0T]at h;obtain⟨v',hv,rfl,rfl⟩:=h;cases hx with
   |loc hm hb=>
    rename_i p;have hg:s.get (.l k)=some (.cells .own cs):=(by simp[St.get,hk]);have hd:=hD (.l k) (by simp[yA]);obtain⟨b,h1,h2⟩:=hV.ok _ _ hm hd;rw[hg]at h1;cases h1;obtain⟨_,h3,h4,_⟩:=h2;obtain⟨q,hq,he⟩:=h4 rfl;simp at hq;subst hq;obtain⟨n,hn,hle⟩:=Xa hv;obtain⟨y,g1,g2⟩:=KW (P:=P) (h3 p (by simp)) hn hv (by omega) (fun e=>by cases e);rw[hb,a4v]at g2;exact⟨rfl,y,g1,by simp[Instr.loadAt,Instr.sureAddr,g2]⟩
  .simp at h
 .rename_i b off lim;split at h
  .rename_i cs n hb hn;split at h
   .rename_i Me;simp only[a0A,a0T]at h;obtain⟨v',hv,rfl,rfl⟩:=h;cases hx with
    |val hx=>
     cases hx with
     |ptr hm hp hl ht=>
      rename_i ls p;obtain⟨k,hk,Xb⟩:=yK hb;have hd:=hD (.h b) (by simp[yA]);obtain⟨gK,h1,h2⟩:=hV.ok _ _ hm hd;simp only[St.get,hk,a0k]at h1;subst h1;obtain⟨_,h3,_⟩:=h2;obtain⟨y,g1,g2⟩:=KW (P:=P) (h3 p hp) hn hv (by omega) (fun e=>by have:=Xb e;have:=(h3 p hp).ext;omega);exact⟨rfl,y,g1,by simp[Instr.loadAt,Instr.sureAddr,g2]⟩
   .simp at h
  .simp at h
 .simp at h
theorem N8{l:List TV}(h:l.all jk=true):∀c∈l,jk c=true:=by simpa using h
theorem ZA{t:LI2}{e:EV}{v:TV}{i:ni}{x y:LI3}{s1:St}(hV:Valid M D s.get w)(h:storeT P t s e v=some (s1,i))(hx:ER M e x)(hy:VR M.h v y)(hD:∀k∈i.ts,D k) :
  s1.env=s.env∧∃w',(Instr.storeAt t x y).run P w=.ok () w'∧Valid M D s1.get w'∧Ext M s.get w M s1.get w' i.ws∧∀k,s.get k=none->s1.get k=none:=by
 unfold storeT at h;split at h
 case h_2=>simp at h
 rename_i n hn;split at h
 case isFalse=>simp at h
 rename_i hc;obtain⟨hlen,G7⟩:=hc;have hyc:=hy.cells;have hyl:y.cells.size=n:=by have:=hyc.len;simp at this;omega
 split at h
 .rename_i k off;split at h
  .rename_i cs hk;simp only[a0A,a0T]at h;obtain⟨cs',ho,rfl,rfl⟩:=h;cases hx with
   |loc hm hb=>
    rename_i p;have hg:s.get (.l k)=some (.cells .own cs):=(by simp[St.get,hk]);obtain⟨w',r1,r2,r3⟩:=zH (P:=P) hV hm (hD _ (by simp[qo])) hg (a2U.2 rfl) (.inl ⟨rfl,rfl⟩) ho hyc (N8 G7);have L6:=(a0n.1 hk).1;refine⟨rfl,w',?_,?_,?_,?_⟩
    .rw[hb,a4v]at r1;simp[Instr.storeAt,Instr.sureAddr,storeVar,dh hn,hyl,r1]
    .rw[Ol s k cs' L6];exact r2
    .rw[Ol s k cs' L6];exact r3
    .rw[Ol s k cs' L6];exact EC (by simp[hg])
  .simp at h
 .rename_i b off lim;split at h
  .rename_i Me;simp only[a0A,a0T]at h;obtain⟨h',hs,rfl,rfl⟩:=h;cases hx with
   |val hx=>
    cases hx with
    |ptr hm hp hl ht=>
     rename_i ls p;obtain⟨kk,CP,cs,cs',hb,yL,ho,rfl⟩:=Jt hs;have hg:s.get (.h b)=some (.cells kk cs):=(by simp[St.get,hb]);obtain⟨w',r1,r2,r3⟩:=zH (P:=P) hV hm (hD _ (by simp[qo])) hg hp (hV.Zx hm (hD _ (by simp[qo])) hg hp hl yL) ho hyc (N8 G7);have L6:=(a0n.1 hb).1;refine⟨rfl,w',?_,?_,?_,?_⟩
     .simp[Instr.storeAt,Instr.sureAddr,storeVar,dh hn,hyl,r1]
     .rw[jK s b _ L6];exact r2
     .rw[jK s b _ L6];exact r3
     .rw[jK s b _ L6];exact EC (by simp[hg])
  .simp at h
 .simp at h
theorem Hl{n:Nat}{v:TV}{j:Nat}{N:Np}{x:LI3}(h:idx n v=some j)(hx:VR N v x):∃k i,x=.int k i∧0<=i∧i<n∧j=i.toNat∧j<n:=by
 unfold idx at h;split at h
 .rename_i k i;split at h
  .rename_i hc;simp at h;subst h;cases hx;exact⟨k,i,rfl,hc.1,hc.2,rfl,by omega⟩
  simp at h
 simp at h
theorem Ou{o:Nat}{e e':EV}{x:LI3}(h:Rk o e=some e')(hx:ER M e x):∃a,x=.pointer (some a)∧ER M e' (.pointer (some (a.add o))):=by
 unfold Rk at h;split at h
 .simp at h;subst h;cases hx with
  |loc hm hb=>exact⟨_,rfl,by rw[uV];exact .loc hm hb⟩
 .rename_i b off lim;split at h
  .rename_i hl;simp at h;subst h;cases hx with
   |val hx=>
    cases hx with
    |ptr hm hp hl ht=>exact⟨_,rfl,by rw[uV,aay];exact .val (.ptr hm hp hl ht)⟩
  simp at h
 simp at h
theorem UQ{t:LI2}{f n:Nat}{e e':EV}{x:LI3}(h1:H6 P t f=some n)(h:Rk n e=some e')(hx:ER M e x) :
  ∃y,ER M e' y∧(Instr.fieldAt t x f).run P w=.ok y w:=by
 obtain⟨a,rfl,he⟩:=Ou h hx;unfold H6 at h1;split at h1
 .rename_i fs hu;split at h1
  .rename_i fd hf;split at h1
   .rename_i m hm;split at h1
    .simp at h1
    .rename_i hz;simp at h1;subst h1;refine⟨_,he,?_⟩;simp[Instr.fieldAt,run_underlying hu,hf,Instr.sureAddr,fieldPlace,dh hm,hz]
   .simp at h1
  .simp at h1
 .simp at h1
theorem Ov{N:Np}{t:LI2}{f:Nat}{v v':TV}{x:LI3}(h:O9 P t v f=some v')(hx:VR N v x) :
  ∃y,VR N v' y∧(Instr.field t x f).run P w=.ok y w:=by
 unfold O9 at h;split at h
 .rename_i fs cs hu;split at h
  .rename_i fd hf;cases hx with
   |agg g1 g2=>
    obtain⟨y,r1,r2⟩:=a1f (P:=P) (w:=w) h ⟨g1,g2⟩;exact⟨y,r1,by simp[Instr.field,run_underlying hu,hf,asAgg,r2]⟩
  .simp at h
 .simp at h
theorem AZ{t:LI2}{e e':EV}{v:TV}{x y:LI3}(h:nC P t e v=some e')(hx:ER M e x)(hy:VR M.h v y) :
  ∃z,ER M e' z∧(Instr.indexAt t x y).run P w=.ok z w:=by
 unfold nC at h;split at h
 .rename_i el hu;split at h
  .rename_i n b off len cap sz ex hn;split at h
   .rename_i vW;simp only[a0A]at h;obtain⟨j,hj,rfl⟩:=h;subst vW;obtain⟨k,i,rfl,h0,h1,rfl,h2⟩:=Hl hj hy;cases hx with
    |val hx=>
     cases hx with
     |aP hb hp hl hle hc hex ha hk=>
      rename_i ls p a cap';rcases ha with ha|⟨rfl,ha⟩
      .omega
      .have hmul:i.toNat*n+n<=len*n:=by
        have:=a3Z n (show i.toNat+1<=len by omega)
        rwa [a3C,aav]at this
       have acI:cap*n<=cap'*n:=a3Z n (by omega);have hp:=hp.resolve_left (by omega);refine⟨_,.val (.ptr hb hp (lim:=off+cap*n) (off:=off+i.toNat*n) (by omega) (by omega)),?_⟩;simp[Instr.indexAt,asIntOf,run_underlying hu,h0,h1,dh hn,uV,aay]
   .simp at h
  .simp at h
 .rename_i len el hu;split at h
  .rename_i n hn;split at h
   .rename_i j hj;obtain⟨k,i,rfl,h0,h1,rfl,h2⟩:=Hl hj hy;obtain⟨a,rfl,he⟩:=Ou h hx;refine⟨_,he,?_⟩;simp[Instr.indexAt,asIntOf,run_underlying hu,Instr.sureAddr,h0,h1,dh hn]
   .simp at h
  .simp at h
 .simp at h
theorem Ox{N:Np}{t:LI2}{v u r:TV}{x y:LI3}(h:Jp P t v u=some r)(hx:VR N v x)(hy:VR N u y) :
  ∃z,VR N r z∧(Instr.index t x y).run P w=.ok z w:=by
 unfold Jp at h;split at h
 .rename_i len el cs hu;split at h
  .rename_i n j hn hj;obtain⟨k,i,rfl,h0,h1,rfl,h2⟩:=Hl hj hy;cases hx with
   |agg g1 g2=>
    obtain⟨z,r1,r2⟩:=a1f (P:=P) (w:=w) h ⟨g1,g2⟩;exact⟨z,r1,by simp[Instr.index,asIntOf,run_underlying hu,h0,h1,dh hn,r2]⟩
  .simp at h
 .rename_i bs hu;split at h
  .rename_i j hj;obtain⟨k,i,rfl,h0,h1,rfl,h2⟩:=Hl hj hy;simp only[a0A]at h;obtain⟨b,hb,rfl⟩:=h;cases hx;exact⟨_,.int _ _,by simp[Instr.index,asIntOf,run_underlying hu,h0,hb]⟩
  .simp at h
 .simp at h
end
section
variable {P:LI1} {M:Mp} {D:Key->Prop} {w:LI4} {s:St}
theorem a1g{N:Np}:∀{az:List TV} {xs ys:List LI3},CZ az=some xs->bZ N az ys->ys=xs
 | [],xs,ys,h,hy=>by simp[CZ]at h;subst h;exact hy.qI
 |c::az,xs,ys,h,hy=>by
  simp only[CZ]at h;split at h
  .rename_i v vs h1 h2;simp at h;subst h;obtain⟨u,us,rfl,hu,hus⟩:=hy.iY;rw[xq h1 hu,a1g h2 hus]
  simp at h
def Ho:NK->LI3->Prop
 |.ptr,x=>x=.pointer none
 |.aP,x=>x=.slice none 0 0
 |.map,x=>x=.map none
 |.fn,x=>x=.nilFunc
 |.ifc,x=>x=.nilIface
def zq:NK->LI3->Prop
 |.ptr,x=>∃a,x=.pointer (some a)
 |.aP,x=>∃a l c,x=.slice (some a) l c
 |.map,x=>∃r,x=.map (some r)
 |.fn,x=>∃f a c,x=.func f a c
 |.ifc,_=>False
theorem a1h{N:Np}{v:TV}{k:NK}{x:LI3}(h:Zu v=some k)(hx:VR N v x):Ho k x:=by cases hx<;>simp[Zu]at h<;>subst h<;>rfl
theorem Xc{N:Np}{v:TV}{k:NK}{x:LI3}(h:KT v=some k)(hx:VR N v x):zq k x:=by cases hx<;>simp[KT]at h<;>subst h<;>simp[zq]
theorem a5L{t:LI2}{k:NK}(h:KU P t=some k):match k with
  |.ptr=>∃e,P.underlying t=some (.pointer e)
  |.aP=>∃e,P.underlying t=some (.slice e)
  |.map=>∃e f,P.underlying t=some (.map e f)
  |.fn=>∃e f g,P.underlying t=some (.func e f g)
  |.ifc=>False:=by
 unfold KU at h;split at h<;>simp at h<;>subst h<;>simp_all
theorem a3s{t:LI2}{k:NK}{x y:LI3}(h:KU P t=some k)(hxy:(Ho k x∧zq k y)∨(zq k x∧Ho k y))(d:Nat) :
  (Op.equalIn (d+1) t x y).run P w=.ok false w:=by
 have hk:=a5L h;cases k with
 |ptr=>
  obtain⟨e,hu⟩:=hk;rcases hxy with⟨hx,a,rfl⟩|⟨⟨a,rfl⟩,hy⟩
  .cases hx;simp[Op.equalIn,run_underlying hu]
  .cases hy;simp[Op.equalIn,run_underlying hu]
 |aP=>
  obtain⟨e,hu⟩:=hk;rcases hxy with⟨hx,a,l,c,rfl⟩|⟨⟨a,l,c,rfl⟩,hy⟩
  .cases hx;simp[Op.equalIn,run_underlying hu]
  .cases hy;simp[Op.equalIn,run_underlying hu]
 |map=>
  obtain⟨e,f,hu⟩:=hk;rcases hxy with⟨hx,a,rfl⟩|⟨⟨a,rfl⟩,hy⟩
  .cases hx;simp[Op.equalIn,run_underlying hu]
  .cases hy;simp[Op.equalIn,run_underlying hu]
 |fn=>
  obtain⟨e,f,g,hu⟩:=hk;rcases hxy with⟨hx,a,b,c,rfl⟩|⟨⟨a,b,c,rfl⟩,hy⟩
  .cases hx;simp[Op.equalIn,run_underlying hu]
  .cases hy;simp[Op.equalIn,run_underlying hu]
 |ifc=>exact hk.elim
theorem a1i{t:LI2}{k:NK}{ox oy:Operand}{x y:LI3}(h:KU P t=some k)(hxy:(Ho k x∧zq k y)∨(zq k x∧Ho k y))(b:Bool)(op:BinOp)(hb:(op=.eql∧b=false)∨(op=.neq∧b=true)) :
  (do eqGuard op t ox oy x y;binOp op t x y:Sem LI3).run P w=.ok (.bool b) w:=by
 have he:(Op.equal t x y).run P w=.ok false w:=a3s h hxy 9999;have hg:(eqGuard op t ox oy x y).run P w=.ok () w:=by
  cases k<;>rcases hxy with⟨hx,hy⟩|⟨hx,hy⟩<;>simp only[Ho,zq]at hx hy <;>
   (first|(exact hy.elim)|(exact hx.elim)|skip)<;>(try obtain⟨_,rfl⟩:=hx)<;>(try obtain⟨_,rfl⟩:=hy)<;>(try obtain⟨_,_,rfl⟩:=hx)<;>(try obtain⟨_,_,rfl⟩:=hy)<;>(try subst hx)<;>(try subst hy) <;>
   (try obtain⟨_,_,_,rfl⟩:=hx)<;>(try obtain⟨_,_,_,rfl⟩:=hy)<;>rcases hb with⟨rfl,rfl⟩|⟨rfl,rfl⟩<;>simp[eqGuard]
 have Rt:(binOp op t x y).run P w=.ok (.bool b) w:=by
  cases k<;>rcases hxy with⟨hx,hy⟩|⟨hx,hy⟩<;>simp only[Ho,zq]at hx hy <;>
   (first|(exact hy.elim)|(exact hx.elim)|skip)<;>(try obtain⟨_,rfl⟩:=hx)<;>(try obtain⟨_,rfl⟩:=hy)<;>(try obtain⟨_,_,rfl⟩:=hx)<;>(try obtain⟨_,_,rfl⟩:=hy)<;>(try subst hx)<;>(try subst hy) <;>
   (try obtain⟨_,_,_,rfl⟩:=hx)<;>(try obtain⟨_,_,_,rfl⟩:=hy)<;>rcases hb with⟨rfl,rfl⟩|⟨rfl,rfl⟩<;>simp only[binOp,Sem.run_bind,he,Result.andThen_ok,Sem.run_pure,aaO]
 simp only[Sem.run_bind,hg,Result.andThen_ok,Rt]
theorem ZB{N:Np}{op:BinOp}{t:LI2}{ox oy:Operand}{a b r:TV}{x y:LI3}(h:tZ P op t ox oy a b=some r)(hx:VR N a x)(hy:VR N b y) :
  ∃z,VR N r z∧(do eqGuard op t ox oy x y;binOp op t x y:Sem LI3).run P w=.ok z w:=by
 unfold tZ at h;split at h
 .rename_i u v hu hv;split at h
  .rename_i z hz;have e1:=xq hu hx;have e2:=xq hv hy;subst e1;subst e2;exact⟨z,.zl h,jq hz w⟩
  .simp at h
 .split at h
  .rename_i hn;unfold Dk at hn;split at hn
   case h_2=>simp at hn
   rename_i k hk;have hxy:(Ho k x∧zq k y)∨(zq k x∧Ho k y):=by
    simp only[a9P,a2c,a6Z]at hn;rcases hn with⟨h1,h2⟩|⟨h1,h2⟩
    .exact .inl ⟨a1h h1 hx,Xc h2 hy⟩
    .exact .inr ⟨Xc h1 hx,a1h h2 hy⟩
   split at h
   .simp at h;subst h;exact⟨_,.bool false,a1i hk hxy false _ (.inl ⟨rfl,rfl⟩)⟩
   .simp at h;subst h;exact⟨_,.bool true,a1i hk hxy true _ (.inr ⟨rfl,rfl⟩)⟩
   .simp at h
  .simp at h
theorem ji{N:Np}{op:UnOp}{a r:TV}{x:LI3}(h:unT P op a=some r)(hx:VR N a x):∃z,VR N r z∧(Op.unary op x).run P w=.ok z w:=by
 unfold unT at h;split at h
 .rename_i u hu;split at h
  .rename_i z hz;have e1:=xq hu hx;subst e1;exact⟨z,.zl h,jq hz w⟩
  simp at h
 simp at h
theorem UR{N:Np}{t u:LI2}{a r:TV}{x:LI3}(h:S9 P t u a=some r)(hx:VR N a x):∃z,VR N r z∧(convert t u x).run P w=.ok z w:=by
 unfold S9 at h;split at h
 .rename_i u hu;split at h
  .rename_i z hz;have e1:=xq hu hx;subst e1;exact⟨z,.zl h,jq hz w⟩
  simp at h
 simp at h
theorem zJ{N:Np}{mx:Bool}{at_:Array LI2}{t:LI2}{az:List TV}{r:TV}{xs:List LI3}(h:Ew P mx at_ t az=some r)(hx:bZ N az xs) :
  ∃z,VR N r z∧(if mx then Builtin.max_ at_ t xs.toArray else Builtin.min_ at_ t xs.toArray).run P w=.ok z w:=by
 unfold Ew at h;split at h
 .rename_i us hu;split at h
  .rename_i z hz;have e1:=a1g hu hx;subst e1;exact⟨z,.zl h,jq hz w⟩
  .simp at h
 .simp at h
theorem lU{n j:Nat}{v:TV}(h:rM n v=some j):j<=n:=by
 unfold rM at h;split at h
 .split at h
  .simp at h;omega
  simp at h
 simp at h
theorem uj{N:Np}{n j m:Nat}{v:TV}{x:LI3}{code:BoundsCode}(h:rM n v=some j)(hx:VR N v x)(hm:j<=m) :
  (Instr.sliceBound x m code).run P w=.ok j w:=by
 unfold rM at h;split at h
 .rename_i k i;split at h
  .rename_i hc;simp at h;subst h;cases hx;have:i<=(m:Int):=(by omega);simp[Instr.sliceBound,asIntOf,hc.1,this]
  .simp at h
 .simp at h
inductive OR(N:Np):Option TV->Option LI3->Prop
 |none:OR N none none
 |some {v:TV} {x:LI3} (h:VR N v x):OR N (some v) (some x)
theorem yM{N:Np}{is:Bool}{len cap' n l0 hg:Nat}{lo hi:Option TV}{ZC xk:Option LI3}(hl:OR N lo ZC)(hh:OR N hi xk)
  (h1:jJ n len hi=some hg) (h2:jJ hg 0 lo=some l0) (h3:hg<=cap'):(Instr.sliceBounds is len cap' ZC xk none).run P w=.ok (l0,hg,cap') w:=by
 cases hh with
 |none=>
  simp only[jJ,a0k]at h1;subst h1;cases hl with
  |none=>simp only[jJ,a0k]at h2;subst h2;simp[Instr.sliceBounds]
  |some hv=>simp only[jJ]at h2;simp[Instr.sliceBounds,uj (P:=P) (w:=w) h2 hv (lU h2)]
 |some hv'=>
  simp only[jJ]at h1;cases hl with
  |none=>simp only[jJ,a0k]at h2;subst h2;simp[Instr.sliceBounds,uj (P:=P) (w:=w) h1 hv' h3]
  |some hv=>simp only[jJ]at h2;simp[Instr.sliceBounds,uj (P:=P) (w:=w) h1 hv' h3,uj (P:=P) (w:=w) h2 hv (lU h2)]
theorem G8{N:Np}{is:Bool}{len cap' n k l0 hg m:Nat}{lo:Option TV}{hi mx:TV}{ZC:Option LI3}{xk mx':LI3}(hl:OR N lo ZC)(hh:VR N hi xk)(hm:VR N mx mx')
  (h0:rM k mx=some m) (h1:rM n hi=some hg) (h2:jJ hg 0 lo=some l0) (h3:hg<=m) (h4:m<=cap'):(Instr.sliceBounds is len cap' ZC (some xk) (some mx')).run P w=.ok (l0,hg,m) w:=by
 have r1:=fun code=>uj (P:=P) (w:=w) (code:=code) h0 hm h4;have r2:=fun code=>uj (P:=P) (w:=w) (code:=code) h1 hh h3;cases hl with
 |none=>simp only[jJ,a0k]at h2;subst h2;simp[Instr.sliceBounds,r1,r2]
 |some hv=>simp only[jJ]at h2;simp[Instr.sliceBounds,r1,r2,uj (P:=P) (w:=w) h2 hv (lU h2)]
theorem Oy{N:Np}{t:LI2}{v r:TV}{lo hi mx:Option TV}{x:LI3}{ZC xk mx':Option LI3}(h:rO P t v lo hi mx=some r)(hx:VR N v x)
  (hl:OR N lo ZC) (hh:OR N hi xk) (hm:OR N mx mx'):∃z,VR N r z∧(Instr.sliceAt t x ZC xk mx').run P w=.ok z w:=by
 unfold rO at h;split at h
 .-- strings
  rename_i bs hu;split at h
  .simp at h
  .cases hm;split at h
   .rename_i h0 gQ;split at h
    .rename_i l0 rG;simp at h;subst h;cases hx;refine⟨_,.str _,?_⟩;have hle:h0<=bs.size:=by
      cases hi with
      |none=>simp only[jJ,a0k]at gQ;omega
      |some v=>simp only[jJ]at gQ;exact lU gQ
     have e1:=yM (P:=P) (w:=w) (is:=false) (cap':=bs.size) hl hh gQ rG hle;simp[Instr.sliceAt,Instr.slice,run_underlying hu,e1]
    .simp at h
   .simp at h
 .-- slices
  rename_i e b off len cap sz ex hu;split at h
  .rename_i n hn;split at h
   case isFalse=>simp at h
   rename_i vW;subst vW;cases hx with
   |aP hb hp G9 hle xH hex ha hk=>
    rename_i ls p a cap';have fin:∀(l hgh m:Nat) (ex':Bool),l<=hgh->hgh<=len->hgh<=m->m<=cap'->(m':Nat)->m'<=m->m'<=cap->hgh<=m'->(ex'=true->m=m') ->
      VR N (.aP b (off+l*n) (hgh-l) (m'-l) n ex') (.slice (if m=l then some a else(some a).map (·.add (l*n))) (hgh-l) (m-l)):=by
     intro l hgh m ex' h1 h2 h3 h4 m' h5 h5' h6 h7;have hmul:l*n+(hgh-l)*n=hgh*n:=by rw[<-a3C];congr 1;omega
     have acI:m'*n<=cap*n:=a3Z n h5';have atq:l*n+(m'-l)*n=m'*n:=by rw[<-a3C];congr 1;omega
     have CQ:(if m=l then some a else(some a).map (·.add (l*n)))=some (if m=l then a else a.add (l*n)):=by split<;>rfl
     rw[CQ];refine .aP hb (hp.imp (fun e=>by omega) id) (by omega) (by omega) (by omega) (fun e=>by have:=h7 e;omega) ?_ (by omega);by_cases hml:m=l
     .left;omega
     .right;rcases ha with ha|⟨rfl,ha⟩
      .omega
      .rw[a0F hml,uV];have atr:l*n+(m-l)*n=m*n:=by rw[<-a3C];congr 1;omega
       have att:m*n<=cap'*n:=a3Z n h4;exact⟨by rw[aay],by omega⟩
    split at h
    .rename_i m0;cases hm with
     |some Ru=>
      split at h
      .rename_i m h0 WX;split at h
       .rename_i hg vX;split at h
        .rename_i l0 rG;simp at h;subst h;cases hh with
         |some hhv=>
          have b1:=lU WX;have b2:=lU vX;have b3:l0<=hg:=by
           cases lo with
           |none=>simp only[jJ,a0k]at rG;omega
           |some v=>simp only[jJ]at rG;exact lU rG
          have e1:=G8 (P:=P) (w:=w) (is:=true) (len:=len) (cap':=cap') hl hhv Ru WX vX rG (by omega) (by omega);exact⟨_,fin l0 hg m true b3 (by omega) (by omega) (by omega) m (by omega) (by omega) (by omega) (fun _=>rfl),by simp[Instr.sliceAt,Instr.slice,run_underlying hu,e1,dh hn]⟩
        .simp at h
       .simp at h
      .simp at h
    .cases hm;split at h
     .rename_i hg gQ;split at h
      .rename_i l0 rG;simp at h;subst h;have hgl:hg<=len:=by
        cases hi with
        |none=>simp only[jJ,a0k]at gQ;omega
        |some v=>simp only[jJ]at gQ;exact lU gQ
       have hlg:l0<=hg:=by
        cases lo with
        |none=>simp only[jJ,a0k]at rG;omega
        |some v=>simp only[jJ]at rG;exact lU rG
       refine⟨_,fin l0 hg cap' ex hlg hgl (by omega) (by omega) cap xH (by omega) (by omega) hex,?_⟩;have e1:=yM (P:=P) (w:=w) (is:=true) (cap':=cap') hl hh gQ rG (by omega);simp[Instr.sliceAt,Instr.slice,run_underlying hu,e1,dh hn]
      .simp at h
     .simp at h
  .simp at h
 .-- nil
  rename_i e hu;split at h
  .rename_i x0 x1 x2 x3 hn Sv gQ rG;split at h
   .simp at h
   .rename_i hg;simp at h;subst h;cases hx;refine⟨_,.UM,?_⟩;have z1:∀{o:Option TV} {k:Nat},jJ 0 0 o=some k->k=0:=fun{o k} e=>by
     cases o with
     |none=>simp only[jJ,a0k]at e;omega
     |some v=>simp only[jJ]at e;have:=lU e;omega
    have e2:=z1 gQ;subst e2;have e3:=z1 rG;subst e3;have e1:(Instr.sliceBounds true 0 0 ZC xk mx').run P w=.ok (0,0,0) w:=by
     cases hm with
     |none=>exact yM hl hh gQ rG (by omega)
     |some Ru=>
      have e4:=z1 Sv;subst e4;cases hh with
      |none=>simp at hg
      |some hhv=>exact G8 hl hhv Ru Sv gQ rG (by omega) (by omega)
    simp[Instr.sliceAt,Instr.slice,run_underlying hu,e1,dh hn]
  .simp at h
 .simp at h
theorem Dv{t:LI2}{e:EV}{r:TV}{lo hi mx:Option TV}{x:LI3}{ZC xk mx':Option LI3}(h:qU P t e lo hi mx=some r)(hx:ER M e x)
  (hl:OR M.h lo ZC) (hh:OR M.h hi xk) (hm:OR M.h mx mx'):∃z,VR M.h r z∧(Instr.sliceAt t x ZC xk mx').run P w=.ok z w:=by
 unfold qU at h;split at h
 .rename_i n el b off lim hu;split at h
  .rename_i size hn;split at h
   .simp at h
   .rename_i hc;cases hx with
    |val hx=>
    cases hx with
    |ptr hb hp G9 aoO=>
    rename_i ls p;split at h
    .rename_i m Sv;split at h
     .rename_i hg gQ;split at h
      .rename_i l0 rG;split at h
       .simp at h
       .rename_i hs;simp at h;subst h;have hmn:m<=n:=by
         cases mx with
         |none=>simp only[jJ,a0k]at Sv;omega
         |some v=>simp only[jJ]at Sv;exact lU Sv
        have hgm:hg<=m:=by
         cases hi with
         |none=>
          cases mx with
          |some v=>simp at hs
          |none=>simp only[jJ,a0k]at gQ Sv;omega
         |some v=>simp only[jJ]at gQ;exact lU gQ
        have hlg:l0<=hg:=by
         cases lo with
         |none=>simp only[jJ,a0k]at rG;omega
         |some v=>simp only[jJ]at rG;exact lU rG
        have e1:(Instr.sliceBounds false n n ZC xk mx').run P w=.ok (l0,hg,m) w:=by
         cases hm with
         |none=>
          simp only[jJ,a0k]at Sv;subst Sv;exact yM hl hh gQ rG (by omega)
         |some Ru=>
          cases hh with
          |none=>simp at hs
          |some hhv=>
           simp only[jJ]at Sv gQ;exact G8 hl hhv Ru Sv gQ rG (by omega) hmn
        have m1:l0*size+(hg-l0)*size=hg*size:=by rw[<-a3C];congr 1;omega
        have m2:l0*size+(m-l0)*size=m*size:=by rw[<-a3C];congr 1;omega
        have m3:hg*size<=n*size:=a3Z size (by omega);have m4:m*size<=n*size:=a3Z size (by omega);refine⟨.slice (some (if m=l0 then(⟨p.c,p.base+off,none⟩:Addr)else(⟨p.c,p.base+off,none⟩:Addr).add (l0*size))) (hg-l0) (m-l0),?_,?_⟩
        .refine .aP hb (.inr hp) (by omega) (by omega) (by omega) (fun _=>rfl) ?_ (by omega);by_cases hml:m=l0
         .left;omega
         .right;rw[a0F hml,uV];exact⟨by rw[aay],by omega⟩
        .simp[Instr.sliceAt,run_underlying hu,Instr.sureAddr,e1,dh hn]
      .simp at h
     .simp at h
    .simp at h
  .simp at h
 .simp at h
theorem pF(z:List TV):∀n,(times z n).length=n*z.length
 | 0=>by simp[times]
 |n+1=>by simp[times,pF z n,a3C,Nat.add_comm]
theorem Sz(z:List TV)(hz:0<z.length):∀(n i:Nat),i<n*z.length->(times z n)[i]? = z[i%z.length]?
 | 0,i,h=>by simp at h
 |n+1,i,h=>by
  simp only[times];by_cases hi:i<z.length
  .rw[a0E hi,Nat.mod_eq_of_lt hi]
  rw[a1a (by omega),Sz z hz n (i-z.length) (by rw[a3C]at h;omega)];congr 1;rw[Nat.mod_eq_sub_mod (a:=i) (by omega)]
theorem Jv{z:List TV}(h:∀c∈z,jk c=true):∀n,∀c∈times z n,jk c=true
 | 0=>by simp[times]
 |n+1=>by
  intro c hc;simp only[times,a3v]at hc;rcases hc with hc|hc
  .exact h c hc
  exact Jv h n c hc
theorem Xd{N:Np}{z:List TV}{x:Array LI3}(h:bZ N z x.toList)(n m:Nat)(hm:m=n*z.length) :
  bZ N (times z n) ((Array.range m).map (x[·%x.size]!)).toList:=by
 have hl:=h.len;simp only[aas]at hl;refine⟨by simp[pF,hm],fun i c v a b=>?_⟩;have hi:i<n*z.length:=by have:=(a0n.1 a).1;rwa [pF]at this
 have hz:0<z.length:=by
  rcases abj z.length with e|e
  .rw[e]at hi;simp at hi
  .exact e
 rw[Sz z hz n i hi]at a;have aiI:i%x.size<x.size:=Nat.mod_lt _ (by omega);have hb:v=x[i%x.size]:=by rw[aeB,Array.getElem?_map]at b;simp only[Array.getElem?_range]at b;rw[a0I (by omega)]at b;simp only[a19,a0k]at b;rw[<-b,getElem!_pos x _ aiI]
 rw[hl]at a;exact h.at_ (i%x.size) c v a (by simp[hb,aiI])
theorem rU{t e:LI2}{n:Nat}(h:jU P t=some (e,n)):P.underlying t=some (.slice e)∧dI P e=some n∧0<n:=by
 unfold jU at h;split at h
 .rename_i e' hu;split at h
  .rename_i n' hn;split at h
   .simp at h
   simp at h;obtain⟨rfl,rfl⟩:=h;exact⟨hu,hn,by omega⟩
  simp at h
 simp at h
theorem SA{place:Nat->Option (Nat×Nat)}:∀{ps:List (Nat×TV)} {cs r:List TV},tK place cs ps=some r->r.length=cs.length
 | [],cs,r,h=>by simp[tK]at h;rw[h]
 |(i,v)::ps,cs,r,h=>by
  simp only[tK]at h;split at h
  .split at h
   .split at h
    .rename_i cs' ho;rw[SA h,(wR ho).2.2]
    simp at h
   simp at h
  simp at h
theorem SB{place:Nat->Option (Nat×Nat)}:∀{ps:List (Nat×TV)} {cs r:List TV},tK place cs ps=some r->(∀c∈cs,jk c=true) ->
  (∀p∈ps,∀c∈p.2.cells,jk c=true)->∀c∈r,jk c=true
 | [],cs,r,h,h1,_=>by simp[tK]at h;subst h;exact h1
 |(i,v)::ps,cs,r,h,h1,h2=>by
  simp only[tK]at h;split at h
  .split at h
   .split at h
    .rename_i cs' ho;exact SB h (X8 ho h1 (h2 (i,v) (by simp))) (fun p hp=>h2 p (by simp[hp]))
    .simp at h
   .simp at h
  .simp at h
theorem uO{t:LI2}{len:Nat}{ps:List (Nat×TV)}{qs:List (Nat×LI3)}{r:TV}{s1:St}(hV:Valid M D s.get w)(zI:M (.h s.heap.length)=none)
  (h:qV P t len s ps=some (r,s1)) (hq:PR M.h ps qs) :
  s1.env=s.env∧∃x w' M',(Instr.buildSlice t len qs.toArray).run P w=.ok x w'∧Oj M D s.get w (.val r) s1.get [] x w' M':=by
 unfold qV at h;split at h
 case h_2=>simp at h
 rename_i e n AP;obtain⟨hu,hn,hn0⟩:=rU AP;split at h
 case isFalse=>simp at h
 rename_i hc;obtain⟨hc1,L8⟩:=hc;split at h
 case h_2=>simp at h
 rename_i z hz;split at h
 case isFalse=>simp at h
 rename_i Zl;split at h
 case h_2=>simp at h
 rename_i cs hf;simp at h;obtain⟨rfl,rfl⟩:=h;obtain⟨i,x,v,_,_,_,_,hz1,hvr,hzr⟩:=xG hz;have hx0:=(hvr M.h).len;simp only[aas]at hx0;have ht:=Xd (hvr M.h) len (len*n) (by rw[Zl]);obtain⟨vO,g1,g2⟩:=N7 (place':=fun i=>some (i*n,n)) (fun i x hx=>hx) hf hq ht;have G7:∀c∈cs,jk c=true:=SB hf (Jv hz1 len) (fun p hp=>by have:=a5s.1 L8 p hp;exact N8 this)
 have hlen:cs.length=vO.size:=by have:=g2.len;simpa using this
 have qM:cs.length=len*n:=by rw[SA hf,pF,Zl]
 have zu:s.get (.h s.heap.length)=none:=by simp[St.get]
 have KZ:∀(i:Nat) (c:TV) (v:LI3),cs[i]? = some c->vO[i]? = some v->VR M.h c v:=fun i c v a b=>g2.at_ i c v a (by simpa using b);have gG:=Oq hV e zI zu (ahA hlen) KZ G7;refine⟨rfl,.slice (some ⟨w.heap.size,0,none⟩) len len,w.alloc (.cells vO e),dQ M (.h s.heap.length) (.cells [⟨w.heap.size,0,cs.length,vO.size⟩]),?_,⟨?_,?_,?_,rQ zI⟩⟩
 .have hle:¬(len*n>2^24):=by omega
  by_cases h0:len*n=0
  .have aoQ:cs=[]:=a4J (by omega);have g1':Instr.fill (fun i=>some (i*n,n)) ((Array.range (len*n)).map ((#[]:Array LI3)[·%(#[]:Array LI3).size]!)) qs=some vO:=by rw[h0]at g1 ⊢;have e0:Array.range 0=#[]:=rfl;rw[e0]at g1 ⊢;simpa using g1
   simp only[Instr.buildSlice,Sem.run_bind,run_underlying hu,Result.andThen_ok,dh hn];rw[a0F hle,a0I h0];simp only[Sem.run_pure,Sem.run_bind,Result.andThen_ok,g1',newRow,run_newObj,World.alloc]
  .simp only[Instr.buildSlice,Sem.run_bind,run_underlying hu,Result.andThen_ok,dh hn];rw[a0F hle,a0F h0];simp only[Sem.run_pure,Sem.run_bind,Result.andThen_ok,hzr w,g1,newRow,run_newObj,World.alloc]
 .rw[kW];exact gG.1
 .rw[kW];exact gG.2
 .have hlb:len<2^63:=by have:=Nat.le_mul_of_pos_right len (show 0<n by omega);omega
  refine .val (.aP (ls:=[⟨w.heap.size,0,cs.length,vO.size⟩]) (p:=⟨w.heap.size,0,cs.length,vO.size⟩) (by simp[Mp.h,dQ]) (by simp) (by simp[qM]) (a15 _) (a15 _) (fun _=>rfl) (.inr ⟨by simp,by simp;omega⟩) hlb)
end
section
variable {P:LI1} {M:Mp} {D:Key->Prop} {w:LI4} {s:St}
theorem a1k{i:Int}(h0:0<=i)(h1:i<=2^40):i64.wrap i=i:=by have h2:i%(2^64:Int)=i:=a9k h0 (by omega);simp only[IntKind.wrap,IntKind.bits,IntKind.signed,h2];rw[a0F];simp only[adX,a1n,ge_iff_le];omega
theorem SC{N:Np}{v:TV}{n:Nat}{x:LI3}(h:a3l v=some n)(hx:VR N v x):∃k i,x=.int k i∧0<=i∧i<=2^40∧n=i.toNat:=by
 unfold a3l at h;split at h
 .split at h
  .rename_i k i hc;simp at h;subst h;cases hx;exact⟨k,i,rfl,hc.1,hc.2,rfl⟩
  simp at h
 simp at h
theorem Ba{e:LI2}{n:Nat}(h:uM P e n=true):∃i x,P.info? e=some i∧i.zero=some x∧x.cells.size=i.size∧n*i.bytes<=2^40∧n<=2^40∧i.bytes<=2^20∧0<i.bytes:=by
 unfold uM at h;split at h
 .rename_i i hi;simp only[a2c,a1n]at h;obtain⟨⟨⟨⟨h1,h2⟩,h3⟩,h4⟩,h5⟩:=h;unfold a5A at h5;split at h5
  .rename_i x hx;exact⟨i,x,hi,hx,by simpa using h5,h1,h2,h3,h4⟩
  simp at h5
 simp at h
theorem Bc{t:LI2}{a b r:TV}{x y:LI3}{s1:St}(hV:Valid M D s.get w)(zI:M (.h s.heap.length)=none)
  (h:uf P t s a b=some (r,s1)) (hx:VR M.h a x) (hy:VR M.h b y) :
  s1.env=s.env∧∃z w' M',(Instr.makeSlice t x y).run P w=.ok z w'∧Oj M D s.get w (.val r) s1.get [] z w' M':=by
 unfold uf at h;split at h
 case h_2=>simp at h
 rename_i e n l c AP hl hc;obtain⟨hu,hn,hn0⟩:=rU AP;obtain⟨_,li,rfl,l0,l1,rfl⟩:=SC hl hx;obtain⟨_,ci,rfl,c0,c1,rfl⟩:=SC hc hy;split at h
 case isFalse=>simp at h
 rename_i SE;obtain⟨hlc,L9⟩:=SE;obtain⟨i,zx,hi,hzx,hzs,zn,yN,hb3,hb4⟩:=Ba L9;split at h
 case h_2=>simp at h
 rename_i z hz;split at h
 case isFalse=>simp at h
 rename_i Zl;simp at h;obtain⟨rfl,rfl⟩:=h;obtain⟨i',x,v,xk,Gf,_,_,hz1,hvr,hzr⟩:=xG hz;rw[hi]at xk;cases xk;have ht:=Xd (hvr M.h) ci.toNat (ci.toNat*n) (by rw[Zl])
 let arr:Array LI3:=(Array.range (ci.toNat*n)).map (x.cells[·%x.cells.size]!)
 have hlen:(times z ci.toNat).length=arr.size:=by have:=ht.len;simpa[arr]using this
 have qM:(times z ci.toNat).length=ci.toNat*n:=by rw[pF,Zl]
 have zu:s.get (.h s.heap.length)=none:=by simp[St.get]
 have KZ:∀(i:Nat) (c:TV) (v:LI3),(times z ci.toNat)[i]? = some c->arr[i]? = some v->VR M.h c v:=fun i c v a b=>ht.at_ i c v a (by rw[aeB];exact b);have gG:=Oq hV e zI zu (ahA hlen) KZ (Jv hz1 _);have hmul:(li.toNat)*n<=ci.toNat*n:=a3Z n hlc;refine⟨rfl,.slice (some ⟨w.heap.size,0,none⟩) li.toNat ci.toNat,w.alloc (.cells arr e),dQ M (.h s.heap.length) (.cells [⟨w.heap.size,0,(times z ci.toNat).length,arr.size⟩]),?_,⟨?_,?_,?_,rQ zI⟩⟩
 .have hwl:=a1k l0 l1;have hwc:=a1k c0 c1;have MC:¬((i.bytes:Int)*ci>2^48):=by
   have e1:(ci.toNat*i.bytes:Nat)<=2^40:=zn;have e2:((i.bytes:Int)*ci)=((ci.toNat*i.bytes:Nat):Int):=by rw[Nat.mul_comm,aeV,ai0 c0]
   omega
  simp only[Instr.makeSlice,Sem.run_bind,run_underlying hu,Result.andThen_ok,asInt,asIntOf,Sem.run_pure,jl hi,hwl,hwc];rw[a0F (by simp;exact⟨⟨⟨c0,by omega⟩,l0⟩,by omega⟩)];simp only[Sem.run_bind,run_askRoom,Result.andThen_ok,dh hn];by_cases h0:ci.toNat*n=0
  .rw[a0I h0];have e0:arr=#[]:=Array.eq_empty_of_size_eq_zero (by omega);have e1:(Array.range (ci.toNat*n)).map ((#[]:Array LI3)[·%(#[]:Array LI3).size]!)=#[]:=by rw[h0];have e0:Array.range 0=#[]:=rfl;rw[e0];simp
   simp only[Sem.run_pure,Result.andThen_ok,e1,newRow,Sem.run_bind,run_newObj,World.alloc,e0]
  .rw[a0F h0];simp only[Sem.run_bind,hzr w,Sem.run_pure,Result.andThen_ok,newRow,run_newObj,World.alloc,arr]
 .rw[kW];exact gG.1
 .rw[kW];exact gG.2
 .refine .val (.aP (ls:=[⟨w.heap.size,0,(times z ci.toNat).length,arr.size⟩]) (p:=⟨w.heap.size,0,(times z ci.toNat).length,arr.size⟩) (by simp[Mp.h,dQ]) (by simp) (by simp[qM]) hlc (a15 _) (fun _=>rfl) (.inr ⟨by simp,by simp;omega⟩) (by omega))
theorem ZE{at_:Array LI2}{t:LI2}{v r:TV}{i:ni}{x:LI3}(hV:Valid M D s.get w)(h:Zt P at_ s.heap v=some (r,i))(hx:VR M.h v x)(hD:∀k∈i.ts,D k) :
  i.ws=[]∧∃z,VR M.h r z∧(Builtin.len_ at_ t #[x]).run P w=.ok z w:=by
 unfold Zt at h;split at h
 case h_2=>simp at h
 rename_i t0 ht0;split at h
 .rename_i b hu;simp at h;obtain⟨rfl,rfl⟩:=h;cases hx;exact⟨rfl,_,.int _ _,by simp[Builtin.len_,ht0,run_underlying hu,goInt]⟩
 .rename_i n el _ hu;simp at h;obtain⟨rfl,rfl⟩:=h;exact⟨rfl,_,.int _ _,by simp[Builtin.len_,ht0,run_underlying hu,goInt]⟩
 .rename_i el b off len cap sz ex hu;simp at h;obtain⟨rfl,rfl⟩:=h;cases hx;exact⟨rfl,_,.int _ _,by simp[Builtin.len_,ht0,run_underlying hu,goInt]⟩
 .rename_i el hu;simp at h;obtain⟨rfl,rfl⟩:=h;cases hx;exact⟨rfl,_,.int _ _,by simp[Builtin.len_,ht0,run_underlying hu,goInt]⟩
 .rename_i k el hu;simp at h;obtain⟨rfl,rfl⟩:=h;cases hx;exact⟨rfl,_,.int _ _,by simp[Builtin.len_,ht0,run_underlying hu,goInt]⟩
 .rename_i k el r0 hu;split at h
  .rename_i es he;simp at h;obtain⟨rfl,rfl⟩:=h;cases hx with
   |map hm=>
    obtain⟨gK,h1,h2⟩:=hV.ok _ _ hm (hD _ (by simp[yA]));simp only[St.get,he,a0k]at h1;subst h1;obtain⟨xs,g1,g2⟩:=h2;have g2:=g2.len;refine⟨rfl,_,.int _ _,?_⟩;simp[Builtin.len_,ht0,run_underlying hu,goInt,getObj,Sem.run,g1,g2]
  .simp at h
 .simp at h
end
section
variable {P:LI1} {M:Mp} {D:Key->Prop} {w:LI4} {s:St}
theorem Dw{C:Ct}{size n:Nat}{v:TV}{l:List TV}{x:LI3}{h:List HB}(hh:∀b,C (.h b)=h[b]?)(hV:Valid M D C w)(hs:fM size h v=some (n,l))(hx:VR M.h v x)(hD:∀k∈dN v,D k) :
  (Builtin.lenOf x).run P w=.ok n w∧(∀c∈l,jk c=true)∧∃arr,(∀w':LI4,w'.heap=w.heap->(Builtin.firstCells size n x).run P w'=.ok arr w')∧bZ M.h l arr.toList:=by
 unfold fM at hs;split at hs
 .simp at hs;obtain⟨rfl,rfl⟩:=hs;cases hx;exact⟨by simp[Builtin.lenOf],by simp,#[],fun w' _=>by simp[Builtin.firstCells],.nil⟩
 .rename_i b off len cap sz ex;split at hs
  .rename_i vW;subst vW;split at hs
   .rename_i hz;subst hz;simp at hs;obtain⟨rfl,rfl⟩:=hs;cases hx with
    |aP hm hp G9 hle xH hex ha hk=>
     exact⟨by simp[Builtin.lenOf],by simp,#[],fun w' _=>by simp[Builtin.firstCells,loadCells,loadCellsFrom],.nil⟩
   split at hs
   .rename_i cs hb;simp only[a0A,a0T]at hs;obtain⟨r,hr,rfl,rfl⟩:=hs;cases hx with
    |aP hm hp G9 hle xH hex ha hk=>
     rename_i ls p a cap';obtain⟨k,hk,Xb⟩:=yK hb;obtain⟨gK,h1,h2⟩:=hV.ok _ _ hm (hD _ (by simp[dN]));rw[hh,hk]at h1;cases h1;obtain⟨g1,g2,_⟩:=h2;obtain⟨s1,s2,s3⟩:=uX hr;refine⟨by simp[Builtin.lenOf],fun c hc=>g1 c (by rw[s2]at hc;exact a5I (a9K hc)),?_⟩;by_cases h0:cap'=0
     .have rG:len=0:=(by omega);subst rG;have:r=[]:=a4J (by rw[s3];simp);subst this;exact⟨#[],fun w' _=>by simp[Builtin.firstCells,loadCells,loadCellsFrom],.nil⟩
     .rcases ha with ha|⟨rfl,ha⟩
      .exact absurd ha h0
      .obtain⟨xs,x1,x2⟩:=zo (P:=P) (g2 p (hp.resolve_left h0)) hr (by have:=a3Z sz hle;omega) (fun e=>by have:=Xb e;have:=(g2 p (hp.resolve_left h0)).ext;omega);exact⟨xs.toArray,fun w' hw'=>by simp[Builtin.firstCells,x2 w' hw'],x1⟩
   .simp at hs
  .simp at hs
 .rename_i bs;split at hs
  .rename_i vW;simp at hs;obtain⟨rfl,rfl⟩:=hs;cases hx;refine⟨by simp[Builtin.lenOf],by simp[jk],(bs.extract 0 bs.size).data.map fun b=>.int .u8 b.toNat,fun w' _=>rfl,?_⟩;refine⟨by simp,fun i c v a b=>?_⟩;simp only[a5m,a0A]at a;obtain⟨y,hy,rfl⟩:=a;rw[show bs.extract 0 bs.size=bs from by simp]at b;simp only[Array.toList_map,a5m,hy,a19,a0k]at b;rw[<-b];exact .int _ _
  .simp at hs
 .simp at hs
theorem UU{size n b off len cap sz:Nat}{ex:Bool}{l:List TV}{h:List HB}(hs:fM size h (.aP b off len cap sz ex)=some (n,l)):sz=size∧n=len∧l.length=len*size:=by
 simp only[fM]at hs;split at hs
 .rename_i hz;split at hs
  .rename_i h0;cases hs;exact⟨hz,h0.symm,by simp[h0]⟩
  split at hs
  .simp only[a0A,a0T]at hs;obtain⟨r,hr,rfl,rfl⟩:=hs;exact⟨hz,rfl,(uX hr).2.2⟩
  cases hs
 cases hs
theorem SG(N:Nat):∀(r c:Nat),c<=2*N+192->Builtin.growBy N r c<=2*N+192
 | 0,c,h=>by simpa[Builtin.growBy]using h
 |r+1,c,h=>by
  simp only[Builtin.growBy];split
  .exact h
  exact SG N r _ (by omega)
theorem ZF{MF c:Nat}(h:c<MF):Builtin.nextslicecap MF c<=2*MF+192:=by
 unfold Builtin.nextslicecap;split
 .omega
 split
 .omega
 exact SG MF 4 c (by omega)
theorem a9Z{MF c b:Nat}(h:c<MF)(h1:MF*b<=2^40)(h2:b<=2^20):¬(Builtin.nextslicecap MF c*b>2^48):=by
 have e1:=ZF h;have e2:Builtin.nextslicecap MF c*b<=(2*MF+192)*b:=a3Z b e1;have e3:(2*MF+192)*b=2*(MF*b)+192*b:=by rw[a3C,Nat.mul_assoc]
 omega
theorem xI(z:Array LI3)(n:Nat):(Builtin.zeroCells z n).size=n*z.size:=by simp[Builtin.zeroCells]
def xJ:TypeDesc->Bool
 |.int _=>true
 |_=>false
theorem ZG{t:LI2}(h:¬(UJ P t||(P.underlying t).isNone)=true):∃d,P.underlying t=some d∧xJ d=false:=by
 simp only[a9P,aeh,aeJ]at h;obtain⟨h1,h2⟩:=h;cases hu:P.underlying t with
 |none=>simp[hu]at h2
 |some d=>
  refine⟨d,rfl,?_⟩;unfold UJ at h1;rw[hu]at h1;cases d<;>simp_all [xJ]
theorem Gg{at_:Array LI2}{st xt e:LI2}{size n sLen sCap:Nat}{i:TypeInfo}{z sv xv:LI3}{base:Option Addr}{d:TypeDesc}{old new:Array LI3}{ty:LI2}
  (h0:at_[0]? = some st) (h1:at_[1]? = some xt) (hu:P.underlying st=some (.slice e)) (hn:dI P e=some size) (La:P.underlying xt=some d) (hd:xJ d=false)
  (hi:P.info? e=some i) (hz:i.zero=some z) (hsv:sv=.slice base sLen sCap)
  (hl:(Builtin.lenOf xv).run P w=.ok n w) (xH:sCap<sLen+n) (zn:(sLen+n)*i.bytes<=2^40) (yN:sLen+n<=2^40) (hb3:i.bytes<=2^20)
  (hold:∀w':LI4,w'.heap=w.heap->(Builtin.firstCells size sLen sv).run P w'=.ok old w') (gG:∀w':LI4,w'.heap=w.heap->(Builtin.firstCells size n xv).run P w'=.ok new w') :
  ∃lu,sLen+n<=lu∧lu<2^63∧(Builtin.append_ at_ ty #[sv,xv]).run P w=.ok (.slice (some ⟨w.heap.size,0,none⟩) (sLen+n) lu) (w.drew.alloc (.cells (old++new++Builtin.zeroCells z.cells (lu-(sLen+n))) e)):=by
 subst hsv;refine⟨(Question.appendCap (sLen+n) sCap e).cut (w.tape w.drawn (.appendCap (sLen+n) sCap e)),by simp[Question.cut],?_,?_⟩
 .have:=Nat.mod_lt (w.tape w.drawn (.appendCap (sLen+n) sCap e)) (show 0<2^63-(sLen+n) by omega);simp only[Question.cut];omega
 have hz':∀w,(zeroValue e).run P w=.ok z w:=fun w=>by simp[zeroValue,jl hi,hz]
 have hq:(Question.appendCap (sLen+n) sCap e).forced=false:=rfl;have hle:¬(sLen+n<=sCap):=by omega
 have MC:¬(((sLen+n:Nat):Int)>i64.max):=by have:i64.max=2^63-1:=rfl;rw[this];omega
 have L9:=a9Z xH zn hb3;have e1:=hold w.drew rfl;have e2:=gG w.drew rfl;unfold Builtin.append_;simp only[aeA,a3p,aaf,h0,h1];simp only[Sem.run_bind,run_underlying hu,Result.andThen_ok,dh hn,run_underlying La,Sem.run_pure];rw[a0F (by cases d<;>simp_all [xJ])];simp only[Sem.run_bind,hl,Result.andThen_ok];rw[a0F hle];simp only[Sem.run_bind,jl hi,Result.andThen_ok];rw[a0F (fun h=>MC h.1)];simp only[Sem.run_bind,jl hi,Result.andThen_ok];rw[a0F L9];simp only[Sem.run_bind,Sem.run_pure,run_choose,hq,a3u,a3U,Result.andThen_ok,jl hi,run_askRoom,World.drew_eq,e1];rw[a0I (by cases d<;>simp_all [xJ])];simp only[Sem.run_bind,Sem.run_pure,Result.andThen_ok,e2,hz',newRow,run_newObj,World.size_drew,World.alloc_eq]
theorem SH{at_:Array LI2}{st xt e:LI2}{size n sLen sCap:Nat}{a:Addr}{sv xv:LI3}{d:TypeDesc}{new:Array LI3}{ty:LI2}{w':LI4}
  (h0:at_[0]? = some st) (h1:at_[1]? = some xt) (hu:P.underlying st=some (.slice e)) (hn:dI P e=some size) (La:P.underlying xt=some d) (hd:xJ d=false)
  (hsv:sv=.slice (some a) sLen sCap) (hl:(Builtin.lenOf xv).run P w=.ok n w) (xH:sLen+n<=sCap)
  (gG:(Builtin.firstCells size n xv).run P w=.ok new w) (wS:(storeCells (a.add (sLen*size)) new.toList).run P w=.ok () w') :
  (Builtin.append_ at_ ty #[sv,xv]).run P w=.ok (.slice (some a) (sLen+n) sCap) w':=by
 subst hsv;unfold Builtin.append_;simp only[aeA,a3p,aaf,h0,h1];simp only[Sem.run_bind,run_underlying hu,Result.andThen_ok,dh hn,run_underlying La,Sem.run_pure];rw[a0F (by cases d<;>simp_all [xJ])];simp only[Sem.run_bind,hl,Result.andThen_ok];rw[a0I xH];rw[a0I (by cases d<;>simp_all [xJ])];simp only[Sem.run_bind,gG,Result.andThen_ok,wS,Sem.run_pure]
theorem Xe{at_:Array LI2}{st xt e:LI2}{size sLen sCap:Nat}{base:Option Addr}{sv xv:LI3}{d:TypeDesc}{new:Array LI3}{ty:LI2}
  (h0:at_[0]? = some st) (h1:at_[1]? = some xt) (hu:P.underlying st=some (.slice e)) (hn:dI P e=some size) (La:P.underlying xt=some d) (hd:xJ d=false)
  (hsv:sv=.slice base sLen sCap) (hl:(Builtin.lenOf xv).run P w=.ok 0 w) (xH:sLen<=sCap)
  (gG:(Builtin.firstCells size 0 xv).run P w=.ok new w) (iM:new.toList=[]) :
  (Builtin.append_ at_ ty #[sv,xv]).run P w=.ok sv w:=by
 subst hsv;unfold Builtin.append_;simp only[aeA,a3p,aaf,h0,h1];simp only[Sem.run_bind,run_underlying hu,Result.andThen_ok,dh hn,run_underlying La,Sem.run_pure];rw[a0F (by cases d<;>simp_all [xJ])];simp only[Sem.run_bind,hl,Result.andThen_ok];rw[a0I (by omega)];rw[a0I (by cases d<;>simp_all [xJ])];simp only[Sem.run_bind,gG,Result.andThen_ok];cases base<;>simp[iM,storeCells]
end
section
variable {P:LI1} {M:Mp} {D:Key->Prop} {w:LI4} {s:St}
def BOk(P:LI1)(M:Mp)(D:Key->Prop)(C:Ct)(w:LI4)(c:Sem LI3)(v:TV)(C1:Ct)(ws:List Key):Prop:=
 ∃x w' M',c.run P w=.ok x w'∧Oj M D C w (.val v) C1 ws x w' M'
theorem Ext.drew'{M0:Mp}{C0:Ct}{w0:LI4}{M:Mp}{C:Ct}{w:LI4}{ws:List Key}(h:Ext M0 C0 w0.drew M C w ws):Ext M0 C0 w0 M C w ws:=
 ⟨h.Jl,h.frame,h.oh,h.lT,h.fresh,h.size,h.has,h.wsub,h.wrote,h.os,h.output,h.tape⟩
theorem bZ.UW{N:Np}{l:List TV}{arr:Array LI3}(h:bZ N l arr.toList){i:Nat}{c:TV}{v:LI3}(a:l[i]? = some c)(b:arr[i]? = some v):VR N c v:=
 h.at_ i c v a (by rw[aeB];exact b)
theorem Xf(hV:Valid M D s.get w)(zI:M (.h s.heap.length)=none){cs:List TV}{pre rest:Array LI3}{e:LI2}(hx:bZ M.h cs pre.toList)(hn:∀c∈cs,jk c=true)
  {len lu size:Nat} (SI:cs.length=len*size) (hle:len<=lu) (hk:lu<2^63) (Oz:rest.size=(lu-len)*size) :
  ∃M',Oj M D s.get w (.val (.aP s.heap.length 0 len len size false)) (St.get { s with heap:=s.heap++[.cells .own cs] }) [] (.slice (some ⟨w.heap.size,0,none⟩) len lu) (w.drew.alloc (.cells (pre++rest) e)) M':=by
 have zu:s.get (.h s.heap.length)=none:=by simp[St.get]
 have ED:pre.size=cs.length:=by have:=hx.len;simp at this;omega
 have aoO:(pre++rest).size=lu*size:=by
  have:len*size+(lu-len)*size=lu*size:=by rw[<-a3C];congr 1;omega
  simp;omega
 have hmul:len*size<=lu*size:=a3Z size hle;have ZH:Valid M D s.get w.drew:=hV.of_heap rfl;have gG:=Oq ZH (cs:=cs) (arr:=pre++rest) e zI zu (by omega) (fun i c v a b=>by have hi:=(a0n.1 a).1;rw[aaz (by omega)]at b;exact hx.UW a b) hn
 refine⟨dQ M (.h s.heap.length) (.cells [⟨w.heap.size,0,cs.length,(pre++rest).size⟩]),⟨?_,?_,?_,rQ zI⟩⟩
 .rw[kW];exact gG.1
 .rw[kW];exact gG.2.drew'
 .exact .val (.aP (ls:=[⟨w.heap.size,0,cs.length,(pre++rest).size⟩]) (p:=⟨w.heap.size,0,cs.length,(pre++rest).size⟩) (by simp[Mp.h,dQ]) (by simp) (by simp[SI]) (a15 _) hle (fun h=>by simp at h) (.inr ⟨by simp,by simp only[a4v];omega⟩) hk)
theorem FK:∀{ls:List Pl},(ls.map (·.c)).Nodup->∀{p q:Pl},p∈ls->q∈ls->q.c=p.c->q=p
 | [],_,p,q,hp,_,_=>by simp at hp
 |a::ls,h,p,q,hp,hq,e=>by
  simp only[a5g,a5n]at h;rcases a2x.1 hp with h1|h1<;>rcases a2x.1 hq with h2|h2
  .rw[h1,h2]
  .exact(h.1 (a1e.2 ⟨q,h2,by rw[e,h1]⟩)).elim
  .exact(h.1 (a1e.2 ⟨p,h1,by rw[<-e,h2]⟩)).elim
  exact FK h.2 h1 h2 e
theorem a1l(hV:Valid M D s.get w){b:Nat}{k:BK}{cs new:List TV}{ls:List Pl}{p:Pl}{x:Array LI3}(hm:M (.h b)=some (.cells ls))(hd:D (.h b))(hb:s.heap[b]? = some (.cells k cs))
  (hk:k≠.ro) (hp:p∈ls) (G9:cs.length<=p.ext) (hx:bZ M.h new x.toList) (hn:∀c∈new,jk c=true) (iM:new≠[]) {w':LI4}
  (fl:Bool) (old rest:Array LI3) (ty0:LI2)
  (hw:(fl=true∧cs.length+new.length<=p.tot∧(storeCells ⟨p.c,cs.length,none⟩ x.toList).run P w=.ok () w') ∨
   (fl=false∧bZ M.h cs old.toList∧w'=w.drew.alloc (.cells (old++x++rest) ty0))) :
  ∃M' q,Valid M' D (St.get { s with heap:=s.heap.set b (.cells k.more (cs++new)) }) w'∧Ext M s.get w M' (St.get { s with heap:=s.heap.set b (.cells k.more (cs++new)) }) w' [.h b] ∧
   (∀j l,M (.l j)=some l->M' (.l j)=some l)∧(∃yJ,M' (.h b)=some (.cells yJ)∧q∈yJ)∧cs.length+new.length<=q.ext∧q.base=0 ∧
   ((fl=true∧q.c=p.c∧q.tot=p.tot)∨(fl=false∧q.c=w.heap.size∧q.tot=(old++x++rest).size)):=by
 have hg:s.get (.h b)=some (.cells k cs):=by simp[St.get,hb]
 have zK:=(a0n.1 hb).1;obtain⟨gK,h1,h2⟩:=hV.ok _ _ hm hd;rw[hg]at h1;cases h1;obtain⟨ho,ED,aiK,a1m⟩:=h2;have hxl:=hx.len;simp only[aas]at hxl;have jL:(ls.map (·.c)).Nodup:=by
  cases k with
  |ro=>exact absurd rfl hk
  |own=>obtain⟨q,rfl,_⟩:=aiK rfl;simp
  |grow=>exact(a1m (.inl rfl)).1
  |last=>exact(a1m (.inr rfl)).1
 have atx:∀q∈ls,q.ext=cs.length->q=p:=by
  intro q hq he;cases k with
  |ro=>exact absurd rfl hk
  |own=>
   obtain⟨q',e',_⟩:=aiK rfl;rw[e']at hp hq;simp at hp hq;rw[hq,hp]
  |grow=>
   have:=(ED p hp).ext;exact(a1m (.inl rfl)).2 q hq p hp he (by omega)
  |last=>
   have:=(ED p hp).ext;exact(a1m (.inr rfl)).2 q hq p hp he (by omega)
 have hpe:p.ext=cs.length:=by have:=(ED p hp).ext;omega
 have hpb:p.base=0:=(ED p hp).base hk;have hmr:k.more≠.own:=by cases k<;>simp[BK.more]
 have hml:k.more=.last->k=.last:=by cases k<;>simp[BK.more]
 have G7:∀c∈cs++new,jk c=true:=by
  intro c hc;rcases a3v.1 hc with h|h
  .exact ho c h
  .exact hn c h
 rcases hw with⟨hfl,L9,wS⟩|⟨hfl,hold,rfl⟩
 .-- in place
  let p':Pl:={ p with ext:=cs.length+new.length }
  let yJ:List Pl:=ls.map fun q=>if q.c=p.c then p' else q
  have hqp:∀q∈ls,q.c=p.c->q=p:=by intro q hq he;exact FK jL hp hq he
  have hp':p'∈yJ:=a1e.2 ⟨p,hp,by simp⟩;have a5P:yJ.map (·.c)=ls.map (·.c):=by
   simp only[yJ,a8K];apply a5v;intro q hq;simp only[Function.comp];split
   .rename_i he;exact he.symm
   .rfl
  have hlc:Mc (.cells ls) (.cells yJ):=by
   intro q hq;by_cases he:q.c=p.c
   .have:=hqp q hq he;subst this;exact⟨p',hp',rfl,rfl,by simp[p'];omega,rfl⟩
   .exact⟨q,a1e.2 ⟨q,hq,by simp[he]⟩,rfl,rfl,a15 _,rfl⟩
  obtain⟨arr,ty,fz,r1,r2,r3,r4⟩:=(ED p hp).row;have:=r3 hk;subst this;have aiN:∀v∈x.toList,v.oneCell'=true:=by
   intro v hv;obtain⟨i,hi,rfl⟩:=a5x.1 hv;have xk:i<new.length:=by simp at hi;omega
   exact Jr (hx.at_ i new[i] x.toList[i] (by simp[xk]) (by simp)) (hn _ (a5p xk))
  have wI:=run_storeCells_at (P:=P) p.c cs.length ty x.toList 0 arr w r1 (by simp;omega) aiN;simp only[aex,aas]at wI;rw[wI]at wS;have aoV:=Result.ok.inj wS;obtain⟨_,rfl⟩:=aoV
  let w':LI4:=w.setRow p.c (arr.toList.take cs.length++x.toList++arr.toList.drop (cs.length+x.size)).toArray
  have gV:∀c,c<w.heap.size->c∉aK (.cells yJ)->w'.heap[c]? = w.heap[c]?:=fun c _ hc=>wH w p.c _ c (fun e=>hc (by rw[e];exact a1e.2 ⟨p',hp',rfl⟩));have gG:∀c∈aK (.cells yJ),(∃l0,M (.h b)=some l0∧c∈aK l0)∨w.heap.size<=c:=fun c hc=>.inl ⟨_,hm,by simp only[aK]at hc ⊢;rwa [a5P]at hc⟩;have Ju:tV M (dQ M (.h b) (.cells yJ)):=nG fun l0 h0=>by rw[hm]at h0;cases h0;exact hlc
  have Xg:∀i,(arr.toList.take cs.length++x.toList++arr.toList.drop (cs.length+x.size)).toArray[i]? = if i<cs.length then arr[i]? else if i<cs.length+x.size then x[i-cs.length]? else arr[i]?:=by intro i;have:=X7 (arr:=arr) (off:=cs.length) (xs:=x.toList) i (by simp;omega);simpa using this
  have Sl:qA (dQ M (.h b) (.cells yJ)).h w' (.cells k.more (cs++new)) (.cells yJ):=by
   refine⟨G7,fun q hq=>?_,fun e=>absurd e hmr,fun _=>⟨by rw[a5P];exact jL,fun q1 H9 q2 He e1 e2=>?_⟩⟩
   .obtain⟨q0,WW,rfl⟩:=a1e.1 hq;by_cases he:q0.c=p.c
    .simp only[he,a2s];refine⟨⟨_,ty,(0,0),Om w p.c _ arr ty (0,0) r1,by simp[p'];omega,fun _=>rfl,fun _ i c v hi a b=>?_⟩,by simp[p',hpb];omega,by simp[p'],fun _=>hpb⟩;simp only[p',hpb,a4v]at b hi;rw[Xg i]at b;by_cases h1:i<cs.length
     .rw[a0I h1]at b;rw[a0E h1]at a;exact(r4 (fun _=>hpe) i c v (by omega) a (by simpa[hpb]using b)).mono Ju.h
     .rw[a0F h1,a0I (by omega)]at b;rw[a1a (by omega)]at a;exact(hx.UW a b).mono Ju.h
    .simp only[he,a3U];have H9:=ED q0 WW;obtain⟨vO,ty',fz',t1,t2,t3,t4⟩:=H9.row;refine⟨⟨vO,ty',fz',(wH w p.c _ q0.c he).trans t1,t2,fun _=>t3 hk,fun hz i c v hi a b=>?_⟩,H9.fit,by have:=H9.ext;simp;omega,fun _=>H9.base hk⟩;have:=H9.ext;rw[a0E (by omega)]at a;exact(t4 (fun e=>by have:=hz (by rw[e];rfl);have:0<new.length:=aaM.2 iM;simp at *;omega) i c v hi a b).mono Ju.h
   .have aux:∀q∈yJ,q.ext=(cs++new).length->new≠[]->q=p':=by
     intro q hq e iM;obtain⟨q0,WW,rfl⟩:=a1e.1 hq;by_cases he:q0.c=p.c
     .simp[he]
     .simp only[he,a3U]at e;have:=(ED q0 WW).ext;have:0<new.length:=aaM.2 iM;simp at e;omega
    rw[aux q1 H9 e1 iM,aux q2 He e2 iM]
  refine⟨dQ M (.h b) (.cells yJ),p',?_,?_,?_,⟨yJ,by simp[dQ],hp'⟩,a15 _,hpb,.inl ⟨hfl,rfl,rfl⟩⟩
  .rw[jK s b _ zK];exact hV.upd (.h b) _ _ (fun j hj=>.inl hj) (fun l0 h0=>by rw[hm]at h0;cases h0;exact⟨hd,hlc,fun b0 uN=>by rw[hg]at uN;cases uN;cases k<;>simp_all [wr]⟩) gV gG (by simp) Sl
  .rw[jK s b _ zK];exact Ext.upd (.h b) _ _ [.h b] (.inl ⟨by simp[hg],rfl,by simp[hm],fun b0 uN=>by rw[hg]at uN;cases uN;cases k<;>simp_all [wr]⟩) Ju gV gG (by simp) rfl rfl rfl
  .intro j l hj;simp[dQ,hj]
 .-- a new row
  let p':Pl:=⟨w.heap.size,0,cs.length+new.length,(old++x++rest).size⟩
  let yJ:List Pl:=p'::ls
  let w':LI4:=w.drew.alloc (.cells (old++x++rest) ty0)
  have Rj:=hold.len;simp only[aas]at Rj;have aQ:∀q∈ls,q.c<w.heap.size:=fun q hq=>hV.inb _ _ hm q.c (a1e.2 ⟨q,hq,rfl⟩);have hlc:Mc (.cells ls) (.cells yJ):=fun q hq=>⟨q,a4a _ hq,rfl,rfl,a15 _,rfl⟩;have gV:∀c,c<w.heap.size->c∉aK (.cells yJ)->w'.heap[c]? = w.heap[c]?:=fun c hc _=>xE w.drew _ c hc;have gG:∀c∈aK (.cells yJ),(∃l0,M (.h b)=some l0∧c∈aK l0)∨w.heap.size<=c:=by
   intro c hc;simp only[aK,yJ,a5g,a2x]at hc;rcases hc with rfl|hc
   .exact .inr (a15 _)
   .exact .inl ⟨_,hm,hc⟩
  have Ju:tV M (dQ M (.h b) (.cells yJ)):=nG fun l0 h0=>by rw[hm]at h0;cases h0;exact hlc
  have Sl:qA (dQ M (.h b) (.cells yJ)).h w' (.cells k.more (cs++new)) (.cells yJ):=by
   refine⟨G7,fun q hq=>?_,fun e=>absurd e hmr,fun _=>⟨?_,fun q1 H9 q2 He e1 e2=>?_⟩⟩
   .rcases a2x.1 hq with rfl|hq
    .refine⟨⟨_,ty0,(0,0),heap_alloc_new w.drew _,rfl,fun _=>rfl,fun _ i c v hi a b=>?_⟩,by simp[p'];omega,by simp[p'],fun _=>rfl⟩;simp only[p',a4v]at b hi;by_cases h1:i<cs.length
     .rw[a0E h1]at a;rw[Array.append_assoc,aaz (by omega)]at b;exact(hold.UW a b).mono Ju.h
     .rw[a1a (by omega)]at a;rw[Array.append_assoc,Array.getElem?_append_right (by omega),aaz (by omega),<-Rj]at b;exact(hx.UW a b).mono Ju.h
    .have H9:=ED q hq;obtain⟨vO,ty',fz',t1,t2,t3,t4⟩:=H9.row;refine⟨⟨vO,ty',fz',(xE w.drew _ q.c (aQ q hq)).trans t1,t2,fun _=>t3 hk,fun hz i c v hi a b=>?_⟩,H9.fit,by have:=H9.ext;simp;omega,fun _=>H9.base hk⟩;have:=H9.ext;rw[a0E (by omega)]at a;exact(t4 (fun e=>by have:=hz (by rw[e];rfl);have:0<new.length:=aaM.2 iM;simp at *;omega) i c v hi a b).mono Ju.h
   .simp only[yJ,a5g,a5n];refine⟨fun a3t=>?_,jL⟩;obtain⟨q,hq,he⟩:=a1e.1 a3t;have:=aQ q hq;simp only[p']at he;omega
   .have aiO:0<new.length:=aaM.2 iM;have aux:∀q∈yJ,q.ext=(cs++new).length->q=p':=by
     intro q hq e;rcases a2x.1 hq with rfl|hq
     .rfl
     .have:=(ED q hq).ext;simp at e;omega
    rw[aux q1 H9 e1,aux q2 He e2]
  refine⟨dQ M (.h b) (.cells yJ),p',?_,?_,?_,⟨yJ,by simp[dQ],a3E⟩,a15 _,rfl,.inr ⟨hfl,rfl,rfl⟩⟩
  .rw[jK s b _ zK];exact hV.upd (.h b) _ _ (fun j hj=>.inl hj) (fun l0 h0=>by rw[hm]at h0;cases h0;exact⟨hd,hlc,fun b0 uN=>by rw[hg]at uN;cases uN;cases k<;>simp_all [wr]⟩) gV gG (by simp) Sl
  .rw[jK s b _ zK];exact Ext.upd (.h b) _ _ [.h b] (.inl ⟨by simp[hg],rfl,by simp[hm],fun b0 uN=>by rw[hg]at uN;cases uN;cases k<;>simp_all [wr]⟩) Ju gV gG (by simp) rfl rfl rfl
  .intro j l hj;simp[dQ,hj]
end
section
variable {P:LI1} {M:Mp} {D:Key->Prop} {w:LI4} {s:St}
theorem Jw{at_:Array LI2}{ty:LI2}{d x r:TV}{s1:St}{i:ni}{dv xv:LI3}(hV:Valid M D s.get w)(zI:M (.h s.heap.length)=none)
  (h:kU P at_ s d x=some (r,s1,i)) (hd:VR M.h d dv) (hx:VR M.h x xv) (hD:∀k∈i.ts,D k) :
  s1.env=s.env∧BOk P M D s.get w (Builtin.append_ at_ ty #[dv,xv]) r s1.get i.ws:=by
 unfold kU at h;split at h
 case h_2=>simp at h
 rename_i st xt h0 h1;split at h
 .simp at h
 rename_i hint;obtain⟨dd,La,hdd⟩:=ZG hint;split at h
 case h_2=>simp at h
 rename_i e size AP;obtain⟨hu,hn,hn0⟩:=rU AP;split at h
 case h_2=>simp at h
 rename_i n new nH;split at h
 .-- nothing
  rename_i hz;subst hz;have key:∀(base:Option Addr) (l c:Nat),dv=.slice base l c->l<=c->(∀k∈dN x,D k)->(Builtin.append_ at_ ty #[dv,xv]).run P w=.ok dv w:=by
   intro base l c e hlc hDk;obtain⟨s1',s2',arr,UY,s4'⟩:=Dw (P:=P) (fun b=>rfl) hV nH hx hDk;refine Xe h0 h1 hu hn La hdd e s1' hlc (UY w rfl) ?_;have a5Q:new=[]:=by
    unfold fM at nH;split at nH
    .simp at nH;exact nH
    .split at nH
     .split at nH
      .simpa using nH
      split at nH
      .simp only[a0A,a0T]at nH;obtain⟨r',hr',e1,e2⟩:=nH;subst e2;exact a4J (by rw[(uX hr').2.2,e1];simp)
      .simp at nH
     .simp at nH
    .split at nH
     .simp at nH;obtain⟨e1,e2⟩:=nH;rw[<-e2];rename_i bs _;have:bs.data.toList=[]:=a4J (by simpa using e1);simp[this]
     .simp at nH
    .simp at nH
   rw[a5Q]at s4';exact s4'.qI
  split at h
  .simp at h;obtain⟨rfl,rfl,rfl⟩:=h;have ZI:=hd;cases hd;exact⟨rfl,_,w,M,key none 0 0 rfl (a15 _) hD,.same hV (.val ZI)⟩
  .split at h
   .simp at h;obtain⟨rfl,rfl,rfl⟩:=h;have ZI:=hd;cases hd with
    |aP hb hp G9 hle xH hex ha hk=>
     exact⟨rfl,_,w,M,key _ _ _ rfl (by omega) hD,.same hV (.val ZI)⟩
   .simp at h
  .simp at h
 rename_i hz;split at h
 case isFalse=>simp at h
 rename_i hlen;have acJ:new≠[]:=by intro e;have:0<n*size:=Nat.mul_pos (by omega) hn0;rw[e]at hlen;simp only[a5C]at hlen;omega
 split at h
 .-- nil
  split at h
  case isFalse=>simp at h
  rename_i L9;simp at h;obtain⟨rfl,rfl,rfl⟩:=h;obtain⟨inf,z,hi,hiz,hzs,zn,yN,hb3,hb4⟩:=Ba L9;obtain⟨s1',s2',arr,UY,s4'⟩:=Dw (P:=P) (fun b=>rfl) hV nH hx hD;have vW:inf.size=size:=by obtain⟨i',e1,e2⟩:=G6 hn;rw[hi]at e1;cases e1;exact e2
  cases hd;obtain⟨lu,c1,c1',c2⟩:=Gg (P:=P) (w:=w) (ty:=ty) (base:=none) (sLen:=0) (sCap:=0) (old:=#[]) (new:=arr) h0 h1 hu hn La hdd hi hiz rfl s1' (by omega) (by simpa using zn) (by omega) hb3
   (fun w' hw'=>by simp[Builtin.firstCells]) UY
  simp only[a4v]at c1 c2;obtain⟨M',hp⟩:=Xf (size:=size) (len:=n) (rest:=Builtin.zeroCells z.cells (lu-n)) (e:=e) (pre:=#[]++arr) hV zI (by simpa using s4') s2' hlen c1 c1' (by rw[xI,hzs,vW]);exact⟨rfl,_,_,M',c2,hp⟩
 .-- a slice
  rename_i b off len cap sz ex;split at h
  case isFalse=>simp at h
  rename_i aeW;subst aeW;have hd0:=hd;cases hd with
  |aP hb hp G9 hle xH hex ha hk=>
  rename_i ls p a cap';split at h
  .-- room
   rename_i aoY;simp only[a0A,a0T]at h;obtain⟨hp',Gh,rfl,rfl,rfl⟩:=h;obtain⟨kk,CP,cs,cs',hbc,yL,ho,rfl⟩:=Jt Gh;have hDs:∀k∈dN x,D k:=fun k hk=>hD k (a4a _ hk);obtain⟨s1',s2',arr,UY,s4'⟩:=Dw (P:=P) (fun b=>rfl) hV nH hx hDs;have hg:s.get (.h b)=some (.cells kk cs):=(by simp[St.get,hbc]);have zK:=(a0n.1 hbc).1;rcases ha with ha|⟨rfl,ha⟩
   .omega
   have hDb:=hD (.h b) (by simp);have hp:=hp.resolve_left (by omega);obtain⟨w',r1,r2,r3⟩:=zH (P:=P) hV hb hDb hg hp (hV.Zx hb hDb hg hp G9 yL) ho s4' s2';obtain⟨o1,o2,o3⟩:=wR ho;have hmul:len*sz+n*sz=(len+n)*sz:=(by rw[a3C]);refine⟨rfl,_,w',M,SH (P:=P) (w:=w) (ty:=ty) (a:=⟨p.c,p.base+off,none⟩) h0 h1 hu hn La hdd rfl s1' (by omega) (UY w rfl) (by rw[uV,aay];exact r1),⟨?_,?_,?_,fun _ _ h=>h⟩⟩
   .rw[jK s b _ zK];exact⟨fun k l hk hd=>r2.ok k l hk (hd.elim id fun⟨x1,x2⟩=>by
      simp only[mY]at x2;split at x2
      .rename_i e;subst e;rw[hg]at x1;cases x1
      .simp[x1]at x2),fun k k' l l' b' a1 a2 a3 hd=>r2.own k k' l l' b' a1 a2 a3 (hd.elim id fun⟨x1,x2⟩=>by
      simp only[mY]at x2;split at x2
      .rename_i e;subst e;rw[hg]at x1;cases x1
      .simp[x1]at x2),r2.inb⟩
   .rw[jK s b _ zK];exact r3
   .exact .val (.aP hb (.inr hp) (by omega) (by omega) xH hex (.inr ⟨rfl,ha⟩) hk)
  .rename_i aoY;split at h
   case isFalse=>simp at h
   rename_i L9;obtain⟨inf,z,hi,hiz,hzs,zn,yN,hb3,hb4⟩:=Ba L9;have vW:inf.size=sz:=by obtain⟨i',e1,e2⟩:=G6 hn;rw[hi]at e1;cases e1;exact e2
   have hmul:len*sz+n*sz=(len+n)*sz:=(by rw[a3C]);split at h
   .-- exact: always a new row
    rename_i aiQ;have OA:=hex aiQ;simp only[a0A,a0T]at h;obtain⟨⟨l0,old⟩,qW,rfl,rfl,rfl⟩:=h;obtain⟨_,rG,hold⟩:=UU qW;rw[rG]at qW;have hDs:∀k∈dN x,D k:=fun k hk=>hD k (a4a _ hk);obtain⟨s1',s2',arr,UY,s4'⟩:=Dw (P:=P) (fun b=>rfl) hV nH hx hDs;obtain⟨t1',t2',a5R,t3',t4'⟩:=Dw (P:=P) (fun b=>rfl) hV qW hd0 (fun k hk=>hD k (by simp[dN]at hk;simp[hk,iE]));obtain⟨lu,c1,c1',c2⟩:=Gg (P:=P) (w:=w) (ty:=ty) (base:=some a) (sLen:=len) (sCap:=cap') (old:=a5R) (new:=arr) h0 h1 hu hn La hdd hi hiz rfl s1' (by omega) zn yN hb3 t3' UY;obtain⟨M',aiR⟩:=Xf (size:=sz) (len:=len+n) (rest:=Builtin.zeroCells z.cells (lu-(len+n))) (e:=e) (pre:=a5R++arr) hV zI (by simpa using t4'.append s4') (fun c hc=>(a3v.1 hc).elim (t2' c) (s2' c)) (by simp[hold,hlen,hmul]) c1 c1' (by rw[xI,hzs,vW]);exact⟨rfl,_,_,M',c2,aiR⟩
   .-- it grows
    split at h
    case h_2=>simp at h
    rename_i aiQ _ k cs hbc;split at h
    .simp at h
    .rename_i SE;simp only[aeh,ne_eq,Decidable.not_not]at SE;have hkc:=hk;obtain⟨hk,rfl,rfl,qM,rG⟩:=SE;have hp:=hp.resolve_left (by omega);simp only[a0k,a0T]at h;obtain⟨rfl,rfl,rfl⟩:=h;have hDs:∀k∈dN x,D k:=fun k hk=>hD k (a4a _ hk);have hDb:=hD (.h b) (by simp);obtain⟨s1',s2',arr,UY,s4'⟩:=Dw (P:=P) (fun b=>rfl) hV nH hx hDs;have hg:s.get (.h b)=some (.cells k cs):=(by simp[St.get,hbc]);have hnb:∀(M':Mp) (w':LI4),Valid M' D (St.get { s with heap:=s.heap.set b (.cells k.more (cs++new)) }) w' ->
       Valid M' (fun j=>D j∨(s.get j=none∧(St.get { s with heap:=s.heap.set b (.cells k.more (cs++new)) } j).isSome=true)) (St.get { s with heap:=s.heap.set b (.cells k.more (cs++new)) }) w':=by
      intro M' w' hv;have aux:∀j,(D j∨(s.get j=none∧(St.get { s with heap:=s.heap.set b (.cells k.more (cs++new)) } j).isSome=true))->D j:=by
       intro j hj;rcases hj with hj|⟨x1,x2⟩
       .exact hj
       .rw[jK s b _ (a0n.1 hbc).1]at x2;simp only[mY]at x2;split at x2
        .rename_i e;subst e;exact hDb
        .simp[x1]at x2
      exact⟨fun k l hk hd=>hv.ok k l hk (aux k hd),fun k k' l l' b' a1 a2 a3 hd=>hv.own k k' l l' b' a1 a2 a3 (aux k hd),hv.inb⟩
     have atA:arr.size=n*sz:=by have:=s4'.len;simp at this;omega
     have aiS:p.base=0∧p.ext<=cs.length:=by obtain⟨gK,q1,q2⟩:=hV.ok _ _ hb hDb;rw[hg]at q1;cases q1;exact⟨(q2.2.1 p hp).base hk,(q2.2.1 p hp).ext⟩
     by_cases Dx:len+n<=cap'
     .-- in place
      rcases ha with ha|⟨rfl,ha⟩
      .omega
      have acI:(len+n)*sz<=cap'*sz:=a3Z sz Dx;have G7:∀v∈arr.toList,v.oneCell'=true:=by
       intro v hv;obtain⟨i,hi,rfl⟩:=a5x.1 hv;have xk:i<new.length:=by simp at hi;omega
       exact Jr (s4'.at_ i new[i] arr.toList[i] (by simp[xk]) (by simp)) (s2' _ (a5p xk))
      obtain⟨gK,q1,q2⟩:=hV.ok _ _ hb hDb;rw[hg]at q1;cases q1;obtain⟨row,rty,rfz,z1,z2,z3,z4⟩:=(q2.2.1 p hp).row;have:=z3 hk;subst this;have wI:=run_storeCells_at (P:=P) p.c cs.length rty arr.toList 0 row w z1 (by simp;omega) G7;obtain⟨M',q,v1,v2,v3,⟨yJ,v4,v5⟩,v6,v7,v8⟩:=a1l (P:=P) hV hb hDb hbc hk hp (by omega) s4' s2' acJ true #[] #[] 0 (.inl ⟨rfl,by omega,wI⟩);rcases v8 with⟨_,v9,v10⟩|⟨v9,_⟩
      .refine⟨rfl,_,_,M',SH (P:=P) (w:=w) (ty:=ty) (a:=⟨p.c,p.base+0,none⟩) h0 h1 hu hn La hdd rfl s1' Dx (UY w rfl) (by rw[uV,aiS.1];simp only[a4v,aex];rw[<-qM];exact wI),⟨hnb _ _ v1,v2,?_,v3⟩⟩;refine .val (.aP v4 (.inr v5) (by omega) (a15 _) Dx (fun h=>by simp at h) (.inr ⟨by rw[v9,v7,aiS.1],by rw[v7,v10];omega⟩) hkc)
      .cases v9
     .-- a new row
      have qW:fM sz s.heap (.aP b 0 len len sz ex)=some (len,cs):=by
       have:sub cs 0 (len*sz)=some cs:=by unfold sub;rw[a0I (by omega)];simp[<-qM]
       simp[fM,ny,hbc,this,qM,rG]
      obtain⟨t1',t2',a5R,t3',t4'⟩:=Dw (P:=P) (fun b=>rfl) hV qW hd0 (fun k hk=>by simp[dN]at hk;rw[hk];exact hDb);obtain⟨lu,c1,c1',c2⟩:=Gg (P:=P) (w:=w) (ty:=ty) (base:=some a) (sLen:=len) (sCap:=cap') (old:=a5R) (new:=arr) h0 h1 hu hn La hdd hi hiz rfl s1' (by omega) zn yN hb3 t3' UY;obtain⟨M',q,v1,v2,v3,⟨yJ,v4,v5⟩,v6,v7,v8⟩:=a1l (P:=P) hV hb hDb hbc hk hp (by omega) s4' s2' acJ false a5R (Builtin.zeroCells z.cells (lu-(len+n))) e (.inr ⟨rfl,t4',rfl⟩);rcases v8 with⟨v9,_⟩|⟨_,v10,v11⟩
      .cases v9
      .refine⟨rfl,_,_,M',c2,⟨hnb _ _ v1,v2,?_,v3⟩⟩;refine .val (.aP v4 (.inr v5) (by omega) (a15 _) c1 (fun h=>by simp at h) (.inr ⟨by rw[v10,v7],?_⟩) c1');rw[v11,v7];have Rj:=t4'.len;simp only[aas]at Rj;have hm3:(len+n)*sz+(lu-(len+n))*sz=lu*sz:=by rw[<-a3C];congr 1;omega
       simp only[Array.size_append,xI,hzs,vW];omega
 .simp at h
end
section
variable {P:LI1} {M:Mp} {D:Key->Prop} {w:LI4} {s:St}
theorem a5T{cs l:List TV}{off n m:Nat}(h:sub cs off n=some l)(hm:m<=n):sub cs off m=some (l.take m):=by obtain⟨h1,h2,h3⟩:=uX h;unfold sub;rw[a0I (by omega),h2,afr,a8J hm]
theorem UZ{at_:Array LI2}{ty:LI2}{d x r:TV}{s1:St}{i:ni}{dv xv:LI3}(hV:Valid M D s.get w)
  (h:H7 P at_ s d x=some (r,s1,i)) (hd:VR M.h d dv) (hx:VR M.h x xv) (hD:∀k∈i.ts,D k) :
  s1.env=s.env∧BOk P M D s.get w (Builtin.copy_ at_ ty #[dv,xv]) r s1.get i.ws:=by
 unfold H7 at h;split at h
 case h_2=>simp at h
 rename_i st h0;split at h
 case h_2=>simp at h
 rename_i e size AP;obtain⟨hu,hn,hn0⟩:=rU AP;split at h
 case h_2=>simp at h
 rename_i n new nH;split at h
 case isFalse=>simp at h
 rename_i hlen;obtain⟨hlen,OB⟩:=hlen;have first:∀(m:Nat),m<=n->(∀k∈dN x,D k)->(Builtin.lenOf xv).run P w=.ok n w∧(∀c∈new.take (m*size),jk c=true) ∧
   ∃arr,(Builtin.firstCells size m xv).run P w=.ok arr w∧bZ M.h (new.take (m*size)) arr.toList:=by
  intro m hm hDs;obtain⟨s1',s2',arr,UY,s4'⟩:=Dw (P:=P) (fun b=>rfl) hV nH hx hDs;refine⟨s1',fun c hc=>s2' c (a9K hc),?_⟩;have hmul:m*size<=n*size:=a3Z size hm;cases hx with
  |UM=>
   unfold fM at nH;simp at nH;obtain⟨rfl,rfl⟩:=nH;exact⟨#[],by simp[Builtin.firstCells],by simpa using bZ.nil⟩
  |aP hb hp G9 hle xH hex ha hk=>
   rename_i b off len cap sz ex ls p a cap';unfold fM at nH;simp only at nH;split at nH
   case isFalse=>simp at nH
   rename_i vW;subst vW;split at nH
   .rename_i hz;simp at nH;obtain⟨rfl,rfl⟩:=nH;have:m=0:=(by omega);subst this;exact⟨#[],by simp[Builtin.firstCells,loadCells,loadCellsFrom],by simpa using bZ.nil⟩
   split at nH
   case h_2=>simp at nH
   rename_i cs hbc;simp only[a0A,a0T]at nH;obtain⟨r',hr,rfl,rfl⟩:=nH;obtain⟨k,hk,Xb⟩:=yK hbc;obtain⟨gK,h1,h2⟩:=hV.ok _ _ hb (hDs _ (by simp[dN]));simp only[St.get,hk,a0k]at h1;subst h1;by_cases h00:cap'=0
   .have rG:len=0:=(by omega);subst rG;have:m=0:=(by omega);subst this;exact⟨#[],by simp[Builtin.firstCells,loadCells,loadCellsFrom],by simpa using bZ.nil⟩
   .rcases ha with ha|⟨rfl,ha⟩
    .exact absurd ha h00
    .obtain⟨xs,x1,x2⟩:=zo (P:=P) (h2.2.1 p (hp.resolve_left h00)) (a5T hr hmul) (by have:=a3Z sz hle;omega) (fun e=>by have:=Xb e;have:=(h2.2.1 p (hp.resolve_left h00)).ext;omega);exact⟨xs.toArray,by simp[Builtin.firstCells,x2 w rfl],x1⟩
  |str bs=>simp[isStr]at OB
  |_=>simp[fM]at nH
 split at h
 .simp at h;obtain⟨rfl,rfl,rfl⟩:=h;cases hd;obtain⟨f1,f2,arr,f3,f4⟩:=first 0 (a5u _) hD
  have f5:=f4.len;simp at f5;exact⟨rfl,.int .i64 0,w,M,by simp[Builtin.copy_,h0,run_underlying hu,f1,dh hn,f3,goInt],.same hV (.val (.int _ _))⟩
 .rename_i b off len cap sz ex;split at h
  case isFalse=>simp at h
  rename_i vW;subst vW;have hd0:=hd;cases hd with
  |aP hb hp G9 hle xH hex ha hk=>
  rename_i ls p a cap';split at h
  .rename_i hm;simp at h;obtain⟨rfl,rfl,rfl⟩:=h;obtain⟨f1,f2,arr,f3,f4⟩:=first 0 (a5u _) hD
   have f5:arr.toList=[]:=by have:=f4.len;simp only[acQ,List.take_zero,a5C]at this;exact a4J this.symm
   refine⟨rfl,.int .i64 0,w,M,?_,.same hV (.val (.int _ _))⟩;have e1:Nat.min n len=0:=hm;simp[Builtin.copy_,h0,run_underlying hu,f1,dh hn,e1,f3,goInt,f5,storeCells]
  .rename_i hm;simp only[a0A,a0T]at h;obtain⟨hp',Gh,rfl,rfl,rfl⟩:=h;obtain⟨kk,CP,cs,cs',hbc,yL,ho,rfl⟩:=Jt Gh;obtain⟨f1,f2,arr,f3,f4⟩:=first (min n len) (Nat.min_le_left _ _) (fun k hk=>hD k (a4a _ hk))
   have hg:s.get (.h b)=some (.cells kk cs):=(by simp[St.get,hbc]);have zK:=(a0n.1 hbc).1;rcases ha with ha|⟨rfl,ha⟩
   .omega
   obtain⟨w',r1,r2,r3⟩:=zH (P:=P) hV hb (hD (.h b) (by simp)) hg (hp.resolve_left (by omega)) (hV.Zx hb (hD (.h b) (by simp)) hg (hp.resolve_left (by omega)) G9 yL) ho f4 f2;refine⟨rfl,.int .i64 (min n len:Nat),w',M,?_,⟨?_,?_,.val (.int _ _),fun _ _ h=>h⟩⟩
   .have e1:Nat.min n len=min n len:=rfl;simp[Builtin.copy_,h0,run_underlying hu,f1,dh hn,e1,f3,goInt,r1]
   .rw[jK s b _ zK];exact r2.widen (EC (by simp[hg]))
   .rw[jK s b _ zK];exact r3
 .simp at h
end
section
variable {P:LI1} {M:Mp} {D:Key->Prop} {w:LI4} {s:St} {N:Np}
theorem bM{α β:Type}(x:Sem α)(f:α->Sem β):aF P (x >>= f)=(aF P x).bind fun a=>aF P (f a):=by
 show aF P (x.bind f)=_
 induction x with
 |pure a=>rfl
 |program k ih=>exact ih P
 |mark m k ih=>exact ih
 |_=>rfl
def Jy(b:Nat->Bool)(L:List MapEntry)(i0:Nat):Option (Nat×LI3)->Prop
 |none=>∀i,i<L.length->b i=false
 |some (i,v)=>i0<=i∧b (i-i0)=true∧∃x,L[i-i0]? = some x∧v=x.val
theorem Jy.succ{b:Nat->Bool}{e:MapEntry}{L:List MapEntry}{i0:Nat}{r:Option (Nat×LI3)}(hb:b 0=false)(h:Jy (fun i=>b (i+1)) L (i0+1) r):Jy b (e::L) i0 r:=by
 cases r with
 |none=>
  intro i hi;cases i with
  |zero=>exact hb
  |succ i=>exact h i (by simpa using hi)
 |some r=>
  obtain⟨h1,h2,x,h3,h4⟩:=h;have e1:r.1-i0=(r.1-(i0+1))+1:=by omega
  refine⟨by omega,by rw[e1];exact h2,x,by rw[e1];simpa using h3,h4⟩
theorem Le(kind:TypeDesc)(k:LI3):∀(L:List MapEntry) (i0:Nat) (b:Nat->Bool),(∀i x,L[i]? = some x->Instr.sameNow kind k x.key=some (b i)) ->
  ∃r,Instr.findNow kind k L i0=some r∧Jy b L i0 r
 | [],i0,b,_=>⟨none,rfl,fun i hi=>absurd hi (by simp)⟩
 |e::L,i0,b,h=>by
  have h0:=h 0 e rfl;obtain⟨r,g1,g2⟩:=Le kind k L (i0+1) (fun i=>b (i+1)) fun i x hx=>h (i+1) x (by simpa using hx);simp only[Instr.findNow,h0];cases hb:b 0 with
  |true=>exact⟨_,rfl,a15 _,by simpa using hb,e,by simp,rfl⟩
  |false=>exact⟨r,g1,g2.succ hb⟩
theorem Dy(kt:LI2)(k:LI3):∀(L:List MapEntry) (i0:Nat) (b:Nat->Bool),(∀i x,L[i]? = some x->aF P (Op.equal kt k x.key)=some (b i)) ->
  ∃r,(∀w,(Instr.findAsking kt k L i0).run P w=.ok r w)∧Jy b L i0 r
 | [],i0,b,_=>⟨none,fun w=>rfl,fun i hi=>absurd hi (by simp)⟩
 |e::L,i0,b,h=>by
  have h0:=fun w=>jq (h 0 e rfl) w;obtain⟨r,g1,g2⟩:=Dy kt k L (i0+1) (fun i=>b (i+1)) fun i x hx=>h (i+1) x (by simpa using hx);cases hb:b 0 with
  |true=>exact⟨some (i0,e.val),fun w=>by simp[Instr.findAsking,h0 w,hb],a15 _,by simpa using hb,e,by simp,rfl⟩
  |false=>exact⟨r,fun w=>by simp[Instr.findAsking,h0 w,hb,g1 w],g2.succ hb⟩
theorem a1o:∀{l:List TV} {vs:List LI3},CZ l=some vs->∀(i:Nat) (c:TV),l[i]? = some c->∃v,vs[i]? = some v∧c.zk=some v
 | [],vs,h,i,c,hc=>by simp at hc
 |a::l,vs,h,i,c,hc=>by
  simp only[CZ]at h;split at h
  .rename_i v ws h1 h2;cases h;cases i with
   |zero=>simp at hc;subst hc;exact⟨v,rfl,h1⟩
   |succ i=>simpa using a1o h2 i c (by simpa using hc)
  cases h
def FR(N:Np)(o:List Nat)(es:List (TV×TV))(xs:Array MapEntry):Option Nat->Option (Nat×LI3)->Prop
 |none,none=>True
 |some j,some (i,v)=>o[i]? = some j∧∃e x,es[j]? = some e∧xs[i]? = some x∧v=x.val∧VR N e.1 x.key∧VR N e.2 x.val
 |_,_=>False
theorem Hq{o:List Nat}{kt:LI2}{k:LI3}{es:List (TV×TV)}{r:Option Nat}{xs:Array MapEntry}(h:FC P kt k es=some r)(hx:xC N o es xs) :
  (∀w,(Instr.checkKey xs.isEmpty 10000 kt k).run P w=.ok () w)∧∃r',(∀w,(Instr.findKey kt k xs.toList).run P w=.ok r' w) ∧
   FR N o es xs r r':=by
 unfold FC at h;split at h
 case h_2=>simp at h
 rename_i ks FM;split at h
 case h_2=>simp at h
 rename_i r0 hr;split at h
 case isFalse=>simp at h
 rename_i SK;cases h;generalize r0.map (·.1)=r at SK ⊢;have hl:es.isEmpty=xs.isEmpty:=by rw[a5w];simp[List.isEmpty_iff,<-a8r,hx.len]
 have L6:ks.length=es.length:=by
  have:∀{l:List TV} {vs:List LI3},CZ l=some vs->vs.length=l.length:=by
   intro l
   induction l with
   |nil=>intro vs h;simp[CZ]at h;subst h;rfl
   |cons a l ih=>
    intro vs h;simp only[CZ]at h;split at h
    .rename_i v ws h1 h2;cases h;simp[ih h2]
    .cases h
  simpa using this FM
 rw[bM]at hr;cases hc:aF P (Instr.checkKey es.isEmpty 10000 kt k)with
 |none=>simp[hc]at hr
 |some u=>
  refine⟨fun w=>by rw[<-hl];exact jq hc w,?_⟩;unfold X4 at SK;split at SK
  case h_2=>simp at SK
  rename_i kind hd;have hdr:=fun w=>jq hd w;simp only[a2c]at SK;obtain⟨hj,hs⟩:=SK;have aa1:∀(i:Nat) (x:MapEntry),xs.toList[i]? = some x->∃(j:Nat) (e:TV×TV),o[i]? = some j∧es[j]? = some e∧VR N e.1 x.key∧VR N e.2 x.val∧ks[j]? = some x.key:=by intro i x hi;obtain⟨_,j,e,h1,h2,h3,h4⟩:=hx.at_ i x (by simpa using hi);obtain⟨v,g1,g2⟩:=a1o FM j e.1 (by simp[h2]);exact⟨j,e,h1,h2,h3,h4,by rw[g1,xq g2 h3]⟩
  let b:Nat->Bool:=fun i=>o[i]? == r
  have hb:∀i j,o[i]? = some j->b i=(some j==r):=fun i j h=>by simp only[b,h]
  have fin:∀r',Jy b xs.toList 0 r'->FR N o es xs r r':=by
   intro r' hf;cases r' with
   |none=>
    cases r with
    |none=>trivial
    |some j=>
     simp only[a1n]at hj;obtain⟨i,hi⟩:=a9H.1 (hx.sur j (by omega));have h1:=hf i (by have:=(a0n.1 hi).1;have:=hx.ord;simp;omega);rw[hb i j hi]at h1;simp at h1
   |some q=>
    obtain⟨i,v⟩:=q;obtain⟨_,h1,x,h2,h3⟩:=hf;simp only[Nat.sub_zero]at h1 h2;obtain⟨j,e,g1,g2,g3,g4,_⟩:=aa1 i x h2;rw[hb i j g1]at h1;simp only[a6Z]at h1;subst h1;exact⟨g1,e,x,g2,by simpa using h2,h3,g3,g4⟩
  have Gi:∀{p:LI3×Nat->Bool},ks.zipIdx.all p=true->∀j x,ks[j]? = some x->p (x,j)=true:=by intro p hp j x hjx;exact a5s.1 hp (x,j) (aa2.2 (by simpa using hjx))
  unfold Instr.findKey;rcases a9P _ _▸hs with hs|hs
  .obtain⟨r',g1,g2⟩:=Le kind k xs.toList 0 b fun i x hi=>by obtain⟨j,e,h1,_,_,_,h5⟩:=aa1 i x hi;have:=Gi hs j _ h5;simp only[a6Z]at this;rw[this,hb i j h1]
   exact⟨r',fun w=>by simp[hdr w,g1],fin r' g2⟩
  .by_cases h0:xs.toList=[]
   .refine⟨none,fun w=>by simp[hdr w,h0,Instr.findNow],fin none (by rw[h0];intro i hi;simp at hi)⟩
   .have Zm:Instr.findNow kind k xs.toList 0=none:=by
     cases hL:xs.toList with
     |nil=>exact absurd hL h0
     |cons x L=>
      obtain⟨j,e,h1,_,_,_,h5⟩:=aa1 0 x (by rw[hL];rfl);have:=Gi hs j _ h5;simp only[a2c,a6Z]at this;simp only[Instr.findNow,this.1]
    obtain⟨r',g1,g2⟩:=Dy (P:=P) kt k xs.toList 0 b fun i x hi=>by obtain⟨j,e,h1,_,_,_,h5⟩:=aa1 i x hi;have:=Gi hs j _ h5;simp only[a2c,a6Z]at this;rw[this.2,hb i j h1]
    exact⟨r',fun w=>by simp[hdr w,Zm,g1 w],fin r' g2⟩
theorem EF{t:LI2}{m k r:TV}{ok:Bool}{mv kv:LI3}(hV:Valid M D s.get w)(h:iD P t s.heap m k ok=some r)(hm:VR M.h m mv)(hk:VR M.h k kv)
  (hD:∀j∈(match m with|.map r=>[Key.h r] |_=>[]),D j):∃z,VR M.h r z∧(Instr.lookup t mv kv ok).run P w=.ok z w:=by
 unfold iD at h;split at h
 case h_2=>simp at h
 rename_i kt e kx hu hkx;have:=xq hkx hk;subst this;simp only at h;have main:∀(o:List Nat) (es:List (TV×TV)) (xs:Array MapEntry),xC M.h o es xs->((mv=.map none∧xs=#[])∨∃r1 ck,mv=.map (some r1)∧w.heap[r1]? = some (.map xs ck)) ->
   (match FC P kt kv es with
   |some (some i)=>match es[i]? with
    |some (_,v)=>some (if ok then .dJ [v,.bool true]else v)
    |none=>none
   |some none=>match P.info? e with
    |some i=>match i.zero with
     |some z=>(TV.WV z).map fun z=>if ok then .dJ [z,.bool false]else z
     |none=>none
    |none=>none
   |none=>none)=some r->∃z,VR M.h r z∧(Instr.lookup t mv kv ok).run P w=.ok z w:=by
  intro o es xs hx wI h;cases hf:FC P kt kv es with
  |none=>simp[hf]at h
  |some r0=>
   rw[hf]at h;obtain⟨c1,r',c2,c3⟩:=Hq hf hx;cases r0 with
   |some j=>
    cases r' with
    |none=>exact c3.elim
    |some jv=>
     obtain⟨j',v⟩:=jv;obtain⟨_,e',x',e1,e2,rfl,_,hv⟩:=c3;simp only[e1,a0k]at h;subst h;refine⟨if ok then .tuple #[x'.val,.bool true]else x'.val,?_,?_⟩
     .cases ok
      .exact hv
      .exact .Ro (.cons hv (.cons (.bool true) .nil))
     .rcases wI with⟨rfl,rfl⟩|⟨r1,ck,rfl,hmp⟩
      .simp only[Instr.lookup,Sem.run_bind,run_underlying hu,Result.andThen_ok,c1 w,c2 w,Sem.run_pure]
      .simp only[Instr.lookup,Sem.run_bind,run_underlying hu,Result.andThen_ok,getObj,Sem.run,hmp,c1 w,c2 w,Sem.run_pure]
   |none=>
    cases r' with
    |some jv=>exact c3.elim
    |none=>
     simp only at h;split at h
     case h_2=>simp at h
     rename_i inf hi;split at h
     case h_2=>simp at h
     rename_i z hz;simp only[a0A]at h;obtain⟨zt,hzt,rfl⟩:=h;have hv:VR M.h zt z:=.zl hzt;refine⟨if ok then .tuple #[z,.bool false]else z,?_,?_⟩
     .cases ok
      .exact hv
      .exact .Ro (.cons hv (.cons (.bool false) .nil))
     .have hzr:(zeroValue e).run P w=.ok z w:=(by simp[zeroValue,jl hi,hz]);rcases wI with⟨rfl,rfl⟩|⟨r1,ck,rfl,hmp⟩
      .simp only[Instr.lookup,Sem.run_bind,run_underlying hu,Result.andThen_ok,c1 w,c2 w,Sem.run_pure,hzr]
      .simp only[Instr.lookup,Sem.run_bind,run_underlying hu,Result.andThen_ok,getObj,Sem.run,hmp,c1 w,c2 w,Sem.run_pure,hzr]
 cases hm with
 |Zv=>exact main [] [] #[] ⟨rfl,rfl,.nil,by simp,by simp⟩ (.inl ⟨rfl,rfl⟩) h
 |map hmm=>
  rename_i r0 r1 o1;obtain⟨gK,b1,b2⟩:=hV.ok _ _ hmm (hD _ (by simp));simp only[St.get]at b1;simp only[b1]at h;cases gK with
  |map es=>
   obtain⟨xs,g1,g2⟩:=b2;exact main o1 es xs g2 (.inr ⟨r1,xs.size,rfl,g1⟩) h
  |cells k cs=>exact b2.elim
  |loop=>simp at h
  |mark=>simp at h
  |nX=>simp at h
  |dD=>simp at h
 |_=>simp at h
end
section
variable {P:LI1} {M:Mp} {D:Key->Prop} {w:LI4} {s:St}
theorem zL(hV:Valid M D s.get w){r r1:Nat}{o o':List Nat}{es gJ:List (TV×TV)}{xs xs':Array MapEntry}(hm:M (.h r)=some (.obj r1 o))(hd:D (.h r))(hb:s.heap[r]? = some (.map es))
  (hr:w.heap[r1]? = some (.map xs xs.size)) (ho:o <+: o') (hx:xC (dQ M (.h r) (.obj r1 o')).h o' gJ xs') :
  Valid (dQ M (.h r) (.obj r1 o')) (fun j=>D j∨(s.get j=none∧(St.get { s with heap:=s.heap.set r (.map gJ) } j).isSome=true)) (St.get { s with heap:=s.heap.set r (.map gJ) }) { w with heap:=w.heap.setIfInBounds r1 (.map xs' xs'.size) } ∧
  Ext M s.get w (dQ M (.h r) (.obj r1 o')) (St.get { s with heap:=s.heap.set r (.map gJ) }) { w with heap:=w.heap.setIfInBounds r1 (.map xs' xs'.size) } [.h r]:=by
 have hg:s.get (.h r)=some (.map es):=by simp[St.get,hb]
 have zK:=(a0n.1 hb).1;have hle:tV M (dQ M (.h r) (.obj r1 o')):=nG fun l0 h0=>by rw[hm]at h0;cases h0;exact⟨rfl,ho⟩
 have aQ:r1<w.heap.size:=(a2t.1 hr).1;have gV:∀c,c<w.heap.size->c∉aK (.obj r1 o')->(w.heap.setIfInBounds r1 (Obj.map xs' xs'.size))[c]? = w.heap[c]?:=fun c _ hc=>by rw[a9I,a0F (by simp[aK]at hc;omega)]
 have gG:∀c∈aK (.obj r1 o'),(∃l0,M (.h r)=some l0∧c∈aK l0)∨w.heap.size<=c:=fun c hc=>.inl ⟨_,hm,hc⟩;constructor
 .rw[jK s r _ zK];refine Valid.widen ?_ (EC (by simp[hg]));exact hV.upd (D':=D) (w':={ w with heap:=w.heap.setIfInBounds r1 (.map xs' xs'.size) }) (.h r) (.map gJ) (.obj r1 o') (fun j hj=>.inl hj) (fun l0 h0=>by rw[hm]at h0;cases h0;exact⟨hd,⟨rfl,ho⟩,fun b0 uN=>by rw[hg]at uN;cases uN;rfl⟩) gV gG (by simp) ⟨xs',by simp[aQ],hx⟩
 .rw[jK s r _ zK];exact Ext.upd (M:=M) (C:=s.get) (w:=w) (w':={ w with heap:=w.heap.setIfInBounds r1 (.map xs' xs'.size) }) (.h r) (.map gJ) (.obj r1 o') [.h r] (.inl ⟨by simp[hg],rfl,by simp[hm],fun b0 uN=>by rw[hg]at uN;cases uN;rfl⟩) hle gV gG (by simp) rfl rfl rfl
theorem xC.lt{N:Np}{o:List Nat}{es:List (TV×TV)}{xs:Array MapEntry}(g2:xC N o es xs):∀j∈o,j<es.length:=fun j hj=>by
 obtain⟨i,hi⟩:=a9H.1 hj;have:i<xs.size:=by rw[<-g2.ord];exact(a0n.1 hi).1
 obtain⟨_,j',e,z1,z2,_⟩:=g2.at_ i _ (a4w this);rw[hi]at z1;cases z1;exact(a0n.1 z2).1
theorem xC.upd{N N':Np}{o:List Nat}{es:List (TV×TV)}{xs:Array MapEntry}(g2:xC N o es xs)(hle:tV N N'){i j:Nat}{x':MapEntry}{f:MapEntry->MapEntry}{k v:TV}
  (q1:o[i]? = some j) (e2:xs[i]? = some x') (hb:(f x').born=x'.born) (hk:VR N' k (f x').key) (hv:VR N' v (f x').val):xC N' o (es.set j (k,v)) (xs.modify i f):=by
 have g3:=g2.mono hle;refine⟨by simp[g2.len],by simp[g2.ord],g2.nod,fun j' Ey=>g2.sur j' (by simpa using Ey),fun a x h2=>?_⟩;rw[abO]at h2;by_cases ha:i=a
 .subst ha;rw[a0I rfl,e2]at h2;simp only[a19,a0k]at h2;subst h2;obtain⟨z1,j2,e2',z2,z3,_⟩:=g2.at_ i x' e2;rw[q1]at z2;cases z2;exact⟨hb.trans z1,j,(k,v),q1,by rw[aan];simp[(a0n.1 z3).1],hk,hv⟩
 .rw[a0F ha]at h2;obtain⟨z1,j2,e2',z2,z3,z4,z5⟩:=g3.at_ a x h2;refine⟨z1,j2,e2',z2,?_,z4,z5⟩;have iM:j≠j2:=fun e=>by subst e;have i1:=a0n.1 q1;have i2:=a0n.1 z2;exact ha ((aaD g2.nod (h₀:=i1.1) (h₁:=i2.1)).1 (i1.2.trans i2.2.symm))
  rw[aan,a0F iM];exact z3
theorem xC.push{N N':Np}{o:List Nat}{es:List (TV×TV)}{xs:Array MapEntry}(g2:xC N o es xs)(hle:tV N N'){k v:TV}{kv vv:LI3}
  (hk:VR N' k kv) (hv:VR N' v vv):xC N' (o++[es.length]) (es++[(k,v)]) (xs.push { key:=kv,val:=vv,born:=xs.size }):=by
 have aQ:=g2.lt;have g3:=g2.mono hle;refine⟨by simp[g2.len],by simp[g2.ord],?_,fun j hj=>?_,fun a x h2=>?_⟩
 .rw[a9G];exact⟨g2.nod,by simp,fun x hx y hy=>by simp at hy;subst hy;have:=aQ x hx;omega⟩
 .simp only[a1p,a4O,a5C]at hj;rcases a5h j es.length with h1|h1
  .exact a5O _ (g2.sur j h1)
  .exact abS _ (by simp;omega)
 .rw[Array.getElem?_push]at h2;by_cases ha:a=xs.size
  .rw[a0I ha]at h2;simp only[a0k]at h2;subst h2;exact⟨ha.symm,es.length,(k,v),by rw[a1a (by rw[g2.ord];omega),g2.ord,ha];simp,by simp,hk,hv⟩
  .rw[a0F ha]at h2;obtain⟨z1,j2,e2',z2,z3,z4,z5⟩:=g3.at_ a x h2;exact⟨z1,j2,e2',by rw[a0E (a0n.1 z2).1];exact z2,by rw[a0E (a0n.1 z3).1];exact z3,z4,z5⟩
theorem SL{t:LI2}{m k v:TV}{s1:St}{i:ni}{mv kv vv:LI3}(hV:Valid M D s.get w)(h:yH P t s m k v=some (s1,i))(hm:VR M.h m mv)(hk:VR M.h k kv)(hv:VR M.h v vv)
  (hD:∀j∈i.ts,D j):s1.env=s.env∧∃w' M',(Instr.mapUpdate t mv kv vv).run P w=.ok () w' ∧
   Valid M' (fun j=>D j∨(s.get j=none∧(s1.get j).isSome=true)) s1.get w'∧Ext M s.get w M' s1.get w' i.ws∧(∀k l,M (.l k)=some l->M' (.l k)=some l):=by
 unfold yH at h;split at h
 case h_2=>simp at h
 rename_i kt et kx r hu hkx;have:=xq hkx hk;subst this;split at h
 case h_2=>simp at h
 rename_i es N9 hck;have c0:=jq hck w;cases hm with
 |map hmm=>
 rename_i r1 o1;have zM:∀o',∀k l,M (.l k)=some l->dQ M (.h r) (.obj r1 o') (.l k)=some l:=fun o' k l h=>by simp[dQ,h]
 have go:D (.h r)->∃xs,w.heap[r1]? = some (.map xs xs.size)∧xC M.h o1 es xs:=by intro hd;obtain⟨gK,b1,b2⟩:=hV.ok _ _ hmm hd;simp only[St.get,N9,a0k]at b1;subst b1;exact b2
 split at h
 .-- an entry that is there
  rename_i j hf;split at h
  case h_2=>simp at h
  rename_i old ov0 hj;split at h
  case h_2=>simp at h
  rename_i ov hov;split at h
  case isFalse=>simp at h
  rename_i Xh;simp only[a0k,a0T]at h;obtain⟨rfl,rfl⟩:=h;have hd:=hD (.h r) (by simp[qo]);obtain⟨xs,g1,g2⟩:=go hd;obtain⟨c1,r',c2,c3⟩:=Hq hf g2;cases r' with
  |none=>exact c3.elim
  |some jv=>
   obtain⟨i,v'⟩:=jv;obtain⟨q1,e',x',e1,e2,rfl,q2,_⟩:=c3;rw[hj]at e1;cases e1;have hold:x'.key=ov:=xq hov q2;have hle:tV M (dQ M (.h r) (.obj r1 o1)):=nG fun l0 h0=>by have h0':M (.h r)=some l0:=h0;have Rx:M (.h r)=some (.obj r1 o1):=hmm;rw[Rx]at h0';cases h0';exact .refl _
   have Gf:=g2.upd (f:=fun e=>{ e with key:=kv,val:=vv }) hle.h q1 e2 rfl (hk.mono hle.h) (hv.mono hle.h);obtain⟨v1,v2⟩:=zL hV hmm hd N9 g1 (aha _) Gf;refine⟨rfl,_,_,?_,v1,v2,zM _⟩;simp only[Instr.mapUpdate,Sem.run_bind,run_underlying hu,Result.andThen_ok,getObj,Sem.run,g1];simp only[c0,c2 w,Result.andThen_ok,e2,a19,a5z,Instr.keyThatStays,hold,Xh,a2s,setObj];simp only[Sem.run_bind,Sem.run_pure,Result.andThen_ok,Sem.run,g1,Array.size_modify]
 .-- a new entry
  rename_i hf;simp only[a0k,a0T]at h;obtain⟨rfl,rfl⟩:=h;have hd:=hD (.h r) (by simp[qo]);obtain⟨xs,g1,g2⟩:=go hd;obtain⟨c1,r',c2,c3⟩:=Hq hf g2;cases r' with
  |some jv=>exact c3.elim
  |none=>
   have Fe:o1 <+: o1++[es.length]:=⟨_,rfl⟩;have hle:tV M (dQ M (.h r) (.obj r1 (o1++[es.length]))):=nG fun l0 h0=>by have h0':M (.h r)=some l0:=h0;have Rx:M (.h r)=some (.obj r1 o1):=hmm;rw[Rx]at h0';cases h0';exact⟨rfl,Fe⟩
   have Gf:=g2.push hle.h (hk.mono hle.h) (hv.mono hle.h);obtain⟨v1,v2⟩:=zL hV hmm hd N9 g1 Fe Gf;refine⟨rfl,_,_,?_,v1,v2,zM _⟩;simp only[Instr.mapUpdate,Sem.run_bind,run_underlying hu,Result.andThen_ok,getObj,Sem.run,g1];simp only[c0,c2 w,Result.andThen_ok,setObj,Sem.run,g1,Array.size_push]
 .simp at h
theorem a3w{t:LI2}{m k:TV}{e:EV}{s1:St}{i:ni}{mv kv:LI3}(hV:Valid M D s.get w)(h:AX P t s m k=some (e,s1,i))(hm:VR M.h m mv)(hk:VR M.h k kv)
  (hD:∀j∈i.ts,D j):s1.env=s.env∧∃x w' M',(Instr.mapEntry t mv kv).run P w=.ok x w'∧ER M' e x ∧
   Valid M' (fun j=>D j∨(s.get j=none∧(s1.get j).isSome=true)) s1.get w'∧Ext M s.get w M' s1.get w' i.ws∧(∀k l,M (.l k)=some l->M' (.l k)=some l):=by
 unfold AX at h;split at h
 case h_2=>simp at h
 rename_i kt et kx r hu hkx;have:=xq hkx hk;subst this;split at h
 case h_2=>simp at h
 rename_i es N9 hck;have c0:=jq hck w;cases hm with
 |map hmm=>
 rename_i r1 o1;have zM:∀o',∀k l,M (.l k)=some l->dQ M (.h r) (.obj r1 o') (.l k)=some l:=fun o' k l h=>by simp[dQ,h]
 have go:D (.h r)->∃xs,w.heap[r1]? = some (.map xs xs.size)∧xC M.h o1 es xs:=by intro hd;obtain⟨gK,b1,b2⟩:=hV.ok _ _ hmm hd;simp only[St.get,N9,a0k]at b1;subst b1;exact b2
 have Jm:∀o',dQ M (.h r) (.obj r1 o') (.h r)=some (.obj r1 o'):=fun o'=>by simp[dQ]
 split at h
 .rename_i j hf;split at h
  case h_2=>simp at h
  rename_i old v0 hj;split at h
  case h_2=>simp at h
  rename_i ov hov;split at h
  case isFalse=>simp at h
  rename_i Xh;simp only[a0k,a0T]at h;obtain⟨rfl,rfl,rfl⟩:=h;have hd:=hD (.h r) (by simp[qo]);obtain⟨xs,g1,g2⟩:=go hd;obtain⟨c1,r',c2,c3⟩:=Hq hf g2;cases r' with
  |none=>exact c3.elim
  |some jv=>
   obtain⟨i,v'⟩:=jv;obtain⟨q1,e',x',e1,e2,rfl,q2,q3⟩:=c3;rw[hj]at e1;cases e1;have hold:x'.key=ov:=xq hov q2;have hle:tV M (dQ M (.h r) (.obj r1 o1)):=nG fun l0 h0=>by have h0':M (.h r)=some l0:=h0;have Rx:M (.h r)=some (.obj r1 o1):=hmm;rw[Rx]at h0';cases h0';exact .refl _
   have Gf:=g2.upd (f:=fun e=>{ e with key:=kv }) hle.h q1 e2 rfl (hk.mono hle.h) (q3.mono hle.h);obtain⟨v1,v2⟩:=zL hV hmm hd N9 g1 (aha _) Gf;refine⟨rfl,.tuple #[x'.val,Go.goInt i],_,_,?_,.ent (Jm _) q1 (q3.mono hle.h),v1,v2,zM _⟩;simp only[Instr.mapEntry,Sem.run_bind,run_underlying hu,Result.andThen_ok,getObj,Sem.run,g1];simp only[c0,c2 w,Result.andThen_ok,e2,a19,a5z,Instr.keyThatStays,hold,Xh,a2s,setObj,(g2.at_ i x' e2).1];simp only[Sem.run_bind,Sem.run_pure,Result.andThen_ok,Sem.run,g1,Array.size_modify]
 .rename_i hf;split at h
  case h_2=>simp at h
  rename_i inf hi;split at h
  case h_2=>simp at h
  rename_i z hz;split at h
  case h_2=>simp at h
  rename_i zt hzt;simp only[a0k,a0T]at h;obtain⟨rfl,rfl,rfl⟩:=h;have hd:=hD (.h r) (by simp[qo]);obtain⟨xs,g1,g2⟩:=go hd;obtain⟨c1,r',c2,c3⟩:=Hq hf g2;have hzr:(zeroValue et).run P w=.ok z w:=by simp[zeroValue,jl hi,hz]
  cases r' with
  |some jv=>exact c3.elim
  |none=>
   have Fe:o1 <+: o1++[es.length]:=⟨_,rfl⟩;have hle:tV M (dQ M (.h r) (.obj r1 (o1++[es.length]))):=nG fun l0 h0=>by have h0':M (.h r)=some l0:=h0;have Rx:M (.h r)=some (.obj r1 o1):=hmm;rw[Rx]at h0';cases h0';exact⟨rfl,Fe⟩
   have Gf:=g2.push hle.h (hk.mono hle.h) (.zl hzt);obtain⟨v1,v2⟩:=zL hV hmm hd N9 g1 Fe Gf;refine⟨rfl,.tuple #[z,Go.goInt xs.size],_,_,?_,.ent (Jm _) (by rw[a1a (by rw[g2.ord];omega),g2.ord];simp) (.zl hzt),v1,v2,zM _⟩;simp only[Instr.mapEntry,Sem.run_bind,run_underlying hu,Result.andThen_ok,getObj,Sem.run,g1];simp only[c0,c2 w,hzr,Result.andThen_ok,setObj,Sem.run,g1,Array.size_push,Sem.run_bind,Sem.run_pure]
 .simp at h
theorem a5V{t:LI2}{m k:TV}{e:EV}{s1:St}{i:ni}{mv kv:LI3}(hV:Valid M D s.get w)(h:Dl P t s m k=some (e,s1,i))(hm:VR M.h m mv)(hk:VR M.h k kv)
  (hD:∀j∈i.ts,D j):s1.env=s.env∧∃x w' M',(Instr.mapEntry t mv kv).run P w=.ok x w'∧ER M' e x ∧
   Valid M' (fun j=>D j∨(s.get j=none∧(s1.get j).isSome=true)) s1.get w'∧Ext M s.get w M' s1.get w' i.ws∧(∀k l,M (.l k)=some l->M' (.l k)=some l):=by
 unfold Dl at h;split at h
 .rename_i h0;split at h
  .cases h;exact a3w hV h0 hm hk hD
  .cases h
 .cases h
theorem V3{xs:Array MapEntry}{i:Nat}(h:∀(a:Nat) (x:MapEntry),xs[a]? = some x->x.born=a)(hi:i<xs.size):xs.findIdx? (fun e=>(e.born:Int)==(i:Int))=some i:=by
 rw[Array.findIdx?_eq_some_iff_getElem];refine⟨hi,?_,fun j hj=>?_⟩
 .have:=h i _ (a4w hi);simp[this]
 have:=h j _ (a4w (Nat.lt_trans hj hi));simp[this];omega
theorem a3x{t:LI2}{m v:TV}{e:EV}{s1:St}{i:ni}{mv ev vv:LI3}(hV:Valid M D s.get w)(h:H8 s m e v=some (s1,i))(hm:VR M.h m mv)(he:ER M e ev)(hv:VR M.h v vv)
  (hD:∀j∈i.ts,D j):s1.env=s.env∧∃w' M',(Instr.entryStore t mv ev vv).run P w=.ok () w' ∧
   Valid M' (fun j=>D j∨(s.get j=none∧(s1.get j).isSome=true)) s1.get w'∧Ext M s.get w M' s1.get w' i.ws∧(∀k l,M (.l k)=some l->M' (.l k)=some l):=by
 unfold H8 at h;split at h
 case h_2=>simp at h
 rename_i r r' j;split at h
 case isFalse=>simp at h
 rename_i hrr;subst hrr;split at h
 case h_2=>simp at h
 rename_i es N9;split at h
 case h_2=>simp at h
 rename_i k v0 hj;simp only[a0k,a0T]at h;obtain⟨rfl,rfl⟩:=h;cases hm with
 |map hmm=>
 rename_i r1 o1;cases he with
 |Fa h1 q1=>
 rename_i r2 i o2;have Rx:M (.h r)=some (.obj r1 o1):=hmm;rw[Rx]at h1;cases h1;have hd:=hD (.h r) (by simp[qo]);obtain⟨gK,b1,b2⟩:=hV.ok _ _ hmm hd;simp only[St.get,N9,a0k]at b1;subst b1;obtain⟨xs,g1,g2⟩:=b2;have aQ:i<xs.size:=by rw[<-g2.ord];exact(a0n.1 q1).1
 obtain⟨z1,j2,e2',z2,z3,z4,z5⟩:=g2.at_ i _ (a4w aQ);rw[q1]at z2;cases z2;rw[hj]at z3;cases z3;have hle:tV M (dQ M (.h r) (.obj r1 o1)):=nG fun l0 h0=>by have h0':M (.h r)=some l0:=h0;rw[Rx]at h0';cases h0';exact .refl _
 have Gf:=g2.upd (f:=fun e=>{ e with val:=vv }) hle.h q1 (a4w aQ) rfl (z4.mono hle.h) (hv.mono hle.h);obtain⟨v1,v2⟩:=zL hV hmm hd N9 g1 (aha _) Gf;refine⟨rfl,_,_,?_,v1,v2,fun k l h=>by simp[dQ,h]⟩;have hf:=V3 (fun a x hx=>(g2.at_ a x hx).1) aQ;simp only[Instr.entryStore,Sem.run_bind,Result.andThen_ok,getObj,Sem.run,g1,asInt,asIntOf,Go.goInt,hf,setObj];simp only[Sem.run_bind,Sem.run_pure,Result.andThen_ok,Sem.run,hf,g1,Array.size_modify]
end
def Ht(M:Mp)(env:List (Nat×EV))(a:Act)(X:Array Operand):Prop:=∀x∈X,∀e,Jk env x=some e->ER M e (a.eval x)
theorem kM.on{M:Mp}{env:List (Nat×EV)}{a:Act}(hE:kM M env a.tmps)(X:Array Operand):Ht M env a X:=fun _ _ _ he=>a5G hE he
section
variable {M:Mp} {env:List (Nat×EV)} {a:Act} {X:Array Operand}
theorem qx(hE:Ht M env a X){x:Operand}(hx:x∈X){e:EV}(h:Jk env x=some e):ER M e (a.eval x):=hE x hx e h
theorem iF(hE:Ht M env a X){x:Operand}(hx:x∈X){v:TV}(h:rH env x=some v):VR M.h v (a.eval x):=by
 unfold rH at h;split at h
 .rename_i v' he;simp at h;subst h;exact(qx hE hx he).wF
 simp at h
theorem Hu(hE:Ht M env a X):∀{xs:List Operand} {vs:List TV},(∀x∈xs,x∈X)->UF env xs=some vs->bZ M.h vs (xs.map a.eval)
 | [],vs,_,h=>by simp[UF]at h;subst h;exact .nil
 |x::xs,vs,hx,h=>by
  simp only[UF]at h;split at h
  .rename_i v vs' h1 h2;simp at h;subst h;exact .cons (iF hE (hx x (by simp)) h1) (Hu hE (fun y hy=>hx y (by simp[hy])) h2)
  simp at h
theorem V4(hE:Ht M env a X):∀{xs:List (Nat×Operand)} {vs:List (Nat×TV)},(∀p∈xs,p.2∈X)->X3 env xs=some vs ->
  PR M.h vs (xs.map fun(i,x)=>(i,a.eval x))
 | [],vs,_,h=>by simp[X3]at h;subst h;exact .nil
 |(i,x)::xs,vs,hx,h=>by
  simp only[X3]at h;split at h
  .rename_i v vs' h1 h2;simp at h;subst h;exact .cons (iF hE (hx (i,x) (by simp)) h1) (V4 hE (fun y hy=>hx y (by simp[hy])) h2)
  .simp at h
theorem Hw(hE:Ht M env a X){o:Option Operand}(hx:∀x,o=some x->x∈X){v:Option TV}(h:X5 env o=some v):OR M.h v (o.map a.eval):=by
 unfold X5 at h;split at h
 .simp at h;subst h;exact .none
 rename_i x;split at h
 .rename_i v' hv;simp at h;subst h;exact .some (iF hE (hx x rfl) hv)
 simp at h
end
section
variable {P:LI1} {M:Mp} {D:Key->Prop} {w:LI4} {s:St}
def Hy:Op->Bool
 |.call { callee:=.value _,.. }=>true
 |_=>false
theorem Hf.nI{C:Ct}{c:Sem Next}{v:TV}{S:Sem LI3}(hV:Valid M D C w)(hc:c=(do pure (.value (<-S))))(h:∃z,VR M.h v z∧S.run P w=.ok z w):Hf P M D C w c (.val v) C []:=by obtain⟨z,h1,h2⟩:=h;exact .same hV (by rw[hc];simp[h2]) (.val h1)
theorem Hf.OC{C:Ct}{c:Sem Next}{v:EV}{S:Sem LI3}(hV:Valid M D C w)(hc:c=(do pure (.value (<-S))))(h:∃z,ER M v z∧S.run P w=.ok z w):Hf P M D C w c v C []:=by obtain⟨z,h1,h2⟩:=h;exact .same hV (by rw[hc];simp[h2]) h1
theorem Hf.aiT{C:Ct}{c:Sem Next}{v:TV}{S:Sem LI3}{C1:Ct}{ws:List Key}(hc:c=(do pure (.value (<-S))))(h:BOk P M D C w S v C1 ws):Hf P M D C w c (.val v) C1 ws:=by obtain⟨x,w',M',h1,h2⟩:=h;exact⟨x,w',M',.inl (by rw[hc];simp[h1]),h2⟩
theorem Hf.aeY{C:Ct}{c:Sem Next}{S:Sem Unit}{C1:Ct}{ws:List Key}(hc:c=(do S;pure .skip))(h:∃w' M',S.run P w=.ok () w'∧Valid M' (fun j=>D j∨(C j=none∧(C1 j).isSome=true)) C1 w'∧Ext M C w M' C1 w' ws∧(∀k l,M (.l k)=some l->M' (.l k)=some l)):Hf P M D C w c .undef C1 ws:=by obtain⟨w',M',h1,h2,h3,h4⟩:=h;exact⟨Go.undef,w',M',.inr ⟨rfl,by rw[hc];simp[h1]⟩,⟨h2,h3,.undef,h4⟩⟩
theorem Hf.ap3{C:Ct}{c:Sem Next}{S:Sem Unit}{C1:Ct}{ws:List Key}(hc:c=(do S;pure .skip))(h:∃w',S.run P w=.ok () w'∧Valid M (fun j=>D j∨(C j=none∧(C1 j).isSome=true)) C1 w'∧Ext M C w M C1 w' ws):Hf P M D C w c .undef C1 ws:=by obtain⟨w',h1,h2,h3⟩:=h;exact⟨Go.undef,w',M,.inr ⟨rfl,by rw[hc];simp[h1]⟩,⟨h2,h3,.undef,fun _ _ h=>h⟩⟩
theorem ZJ{b:Builtin}{at_:Array LI2}{t:LI2}{cs:Array Bool}{az:List TV}{xs:List LI3}{v:TV}{s1:St}{i:ni}(hV:Valid M D s.get w)(zI:M (.h s.heap.length)=none)
  (h:rP P b at_ t s az=some (v,s1,i)) (hx:bZ M.h az xs) (hD:∀k∈i.ts,D k):s1.env=s.env∧Hf P M D s.get w (builtin b at_ t cs xs.toArray) (.val v) s1.get i.ws:=by
 unfold rP at h;split at h
 .simp only[a0A,a0T]at h;obtain⟨⟨v',i'⟩,h1,rfl,rfl,rfl⟩:=h;obtain⟨x,xs',rfl,hx1,hx2⟩:=hx.iY;have:=hx2.qI;subst this;obtain⟨e1,e2⟩:=ZE (t:=t) hV h1 hx1 hD;refine⟨rfl,?_⟩;simp only;rw[e1];exact .nI hV rfl e2
 .obtain⟨x,xs',rfl,hx1,hx2⟩:=hx.iY;obtain⟨y,ys',rfl,hy1,hy2⟩:=hx2.iY;have:=hy2.qI;subst this;obtain⟨e1,e2⟩:=Jw (ty:=t) hV zI h hx1 hy1 hD;exact⟨e1,.aiT rfl e2⟩
 .obtain⟨x,xs',rfl,hx1,hx2⟩:=hx.iY;obtain⟨y,ys',rfl,hy1,hy2⟩:=hx2.iY;have:=hy2.qI;subst this;obtain⟨e1,e2⟩:=UZ (ty:=t) hV h hx1 hy1 hD;exact⟨e1,.aiT rfl e2⟩
 .simp only[a0A,a0T]at h;obtain⟨v',h1,rfl,rfl,rfl⟩:=h;exact⟨rfl,.nI hV rfl (zJ h1 hx)⟩
 .simp only[a0A,a0T]at h;obtain⟨v',h1,rfl,rfl,rfl⟩:=h;exact⟨rfl,.nI hV rfl (zJ h1 hx)⟩
 .simp at h
theorem aiU{call:bn}{site:Nat->Bool}{o:Oper}{a:Act}{v:EV}{s1:St}{i:ni}(hV:Valid M D s.get w)(hE:Ht M s.env a o.op.operands)(zI:M (.h s.heap.length)=none)(hnl:M (.l s.loc.length)=none)
  (h:qp P call site s o=some (v,s1,i)) (hc:Hy o.op=false) (hD:∀k∈i.ts,D k):s1.env=s.env∧Hf P M D s.get w (execOp a.eval o) v s1.get i.ws:=by
 unfold qp at h;unfold execOp;split at h
 .-- move
  rename_i x ho;rw[ho];simp only[a0A,a0T]at h;obtain⟨e,he,rfl,rfl,rfl⟩:=h;exact⟨rfl,.same hV rfl (qx hE (by simp[ho,Op.operands]) he)⟩
 .rename_i x ho;rw[ho];simp only[a0A,a0T]at h;obtain⟨e,he,rfl,rfl,rfl⟩:=h;exact⟨rfl,.same hV rfl (qx hE (by simp[ho,Op.operands]) he)⟩
 .-- pick
  rename_i c x y ho;rw[ho];split at h
  .rename_i t ht;simp only[a0A,a0T]at h;obtain⟨e,he,rfl,rfl,rfl⟩:=h;have hb:=iF hE (by simp[ho,Op.operands]) ht;have rC:a.eval c=.bool t:=by cases rC:a.eval c<;>rw[rC]at hb<;>cases hb;rfl
   have:=qx hE (by cases t<;>simp[ho,Op.operands]) he;refine⟨rfl,.same hV (x:=a.eval (if t then x else y)) ?_ this⟩;simp only[Sem.run_bind,rC,asBool,Sem.run_pure,Result.andThen_ok];cases t<;>rfl
  .simp at h
 .-- alloc
  rename_i e ho;rw[ho];simp only[a0A]at h;obtain⟨z,hz,h⟩:=h;obtain⟨i',x,v',_,_,_,_,hz1,hvr,hzr⟩:=xG hz;simp only[a0T]at h;obtain⟨rfl,rfl,rfl⟩:=h;obtain⟨M',hp⟩:=a5H hV zI hnl (site (o.dst.getD 0)) e (hvr M.h) hz1 rfl;refine⟨by unfold rJ;split<;>rfl,_,_,M',.inl ?_,hp⟩;simp[Instr.alloc,hzr w,newVar,newRow]
 .-- box
  rename_i t x ho;rw[ho];split at h
  .rename_i v0 hv0;split at h
   .rename_i G7;simp only[a0k,a0T]at h;obtain⟨rfl,rfl,rfl⟩:=h;obtain⟨M',hp⟩:=a5H hV zI hnl (site (o.dst.getD 0)) t (iF hE (by simp[ho,Op.operands]) hv0).cells (N8 G7) rfl;refine⟨by unfold rJ;split<;>rfl,_,_,M',.inl ?_,hp⟩;simp[Instr.box,newVar,newRow]
   .simp at h
  .simp at h
 .-- build
  rename_i t ps ho;rw[ho];split at h
  .rename_i qs hq;simp only[a0A,a0T]at h;obtain⟨v0,hb,rfl,rfl,rfl⟩:=h;obtain⟨x,h1,h2⟩:=a5J hb (V4 hE (fun p hp=>by simp[ho,Op.operands];exact⟨p.1,by simpa using hp⟩) hq);refine⟨rfl,.nI hV rfl ⟨x,h1,?_⟩⟩;have:=h2 w
   rwa [show(List.map (fun x=>(x.1,a.eval x.2)) ps.toList).toArray=ps.map (fun x=>(x.1,a.eval x.2))from by apply aeI;simp]at this
  .simp at h
 .-- buildSlice
  rename_i t len ps ho;rw[ho];split at h
  .rename_i qs hq;simp only[a0A,a0T]at h;obtain⟨⟨v0,s0⟩,hb,rfl,rfl,rfl⟩:=h;obtain⟨e1,x,w',M',h1,h2⟩:=uO hV zI hb (V4 hE (fun p hp=>by simp[ho,Op.operands];exact⟨p.1,by simpa using hp⟩) hq);refine⟨e1,x,w',M',.inl ?_,h2⟩;rw[show(List.map (fun x=>(x.1,a.eval x.2)) ps.toList).toArray=ps.map (fun x=>(x.1,a.eval x.2))from by apply aeI;simp]at h1;simp[h1]
  .simp at h
 .-- load
  rename_i t x ho;rw[ho];split at h
  .rename_i e he;simp only[a0A,a0T]at h;obtain⟨⟨v0,i0⟩,hl,rfl,rfl,rfl⟩:=h;obtain⟨e1,e2⟩:=Hg hV hl (qx hE (by simp[ho,Op.operands]) he) hD;refine⟨rfl,?_⟩;simp only;rw[e1];exact .nI hV rfl e2
  .simp at h
 .-- store
  rename_i t x y ho;rw[ho];split at h
  .rename_i e v0 he hv0;simp only[a0A,a0T]at h;obtain⟨⟨s0,i0⟩,hl,rfl,rfl,rfl⟩:=h;obtain⟨e1,w',e2,e3,e4,e5⟩:=ZA hV hl (qx hE (by simp[ho,Op.operands]) he) (iF hE (by simp[ho,Op.operands]) hv0) hD;exact⟨e1,.ap3 rfl ⟨w',e2,e3.widen e5,e4⟩⟩
  .simp at h
 .-- nilCheck
  rename_i x ho;rw[ho];split at h
  .rename_i k off he;simp only[a0k,a0T]at h;obtain⟨rfl,rfl,rfl⟩:=h;have hx:=qx hE (by simp[ho,Op.operands]) he;refine⟨rfl,.same hV (x:=a.eval x) ?_ hx⟩;cases hxe:a.eval x<;>rw[hxe]at hx<;>cases hx
   simp[hxe]
  .rename_i b off lim he;simp only[a0k,a0T]at h;obtain⟨rfl,rfl,rfl⟩:=h;have hx:=qx hE (by simp[ho,Op.operands]) he;refine⟨rfl,.same hV (x:=a.eval x) ?_ hx⟩;have Gf:=hx.wF;cases hxe:a.eval x<;>rw[hxe]at Gf<;>cases Gf
   simp[hxe]
  .rename_i f b c he;simp only[a0k,a0T]at h;obtain⟨rfl,rfl,rfl⟩:=h;have hx:=qx hE (by simp[ho,Op.operands]) he;refine⟨rfl,.same hV (x:=a.eval x) ?_ hx⟩;have Gf:=hx.wF;cases hxe:a.eval x<;>rw[hxe]at Gf<;>cases Gf
   simp[hxe]
  .rename_i l he;simp only[a0k,a0T]at h;obtain⟨rfl,rfl,rfl⟩:=h;have hx:=qx hE (by simp[ho,Op.operands]) he;refine⟨rfl,.same hV (x:=a.eval x) ?_ hx⟩;have Gf:=hx.wF;cases hxe:a.eval x<;>rw[hxe]at Gf<;>cases Gf
   simp[hxe]
  .simp at h
 .-- binOp
  rename_i op t x y t' ho;rw[ho];split at h
  .rename_i u v0 hu hv;simp only[a0A,a0T]at h;obtain⟨r,hb,rfl,rfl,rfl⟩:=h;exact⟨rfl,.nI hV rfl (ZB hb (iF hE (by simp[ho,Op.operands]) hu) (iF hE (by simp[ho,Op.operands]) hv))⟩
  .simp at h
 .-- unOp
  rename_i op t x ho;rw[ho];split at h
  .rename_i u hu;simp only[a0A,a0T]at h;obtain⟨r,hb,rfl,rfl,rfl⟩:=h;exact⟨rfl,.nI hV rfl (ji hb (iF hE (by simp[ho,Op.operands]) hu))⟩
  .simp at h
 .-- convert
  rename_i t t' x ho;rw[ho];split at h
  .rename_i u hu;simp only[a0A,a0T]at h;obtain⟨r,hb,rfl,rfl,rfl⟩:=h;exact⟨rfl,.nI hV rfl (UR hb (iF hE (by simp[ho,Op.operands]) hu))⟩
  .simp at h
 .-- makeFunc
  rename_i f az bs ho;rw[ho];split at h
  .rename_i us vs hu hv;simp only[a0k,a0T]at h;obtain⟨rfl,rfl,rfl⟩:=h;have h1:=Hu hE (fun x hx=>by simp[ho,Op.operands];exact .inl (by simpa using hx)) hu;have h2:=Hu hE (fun x hx=>by simp[ho,Op.operands];exact .inr (by simpa using hx)) hv;refine⟨rfl,.nI hV rfl ⟨.func (.func f) (az.map a.eval) (bs.map a.eval),?_,rfl⟩⟩;have:=VR.fn (f:=f) h1.len h1.at_ h2.len h2.at_
   rwa [show(List.map a.eval az.toList).toArray=az.map a.eval from by apply aeI;simp,show(List.map a.eval bs.toList).toArray=bs.map a.eval from by apply aeI;simp]at this
  .simp at h
 .-- makeMap
  rename_i t r ho;rw[ho];have zu:s.get (.h s.heap.length)=none:=by simp[St.get]
  have hle:tV M (dQ M (.h s.heap.length) (.obj w.heap.size [])):=nG fun l0 h0=>by rw[zI]at h0;cases h0
  have gV:∀c,c<w.heap.size->c∉aK (.obj w.heap.size [])->(w.alloc (.map #[] 0)).heap[c]? = w.heap[c]?:=fun c hc _=>xE w _ c hc;have gG:∀c∈aK (.obj w.heap.size []),(∃l0,M (.h s.heap.length)=some l0∧c∈aK l0)∨w.heap.size<=c:=fun c hc=>.inr (by simp[aK]at hc;omega);have key:Oj M D s.get w (.val (.map s.heap.length)) (St.get { s with heap:=s.heap++[.map []] }) [] (.map (some w.heap.size)) (w.alloc (.map #[] 0)) (dQ M (.h s.heap.length) (.obj w.heap.size [])):=by
   refine⟨?_,?_,.val (.map (o:=[]) (by simp[Mp.h,dQ])),rQ zI⟩
   .rw[kW];refine hV.upd _ _ _ (fun j hj=>?_) (fun l0 h0=>by rw[zI]at h0;cases h0) gV gG (by simp) ⟨#[],heap_alloc_new w _,rfl,rfl,.nil,by simp,by simp⟩;rcases hj with hj|⟨x1,x2⟩
    .exact .inl hj
    .right;unfold mY at x2;split at x2
     .assumption
     .simp[x1]at x2
   .rw[kW];exact Ext.upd _ _ _ [] (.inr ⟨zu,zI,rfl⟩) hle gV gG (by simp) rfl rfl rfl
  split at h
  .rename_i _ hr;simp only[a0k,a0T]at h;obtain⟨rfl,rfl,rfl⟩:=h;have:=Hw hE (fun x hx=>by simp[ho,Op.operands,hx]) hr;refine⟨rfl,_,_,_,.inl ?_,key⟩;cases hrr:r.map a.eval with
   |none=>simp[hrr,Instr.makeMap]
   |some y=>rw[hrr]at this;cases this
  .rename_i k n _ _ hr hu;simp only[a0k,a0T]at h;obtain⟨rfl,rfl,rfl⟩:=h;have:=Hw hE (fun x hx=>by simp[ho,Op.operands,hx]) hr;refine⟨rfl,_,_,_,.inl ?_,key⟩;cases hrr:r.map a.eval with
   |none=>rw[hrr]at this;cases this
   |some y=>
    rw[hrr]at this;cases this with
    |some hy=>
     cases hy;simp[hrr,Instr.makeMap,run_underlying hu,asInt,asIntOf]
  .simp at h
 .-- makeSlice
  rename_i t l c ho;rw[ho];split at h
  .rename_i u v0 hu hv;simp only[a0A,a0T]at h;obtain⟨⟨r,s0⟩,hb,rfl,rfl,rfl⟩:=h;obtain⟨e1,z,w',M',e2,e3⟩:=Bc hV zI hb (iF hE (by simp[ho,Op.operands]) hu) (iF hE (by simp[ho,Op.operands]) hv);exact⟨e1,z,w',M',.inl (by simp[e2]),e3⟩
  .simp at h
 .-- slice
  rename_i t x lo hi mx ho;rw[ho];split at h
  .rename_i e ZC xk mx' he Hz hhi hmx;have h1:=Hw hE (fun x hx=>by simp[ho,Op.operands,hx]) Hz;have h2:=Hw hE (fun x hx=>by simp[ho,Op.operands,hx]) hhi;have h3:=Hw hE (fun x hx=>by simp[ho,Op.operands,hx]) hmx;split at h
   .simp only[a0A,a0T]at h;obtain⟨r,hb,rfl,rfl,rfl⟩:=h;exact⟨rfl,.nI hV rfl (Dv hb (qx hE (by simp[ho,Op.operands]) he) h1 h2 h3)⟩
   .simp only[a0A,a0T]at h;obtain⟨r,hb,rfl,rfl,rfl⟩:=h;exact⟨rfl,.nI hV rfl (Oy hb (qx hE (by simp[ho,Op.operands]) he).wF h1 h2 h3)⟩
   .simp at h
  .simp at h
 .-- fieldAddr
  rename_i t x f ho;rw[ho];split at h
  .rename_i e n he hn;simp only[a0A,a0T]at h;obtain⟨r,hb,rfl,rfl,rfl⟩:=h;exact⟨rfl,.OC hV rfl (UQ hn hb (qx hE (by simp[ho,Op.operands]) he))⟩
  .simp at h
 .-- field
  rename_i t x f ho;rw[ho];split at h
  .rename_i u hu;simp only[a0A,a0T]at h;obtain⟨r,hb,rfl,rfl,rfl⟩:=h;exact⟨rfl,.nI hV rfl (Ov hb (iF hE (by simp[ho,Op.operands]) hu))⟩
  .simp at h
 .-- indexAddr
  rename_i t x y ho;rw[ho];split at h
  .rename_i e u he hu;simp only[a0A,a0T]at h;obtain⟨r,hb,rfl,rfl,rfl⟩:=h;exact⟨rfl,.OC hV rfl (AZ hb (qx hE (by simp[ho,Op.operands]) he) (iF hE (by simp[ho,Op.operands]) hu))⟩
  .simp at h
 .-- index
  rename_i t x y ho;rw[ho];split at h
  .rename_i u v0 hu hv;simp only[a0A,a0T]at h;obtain⟨r,hb,rfl,rfl,rfl⟩:=h;exact⟨rfl,.nI hV rfl (Ox hb (iF hE (by simp[ho,Op.operands]) hu) (iF hE (by simp[ho,Op.operands]) hv))⟩
  .simp at h
 .-- lookup
  rename_i t m k ok ho;rw[ho];split at h
  .rename_i u v0 hu hv;simp only[a0A,a0T]at h;obtain⟨r,hb,rfl,rfl,rfl⟩:=h;exact⟨rfl,.nI hV rfl (EF hV hb (iF hE (by simp[ho,Op.operands]) hu) (iF hE (by simp[ho,Op.operands]) hv) hD)⟩
  .simp at h
 .-- mapUpdate
  rename_i t m k x ho;rw[ho];split at h
  .rename_i u v0 y hu hv hy;simp only[a0A,a0T]at h;obtain⟨⟨s0,i0⟩,hb,rfl,rfl,rfl⟩:=h;obtain⟨e1,e2⟩:=SL hV hb (iF hE (by simp[ho,Op.operands]) hu) (iF hE (by simp[ho,Op.operands]) hv) (iF hE (by simp[ho,Op.operands]) hy) hD;exact⟨e1,.aeY rfl e2⟩
  .simp at h
 .-- insert
  rename_i t m k x ho;rw[ho];split at h
  .rename_i u v0 y hu hv hy;simp only[a0A,a0T]at h;obtain⟨⟨s0,i0⟩,hb,rfl,rfl,rfl⟩:=h;obtain⟨e1,e2⟩:=SL hV hb (iF hE (by simp[ho,Op.operands]) hu) (iF hE (by simp[ho,Op.operands]) hv) (iF hE (by simp[ho,Op.operands]) hy) hD;exact⟨e1,.aeY rfl e2⟩
  .simp at h
 .-- mapEntry
  rename_i t m k ho;rw[ho];split at h
  .rename_i u v0 hu hv;obtain⟨e1,z,w',M',h1,h2,h3,h4,h5⟩:=a5V hV h (iF hE (by simp[ho,Op.operands]) hu) (iF hE (by simp[ho,Op.operands]) hv) hD;exact⟨e1,z,w',M',.inl (by show(do pure (.value (<-Instr.mapEntry t _ _)):Sem Next).run P w=_;simp[h1]),h3,h4,h2,h5⟩
  .simp at h
 .-- entryStore
  rename_i t m k x ho;rw[ho];split at h
  .rename_i u v0 y hu hv hy;simp only[a0A,a0T]at h;obtain⟨⟨s0,i0⟩,hb,rfl,rfl,rfl⟩:=h;obtain⟨e1,e2⟩:=a3x (t:=t) hV hb (iF hE (by simp[ho,Op.operands]) hu) (qx hE (by simp[ho,Op.operands]) hv) (iF hE (by simp[ho,Op.operands]) hy) hD;exact⟨e1,.aeY rfl e2⟩
  .simp at h
 .-- extract
  rename_i x n ho;rw[ho];split at h
  .rename_i e he;simp only[a0A,a0T]at h;obtain⟨r,hb,rfl,rfl,rfl⟩:=h;have hx:=qx hE (by simp[ho,Op.operands]) he;refine⟨rfl,.OC hV rfl ?_⟩;generalize a.eval x=xv at hx;unfold zG at hb;split at hb
   .simp only[a0A]at hb;obtain⟨y0,hb,rfl⟩:=hb;cases hx with
    |val hx=>
     cases hx with
     |dJ g1 g2=>
      obtain⟨y,y1,y2⟩:=(bZ.mk g1 g2).get hb;exact⟨y,.val y2,by simp[Instr.extract,y1]⟩
   .cases hx with
    |ent q1 q2 q3=>
     split at hb<;>cases hb
     .exact⟨_,.val q3,by simp[Instr.extract]⟩
     .exact⟨_,.Fa q1 q2,by simp[Instr.extract]⟩
   .cases hb
  .simp at h
 .-- call
  rename_i c ho;rw[ho]at hc ⊢;unfold Oa at h;split at h
  .rename_i b az hb has;simp only[a0A,a0T]at h;obtain⟨⟨v0,s0,i0⟩,rC,rfl,rfl,rfl⟩:=h;obtain⟨e1,e2⟩:=ZJ (cs:=c.args.map fun|.const _=>true|_=>false) hV zI rC (Hu hE (fun x hx=>by simp[ho,Op.operands,Call.operands,hb];simpa using hx) has) hD;refine⟨e1,?_⟩;obtain⟨x,w',M',r1,r2⟩:=e2;refine⟨x,w',M',?_,r2⟩;rw[show(List.map a.eval c.args.toList).toArray=c.args.map a.eval from by apply aeI;simp]at r1;unfold aiG at r1 ⊢;simp only[resolve,hb,Sem.run_bind,Sem.run_pure,Result.andThen_ok,invoke];exact r1
  .rename_i f az hf has;obtain⟨callee,args,ats⟩:=c;simp only at hf;subst hf;simp[Hy]at hc
  .simp at h
 .-- range
  rename_i t x ho;rw[ho];split at h
  .rename_i r k el hv hu;split at h
   .rename_i es N9;simp only[a0k,a0T]at h;obtain⟨rfl,rfl,rfl⟩:=h;have hx:=iF hE (by simp[ho,Op.operands]) hv;refine⟨rfl,?_⟩;generalize hxv:a.eval x=xv at hx;cases hx with
    |map hm=>
    rename_i r1 o1;obtain⟨gK,b1,b2⟩:=hV.ok _ _ hm (hD (.h r) (by simp[yA]));simp only[St.get,N9,a0k]at b1;subst b1;obtain⟨xs,g1,g2⟩:=b2;have zu:s.get (.h s.heap.length)=none:=(by simp[St.get]);have hrl:r<s.heap.length:=(a0n.1 N9).1;have hle:tV M (dQ M (.h s.heap.length) (.obj w.heap.size [])):=nG fun l0 h0=>by rw[zI]at h0;cases h0
    have gV:∀c,c<w.heap.size->c∉aK (.obj w.heap.size [])->(w.alloc (.mapIter (some r1) xs.size #[] xs.size)).heap[c]? = w.heap[c]?:=fun c hc _=>xE w _ c hc;have gG:∀c∈aK (.obj w.heap.size []),(∃l0,M (.h s.heap.length)=some l0∧c∈aK l0)∨w.heap.size<=c:=fun c hc=>.inr (by simp[aK]at hc;omega);refine⟨.pointer (some ⟨w.heap.size,0,none⟩),w.alloc (.mapIter (some r1) xs.size #[] xs.size),dQ M (.h s.heap.length) (.obj w.heap.size []),.inl ?_,?_,?_,.val (.iter (o:=[]) (by simp[Mp.h,dQ])),rQ zI⟩
    .simp[hxv,Instr.range,run_underlying hu,getObj,Sem.run,g1,newObj]
    .rw[kW];refine hV.upd _ _ _ (fun j hj=>?_) (fun l0 h0=>by rw[zI]at h0;cases h0) gV gG (by simp) ⟨r1,o1,#[],?_,?_,?_,rfl⟩
     .rcases hj with hj|⟨x1,x2⟩
      .exact .inl hj
      .right;unfold mY at x2;split at x2
       .assumption
       .simp[x1]at x2
     .have:(Key.h r)≠.h s.heap.length:=fun e=>by cases e;omega
      simp only[Mp.h,dQ,a0F this];exact hm
     .rw[g2.len];exact heap_alloc_new w _
     .rw[g2.len,g2.ord];exact a15 _
    .rw[kW];exact Ext.upd _ _ _ [] (.inr ⟨zu,zI,rfl⟩) hle gV gG (by simp) rfl rfl rfl
   .simp at h
  .simp at h
 .-- entry
  rename_i x ho;rw[ho];split at h
  .rename_i b hv;split at h
   .rename_i r n i seen hb;split at h
    .rename_i es N9;split at h
     case isFalse=>simp at h
     rename_i hn;simp only[a0A,a0T]at h;obtain⟨e,he,rfl,rfl,rfl⟩:=h;have hx:=iF hE (by simp[ho,Op.operands]) hv;refine⟨rfl,.nI hV rfl ?_⟩;generalize a.eval x=xv at hx;cases hx with
     |iter hm=>
     rename_i b1 o1;obtain⟨gK,c1,c2⟩:=hV.ok _ _ hm (hD (.h b) (by simp[iE]));simp only[St.get,hb,a0k]at c1;subst c1;obtain⟨r1,o,sa,d1,d2,d3,d4⟩:=c2;obtain⟨gK,c1,c2⟩:=hV.ok (.h r) _ d1 (hD (.h r) (by simp[iE]));simp only[St.get,N9,a0k]at c1;subst c1;obtain⟨xs,g1,g2⟩:=c2;have iM:sa.toList≠[]:=fun e=>by rw[e]at d4;simp at d4
     obtain⟨k,hk⟩:∃k,sa.back? = some k∧o[k]? = some i:=by
      have h1:(sa.toList.map fun i=>o[i]?).getLast? = some (some i):=by rw[d4];simp
      rw[List.getLast?_map]at h1;simp only[a0A]at h1;obtain⟨k,h2,h3⟩:=h1;exact⟨k,by rw[<-Array.getLast?_toList];exact h2,h3⟩
     have lG:k<xs.size:=by rw[<-g2.ord];exact(a0n.1 hk.2).1
     obtain⟨q1,j,e',q2,q3,q4,q5⟩:=g2.at_ k _ (a4w lG);rw[hk.2]at q2;cases q2;rw[he]at q3;cases q3;refine⟨.tuple #[xs[k].key,xs[k].val],.Ro (.cons q4 (.cons q5 .nil)),?_⟩;have hf:xs.find? (·.born==k)=some xs[k]:=by rw[<-Array.find?_toList];have:xs[k].born==k:=(by simpa using q1);rw[List.find?_eq_some_iff_getElem];refine⟨this,k,by simpa using lG,by simp,fun j hj=>?_⟩;have tH:j<xs.size:=(by omega);have:=(g2.at_ j _ (a4w tH)).1;simp only[Array.getElem_toList];rw[this];simp;omega
     have hc:xs.size=n:=by rw[<-g2.len];exact hn
     simp only[Instr.entry,getObj,Sem.run_bind,Sem.run,d2,g1,Result.andThen_ok,hk.1,hc,bne_self_eq_false,a3u,a3U,hf];rfl
    .simp at h
   .simp at h
  .simp at h
 .simp at h
end
abbrev lK(h:List HB):Ct:=St.get ⟨[],[],h,[]⟩
def Mp.only(M:Mp):Mp
 |.h b=>M (.h b)
 |.l _=>none
abbrev oG(r:Option Nat):Fence:={ Fence.wide with round:=r }
def MG(R:LI3->LI4->Prop):Ending->LI4->Prop
 |.returned v,w=>R v w
 |_,_=>False
def jX(M:Mp)(h:List HB)(w:LI4)(v:TV)(h':List HB)(ws:List Nat)(y:LI3)(w':LI4):Prop:=
 ∃M',Valid M' vN (lK h') w'∧(∀k,M' (.l k)=none)∧Ext M (lK h) w M' (lK h') w' (ws.map .h)∧VR M'.h v y
def Na(P:LI1)(d:Deferred)(w:LI4)(R:LI3->LI4->Prop):Prop:=
 ∃f az,(invoke d.target d.args).run P w=.ok (.enter f az) w∧∀n,CallsIn Fence.wide n P f az w (MG R)
def V5(P:LI1)(d:Deferred)(w:LI4)(R:LI3->LI4->Prop):Prop:=
 ∃l f tmps vM body,(invoke d.target d.args).run P w=.ok (.round l f tmps vM body) w∧∀n,RoundIn Fence.wide n P l f tmps vM body w (MG R)
def iO(P:LI1)(call:bn):Prop:=
 ∀fv args h v h' ws,call fv args h=some (v,h',ws)->∀(M:Mp) (w:LI4) (x:LI3) (xs:List LI3),Valid M vN (lK h) w->(∀k,M (.l k)=none)->VR M.h fv x->bZ M.h args xs ->
  ∃d,(∀w,(Deferred.ofValue x xs.toArray).run P w=.ok d w)∧((Na P d w (jX M h w v h' ws)∧∃f a b,fv=.fn f a b)∨(V5 P d w (jX M h w v h' ws)∧∃l,fv=.lF l))
theorem CallsIn.ex{n:Nat}{P:LI1}{f:FuncId}{az:Array LI3}{w:LI4}{R:LI3->LI4->Prop}(h:CallsIn Fence.wide n P f az w (MG R)):∃y w',R y w':=by
 obtain⟨e,w',fr,hR,_⟩:=h.2 [] (room_wide _);cases e with
 |returned v=>exact⟨v,w',hR⟩
 |panicked c=>exact hR.elim
 |outgrown=>exact hR.elim
theorem RoundIn.ex{n:Nat}{P:LI1}{l:Nat}{f:FuncId}{tmps:Array LI3}{vM body:Code}{w:LI4}{R:LI3->LI4->Prop}(h:RoundIn Fence.wide n P l f tmps vM body w (MG R)):∃y w',R y w':=by
 obtain⟨e,w',hR,_⟩:=h.2 default [] (room_wide _);cases e with
 |returned v=>exact⟨v,w',hR⟩
 |panicked c=>exact hR.elim
 |outgrown=>exact hR.elim
section
variable {P:LI1} {call:bn}
theorem iO.ex(hC:iO P call){fv:TV}{args:List TV}{h:List HB}{v:TV}{h':List HB}{ws:List Nat}(hc:call fv args h=some (v,h',ws)){M:Mp}{w:LI4}{x:LI3}{xs:List LI3}
  (hV:Valid M vN (lK h) w) (hl:∀k,M (.l k)=none) (hx:VR M.h fv x) (OD:bZ M.h args xs):∃y w',jX M h w v h' ws y w':=by
 obtain⟨d,_,h1|h1⟩:=hC _ _ _ _ _ _ hc M w x xs hV hl hx OD
 .obtain⟨⟨f,az,_,h2⟩,_⟩:=h1;exact CallsIn.ex (h2 0)
 .obtain⟨⟨l,f,tmps,vM,body,_,h2⟩,_⟩:=h1;exact RoundIn.ex (h2 0)
def acM(M' M:Mp):Mp
 |.h b=>M' (.h b)
 |.l j=>M (.l j)
theorem Gj{M:Mp}{D:Key->Prop}{s:St}{w:LI4}(hV:Valid M D s.get w)(hh:∀b l,M (.h b)=some l->D (.h b)):Valid M.only vN (lK s.heap) w:=by
 refine⟨?_,?_,?_⟩
 .intro k l hk _;cases k with
  |l j=>cases hk
  |h b=>exact hV.ok (.h b) l hk (hh b l hk)
 .intro k k' l l' b iM hk pG _ hc hw;cases k with
  |l j=>cases hk
  |h b=>
   cases k' with
   |l j=>cases pG
   |h b'=>exact hV.own _ _ _ _ _ iM hk pG (hh b l hk) hc hw
 intro k l hk;cases k with
 |l j=>cases hk
 |h b=>exact hV.inb _ _ hk
theorem SN{M:Mp}{D:Key->Prop}{s:St}{w:LI4}(hV:Valid M D s.get w)
  (zM:∀j l,M (.l j)=some l->∀k' l',Key.l j≠k'->M k'=some l'->∀c∈aK l,c∉aK l')
  {v:TV} {h':List HB} {ws:List Nat} {y:LI3} {w':LI4} (hr:jX M.only s.heap w v h' ws y w') :
  ∃M',Oj M D s.get w (.val v) (St.get { s with heap:=h' }) (ws.map .h) y w' M':=by
 obtain⟨M',ZH,hl',hX,hy⟩:=hr;have qM:∀(b j:Nat) (l l':Lc),M' (.h b)=some l->M (.l j)=some l'->∀c∈aK l,c∉aK l':=by intro b j l l' hb hj c hc Rq;have aQ:=hV.inb _ _ hj c Rq;obtain⟨l0,h1,h2⟩:=hX.fresh _ _ hb c hc aQ;exact zM j l' hj (.h b) l0 (by simp) h1 c Rq h2
 refine⟨acM M' M,⟨⟨?_,?_,?_⟩,?_,.val hy,fun _ _ h=>h⟩⟩
 .intro k l hk hd;cases k with
  |h b=>exact ZH.ok (.h b) l hk trivial
  |l j=>
   rcases hd with hd|⟨h1,h2⟩
   .obtain⟨b0,h1,h2⟩:=hV.ok (.l j) l hk hd;refine⟨b0,h1,h2.mono (N:=M.h) (N':=(acM M' M).h) (hX.Jl.h) fun c hc=>?_⟩;refine hX.frame c (hV.inb _ _ hk c hc) fun k' pG l' hl' ap6=>?_;obtain⟨b',_,rfl⟩:=a1e.1 pG;exact zM j l hk (.h b') l' (by simp) hl' c hc ap6
   .simp only[St.get]at h1 h2;rw[h1]at h2;cases h2
 .intro k k' l l' b0 iM hk pG hd hc hw;cases k with
  |h b=>
   cases k' with
   |h b'=>exact ZH.own (.h b) (.h b') l l' b0 iM hk pG trivial hc hw
   |l j=>exact qM b j l l' hk pG
  |l j=>
   cases k' with
   |h b'=>exact fun c hc Rq=>qM b' j l' l pG hk c Rq hc
   |l j'=>exact zM j l hk (.l j') l' iM pG
 .intro k l hk c hc;cases k with
  |h b=>exact ZH.inb (.h b) l hk c hc
  |l j=>exact a9T (hV.inb (.l j) l hk c hc) hX.size
 .exact
  {Jl:=by
    intro k l hk;cases k with
    |h b=>exact hX.Jl (.h b) l hk
    |l j=>exact⟨l,hk,.refl l⟩
   frame:=fun c hc hf=>hX.frame c hc fun k hk l hl=>by obtain⟨b',_,rfl⟩:=a1e.1 hk;exact hf _ hk l hl
   oh:=fun k hk hn=>by
    cases k with
    |h b=>exact hX.oh (.h b) hk hn
    |l j=>rfl
   lT:=fun k hk hn=>by
    cases k with
    |h b=>exact hX.lT (.h b) hk hn
    |l j=>rfl
   fresh:=fun k l hk c hc aQ=>by
    cases k with
    |h b=>exact hX.fresh (.h b) l hk c hc aQ
    |l j=>exact⟨l,hk,hc⟩
   size:=hX.size
   has:=fun k hk=>by
    cases k with
    |h b=>exact hX.has (.h b) hk
    |l j=>exact hk
   wsub:=fun k hk=>by obtain⟨b',_,rfl⟩:=a1e.1 hk;exact hX.wsub _ hk
   wrote:=fun k hk=>by obtain⟨b',_,rfl⟩:=a1e.1 hk;exact hX.wrote _ hk
   os:=hX.os
   output:=hX.output
   tape:=hX.tape }
theorem getEnv(s:St)(env:List (Nat×EV))(ws:List Nat):St.get { s with env:=env,ws:=ws }=s.get:=by funext k;cases k<;>rfl
theorem ZK(s:St)(d:Option Nat)(v:EV):St.get (s.put d v)=s.get:=by funext k;cases d<;>cases k<;>rfl
theorem Valid.sub{M:Mp}{D D':Key->Prop}{C:Ct}{w:LI4}(hV:Valid M D C w)(h:∀k,D' k->D k):Valid M D' C w:=
 ⟨fun k l hk hd=>hV.ok k l hk (h k hd),fun k k' l l' b a1 a2 a3 hd=>hV.own k k' l l' b a1 a2 a3 (h k hd),hV.inb⟩
theorem a3y{site:Nat->Bool}{s:St}{o:Oper}{c:Call}(h:o.op=.defer c):qp P call site s o=none:=by simp[qp,h]
def uY(P:LI1)(call:bn)(site:Nat->Bool)(fl nt:Nat)(ops:Array Oper)(o:Oper)(s:St)(i:ni)(s':St):Prop:=
 Ob nt o=true∧((Dn ops s.env o=some true∧∃v s1,qp P call site s o=some (v,s1,i)∧s'=St.put { s1 with ws:=kN fl i.ws s.ws } o.dst v) ∨
  (Dn ops s.env o=some false∧i=cZ∧s'=s.put o.dst .undef))
def pI(i:ni)(k:Key):Prop:=k∈i.ts∨k∈i.ws∨(i.all=true∧k.isH=true)
def Nb(M:Mp)(env:List (Nat×EV))(tmps:Array LI3)(ops:Array Oper)(o:Oper):Prop:=
 ∀j want d,o.guard=some (j,want)->(ops[j]?).bind (·.dst)=some d->∀e,dR d env=some e->ER M e (tmps.getD d Go.undef)
theorem Nc{M:Mp}{env:List (Nat×EV)}{tmps:Array LI3}{ops:Array Oper}{o:Oper}{b:Bool}(hG:Nb M env tmps ops o)(h:Dn ops env o=some b):Region.wanted o (yielded ops tmps)=b:=by
 unfold Dn at h;unfold Region.wanted;split at h
 .rename_i hg;rw[hg];simpa using h
 rename_i j want hg;rw[hg];simp only;split at h
 rotate_left
 .simp at h
 rename_i d hd;split at h
 .rename_i b0 he;have h3:=(hG j want d hg hd _ he).wF;have hb:tmps.getD d Go.undef=.bool b0:=by generalize tmps.getD d Go.undef=z at h3;cases h3;rfl
  have:tmps[d]? = some (.bool b0):=by
   by_cases h1:d<tmps.size
   .simp only[Array.getD,h1,dite_true]at hb;rw[a4w h1];exact congrArg some hb
   simp[Array.getD,h1,Go.undef]at hb
  simp only[yielded,hd,a5o,this];simpa using h
 .rename_i he;have h2:=hG j want d hg hd _ he;have hb:tmps.getD d Go.undef=Go.undef:=by generalize tmps.getD d Go.undef=z at h2;cases h2;rfl
  have:tmps[d]? = some Go.undef∨tmps[d]? = none:=by
   by_cases h1:d<tmps.size
   .simp only[Array.getD,h1,dite_true]at hb;rw[a4w h1];exact .inl (congrArg some hb)
   right;simpa using h1
  simp at h;subst h;rcases this with this|this<;>simp only[yielded,hd,a5o,this]<;>rfl
 simp at h
def Lh(M:Mp)(D:Key->Prop)(s:St)(w:LI4)(o:Oper)(i:ni)(s':St)(x:LI3)(w':LI4):Prop:=
 ∃v M',s'=St.put { s' with env:=s.env } o.dst v∧Oj M D s.get w v s'.get i.ws x w' M'
theorem V6(s:St)(env:List (Nat×EV))(d:Option Nat)(v:EV)(h:s.env=env):s.put d v=St.put { s.put d v with env:=env } d v:=by subst h;cases d<;>rfl
theorem a1q(hC:iO P call){site:Nat->Bool}{fl nt:Nat}{ops:Array Oper}{o:Oper}{s s':St}{i:ni}{M:Mp}{D:Key->Prop}{w:LI4}{a:Act}
  (hS:uY P call site fl nt ops o s i s') (hV:Valid M D s.get w) (zI:M (.h s.heap.length)=none) (hnl:M (.l s.loc.length)=none)
  (zM:∀j l,M (.l j)=some l->∀k' l',Key.l j≠k'->M k'=some l'->∀c∈aK l,c∉aK l')
  (hE:Ht M s.env a o.op.operands) (hG:Nb M s.env a.tmps ops o) (hD:∀k,pI i k->(M k).isSome=true->D k) :
  (∃x w',Lh M D s w o i s' x w') ∧
   ∀(r:Option Nat) (n:Nat) (Q:Exit->Act->LI4->Prop) (idx:Nat) (K:Act->LI4->Prop),ops[idx]? = some o ->
    (∀x w',Lh M D s w o i s' x w'->K (a.put o.dst x) w')->wpOpIn (oG r) n P ops Q idx K a w:=by
 obtain⟨_,⟨hw,v,s1,jY,rfl⟩|⟨hw,rfl,rfl⟩⟩:=hS
 .have a1r:=Nc hG hw;by_cases hc:Hy o.op=true
  .-- a call
   have:∃f args ats,o.op=.call { callee:=.value f,args:=args,argTypes:=ats }:=by
    unfold Hy at hc;split at hc
    .rename_i f args ats ho;exact⟨_,_,_,ho⟩
    .cases hc
   obtain⟨f,args,ats,ho⟩:=this;simp only[qp,ho,Oa]at jY;split at jY
   .rename_i b az hb has;cases hb
   .rename_i f' az hf has;injection hf with hf;subst hf;split at jY
    .rename_i fv hfv;split at jY
     .rename_i v0 h' ws yO;simp only[a0k,a0T]at jY;obtain⟨rfl,rfl,rfl⟩:=jY;have hh:∀b l,M (.h b)=some l->D (.h b):=fun b l hb=>hD _ (.inr (.inr ⟨rfl,rfl⟩)) (by simp[hb]);have hVo:=Gj hV hh;have hfx:VR M.only.h fv (a.eval f):=iF hE (by simp[ho,Op.operands,Call.operands]) hfv;have hax:bZ M.only.h az (args.toList.map a.eval):=Hu hE (fun x hx=>by simp[ho,Op.operands,Call.operands];exact .inr (by simpa using hx)) has;have conv:∀y w',jX M.only s.heap w v0 h' ws y w'->Lh M D s w o ⟨true,[],ws.map .h⟩ (St.put { s with heap:=h',ws:=kN fl (ws.map .h) s.ws } o.dst (.val v0)) y w':=by intro y w' hr;obtain⟨M',hp⟩:=SN hV zM hr;refine⟨.val v0,M',V6 _ _ _ _ rfl,?_⟩;rw[ZK];exact hp
      obtain⟨d,hd,vY⟩:=hC _ _ _ _ _ _ yO M.only w (a.eval f) (args.toList.map a.eval) hVo (fun _=>rfl) hfx hax;refine⟨?_,?_⟩
      .obtain⟨y,w',hr⟩:=iO.ex hC yO hVo (fun _=>rfl) hfx hax;exact⟨y,w',conv y w' hr⟩
      .intro r n Q idx K V7 hK;unfold wpOpIn;simp only[V7,a1r,a2s];refine⟨fun _ _=>trivial,?_⟩;have a5Y:∀nx,(invoke d.target d.args).run P w=.ok nx w->(o.semAt (oG r).round a.eval).run P w=.ok nx w:=by intro nx hnx;rw[Oper.semAt_eq _ _ _ (fun c=>by rw[ho];simp)];unfold execOp;rw[ho];have:=hd w;rw[show(List.map a.eval args.toList).toArray=args.map a.eval from by apply aeI;simp]at this;simp[resolve,this,hnx]
       rcases vY with⟨⟨f1,as1,hinv,qM⟩,_⟩|⟨⟨l1,f1,tm1,ag1,bd1,hinv,hrd⟩,_⟩
       .rw[a5Y _ hinv];refine⟨fun h=>by simp[Fence.wide]at h,CallsIn.mono (F:=oG r) (qM (n-1)) fun e w' he=>?_⟩;cases e with
        |returned y=>exact hK y w' (conv y w' he)
        |panicked c=>exact he.elim
        |outgrown=>exact he.elim
       .rw[a5Y _ hinv];refine⟨fun h=>by simp[Fence.wide]at h,RoundIn.mono (F:=oG r) (hrd (n-1)) fun e w' he=>?_⟩;cases e with
        |returned y=>exact hK y w' (conv y w' he)
        |panicked c=>exact he.elim
        |outgrown=>exact he.elim
     .simp at jY
    .simp at jY
   .simp at jY
  .-- no call
   have Rq:Hy o.op=false:=(by simpa using hc);have ZH:Valid M (fun k=>D k∨M k=none) s.get w:=⟨fun k l hk hd=>hV.ok k l hk (hd.resolve_right (by simp[hk])),fun k k' l l' b a1 a2 a3 hd=>hV.own k k' l l' b a1 a2 a3 (hd.resolve_right (by simp[a2])),hV.inb⟩;obtain⟨he,x,w',M',hr,hp⟩:=aiU ZH hE zI hnl jY Rq (fun k hk=>by
    cases hm:M k with
    |none=>exact .inr rfl
    |some l=>exact .inl (hD k (.inl hk) (by simp[hm])))
   have wS:Lh M D s w o i (St.put { s1 with ws:=kN fl i.ws s.ws } o.dst v) x w':=by refine⟨v,M',V6 _ _ _ _ he,?_⟩;have hg:St.get { s1 with ws:=kN fl i.ws s.ws }=s1.get:=getEnv s1 s1.env _;rw[ZK,hg];exact⟨hp.val.sub fun k hk=>hk.imp .inl id,hp.ext,hp.er,hp.loc⟩
   refine⟨⟨x,w',wS⟩,fun r n Q idx K V7 hK=>?_⟩;unfold wpOpIn;simp only[V7,a1r,a2s];refine⟨fun _ _=>trivial,?_⟩;rw[Oper.semAt_eq _ _ _ (fun c ho=>by rw[a3y ho]at jY;cases jY)];rcases hr with hr|⟨rfl,hr⟩
   .rw[hr];exact hK x w' wS
   .rw[hr];exact hK _ w' wS
 .have a1r:=Nc hG hw;have wS:Lh M D s w o cZ (s.put o.dst .undef) Go.undef w:=by refine⟨.undef,M,V6 _ _ _ _ rfl,?_⟩;rw[ZK];exact .same hV .undef
  refine⟨⟨_,_,wS⟩,fun r n Q idx K V7 hK=>?_⟩;unfold wpOpIn;simp only[V7,a1r,a3u,a3U];exact⟨fun _ _=>trivial,hK _ _ wS⟩
end
structure xK(M0:Mp)(h0:List HB)(w0:LI4):Prop where
 val:Valid M0 vN (lK h0) w0
 loc:∀k,M0 (.l k)=none
structure Rel(M0:Mp)(h0:List HB)(w0:LI4)(nt:Nat)(M:Mp)(s:St)(a:Act)(w:LI4):Prop where
 val:Valid M vN s.get w
 ext:Ext M0 (lK h0) w0 M s.get w (s.ws.map .h)
 env:kM M s.env a.tmps
 size:nt<=a.tmps.size
 marks:∀d∈a.defers,∃k r,d=⟨.collected r,#[]⟩∧lK h0 (.h k)=none∧(∃o,M (.h k)=some (.obj r o))∧s.get (.h k)=some .mark∧w.heap[r]? = some (.deferred (some []))
 apart:a.defers.Pairwise (·≠·)
theorem a6a{fl b c:Nat}{ws:List Nat}:c∈Fb fl b ws↔c∈ws∨(c=b∧b<fl):=by
 unfold Fb;split
 .rename_i h;split
  .rename_i hc;have hc:b∈ws:=(by simpa using hc);constructor
   .exact .inl
   rintro (h1|⟨rfl,_⟩)
   .exact h1
   exact hc
  simp only[a2x];constructor
  .rintro (rfl|h1)
   .exact .inr ⟨rfl,h⟩
   exact .inl h1
  rintro (h1|⟨rfl,_⟩)
  .exact .inr h1
  exact .inl rfl
 rename_i h;constructor
 .exact .inl
 rintro (h1|⟨_,h1⟩)
 .exact h1
 exact absurd h1 h
theorem pJ{fl c:Nat}:∀{ks:List Key} {ws:List Nat},c∈kN fl ks ws↔c∈ws∨(Key.h c∈ks∧c<fl)
 | [],ws=>by simp[kN]
 |.h b::ks,ws=>by
  rw[kN,pJ,a6a];simp only[a2x,Key.h.injEq];constructor
  .rintro ((h|⟨rfl,h⟩)|⟨h1,h2⟩)
   .exact .inl h
   .exact .inr ⟨.inl rfl,h⟩
   exact .inr ⟨.inr h1,h2⟩
  rintro (h|⟨rfl|h1,h2⟩)
  .exact .inl (.inl h)
  .exact .inl (.inr ⟨rfl,h2⟩)
  exact .inr ⟨h1,h2⟩
 |.l b::ks,ws=>by rw[kN,pJ];simp
theorem zN{t:Nat}{s:St}{d:Option Nat}{v:EV}:dR t (s.put d v).env=if d=some t then some v else dR t s.env:=by
 cases d with
 |none=>simp[St.put]
 |some d=>simp[St.put,dR]
theorem zO{a:Act}{d:Option Nat}{x:LI3}{t:Nat}:(a.put d x).tmps.getD t Go.undef=if d=some t∧t<a.tmps.size then x else a.tmps.getD t Go.undef:=by
 cases d with
 |none=>simp[Act.put]
 |some d=>
  simp only[Act.put,a0k];simp only[<-aeB,a8W,a9I];by_cases h:d=t
  .subst h;by_cases h1:d<a.tmps.size
   .simp[h1]
   simp[h1]
  simp[h]
theorem HY{a:Act}{d:Option Nat}{x:LI3}:(a.put d x).tmps.size=a.tmps.size:=by cases d<;>simp[Act.put]
theorem jZ{a:Act}{d:Option Nat}{x:LI3}:(a.put d x).defers=a.defers:=by cases d<;>rfl
section
variable {P:LI1} {call:bn} {site:Nat->Bool} {fl nt:Nat} {ops:Array Oper} {o:Oper} {s s':St} {i:ni}
theorem uY.a1s(h:uY P call site fl nt ops o s i s'):s'.ws=kN fl i.ws s.ws:=by
 obtain⟨_,⟨_,v,s1,_,rfl⟩|⟨_,rfl,rfl⟩⟩:=h
 .cases o.dst<;>rfl
 cases o.dst<;>rfl
theorem uY.dst(h:uY P call site fl nt ops o s i s'){d:Nat}(hd:o.dst=some d):d<nt:=by have:=h.1;simp only[Ob,hd]at this;simpa using this
variable {M0:Mp} {h0:List HB} {w0:LI4} {M:Mp} {a:Act} {w:LI4}
theorem Rel.loc(hR:Rel M0 h0 w0 nt M s a w):∀j l,M (.l j)=some l->∀k' l',Key.l j≠k'->M k'=some l'->∀c∈aK l,c∉aK l':=by intro j l hj k' l' iM pG;obtain⟨b,h1,_⟩:=hR.val.ok _ _ hj trivial;refine hR.val.own _ _ _ _ b iM hj pG trivial h1 ?_;simp only[St.get,a0A]at h1;obtain⟨_,_,rfl⟩:=h1;rfl
theorem Rel.nh(hR:Rel M0 h0 w0 nt M s a w):M (.h s.heap.length)=none:=by
 cases h:M (.h s.heap.length)with
 |none=>rfl
 |some l=>have:=hR.val.has h;simp[St.get]at this
theorem Rel.nl(hR:Rel M0 h0 w0 nt M s a w):M (.l s.loc.length)=none:=by
 cases h:M (.l s.loc.length)with
 |none=>rfl
 |some l=>have:=hR.val.has h;simp[St.get]at this
theorem Dz{h:List HB}{k:Key}(hk:(lK h k).isSome=true):∃b,k=.h b∧b<h.length:=by
 cases k with
 |h b=>exact⟨b,rfl,by simpa[lK,St.get]using hk⟩
 |l j=>simp[lK,St.get]at hk
theorem ZL{h:List HB}{b:Nat}(hb:b<h.length):(lK h (.h b)).isSome=true:=by simp[lK,St.get,hb]
theorem SQ(hR:Rel M0 h0 w0 nt M s a w){M':Mp}{C':Ct}{w':LI4}{ws:List Key}(hX:Ext M s.get w M' C' w' ws) :
  ∀d∈a.defers,∃k r,d=⟨.collected r,#[]⟩∧lK h0 (.h k)=none∧(∃o,M' (.h k)=some (.obj r o))∧C' (.h k)=some .mark∧w'.heap[r]? = some (.deferred (some [])):=by
 intro d hd;obtain⟨k,r,h1,h2,⟨o,h3⟩,h4,h5⟩:=hR.marks d hd;have hn:Key.h k∉ws:=fun Dx=>by have:=(hX.wrote _ Dx).2 _ h4;cases this
 obtain⟨l',g1,g2⟩:=hX.Jl _ _ h3;obtain⟨o',hl⟩:∃o',l'=.obj r o':=by
  cases l' with
  |cells ls=>exact g2.elim
  |obj r' o'=>cases g2.1;exact⟨o',rfl⟩
 refine⟨k,r,h1,h2,⟨o',by rw[g1,hl]⟩,by rw[hX.oh _ (by simp[h4]) hn,h4],?_⟩;rw[hX.frame r (a2t.1 h5).1 fun k' pG l0 rG hc=>?_,h5];obtain⟨b,hb,_⟩:=hR.val.ok _ _ rG trivial;exact hR.val.own k' (.h k) l0 (.obj r o) b (fun e=>hn (e▸pG)) rG h3 trivial hb ((hX.wrote _ pG).2 b hb) r hc (by simp[aK])
theorem OE(hB:xK M0 h0 w0)(hR:Rel M0 h0 w0 nt M s a w)(hS:uY P call site h0.length nt ops o s i s'){x:LI3}{w':LI4}(wS:Lh M vN s w o i s' x w') :
  ∃M',Rel M0 h0 w0 nt M' s' (a.put o.dst x) w':=by
 obtain⟨v,M',he,hp⟩:=wS;refine⟨M',hp.val.sub fun k _=>.inl trivial,?_,?_,by rw[HY];exact hR.size,by rw[jZ];exact SQ hR hp.ext,by rw[jZ];exact hR.apart⟩
 .refine hR.ext.trans hp.ext (fun k l hk=>hB.val.has hk) (fun k hk Dx=>?_) (fun k hk=>?_)
  .obtain⟨b,rfl,hb⟩:=Dz hk;rw[hS.a1s];refine a1e.2 ⟨b,pJ.2 ?_,rfl⟩;rcases Dx with h1|h1
   .obtain⟨b',h2,h3⟩:=a1e.1 h1;cases h3;exact .inl h2
   .exact .inr ⟨h1,hb⟩
  .rw[hS.a1s]at hk;obtain⟨b,hb,rfl⟩:=a1e.1 hk;rcases pJ.1 hb with h1|⟨h1,h2⟩
   .have:Key.h b∈s.ws.map .h:=a1e.2 ⟨b,h1,rfl⟩;exact⟨hR.ext.wsub _ this,.inl this⟩
   .exact⟨ZL h2,.inr h1⟩
 .intro t e hl;rw[he,zN]at hl;rw[zO];by_cases hd:o.dst=some t
  .rw[a0I hd]at hl;have:=hS.dst hd;have:=hR.size;rw[a0I ⟨hd,by omega⟩];cases hl;exact hp.er
  .rw[a0F hd]at hl;rw[a0F (fun h=>hd h.1)];exact(hR.env t e hl).mono hp.ext.Jl hp.loc
theorem Rel.guard(hR:Rel M0 h0 w0 nt M s a w):Nb M s.env a.tmps ops o:=fun _ _ d _ _ e he=>hR.env d e he
theorem I4(hC:iO P call)(hR:Rel M0 h0 w0 nt M s a w)(hS:uY P call site h0.length nt ops o s i s') :
  (∃x w',Lh M vN s w o i s' x w') ∧
   ∀(r:Option Nat) (n:Nat) (Q:Exit->Act->LI4->Prop) (idx:Nat) (K:Act->LI4->Prop),ops[idx]? = some o ->
    (∀x w',Lh M vN s w o i s' x w'->K (a.put o.dst x) w')->wpOpIn (oG r) n P ops Q idx K a w:=
 a1q hC hS hR.val hR.nh hR.nl hR.loc (hR.env.on _) hR.guard fun _ _ _=>trivial
theorem DC{o:Oper}{os:List Oper}{s s':St}{is:List ni}(h:lS P call site fl nt ops (o::os) s=some (s',is)) :
  ∃i s1 is',uY P call site fl nt ops o s i s1∧lS P call site fl nt ops os s1=some (s',is')∧is=i::is':=by
 simp only[lS]at h;split at h
 .simp at h
 .rename_i hd;have hd:Ob nt o=true:=by simpa using hd
  split at h
  .rename_i hw;split at h
   .rename_i v s1 i jY;split at h
    .rename_i s2 is2 hr;simp only[a0k,a0T]at h;obtain⟨rfl,rfl⟩:=h;exact⟨i,_,_,⟨hd,.inl ⟨hw,v,s1,jY,rfl⟩⟩,hr,rfl⟩
    .simp at h
   .simp at h
  .rename_i hw;split at h
   .rename_i s2 is2 hr;simp only[a0k,a0T]at h;obtain⟨rfl,rfl⟩:=h;exact⟨_,_,_,⟨hd,.inr ⟨hw,rfl,rfl⟩⟩,hr,rfl⟩
   .simp at h
  .simp at h
theorem a6b(hC:iO P call)(hB:xK M0 h0 w0){r:Option Nat}{n:Nat}{Q:Exit->Act->LI4->Prop}:∀(os:List Oper) (k:Nat) (s s':St) (is:List ni) (M:Mp) (a:Act) (w:LI4),ops.toList.drop k=os ->
  lS P call site h0.length nt ops os s=some (s',is)->Rel M0 h0 w0 nt M s a w ->
  (∀M' a' w',Rel M0 h0 w0 nt M' s' a' w'->a'.defers=a.defers->Q .normal a' w')->wpOpsIn (oG r) n P ops Q (List.range' k os.length) a w
 | [],k,s,s',is,M,a,w,_,h,hR,hQ=>by simp only[lS,a0k,a0T]at h;obtain⟨rfl,rfl⟩:=h;exact hQ M a w hR rfl
 |o::os,k,s,s',is,M,a,w,hd,h,hR,hQ=>by
  obtain⟨i,s1,is',hS,hr,rfl⟩:=DC h;have ho:ops[k]? = some o:=by have:=congrArg (fun l=>l[0]?) hd;simpa using this
  have ZI:ops.toList.drop (k+1)=os:=by rw[<-afL,hd];rfl
  simp only[a4O,List.range'_succ];rw[wpOpsIn_cons];refine(I4 hC hR hS).2 r n Q k _ ho fun x w' wS=>?_;obtain⟨M',Gl⟩:=OE hB hR hS wS;exact a6b hC hB os (k+1) s1 s' is' M' _ w' ZI hr Gl fun M2 a2 w2 h2 hdf=>hQ M2 a2 w2 h2 (hdf.trans jZ)
theorem a3z(hC:iO P call)(hB:xK M0 h0 w0){r:Option Nat}{n:Nat}{Q:Exit->Act->LI4->Prop}{id:Nat}{s s':St}{is:List ni}{M:Mp}{a:Act}{w:LI4}
  (h:lS P call site h0.length nt ops ops.toList s=some (s',is)) (hR:Rel M0 h0 w0 nt M s a w)
  (hQ:∀M' a' w',Rel M0 h0 w0 nt M' s' a' w'->a'.defers=a.defers->Q .normal a' w'):(Code.region id ops false).wpIn (oG r) n P Q a w:=by
 refine wpIn_region ?_;have:=a6b (r:=r) (n:=n) (Q:=Q) hC hB ops.toList 0 s s' is M a w rfl h hR hQ;simpa[List.range_eq_range']using this
end
theorem OG{i:Nat}:∀{xs l:List Nat},i∈Oc xs l->i∈xs∨i∈l
 | [],l,h=>.inr h
 |x::xs,l,h=>by
  simp only[Oc]at h;rcases OG h with h1|h1
  .exact .inl (a4a _ h1)
  split at h1
  .exact .inr h1
  rcases a2x.1 h1 with rfl|h2
  .exact .inl a3E
  exact .inr h2
theorem I5{acc:List (List Nat)}{i:Nat}:∀{es:List Edge} {l:List Nat},
  i∈es.foldl (fun l e=>if Region.binds .any e then Oc (e.on::acc.getD e.on []) l else l) l->i∈l∨∃e∈es,Region.binds .any e=true∧(i=e.on∨i∈acc.getD e.on [])
 | [],l,h=>.inl h
 |e::es,l,h=>by
  simp only[aeb]at h;rcases I5 h with h1|⟨e',h2,h3⟩
  .split at h1
   .rename_i hb;rcases OG h1 with h2|h2
    .refine .inr ⟨e,a3E,hb,?_⟩;exact a2x.1 h2
    .exact .inl h2
   .exact .inl h1
  .exact .inr ⟨e',a4a _ h2,h3⟩
theorem ZM{acc:List (List Nat)}{o:Oper}{i:Nat}(h:i∈G5 acc o):∃e∈o.after,Region.binds .any e=true∧(i=e.on∨i∈acc.getD e.on []):=by
 rcases I5 h with h1|⟨e,h2,h3⟩
 .cases h1
 exact⟨e,by simpa using h2,h3⟩
theorem I7:∀(os:List Oper) (acc:List (List Nat)),∃t,FD os acc=acc++t
 | [],acc=>⟨[],by simp[FD]⟩
 |o::os,acc=>by obtain⟨t,ht⟩:=I7 os (acc++[G5 acc o]);exact⟨G5 acc o::t,by simp[FD,ht]⟩
theorem SS:∀(os:List Oper) (acc:List (List Nat)) (k:Nat) (o:Oper),os[k]? = some o ->
  (FD os acc)[acc.length+k]? = some (G5 ((FD os acc).take (acc.length+k)) o)
 | [],acc,k,o,h=>by simp at h
 |o'::os,acc,0,o,h=>by simp at h;subst h;obtain⟨t,ht⟩:=I7 os (acc++[G5 acc o']);simp[FD,ht]
 |o'::os,acc,k+1,o,h=>by
  have:=SS os (acc++[G5 acc o']) k o (by simpa using h);simp only[FD];simp only[a1p,a4O,a5C]at this
  rwa [show acc.length+(0+1)+k=acc.length+(k+1) by omega]at this
def Xi(ops:List Oper)(j:Nat):List Nat:=(FD ops []).getD j []
theorem a6c{ops:List Oper}{j i:Nat}{o:Oper}(hj:ops[j]? = some o)(h:i∈Xi ops j):∃e∈o.after,Region.binds .any e=true∧(i=e.on∨(e.on<j∧i∈Xi ops e.on)):=by
 have:=SS ops [] j o hj;simp only[a5C,a4v]at this;unfold Xi at h;rw[a3r,this]at h;simp only[a5z]at h;obtain⟨e,h1,h2,h3⟩:=ZM h;refine⟨e,h1,h2,h3.imp id fun h4=>?_⟩;rw[a3r,a5i]at h4;split at h4
 .rename_i aQ;exact⟨aQ,by unfold Xi;rw[a3r];exact h4⟩
 simp at h4
def uZ(D:Nat->Prop)(o:Oper):Prop:=∀e∈o.after,Region.binds .any e=true->D e.on
theorem V8{ops:List Oper}{D:Nat->Prop}(hc:∀j o,ops[j]? = some o->D j->uZ D o):∀(j:Nat) (o:Oper),ops[j]? = some o->uZ D o->∀i∈Xi ops j,D i:=by
 intro j
 induction j using Nat.strongRecOn with
 |_ j ih=>
  intro o ho hw i hi;obtain⟨e,h1,h2,h3⟩:=a6c ho hi;rcases h3 with rfl|⟨aQ,h4⟩
  .exact hw e h1 h2
  have hd:=hw e h1 h2;have hl:j<ops.length:=(a0n.1 ho).1;have hoe:ops[e.on]? = some ops[e.on]:=a0D (by omega);exact ih e.on aQ _ hoe (hc _ _ hoe hd) i h4
theorem zy{ops:List Oper}{i j:Nat}(Bd:i<j)(hj:j<ops.length)(hn:i∉Xi ops j):(i,j)∈pz ops:=by simp only[pz,aeL,a5f,a1e,a9n];exact⟨j,hj,i,⟨Bd,by simpa[Xi]using hn⟩,rfl⟩
theorem Xj{ops:List Oper}(h:oC ops=true){i:Nat}{o:Oper}(ho:ops[i]? = some o){e:Edge}(he:e∈o.after)(hb:Region.binds .any e=true):e.on<i:=by
 simp only[oC,a2c,a5s]at h;have:=h.1 (o,i) (by rw[aa2];simpa using ho)
 simp only[acW]at this;have:=this e he;simpa[hb]using this
theorem Bf{ops:List Oper}(h:oC ops=true){i j:Nat}{a b:Oper}(hp:(i,j)∈pz ops)(ha:ops[i]? = some a)(hb:ops[j]? = some b):a.apart ops.toArray b=true∧b.apart ops.toArray a=true:=by simp only[oC,a2c,a5s]at h;have:=h.2 (i,j) hp;simpa[ha,hb]using this
theorem SV{yB:List ni}:∀{ps:List (Nat×Nat)},CO yB ps=true->∀{i j:Nat} {a b:ni},(i,j)∈ps->yB[i]? = some a->yB[j]? = some b->calm a b=true
 | [],_,i,j,a,b,h,_,_=>by cases h
 |(x,y)::r,hd,i,j,a,b,h,ha,hb=>by
  simp only[CO,a2c]at hd;rcases a2x.1 h with h1|h1
  .cases h1;simpa[ha,hb]using hd.1
  exact SV hd.2 h1 ha hb
section
variable {P:LI1} {call:bn} {site:Nat->Bool} {s s1:St} {o:Oper} {v:EV} {i:ni}
theorem a6d{t:LI2}{a:EV}{r:TV×ni}(h:loadT P t s a=some r):r.2.ws=[]:=by
 unfold loadT at h;split at h
 .split at h
  .simp only[a0A]at h;obtain⟨_,_,rfl⟩:=h;rfl
  simp at h
 .split at h
  .split at h
   .simp only[a0A]at h;obtain⟨_,_,rfl⟩:=h;rfl
   simp at h
  simp at h
 simp at h
theorem aa3{at_:Array LI2}{h0:List HB}{x:TV}{r:TV×ni}(h:Zt P at_ h0 x=some r):r.2.ws=[]:=by
 unfold Zt at h
 repeat' (split at h)
 all_goals first
  |(simp at h;done)
  |(simp only[a0k]at h;subst h;rfl)
theorem aiV(h:qp P call site s o=some (v,s1,i))(hm:Jq o.op=false):i.ws=[]:=by
 unfold qp at h;split at h
 all_goals first
  |(simp at h;done)
  |(rename_i ho;rw[ho]at hm;simp[Jq]at hm;done)
  |(simp only[a0A,a0T]at h;obtain⟨_,_,_,_,rfl⟩:=h;rfl)
  |(split at h<;>first|(simp at h;done)|(simp only[a0A,a0T,a0k]at h;first|(obtain⟨_,_,_,_,rfl⟩:=h;rfl)|(obtain⟨_,_,rfl⟩:=h;rfl)))
  |skip
 .split at h
  .split at h
   .simp only[a0k,a0T]at h;obtain⟨_,_,rfl⟩:=h;rfl
   simp at h
  simp at h
 .split at h
  .simp only[a0A,a0T]at h;obtain⟨r,hr,_,_,rfl⟩:=h;exact a6d hr
  simp at h
 .split at h
  .split at h
   .simp only[a0A,a0T]at h;obtain⟨_,_,_,_,rfl⟩:=h;rfl
   .simp only[a0A,a0T]at h;obtain⟨_,_,_,_,rfl⟩:=h;rfl
   simp at h
  simp at h
 .rename_i c ho;rw[ho]at hm;obtain⟨callee,args,ats⟩:=c;unfold Oa at h;simp only at h;split at h
  .rename_i b az;simp only[a0A,a0T]at h;obtain⟨⟨v0,s0,i0⟩,hb,_,_,rfl⟩:=h;simp only[Jq]at hm;unfold rP at hb;split at hb
   .simp only[a0A,a0T]at hb;obtain⟨r,hr,_,_,rfl⟩:=hb;exact aa3 hr
   .simp at hm
   .simp at hm
   .simp only[a0A,a0T]at hb;obtain⟨r,hr,_,_,rfl⟩:=hb;rfl
   .simp only[a0A,a0T]at hb;obtain⟨r,hr,_,_,rfl⟩:=hb;rfl
   simp at hb
  .simp[Jq]at hm
  simp at h
 .split at h
  .split at h
   .simp only[a0k,a0T]at h;obtain⟨_,_,rfl⟩:=h;rfl
   simp at h
  simp at h
 split at h
 .split at h
  .split at h
   .split at h
    .simp only[a0A,a0T]at h;obtain⟨_,_,_,_,rfl⟩:=h;rfl
    simp at h
   simp at h
  simp at h
 simp at h
theorem aiW(h:qp P call site s o=some (v,s1,i))(hm:Oe o.op=false):i.ts=[]∧i.ws=[]∧i.all=false:=by
 unfold qp at h;split at h
 all_goals first
  |(simp at h;done)
  |(rename_i ho;rw[ho]at hm;simp[Oe]at hm;done)
  |(simp only[a0A,a0T]at h;obtain⟨_,_,_,_,rfl⟩:=h;exact⟨rfl,rfl,rfl⟩)
  |(split at h<;>first|(simp at h;done)|(simp only[a0A,a0T,a0k]at h;first|(obtain⟨_,_,_,_,rfl⟩:=h;exact⟨rfl,rfl,rfl⟩)|(obtain⟨_,_,rfl⟩:=h;exact⟨rfl,rfl,rfl⟩)))
  |skip
 .split at h
  .split at h
   .simp only[a0k,a0T]at h;obtain⟨_,_,rfl⟩:=h;exact⟨rfl,rfl,rfl⟩
   simp at h
  simp at h
 .split at h
  .split at h
   .simp only[a0A,a0T]at h;obtain⟨_,_,_,_,rfl⟩:=h;exact⟨rfl,rfl,rfl⟩
   .simp only[a0A,a0T]at h;obtain⟨_,_,_,_,rfl⟩:=h;exact⟨rfl,rfl,rfl⟩
   simp at h
  simp at h
 rename_i c ho;rw[ho]at hm;obtain⟨callee,args,ats⟩:=c;unfold Oa at h;simp only at h;split at h
 .rename_i b az;simp only[a0A,a0T]at h;obtain⟨⟨v0,s0,i0⟩,hb,_,_,rfl⟩:=h;simp only[Oe]at hm;unfold rP at hb;split at hb
  .simp at hm
  .simp at hm
  .simp at hm
  .simp only[a0A,a0T]at hb;obtain⟨r,hr,_,_,rfl⟩:=hb;exact⟨rfl,rfl,rfl⟩
  .simp only[a0A,a0T]at hb;obtain⟨r,hr,_,_,rfl⟩:=hb;exact⟨rfl,rfl,rfl⟩
  simp at hb
 .simp[Oe]at hm
 simp at h
variable {fl nt:Nat} {ops:Array Oper} {s':St}
theorem uY.w(h:uY P call site fl nt ops o s i s')(hm:Jq o.op=false):i.ws=[]:=by
 obtain⟨_,⟨_,v,s1,h1,_⟩|⟨_,rfl,_⟩⟩:=h
 .exact aiV h1 hm
 rfl
theorem uY.t(h:uY P call site fl nt ops o s i s')(hm:Oe o.op=false):i.ts=[]∧i.ws=[]∧i.all=false:=by
 obtain⟨_,⟨_,v,s1,h1,_⟩|⟨_,rfl,_⟩⟩:=h
 .exact aiW h1 hm
 exact⟨rfl,rfl,rfl⟩
theorem OH{ws:List Key}{b:ni}(h:Og ws b=true){k:Key}(hk:k∈ws):¬pI b k:=by
 simp only[Og,a5s]at h;have:=h k hk;simp only[a2c,a9m,ahm]at this;obtain⟨⟨h1,h2⟩,h3⟩:=this;rintro (h4|h4|⟨h4,h5⟩)
 .simp[h4]at h2
 .simp[h4]at h3
 simp[h4,h5]at h1
theorem a3A{yB:List ni}{ol:List Oper}(hd:CO yB (nP ol)=true){x y:Nat}{a b:Oper}{ia ib:ni}{sa sa' sb sb':St}(hp:(x,y)∈pz ol)(ha:ol[x]? = some a)(hb:ol[y]? = some b)
  (hia:yB[x]? = some ia) (hib:yB[y]? = some ib) (sta:uY P call site fl nt ops a sa ia sa') (stb:uY P call site fl nt ops b sb ib sb') :
  CJ a b=true∨((∀k∈ia.ws,¬pI ib k)∧(∀k∈ib.ws,¬pI ia k)):=by
 cases hsp:CJ a b
 case true=>exact .inl rfl
 right;by_cases hh:((Jq a.op&&Oe b.op)||(Oe a.op&&Jq b.op))=true
 .have hm:(x,y)∈nP ol:=by simp only[nP,a9n];refine⟨hp,?_⟩;simp only[ha,hb,hsp,aaO,ai9];exact hh
  have:=SV hd hm hia hib;simp only[calm,a2c]at this;exact⟨fun k hk=>OH this.1 hk,fun k hk=>OH this.2 hk⟩
 .simp only[a9P,a2c,aeh,not_and,aeJ]at hh;constructor
  .intro k hk ht;have h1:Jq a.op=true:=by
    cases h2:Jq a.op with
    |true=>rfl
    |false=>rw[sta.w h2]at hk;cases hk
   obtain⟨t1,t2,t3⟩:=stb.t (hh.1 h1);rcases ht with h|h|⟨h,_⟩
   .rw[t1]at h;cases h
   .rw[t2]at h;cases h
   .rw[t3]at h;cases h
  .intro k hk ht;have h1:Jq b.op=true:=by
    cases h2:Jq b.op with
    |true=>rfl
    |false=>rw[stb.w h2]at hk;cases hk
   have h2:Oe a.op=false:=by
    cases h3:Oe a.op with
    |false=>rfl
    |true=>have:=hh.2 h3;rw[h1]at this;cases this
   obtain⟨t1,t2,t3⟩:=sta.t h2;rcases ht with h|h|⟨h,_⟩
   .rw[t1]at h;cases h
   .rw[t2]at h;cases h
   .rw[t3]at h;cases h
end
end Tw
