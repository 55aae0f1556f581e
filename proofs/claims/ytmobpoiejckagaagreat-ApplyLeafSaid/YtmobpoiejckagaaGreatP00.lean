/- Part 1 of a proof: ApplyLeaf -/
import Derived.RangeFuncLeaves
import Derived.OrdersIn
import Derived.Laws.CopyRow
import Derived.Laws.Rows
import Derived.Laws.Entries
set_option linter.unusedVariables false
set_option linter.unusedSimpArgs false
set_option linter.unusedSectionVars false
open Go.IntKind (i64)
noncomputable section
abbrev LI0:=List Int
abbrev LI1:=Go.Program
abbrev LI2:=Go.TypeId
abbrev LI3:=Go.Value
abbrev LI4:=Go.World
abbrev a01:=@Option.some.injEq
abbrev a0a:=@List.getElem?_eq_some_iff
abbrev a0i:=@Option.map_eq_some_iff
abbrev a0n:=@List.getElem?_eq_getElem
abbrev a0p:=@List.getElem?_append_left
abbrev a0q:=@if_neg
abbrev a0u:=@if_pos
abbrev a0z:=@Prod.mk.injEq
abbrev a0A:=@Option.map_some
abbrev a0E:=@Nat.le_refl
abbrev a0G:=@List.getElem?_append_right
abbrev a1k:=@List.mem_map
abbrev a1l:=@List.getElem?_set_ne
abbrev a1n:=@decide_eq_true_eq
abbrev a1o:=@List.length_append
abbrev a1E:=@List.getElem?_set_self
abbrev a1F:=@List.mem_cons
abbrev a1I:=@if_true
abbrev a2f:=@Bool.and_eq_true
abbrev a2q:=@Array.getElem?_eq_some_iff
abbrev a2z:=@Bool.false_eq_true
abbrev a2C:=@List.getElem?_cons_zero
abbrev a2D:=@List.mem_singleton
abbrev a2K:=@decide_eq_false_iff_not
abbrev a2M:=@List.mem_cons_self
abbrev a3c:=@List.mem_append
abbrev a3h:=@List.mem_cons_of_mem
abbrev a3i:=@Nat.add_mul
abbrev a3j:=@List.length_singleton
abbrev a3l:=@if_false
abbrev a3w:=@Nat.mul_le_mul_right
abbrev a3H:=@List.length_drop
abbrev a3I:=@Nat.zero_add
abbrev a3J:=@Array.getElem?_eq_getElem
abbrev a3K:=@List.length_take
abbrev a4a:=@List.eq_nil_of_length_eq_zero
abbrev a4p:=@List.getD_eq_getElem?_getD
abbrev a4q:=@List.length_cons
abbrev a4r:=@List.getElem?_eq_none
abbrev a4s:=@List.map_append
abbrev a4t:=@List.map_cons
abbrev a4u:=@Nat.lt_or_ge
abbrev a4v:=@List.getElem?_take
abbrev a4w:=@List.getElem?_drop
abbrev a4x:=@List.getElem?_set_self'
abbrev a4y:=@List.getElem?_map
abbrev a4z:=@List.nodup_cons
abbrev a4A:=@List.length_map
abbrev a4B:=@List.mem_range
abbrev a4C:=@Option.bind_some
abbrev a4D:=@List.getElem_mem
abbrev a4E:=@List.mem_of_getElem?
abbrev a4F:=@List.length_set
abbrev a4G:=@Nat.zero_le
abbrev a4H:=@List.idxOf_lt_length_iff
abbrev a4I:=@List.all_eq_true
abbrev a4J:=@Bool.eq_iff_iff
abbrev a4K:=@List.prefix_rfl
abbrev a4N:=@List.mem_iff_getElem
abbrev a4O:=@List.length_nil
abbrev a4T:=@Int.toNat_natCast
abbrev a4V:=@List.map_congr_left
abbrev a4X:=@List.mem_of_mem_drop
abbrev a4Y:=@List.contains_eq_mem
abbrev a4Z:=@Nat.le_trans
abbrev a5d:=@List.append_assoc
abbrev a5g:=@not_false_eq_true
abbrev a5h:=@Option.isSome_iff_exists
abbrev a5j:=@List.mem_append_left
abbrev a5r:=@List.take_succ_eq_append_getElem
abbrev a5F:=@List.append_nil
abbrev a5L:=@List.nodup_nil
abbrev a6d:=@List.drop_eq_getElem_cons
abbrev a6h:=@List.mem_filterMap
abbrev a6i:=@List.length_eq_zero_iff
abbrev a6k:=@Option.getD_some
abbrev a6m:=@List.idxOf_eq_length
abbrev a6P:=@beq_iff_eq
abbrev a7d:=@List.eq_nil_iff_forall_not_mem
abbrev a7h:=@List.length_replicate
abbrev a7H:=@List.perm_ext_iff_of_nodup
abbrev a81:=@of_decide_eq_true
abbrev a88:=@Nat.min_eq_left
abbrev a8m:=@List.map_map
abbrev a8w:=@not_true
abbrev a8B:=@Array.getD_eq_getD_getElem?
abbrev a8F:=@Int.emod_eq_of_lt
abbrev a8G:=@List.mem_filter
abbrev a8Y:=@List.getElem?_of_mem
abbrev a8Z:=@List.getElem_idxOf
abbrev a90:=@List.prefix_append
abbrev a94:=@List.take_of_length_le
abbrev a95:=@Int.mul_le_mul_of_nonneg_left
abbrev a96:=@List.nodup_append
abbrev a97:=@Bool.not_eq_true'
abbrev a98:=@List.length_range
abbrev a99:=@List.mem_iff_getElem?
abbrev a9a:=@Array.getElem?_setIfInBounds
abbrev a9b:=@Nat.eq_of_beq_eq_true
abbrev a9c:=@List.nil_append
abbrev a9d:=@Int.le_refl
abbrev a9e:=@List.mem_of_mem_take
abbrev a9i:=@List.getElem_map
abbrev a9k:=@Bool.not_true
abbrev a9m:=@List.filterMap_cons
abbrev a9n:=@Bool.or_eq_true
abbrev a9o:=@Option.some.inj
abbrev a9u:=@Classical.choose_spec
abbrev a9z:=@List.length_filter_le
abbrev a9H:=@Nat.lt_of_lt_of_le
abbrev a9I:=@Nat.le_of_lt
abbrev a9J:=@List.ext_getElem
abbrev a9M:=@List.mem_zipIdx_iff_getElem?
abbrev a9Q:=@Bool.or_eq_false_iff
abbrev a9R:=@List.getElem?_cons_succ
abbrev a9V:=@List.getElem?_set
abbrev a9X:=@List.ext_getElem?
abbrev aa4:=@List.idxOf_append
abbrev aa6:=@Array.length_toList
abbrev aa8:=@Nat.one_mul
abbrev aay:=@List.findIdx?_eq_some_iff_getElem
abbrev aaz:=@Nat.add_assoc
abbrev aaA:=@Array.getElem?_append_left
abbrev aaP:=@List.getElem_inj
abbrev ab3:=@List.drop_zero
abbrev ab7:=@List.length_mergeSort
abbrev abI:=@Int.mul_le_mul_of_nonneg_right
abbrev abL:=@List.length_pos_iff
abbrev abM:=@Bool.not_false
abbrev abN:=@List.take_length
abbrev abQ:=@Nat.eq_zero_or_pos
abbrev abR:=@Nat.zero_mul
abbrev abS:=@List.map_nil
abbrev abU:=@Array.getElem?_modify
abbrev abW:=@List.mem_append_right
abbrev abX:=@List.range_succ
abbrev ac3:=@List.all_cons
abbrev ac4:=@Int.add_mul_emod_self_left
abbrev ac7:=@forall_congr'
abbrev ac8:=@List.nodup_iff_pairwise_ne
abbrev acd:=@Classical.byContradiction
abbrev ace:=@List.pairwise_iff_getElem
abbrev acf:=@Int.mul_one
abbrev acZ:=@Array.all_eq_true_iff_forall_mem
abbrev ad8:=@Nat.le_of_not_lt
abbrev adg:=@and_self
abbrev ado:=@Prod.ext
abbrev ads:=@List.getElem_of_mem
abbrev adu:=@List.filter_cons_of_neg
abbrev adw:=@List.filter_cons_of_pos
abbrev adx:=@Bool.true_and
abbrev ady:=@List.any_cons
abbrev adB:=@List.foldl_cons
abbrev adE:=@not_or
abbrev adF:=@List.idxOf_cons
abbrev adI:=@Bool.not_eq_false'
abbrev adJ:=@List.Nodup.length_le_of_subset
abbrev adP:=@Nat.le_mul_of_pos_left
abbrev adR:=@Nat.add_zero
abbrev adS:=@List.getElem?_toArray
abbrev adV:=@Array.getElem?_toList
abbrev adW:=@Int.mul_nonneg
abbrev adX:=@Array.ext'
abbrev adY:=@List.mem_flatMap
abbrev adZ:=@List.getElem?_modify
abbrev ae0:=@List.nodup_range
abbrev ae2:=@List.getElem?_range
abbrev ae3:=@List.replicate_succ
abbrev ae5:=@List.mergeSort_perm
abbrev ae7:=@Int.natCast_mul
abbrev aed:=@List.cons.injEq
abbrev aeg:=@decide_eq_false
abbrev aei:=@List.getElem_range
abbrev aew:=@Bool.true_eq_false
abbrev aey:=@Int.le_of_lt
abbrev aez:=@List.find?_eq_none
abbrev aeT:=@List.take_take
abbrev afv:=@List.drop_drop
abbrev afw:=@Option.map_map
abbrev afK:=@List.pairwise_map
abbrev afW:=@Int.add_mul
abbrev ag8:=@List.drop_of_length_le
abbrev agf:=@Bool.false_or
abbrev ags:=@List.prefix_refl
abbrev agA:=@Bool.not_eq_true
abbrev agD:=@List.any_eq_true
abbrev agW:=@Bool.and_eq_false_iff
abbrev agX:=@Nat.le_of_ble_eq_true
abbrev agY:=@Nat.le_of_eq
abbrev agZ:=@Nat.sub_self
abbrev ah0:=@Int.emod_nonneg
abbrev ah1:=@Int.ediv_nonneg
abbrev ah2:=@Int.add_comm
abbrev ah3:=@List.getElem?_mapIdx
abbrev ah4:=@List.find?_cons
abbrev ah5:=@Nat.not_lt_zero
abbrev ah6:=@Int.toNat_of_nonneg
abbrev ah7:=@Nat.succ_eq_add_one
abbrev ah8:=@beq_eq_false_iff_ne
abbrev ah9:=@List.drop_take
abbrev aha:=@Int.mul_le_mul
abbrev ahb:=@Nat.mul_le_mul
abbrev ahc:=@Nat.mul_one
abbrev ahd:=@List.contains_cons
abbrev ahe:=@Bool.and_true
abbrev ahf:=@Int.mul_assoc
abbrev ahg:=@List.cons.inj
namespace Tw
open Go
inductive NK where
 |ptr|aP|map|fn|ifc
 deriving DecidableEq
inductive TV where
 |bool (b:Bool)
 |int (k:IntKind) (n:Int)
 |str (s:ByteArray)
 |nil (k:NK)
 |ptr (b off lim:Nat)
 |aP (b off len cap sz:Nat) (ex:Bool)
 |map (r:Nat)
 |fn (f:FuncId) (first cap:List TV)
 |kX (l:Nat)
 |agg (cs:List TV)
 |cO (cs:List TV)
 |iter (b:Nat)
inductive EV where
 |val (v:TV)
 |loc (k off:Nat)
 |undef
 |ent (r j:Nat) (v:TV)
 |EG (r j:Nat)
inductive BK where
 |ro|own|grow|last
 deriving DecidableEq
inductive HB where
 |cells (k:BK) (cs:List TV)
 |map (es:List (TV×TV))
 |nH (cs:List TV)
 |mark
 |dD (r n:Nat) (seen:List Nat)
 |loop (ready:Bool) (f:FuncId) (nt:Nat) (env:List (Nat×EV)) (ps:List Nat) (assign body:Code) (jP:Option Code)
structure St where
 env:List (Nat×EV)
 loc:List (List TV)
 heap:List HB
 ws:List Nat
inductive Key where
 |h (b:Nat)
 |l (k:Nat)
 deriving DecidableEq
def St.get(s:St):Key->Option HB
 |.h b=>s.heap[b]?
 |.l k=>(s.loc[k]?).map (.cells .own)
def TV.toC:TV->Option LI3
 |.bool b=>some (.bool b)
 |.int k n=>some (.int k n)
 |.str s=>some (.string s)
 |.nil .ptr=>some (.pointer none)
 |.nil .aP=>some (.slice none 0 0)
 |.nil .map=>some (.map none)
 |.nil .fn=>some .nilFunc
 |.nil .ifc=>some .nilIface
 |_=>none
def TV.TQ:List TV->Option (List LI3)
 | []=>some []
 |c::cs=>match c.toC,TV.TQ cs with
  |some v,some vs=>some (v::vs)
  |_,_=>none
def TV.yL:TV->Option LI3
 |.agg cs=>(TV.TQ cs).map fun vs=>.agg vs.toArray
 |v=>v.toC
def TV.ofC:LI3->Option TV
 |.bool b=>some (.bool b)
 |.int k n=>some (.int k n)
 |.string s=>some (.str s)
 |.pointer none=>some (.nil .ptr)
 |.slice none 0 0=>some (.nil .aP)
 |.map none=>some (.nil .map)
 |.nilFunc=>some (.nil .fn)
 |.nilIface=>some (.nil .ifc)
 |_=>none
def TV.CJ:List LI3->Option (List TV)
 | []=>some []
 |c::cs=>match TV.ofC c,TV.CJ cs with
  |some v,some vs=>some (v::vs)
  |_,_=>none
def TV.VJ:LI3->Option TV
 |.agg cs=>(TV.CJ cs.toList).map .agg
 |v=>TV.ofC v
def TV.abJ:TV->Bool
 |.bool _|.int _ _|.str _|.nil _=>true
 |_=>false
def TV.abK:TV->Bool
 |.agg cs=>cs.all TV.abJ
 |v=>v.abJ
def TV.flat:TV->Bool
 |.cO vs=>vs.all TV.abK
 |v=>v.abK
def TV.cells:TV->List TV
 |.agg cs=>cs
 |v=>[v]
def jc:TV->Bool
 |.agg _|.cO _=>false
 |_=>true
def aB{α:Type}(P:LI1):Sem α->Option α
 |.pure a=>some a
 |.program k=>aB P (k P)
 |.mark _ k=>aB P k
 |_=>none
def dM(t:Nat):List (Nat×EV)->Option EV
 | []=>none
 |(k,v)::r=>if k=t then some v else dM t r
def St.put(s:St)(dst:Option Nat)(v:EV):St:=
 match dst with
 |some d=>{ s with env:=(d,v)::s.env }
 |none=>s
def pick(live:List Nat)(env:List (Nat×EV)):List (Nat×EV):=
 match live with
 | []=>[]
 |t::r=>match dM t env with
  |some v=>(t,v)::pick r env
  |none=>pick r env
def IJ(env:List (Nat×EV)):Operand->Option EV
 |.tmp t=>dM t env
 |.const v=>(TV.VJ v).map .val
 |.func f=>some (.val (.fn f [] []))
 |.global _=>none
def qO(env:List (Nat×EV))(x:Operand):Option TV:=
 match IJ env x with
 |some (.val v)=>some v
 |_=>none
def TR(env:List (Nat×EV)):List Operand->Option (List TV)
 | []=>some []
 |x::xs=>match qO env x,TR env xs with
  |some v,some vs=>some (v::vs)
  |_,_=>none
def VO(env:List (Nat×EV)):List (Nat×Operand)->Option (List (Nat×TV))
 | []=>some []
 |(i,x)::xs=>match qO env x,VO env xs with
  |some v,some vs=>some ((i,v)::vs)
  |_,_=>none
structure mJ where
 all:Bool
 ts:List Key
 ws:List Key
def cZ:mJ:=⟨false,[],[]⟩
def xP(k:Key):mJ:=⟨false,[k],[]⟩
def fQ(k:List Key):mJ:=⟨false,k,[]⟩
def pF(k:Key):mJ:=⟨false,[k],[k]⟩
def sub(cs:List TV)(off n:Nat):Option (List TV):=
 if off+n<=cs.length then some ((cs.drop off).take n)else none
def wC(cs:List TV)(off:Nat)(new:List TV):Option (List TV):=
 if off+new.length<=cs.length then some (cs.take off++new++cs.drop (off+new.length))else none
def wE(P:LI1)(t:LI2):Option Bool:=
 match P.underlying t with
 |some (.struct _)|some (.array _ _)=>some true
 |some _=>some false
 |none=>none
def dH(P:LI1)(t:LI2):Option Nat:=(P.info? t).map (·.size)
def uy(P:LI1)(t:LI2)(cs:List TV)(off:Nat):Option TV:=
 match wE P t,dH P t with
 |some true,some n=>(sub cs off n).map .agg
 |some false,some n=>if n=1 then cs[off]? else none
 |_,_=>none
def Kr(P:LI1)(t:LI2):Option (List TV):=
 match P.info? t with
 |some i=>match i.zero with
  |some z=>(TV.VJ z).map TV.cells
  |none=>none
 |none=>none
def aX(h:List HB)(b:Nat):Option (List TV):=
 match h[b]? with
 |some (.cells _ cs)=>some cs
 |_=>none
def mM(h:List HB)(b lim:Nat):Option (List TV):=
 match h[b]? with
 |some (.cells k cs)=>if k=.last∧lim≠cs.length then none else some cs
 |_=>none
def EH(floor:Nat)(b:Nat)(ws:List Nat):List Nat:=
 if b<floor then(if ws.contains b then ws else b::ws)else ws
def jZ(floor:Nat):List Key->List Nat->List Nat
 | [],ws=>ws
 |.h b::r,ws=>jZ floor r (EH floor b ws)
 |.l _::r,ws=>jZ floor r ws
def Ag(k:BK)(whole:Bool):Option BK:=
 match k,whole with
 |.own,_=>some .own
 |.grow,true=>some .last
 |.last,true=>some .last
 |_,_=>none
def TT(h:List HB)(b off lim:Nat)(new:List TV):Option (List HB):=
 match h[b]? with
 |some (.cells k cs)=>match Ag k (lim==cs.length)with
  |some k'=>(wC cs off new).map fun cs'=>h.set b (.cells k' cs')
  |none=>none
 |_=>none
def BK.more:BK->BK
 |.last=>.last
 |_=>.grow
def sJ(place:Nat->Option (Nat×Nat)):List TV->List (Nat×TV)->Option (List TV)
 |cs,[]=>some cs
 |cs,(i,v)::r=>match place i with
  |some (off,size)=>if v.cells.length=size then(match wC cs off v.cells with|some cs'=>sJ place cs' r|none=>none)else none
  |none=>none
def TU(P:LI1)(fs:Array Field)(i:Nat):Option (Nat×Nat):=
 match fs[i]? with
 |some f=>(dH P f.type).map fun n=>(f.offset,n)
 |none=>none
def CO(P:LI1)(fs:List Field):Bool:=fs.all fun f=>(dH P f.type).isSome
def Nr(P:LI1)(t:LI2)(parts:List (Nat×TV)):Option TV:=
 match Kr P t,P.underlying t with
 |some z,some (.struct fs)=>if CO P fs.toList then(sJ (TU P fs) z parts).map .agg else none
 |some z,some (.array _ e)=>match dH P e with
  |some n=>(sJ (fun i=>some (i*n,n)) z parts).map .agg
  |none=>none
 |_,_=>none
def times(z:List TV):Nat->List TV
 | 0=>[]
 |n+1=>z++times z n
def jL(P:LI1)(t:LI2):Option (LI2×Nat):=
 match P.underlying t with
 |some (.slice e)=>match dH P e with
  |some n=>if n=0 then none else some (e,n)
  |none=>none
 |_=>none
def qP(site:Bool)(s:St)(cs:List TV):EV×St:=
 if site then(.val (.ptr s.heap.length 0 cs.length),{ s with heap:=s.heap++[.cells .own cs] })
 else(.loc s.loc.length 0,{ s with loc:=s.loc++[cs] })
def loadT(P:LI1)(t:LI2)(s:St):EV->Option (TV×mJ)
 |.loc k off=>match s.loc[k]? with
  |some cs=>(uy P t cs off).map fun v=>(v,xP (.l k))
  |none=>none
 |.val (.ptr b off lim)=>match mM s.heap b lim,dH P t with
  |some cs,some n=>if off+n<=lim then(uy P t cs off).map fun v=>(v,xP (.h b))else none
  |_,_=>none
 |_=>none
def storeT(P:LI1)(t:LI2)(s:St)(a:EV)(v:TV):Option (St×mJ):=
 match dH P t with
 |some n=>
  if v.cells.length=n∧v.cells.all jc=true then
   match a with
   |.loc k off=>match s.loc[k]? with
    |some cs=>(wC cs off v.cells).map fun cs'=>({ s with loc:=s.loc.set k cs' },pF (.l k))
    |none=>none
   |.val (.ptr b off lim)=>if off+n<=lim then(TT s.heap b off lim v.cells).map fun h=>({ s with heap:=h },pF (.h b))else none
   |_=>none
  else none
 |none=>none
def Qq(o:Nat):EV->Option EV
 |.loc k off=>some (.loc k (off+o))
 |.val (.ptr b off lim)=>if off+o<=lim then some (.val (.ptr b (off+o) lim))else none
 |_=>none
def Gt(P:LI1)(t:LI2)(i:Nat):Option Nat:=
 match P.underlying t with
 |some (.struct fs)=>match fs[i]? with
  |some f=>match dH P f.type with
   |some n=>if n=0 then none else some f.offset
   |none=>none
  |none=>none
 |_=>none
def idx(n:Nat):TV->Option Nat
 |.int _ i=>if 0<=i∧i<n then some i.toNat else none
 |_=>none
def mO(P:LI1)(t:LI2)(x:EV)(i:TV):Option EV:=
 match P.underlying t with
 |some (.slice e)=>match dH P e,x with
  |some n,.val (.aP b off len cap sz _)=>if n=sz then(idx len i).map fun j=>.val (.ptr b (off+j*n) (off+cap*n))else none
  |_,_=>none
 |some (.array len e)=>match dH P e with
  |some n=>match idx len i with
   |some j=>Qq (j*n) x
   |none=>none
  |none=>none
 |_=>none
def IW(P:LI1)(t:LI2)(x i:TV):Option TV:=
 match P.underlying t,x with
 |some (.array len e),.agg cs=>match dH P e,idx len i with
  |some n,some j=>uy P e cs (j*n)
  |_,_=>none
 |some .string,.str s=>match idx s.size i with
  |some j=>(s[j]?).map fun b=>.int .u8 b.toNat
  |none=>none
 |_,_=>none
def qQ(n:Nat):TV->Option Nat
 |.int _ i=>if 0<=i∧i<=n then some i.toNat else none
 |_=>none
def jE(n d:Nat):Option TV->Option Nat
 |none=>some d
 |some v=>qQ n v
def qR(P:LI1)(t:LI2)(x:TV)(lo hi mx:Option TV):Option TV:=
 match P.underlying t,x with
 |some .string,.str s=>match mx with
  |some _=>none
  |none=>match jE s.size s.size hi with
   |some h=>match jE h 0 lo with
    |some l=>some (.str (s.extract l h))
    |none=>none
   |none=>none
 |some (.slice e),.aP b off len cap sz ex=>match dH P e with
  |some n=>
   if n=sz then
    match mx with
    |some m=>match qQ cap m,hi with
     |some m,some h=>match qQ (min m len) h with
      |some h=>match jE h 0 lo with
       |some l=>some (.aP b (off+l*n) (h-l) (m-l) sz true)
       |none=>none
      |none=>none
     |_,_=>none
    |none=>match jE len len hi with
     |some h=>match jE h 0 lo with
      |some l=>some (.aP b (off+l*n) (h-l) (cap-l) sz ex)
      |none=>none
     |none=>none
   else none
  |none=>none
 |some (.slice e),.nil .aP=>match dH P e,jE 0 0 mx,jE 0 0 hi,jE 0 0 lo with
  |some _,some _,some _,some _=>if mx.isSome&&hi.isNone then none else some (.nil .aP)
  |_,_,_,_=>none
 |_,_=>none
def qG(P:LI1)(t:LI2)(x:EV)(lo hi mx:Option TV):Option TV:=
 match P.underlying t,x with
 |some (.array n e),.val (.ptr b off lim)=>match dH P e with
  |some size=>
   if size=0∨lim<off+n*size∨2^24<n then none else
   match jE n n mx with
   |some m=>match jE m n hi with
    |some h=>match jE h 0 lo with
     |some l=>if mx.isSome&&hi.isNone then none else some (.aP b (off+l*size) (h-l) (m-l) size true)
     |none=>none
    |none=>none
   |none=>none
  |none=>none
 |_,_=>none
def dZ(size:Nat)(h:List HB):TV->Option (Nat×List TV)
 |.nil .aP=>some (0,[])
 |.aP b off len cap sz _=>if sz=size then(if len=0 then some (0,[])else match mM h b (off+cap*sz)with|some cs=>(sub cs off (len*size)).map fun l=>(len,l)|none=>none)else none
 |.str s=>if size=1 then some (s.size,s.data.toList.map fun b=>.int .u8 b.toNat)else none
 |_=>none
def dF:TV->List Key
 |.aP b _ _ _ _ _=>[.h b]
 |_=>[]
def TW(P:LI1)(t:LI2):Bool:=
 match P.underlying t with
 |some (.int _)=>true
 |_=>false
def a4L(i:TypeInfo):Bool:=
 match i.zero with
 |some z=>z.cells.size==i.size
 |none=>false
def uh(P:LI1)(e:LI2)(n:Nat):Bool:=
 match P.info? e with
 |some i=>decide (n*i.bytes<=2^40)&&decide (n<=2^40)&&decide (i.bytes<=2^20)&&decide (0<i.bytes)&&a4L i
 |none=>false
def jm(P:LI1)(at_:Array LI2)(s:St)(d x:TV):Option (TV×St×mJ):=
 match at_[0]?,at_[1]? with
 |some st,some xt=>
  if TW P xt||(P.underlying xt).isNone then none else
  match jL P st with
  |some (e,size)=>match dZ size s.heap x with
   |some (n,new)=>
    if n=0 then(match d with
     |.nil .aP=>some (d,s,fQ (dF x))
     |.aP _ _ _ _ sz _=>if sz=size then some (d,s,fQ (dF x))else none
     |_=>none)
    else if new.length=n*size then
     match d with
     |.nil .aP=>if uh P e n then some (.aP s.heap.length 0 n n size false,{ s with heap:=s.heap++[.cells .own new] },fQ (dF x))else none
     |.aP b off len cap sz ex=>
      if sz=size then
       if len+n<=cap then
        (TT s.heap b (off+len*size) (off+cap*size) new).map fun h=>(.aP b off (len+n) cap sz ex,{ s with heap:=h },⟨false,.h b::dF x,[.h b]⟩)
       else if uh P e (len+n)then
        if ex then
         (dZ size s.heap (.aP b off len cap sz ex)).map fun r=>(.aP s.heap.length 0 (len+n) (len+n) size false,{ s with heap:=s.heap++[.cells .own (r.2++new)] },fQ (.h b::dF x))
        else match s.heap[b]? with
         |some (.cells k cs)=>
          if k=.ro∨off≠0∨len≠cap∨cs.length≠len*size∨len=0 then none
          else some (.aP b 0 (len+n) (len+n) size false,{ s with heap:=s.heap.set b (.cells k.more (cs++new))},⟨false,.h b::dF x,[.h b]⟩)
         |_=>none
       else none
      else none
     |_=>none
    else none
   |none=>none
  |none=>none
 |_,_=>none
def isStr:TV->Bool
 |.str _=>true
 |_=>false
def Gu(P:LI1)(at_:Array LI2)(s:St)(d x:TV):Option (TV×St×mJ):=
 match at_[0]? with
 |some st=>match jL P st with
  |some (_,size)=>match dZ size s.heap x with
   |some (n,new)=>
    if new.length=n*size∧isStr x=false then
     match d with
     |.nil .aP=>some (.int .i64 0,s,fQ (dF x))
     |.aP b off len cap sz _=>
      if sz=size then
       if min n len=0 then some (.int .i64 0,s,fQ (dF x))
       else(TT s.heap b off (off+cap*size) (new.take (min n len*size))).map fun h=>(.int .i64 (min n len:Nat),{ s with heap:=h },⟨false,.h b::dF x,[.h b]⟩)
      else none
     |_=>none
    else none
   |none=>none
  |none=>none
 |none=>none
def YG(P:LI1)(at_:Array LI2)(h:List HB)(x:TV):Option (TV×mJ):=
 match at_[0]? with
 |some t=>match P.underlying t,x with
  |some .string,.str s=>some (.int .i64 s.size,cZ)
  |some (.array n _),_=>some (.int .i64 n,cZ)
  |some (.slice _),.aP _ _ len _ _ _=>some (.int .i64 len,cZ)
  |some (.slice _),.nil .aP=>some (.int .i64 0,cZ)
  |some (.map _ _),.nil .map=>some (.int .i64 0,cZ)
  |some (.map _ _),.map r=>match h[r]? with
   |some (.map es)=>some (.int .i64 es.length,xP (.h r))
   |_=>none
  |_,_=>none
 |none=>none
def BX:List TV->Option (List LI3)
 | []=>some []
 |c::cs=>match c.yL,BX cs with
  |some v,some vs=>some (v::vs)
  |_,_=>none
def VP(P:LI1)(kt:LI2)(k:LI3)(ks:List LI3)(r:Option Nat):Bool:=
 match aB P (underlying kt)with
 |some kind=>(match r with|some j=>decide (j<ks.length)|none=>true)&&((ks.zipIdx.all fun(x,i)=>Instr.sameNow kind k x==some (some i==r)) ||
   (ks.zipIdx.all fun(x,i)=>Instr.sameNow kind k x==none&&aB P (Op.equal kt k x)==some (some i==r)))
 |none=>false
def EO(P:LI1)(kt:LI2)(k:LI3)(es:List (TV×TV)):Option (Option Nat):=
 match BX (es.map (·.1))with
 |some ks=>match aB P (do Instr.checkKey es.isEmpty 10000 kt k;Instr.findKey kt k (ks.map fun x=>⟨x,.bool false,0⟩))with
  |some r=>if VP P kt k ks (r.map (·.1))then some (r.map (·.1))else none
  |none=>none
 |none=>none
def Kt:TV->Option NK
 |.ptr _ _ _=>some .ptr
 |.aP _ _ _ _ _ _=>some .aP
 |.map _=>some .map
 |.fn _ _ _|.kX _=>some .fn
 |_=>none
def YH:TV->Option NK
 |.nil k=>some k
 |_=>none
def Ku(P:LI1)(t:LI2):Option NK:=
 match P.underlying t with
 |some (.pointer _)=>some .ptr
 |some (.slice _)=>some .aP
 |some (.map _ _)=>some .map
 |some (.func _ _ _)=>some .fn
 |_=>none
def CP(P:LI1)(t:LI2)(x y:TV):Bool:=
 match Ku P t with
 |some k=>(YH x==some k&&Kt y==some k)||(Kt x==some k&&YH y==some k)
 |none=>false
def sO(P:LI1)(op:BinOp)(t:LI2)(x y:Operand)(a b:TV):Option TV:=
 match a.yL,b.yL with
 |some u,some v=>match aB P (do eqGuard op t x y u v;binOp op t u v)with
  |some r=>TV.VJ r
  |none=>none
 |_,_=>if CP P t a b then(match op with
  |.eql=>some (.bool false)
  |.neq=>some (.bool true)
  |_=>none)else none
def unT(P:LI1)(op:UnOp)(a:TV):Option TV:=
 match a.yL with
 |some u=>match aB P (Op.unary op u)with
  |some r=>TV.VJ r
  |none=>none
 |none=>none
def QS(P:LI1)(src dst:LI2)(a:TV):Option TV:=
 match a.yL with
 |some u=>match aB P (convert src dst u)with
  |some r=>TV.VJ r
  |none=>none
 |none=>none
def DZ(P:LI1)(mx:Bool)(at_:Array LI2)(t:LI2)(az:List TV):Option TV:=
 match BX az with
 |some vs=>match aB P (if mx then Builtin.max_ at_ t vs.toArray else Builtin.min_ at_ t vs.toArray)with
  |some r=>TV.VJ r
  |none=>none
 |none=>none
def Ns(P:LI1)(t:LI2)(x:TV)(i:Nat):Option TV:=
 match P.underlying t,x with
 |some (.struct fs),.agg cs=>match fs[i]? with
  |some f=>uy P f.type cs f.offset
  |none=>none
 |_,_=>none
def qH(P:LI1)(t:LI2)(len:Nat)(s:St)(ps:List (Nat×TV)):Option (TV×St):=
 match jL P t with
 |some (e,n)=>if len*n<=2^24∧ps.all (fun p=>p.2.cells.all jc)=true then
   match Kr P e with
   |some z=>if z.length=n then
     match sJ (fun i=>some (i*n,n)) (times z len) ps with
     |some cs=>some (.aP s.heap.length 0 len len n true,{ s with heap:=s.heap++[.cells .own cs] })
     |none=>none
    else none
   |none=>none
  else none
 |none=>none
def a2u:TV->Option Nat
 |.int _ i=>if 0<=i∧i<=2^40 then some i.toNat else none
 |_=>none
def sQ(P:LI1)(t:LI2)(s:St)(l c:TV):Option (TV×St):=
 match jL P t,a2u l,a2u c with
 |some (e,n),some l,some c=>
  if l<=c∧uh P e c then
   match Kr P e with
   |some z=>if z.length=n then some (.aP s.heap.length 0 l c n true,{ s with heap:=s.heap++[.cells .own (times z c)] })else none
   |none=>none
  else none
 |_,_,_=>none
def iq(P:LI1)(t:LI2)(h:List HB)(m k:TV)(ok:Bool):Option TV:=
 match P.underlying t,k.yL with
 |some (.map kt e),some kv=>
  let es:=match m with
   |.nil .map=>some []
   |.map r=>match h[r]? with
    |some (.map es)=>some es
    |_=>none
   |_=>none
  match es with
  |some es=>match EO P kt kv es with
   |some (some i)=>match es[i]? with
    |some (_,v)=>some (if ok then .cO [v,.bool true]else v)
    |none=>none
   |some none=>match P.info? e with
    |some i=>match i.zero with
     |some z=>(TV.VJ z).map fun z=>if ok then .cO [z,.bool false]else z
     |none=>none
    |none=>none
   |none=>none
  |none=>none
 |_,_=>none
def y9(P:LI1)(t:LI2)(s:St)(m k v:TV):Option (St×mJ):=
 match P.underlying t,k.yL,m with
 |some (.map kt _),some kv,.map r=>match s.heap[r]?,aB P (Instr.checkKey false 10000 kt kv)with
  |some (.map es),some ()=>match EO P kt kv es with
   |some (some i)=>match es[i]? with
    |some (old,_)=>match old.yL with
     |some ov=>if Instr.sameBits 10000 ov kv then some ({ s with heap:=s.heap.set r (.map (es.set i (k,v))) },pF (.h r))else none
     |none=>none
    |none=>none
   |some none=>some ({ s with heap:=s.heap.set r (.map (es++[(k,v)])) },pF (.h r))
   |none=>none
  |_,_=>none
 |_,_,_=>none
def Ah(P:LI1)(t:LI2)(s:St)(m k:TV):Option (EV×St×mJ):=
 match P.underlying t,k.yL,m with
 |some (.map kt e),some kv,.map r=>match s.heap[r]?,aB P (Instr.checkKey false 10000 kt kv)with
  |some (.map es),some ()=>match EO P kt kv es with
   |some (some i)=>match es[i]? with
    |some (old,v)=>match old.yL with
     |some ov=>if Instr.sameBits 10000 ov kv then some (.ent r i v,{ s with heap:=s.heap.set r (.map (es.set i (k,v))) },pF (.h r))else none
     |none=>none
    |none=>none
   |some none=>match P.info? e with
    |some i=>match i.zero with
     |some z=>match TV.VJ z with
      |some z=>some (.ent r es.length z,{ s with heap:=s.heap.set r (.map (es++[(k,z)])) },pF (.h r))
      |none=>none
     |none=>none
    |none=>none
   |none=>none
  |_,_=>none
 |_,_,_=>none
def a0o(P:LI1)(t:LI2)(h h':List HB)(m k:TV):Bool:=
 match iq P t h m k false,iq P t h' m k false with
 |some (.int a x),some (.int b y)=>decide (a=b)&&x==y
 |_,_=>false
def CQ(P:LI1)(t:LI2)(s:St)(m k:TV):Option (EV×St×mJ):=
 match Ah P t s m k with
 |some (e,s1,i)=>if a0o P t s.heap s1.heap m k then some (e,s1,i)else none
 |none=>none
def Gv(s:St)(m:TV)(e:EV)(v:TV):Option (St×mJ):=
 match m,e with
 |.map r,.EG r' j=>if r=r' then match s.heap[r]? with
  |some (.map es)=>match es[j]? with
   |some (k,_)=>some ({ s with heap:=s.heap.set r (.map (es.set j (k,v))) },pF (.h r))
   |none=>none
  |_=>none
  else none
 |_,_=>none
def yZ(e:EV)(i:Nat):Option EV:=
 match e with
 |.val (.cO vs)=>(vs[i]?).map .val
 |.ent r j v=>match i with
  | 0=>some (.val v)
  | 1=>some (.EG r j)
  |_=>none
 |_=>none
abbrev aY:=TV->List TV->List HB->Option (TV×List HB×List Nat)
def qU(P:LI1)(b:Builtin)(at_:Array LI2)(t:LI2)(s:St)(az:List TV):Option (TV×St×mJ):=
 match b,az with
 |.len,[x]=>(YG P at_ s.heap x).map fun(v,i)=>(v,s,i)
 |.append,[d,x]=>jm P at_ s d x
 |.copy,[d,x]=>Gu P at_ s d x
 |.min,az=>(DZ P false at_ t az).map fun v=>(v,s,cZ)
 |.max,az=>(DZ P true at_ t az).map fun v=>(v,s,cZ)
 |_,_=>none
def VQ(env:List (Nat×EV)):Option Operand->Option (Option TV)
 |none=>some none
 |some x=>match qO env x with
  |some v=>some (some v)
  |none=>none
def Nu(P:LI1)(call:aY)(s:St)(c:Call)(t:LI2):Option (EV×St×mJ):=
 match c.callee,TR s.env c.args.toList with
 |.builtin b,some az=>(qU P b c.argTypes t s az).map fun(v,s,i)=>(.val v,s,i)
 |.value f,some az=>match qO s.env f with
  |some fv=>match call fv az s.heap with
   |some (v,h,ws)=>some (.val v,{ s with heap:=h },⟨true,[],ws.map .h⟩)
   |none=>none
  |none=>none
 |_,_=>none
def pG(P:LI1)(call:aY)(site:Nat->Bool)(s:St)(o:Oper):Option (EV×St×mJ):=
 match o.op with
 |.move x|.assign x=>(IJ s.env x).map fun v=>(v,s,cZ)
 |.pick c a b=>match qO s.env c with
  |some (.bool t)=>(IJ s.env (if t then a else b)).map fun v=>(v,s,cZ)
  |_=>none
 |.alloc e=>(Kr P e).map fun z=>let (v,s):=qP (site (o.dst.getD 0)) s z;(v,s,cZ)
 |.box _ x=>match qO s.env x with
  |some v=>if v.cells.all jc then let (v,s):=qP (site (o.dst.getD 0)) s v.cells;some (v,s,cZ)else none
  |none=>none
 |.build t ps=>match VO s.env ps.toList with
  |some ps=>(Nr P t ps).map fun v=>(.val v,s,cZ)
  |none=>none
 |.buildSlice t len ps=>match VO s.env ps.toList with
  |some ps=>(qH P t len s ps).map fun(v,s)=>(.val v,s,cZ)
  |none=>none
 |.load t a=>match IJ s.env a with
  |some a=>(loadT P t s a).map fun(v,i)=>(.val v,s,i)
  |none=>none
 |.store t a x=>match IJ s.env a,qO s.env x with
  |some a,some v=>(storeT P t s a v).map fun(s,i)=>(.undef,s,i)
  |_,_=>none
 |.nilCheck x=>match IJ s.env x with
  |some (.loc k o)=>some (.loc k o,s,cZ)
  |some (.val (.ptr b o lim))=>some (.val (.ptr b o lim),s,cZ)
  |some (.val (.fn f a b))=>some (.val (.fn f a b),s,cZ)
  |some (.val (.kX l))=>some (.val (.kX l),s,cZ)
  |_=>none
 |.binOp op t x y _=>match qO s.env x,qO s.env y with
  |some a,some b=>(sO P op t x y a b).map fun v=>(.val v,s,cZ)
  |_,_=>none
 |.unOp op _ x=>match qO s.env x with
  |some a=>(unT P op a).map fun v=>(.val v,s,cZ)
  |none=>none
 |.convert src dst x=>match qO s.env x with
  |some a=>(QS P src dst a).map fun v=>(.val v,s,cZ)
  |none=>none
 |.makeFunc (.func f) first cap=>match TR s.env first.toList,TR s.env cap.toList with
  |some a,some b=>some (.val (.fn f a b),s,cZ)
  |_,_=>none
 |.makeMap t r=>match VQ s.env r,P.underlying t with
  |some none,_=>some (.val (.map s.heap.length),{ s with heap:=s.heap++[.map []] },cZ)
  |some (some (.int _ _)),some (.map _ _)=>some (.val (.map s.heap.length),{ s with heap:=s.heap++[.map []] },cZ)
  |_,_=>none
 |.makeSlice t l c=>match qO s.env l,qO s.env c with
  |some l,some c=>(sQ P t s l c).map fun(v,s)=>(.val v,s,cZ)
  |_,_=>none
 |.slice t x lo hi mx=>match IJ s.env x,VQ s.env lo,VQ s.env hi,VQ s.env mx with
  |some x,some lo,some hi,some mx=>match P.underlying t,x with
   |some (.array _ _),x=>(qG P t x lo hi mx).map fun v=>(.val v,s,cZ)
   |_,.val x=>(qR P t x lo hi mx).map fun v=>(.val v,s,cZ)
   |_,_=>none
  |_,_,_,_=>none
 |.fieldAddr t x f=>match IJ s.env x,Gt P t f with
  |some a,some n=>(Qq n a).map fun v=>(v,s,cZ)
  |_,_=>none
 |.field t x f=>match qO s.env x with
  |some a=>(Ns P t a f).map fun v=>(.val v,s,cZ)
  |none=>none
 |.indexAddr t x i=>match IJ s.env x,qO s.env i with
  |some a,some i=>(mO P t a i).map fun v=>(v,s,cZ)
  |_,_=>none
 |.index t x i=>match qO s.env x,qO s.env i with
  |some a,some i=>(IW P t a i).map fun v=>(.val v,s,cZ)
  |_,_=>none
 |.lookup t m k ok=>match qO s.env m,qO s.env k with
  |some m,some k=>(iq P t s.heap m k ok).map fun v=>(.val v,s,fQ (match m with|.map r=>[.h r] |_=>[]))
  |_,_=>none
 |.mapUpdate t m k x|.insert t m k x=>match qO s.env m,qO s.env k,qO s.env x with
  |some m,some k,some v=>(y9 P t s m k v).map fun(s,i)=>(.undef,s,i)
  |_,_,_=>none
 |.mapEntry t m k=>match qO s.env m,qO s.env k with
  |some m,some k=>CQ P t s m k
  |_,_=>none
 |.entryStore _ m e x=>match qO s.env m,IJ s.env e,qO s.env x with
  |some m,some e,some v=>(Gv s m e v).map fun(s,i)=>(.undef,s,i)
  |_,_,_=>none
 |.extract t i=>match IJ s.env t with
  |some e=>(yZ e i).map fun v=>(v,s,cZ)
  |none=>none
 |.call c=>Nu P call s c o.type
 |.range t x=>match qO s.env x,P.underlying t with
  |some (.map r),some (.map _ _)=>match s.heap[r]? with
   |some (.map es)=>some (.val (.iter s.heap.length),{ s with heap:=s.heap++[.dD r es.length []] },xP (.h r))
   |_=>none
  |_,_=>none
 |.entry x=>match qO s.env x with
  |some (.iter b)=>match s.heap[b]? with
   |some (.dD r n (i::_))=>match s.heap[r]? with
    |some (.map es)=>if es.length=n then(es[i]?).map fun e=>(.val (.cO [e.1,e.2]),s,fQ [.h b,.h r])else none
    |_=>none
   |_=>none
  |_=>none
 |_=>none
def CS(ops:Array Oper)(env:List (Nat×EV))(o:Oper):Option Bool:=
 match o.guard with
 |none=>some true
 |some (j,want)=>match(ops[j]?).bind (·.dst)with
  |some d=>match dM d env with
   |some (.val (.bool b))=>some (b==want)
   |some .undef=>some false
   |_=>none
  |none=>none
def Nv(nt:Nat)(o:Oper):Bool:=
 match o.dst with
 |some d=>decide (d<nt)
 |none=>true
def lG(P:LI1)(call:aY)(site:Nat->Bool)(fl nt:Nat)(ops:Array Oper):List Oper->St->Option (St×List mJ)
 | [],s=>some (s,[])
 |o::os,s=>if !Nv nt o then none else match CS ops s.env o with
  |some true=>match pG P call site s o with
   |some (v,s1,i)=>match lG P call site fl nt ops os ({ s1 with ws:=jZ fl i.ws s.ws }.put o.dst v)with
    |some (s,is)=>some (s,i::is)
    |none=>none
   |none=>none
  |some false=>match lG P call site fl nt ops os (s.put o.dst .undef)with
   |some (s,is)=>some (s,cZ::is)
   |none=>none
  |none=>none
def Nw:List Nat->List Nat->List Nat
 | [],l=>l
 |x::xs,l=>Nw xs (if l.contains x then l else x::l)
def Fq(acc:List (List Nat))(o:Oper):List Nat:=
 o.after.toList.foldl (fun l e=>if Region.binds .any e then Nw (e.on::acc.getD e.on []) l else l) []
def EP:List Oper->List (List Nat)->List (List Nat)
 | [],acc=>acc
 |o::os,acc=>EP os (acc++[Fq acc o])
def IX:Op->Bool
 |.store .. |.mapUpdate .. |.insert .. |.mapEntry .. |.entryStore ..=>true
 |.call { callee:=.builtin b,.. }=>match b with
  |.len|.min|.max=>false
  |_=>true
 |.call _=>true
 |_=>false
def Ny:Op->Bool
 |.store .. |.mapUpdate .. |.insert .. |.mapEntry .. |.entryStore .. |.load .. |.lookup .. |.range .. |.entry ..=>true
 |.call { callee:=.builtin b,.. }=>match b with
  |.min|.max=>false
  |_=>true
 |.call _=>true
 |_=>false
def oC(ops:List Oper):List (Nat×Nat):=
 let pr:=EP ops []
 (List.range ops.length).flatMap fun j=>((List.range j).filter fun i=>!(pr.getD j []).contains i).map fun i=>(i,j)
def nR(ops:List Oper):Bool:=
 (ops.zipIdx.all fun(o,i)=>o.after.all fun e=>!Region.binds .any e||decide (e.on<i)) &&
 (oC ops).all fun(i,j)=>match ops[i]?,ops[j]? with
  |some a,some b=>a.apart ops.toArray b&&b.apart ops.toArray a
  |_,_=>false
def BH(a b:Oper):Bool:=match a.op,b.op,a.guard,b.guard with
 |.lookup t (.tmp m) (.tmp k) false,.mapEntry t' (.tmp m') (.tmp k'),none,none=>t==t'&&m==m'&&k==k'
 |_,_,_,_=>false
def ni(ops:List Oper):List (Nat×Nat):=
 (oC ops).filter fun(i,j)=>match ops[i]?,ops[j]? with
  |some a,some b=>((IX a.op&&Ny b.op)||(Ny a.op&&IX b.op))&&!BH a b
  |_,_=>false
def Key.isH:Key->Bool
 |.h _=>true
 |.l _=>false
def Nz(ws:List Key)(b:mJ):Bool:=
 ws.all fun k=>!(b.all&&k.isH)&&!b.ts.contains k&&!b.ws.contains k
def calm(a b:mJ):Bool:=Nz a.ws b&&Nz b.ws a
def BI(xQ:List mJ):List (Nat×Nat)->Bool
 | []=>true
 |(i,j)::r=>(match xQ[i]?,xQ[j]? with
  |some a,some b=>calm a b
  |_,_=>false)&&BI xQ r
inductive Ex where
 |norm|exit (id:Nat)|ret
structure FnT where
 nt:Nat
 body:Code
 results:List ResultVar
def TY(P:LI1)(f:Nat):Option FnT:=
 match P.funcs[f]? with
 | some fn => if fn.name == "runtime.NumGoroutine" then none else match fn.body with
  |some b=>some ⟨fn.ntmps,b,fn.results.toList⟩
  |none=>none
 |none=>none
structure qK where
 live:List (Nat×List (Nat×List Nat))
 head:List (Nat×List (Nat×List Nat))
 site:List (Nat×List Nat)
 exts:List Nat:=[]
 ext:TV->List TV->List HB->Option (TV×List HB×List Nat):=fun _ _ _=>none
 dem:List Nat:=[]
 din:List Nat:=[]
 a9f:List Nat:=[]
def QU{α:Type}(k:Nat):List (Nat×List α)->List α
 | []=>[]
 |(j,l)::r=>if j=k then l else QU k r
def qK.iE(T:qK)(f id:Nat):List Nat:=QU id (QU f T.live)
def qK.eY(T:qK)(f id:Nat):List Nat:=QU id (QU f T.head)
def qK.U0(T:qK)(f d:Nat):Bool:=(QU f T.site).contains d
def CU:List (Nat×EV)->Nat
 | []=>0
 |(_,.loc k _)::r=>max (k+1) (CU r)
 |_::r=>CU r
def kC(live:List Nat)(s:St):St:=
 let env:=pick live s.env
 { s with env:=env,loc:=s.loc.take (CU env) }
def dU:Code->Nat
 |.region id _ _=>id
 |.seq a _=>dU a
 |.block _ b=>dU b
 |.loop b=>dU b
 |.scope b=>dU b
 |_=>0
def iter(g:St->Option (Ex×St)):Nat->St->Option (Ex×St)
 | 0,_=>none
 |n+1,s=>match g s with
  |some (.norm,s)=>iter g n s
  |r=>r
def isVal:Nat×EV->Bool
 |(_,.loc _ _)|(_,.ent _ _ _)|(_,.EG _ _)=>false
 |_=>true
def QV:Bool->Option Code->Option Ex
 |true,none=>some .norm
 |false,some .ret=>some .ret
 |false,some (.exit id)=>some (.exit id)
 |_,_=>none
def exec(P:LI1)(T:qK)(call:aY)(L:Nat)(f:Nat)(gZ:Bool)(fl nt:Nat):Code->St->Option (Ex×St)
 |.skip,s=>some (.norm,s)
 |.label _,s=>some (.norm,s)
 |.region id ops draw,s=>match lG P call (fun d=>gZ||T.U0 f d) fl nt ops ops.toList s with
  |some (s,xQ)=>if !draw||(nR ops.toList&&BI xQ (ni ops.toList))then some (.norm,{ s with env:=pick (T.iE f id) s.env })else none
  |none=>none
 |.seq a b,s=>match exec P T call L f gZ fl nt a s with
  |some (.norm,s)=>exec P T call L f gZ fl nt b s
  |r=>r
 |.cond c a b,s=>match qO s.env c with
  |some (.bool true)=>exec P T call L f gZ fl nt a s
  |some (.bool false)=>exec P T call L f gZ fl nt b s
  |_=>none
 |.block id b,s=>match exec P T call L f gZ fl nt b s with
  |some (.exit i,s)=>some (if i=id then .norm else .exit i,s)
  |r=>r
 |.scope b,s=>exec P T call L f gZ fl nt b s
 |.loop b,s=>iter (fun s=>exec P T call L f gZ fl nt b (kC (T.eY f (dU b)) s)) L s
 |.exit id,s=>some (.exit id,s)
 |.ret,s=>some (.ret,s)
 |.rangeFunc g ps assign body,s=>match qO s.env g with
  |some (.fn f1 a1 b1)=>
   if s.env.all isVal&&!gZ then
    match call (.fn f1 a1 b1) [.kX (s.heap.length+1)] (s.heap++[.mark,.loop true f nt s.env ps.toList assign body none])with
    |some (_,h,ws)=>match h[s.heap.length+1]? with
     |some (.loop rd f2 Qr e2 CV a2 b2 jP)=>match QV rd jP with
      |some e=>some (e,{ s with heap:=h.set (s.heap.length+1) (.loop false f2 Qr e2 CV a2 b2 (some .skip)),ws:=jZ fl (ws.map .h) s.ws })
      |none=>none
     |_=>none
    |none=>none
   else none
  |_=>none
 |_,_=>none
def a4M(P:LI1)(s:St):ResultVar->Option TV
 |.tmp t=>match dM t s.env with
  |some (.val v)=>some v
  |_=>none
 |.cell a t=>match dM a s.env with
  |some a=>(loadT P t s a).map (·.1)
  |none=>none
def yc(P:LI1)(s:St):List ResultVar->Option (List TV)
 | []=>some []
 |r::rs=>match a4M P s r,yc P s rs with
  |some v,some vs=>some (v::vs)
  |_,_=>none
def one:List TV->TV
 | [v]=>v
 |vs=>.cO vs
def nS:Nat->List TV->List (Nat×EV)
 |_,[]=>[]
 |k,v::vs=>(k,.val v)::nS (k+1) vs
def sS(env:List (Nat×EV)):List Nat->List TV->List (Nat×EV)
 |p::ps,v::vs=>sS ((p,.val v)::env) ps vs
 |_,_=>env
def anf(P:LI1)(T:qK)(call:aY)(L:Nat)(f:Nat)(args:List TV)(h:List HB):Option (TV×List HB×List Nat):=
 match TY P f with
 |some t=>match exec P T call L f false h.length t.nt t.body ⟨nS 0 args,[],h,[]⟩with
  |some (.norm,s)|some (.ret,s)=>match yc P s t.results with
   |some vs=>if s.ws.isEmpty&&(one vs).flat then some (one vs,h,[])else some (one vs,s.heap,s.ws)
   |none=>none
  |_=>none
 |none=>none
def sU:Ex->Option Code
 |.norm=>none
 |.ret=>some .ret
 |.exit id=>some (.exit id)
def pI:Ex->Bool
 |.norm=>true
 |_=>false
def NC(P:LI1)(T:qK)(call:aY)(L:Nat)(l:Nat)(args:List TV)(h:List HB):Option (TV×List HB×List Nat):=
 match h[l]? with
 |some (.loop true f nt env ps assign body _)=>
  if args.length=ps.length∧ps.all (fun p=>decide (p<nt))then
   match exec P T call L f true h.length nt assign ⟨sS env ps args,[],h,[]⟩with
   |some (.norm,s)=>match s.heap[l]? with
    |some (.loop true f' nt' env' ps' a' b' _)=>
     match exec P T call L f true h.length nt body { s with heap:=s.heap.set l (.loop false f' nt' env' ps' a' b' none),ws:=EH h.length l s.ws }with
     |some (e,s)=>match s.heap[l]? with
      |some (.loop false f' nt' env' ps' a' b' none)=>some (.bool (pI e),s.heap.set l (.loop (pI e) f' nt' env' ps' a' b' (sU e)),EH h.length l s.ws)
      |_=>none
     |none=>none
    |_=>none
   |_=>none
  else none
 |_=>none
def ap(P:LI1)(T:qK)(L:Nat):Nat->aY
 | 0,_,_,_=>none
 |n+1,.fn f first cap,args,h=>anf P T (ap P T L n) L f (first++args++cap) h
 |n+1,.kX l,args,h=>NC P T (ap P T L n) L l args h
 |_,_,_,_=>none
def run(P:LI1)(T:qK)(L n f:Nat)(args:List TV)(h:List HB):Option (TV×List HB×List Nat):=ap P T L n (.fn f [] []) args h
structure Pl where
 c:Nat
 base:Nat
 ext:Nat
 tot:Nat
inductive Lc where
 |cells (ls:List Pl)
 |obj (r:Nat) (o:List Nat)
abbrev Mp:=Key->Option Lc
abbrev Np:=Nat->Option Lc
def Mp.h(M:Mp):Np:=fun b=>M (.h b)
inductive VR(M:Np):TV->LI3->Prop
 |bool (b:Bool):VR M (.bool b) (.bool b)
 |int (k:IntKind) (n:Int):VR M (.int k n) (.int k n)
 |str (s:ByteArray):VR M (.str s) (.string s)
 |a2v:VR M (.nil .ptr) (.pointer none)
 |U1:VR M (.nil .aP) (.slice none 0 0)
 |YI:VR M (.nil .map) (.map none)
 |nfn:VR M (.nil .fn) .nilFunc
 |a2w:VR M (.nil .ifc) .nilIface
 |ptr {b off lim:Nat} {ls:List Pl} {p:Pl} (hb:M b=some (.cells ls)) (hp:p∈ls) (h:lim<=p.ext) (ht:p.base+lim<=p.tot) :
   VR M (.ptr b off lim) (.pointer (some ⟨p.c,p.base+off,none⟩))
 |aP {b off len cap sz:Nat} {ex:Bool} {ls:List Pl} {p:Pl} {a:Addr} {cap':Nat} (hb:M b=some (.cells ls)) (hp:cap'=0∨p∈ls)
   (h:off+cap*sz<=p.ext) (hl:len<=cap) (hc:cap<=cap') (hx:ex=true->cap'=cap)
   (ha:cap'=0∨(a=⟨p.c,p.base+off,none⟩∧p.base+off+cap'*sz<=p.tot)) (hk:cap'<2^63) :
   VR M (.aP b off len cap sz ex) (.slice (some a) len cap')
 |map {r r':Nat} {o:List Nat} (h:M r=some (.obj r' o)):VR M (.map r) (.map (some r'))
 |kX {l l':Nat} {o:List Nat} (h:M l=some (.obj l' o)):VR M (.kX l) (.func (.yield l') #[] #[])
 |iter {l l':Nat} {o:List Nat} (h:M l=some (.obj l' o)):VR M (.iter l) (.pointer (some ⟨l',0,none⟩))
 |fn {f:FuncId} {az bs:List TV} {xs ys:List LI3} (h1:az.length=xs.length) (h2:∀(i:Nat) (c:TV) (v:LI3),az[i]? = some c->xs[i]? = some v->VR M c v)
   (h3:bs.length=ys.length) (h4:∀(i:Nat) (c:TV) (v:LI3),bs[i]? = some c->ys[i]? = some v->VR M c v):VR M (.fn f az bs) (.func (.func f) xs.toArray ys.toArray)
 |agg {az:List TV} {xs:List LI3} (h1:az.length=xs.length) (h2:∀(i:Nat) (c:TV) (v:LI3),az[i]? = some c->xs[i]? = some v->VR M c v):VR M (.agg az) (.agg xs.toArray)
 |cO {az:List TV} {xs:List LI3} (h1:az.length=xs.length) (h2:∀(i:Nat) (c:TV) (v:LI3),az[i]? = some c->xs[i]? = some v->VR M c v):VR M (.cO az) (.tuple xs.toArray)
structure bY(M:Np)(az:List TV)(xs:List LI3):Prop where
 len:az.length=xs.length
 at_:∀(i:Nat) (c:TV) (v:LI3),az[i]? = some c->xs[i]? = some v->VR M c v
theorem VR.agg'{M:Np}{az:List TV}{xs:List LI3}(h:bY M az xs):VR M (.agg az) (.agg xs.toArray):=.agg h.len h.at_
theorem VR.Qs{M:Np}{az:List TV}{xs:List LI3}(h:bY M az xs):VR M (.cO az) (.tuple xs.toArray):=.cO h.len h.at_
theorem bY.nil{M:Np}:bY M [] []:=⟨rfl,fun i c v h=>by simp at h⟩
theorem bY.cons{M:Np}{c:TV}{v:LI3}{az:List TV}{xs:List LI3}(h:VR M c v)(hs:bY M az xs):bY M (c::az) (v::xs):=
 ⟨by simp[hs.len],fun i c' v' h1 h2=>by
  cases i with
  |zero=>simp at h1 h2;subst h1;subst h2;exact h
  |succ i=>simp at h1 h2;exact hs.at_ i _ _ h1 h2⟩
theorem bY.qo{M:Np}{xs:List LI3}(h:bY M [] xs):xs=[]:=by have:=h.len;simp at this;exact a4a this.symm
theorem bY.iT{M:Np}{c:TV}{az:List TV}{xs:List LI3}(h:bY M (c::az) xs):∃v vs,xs=v::vs∧VR M c v∧bY M az vs:=by
 cases xs with
 |nil=>have:=h.len;simp at this
 |cons v vs=>exact⟨v,vs,rfl,h.at_ 0 c v rfl rfl,⟨by have:=h.len;simpa using this,fun i c' v' h1 h2=>h.at_ (i+1) c' v' (by simpa using h1) (by simpa using h2)⟩⟩
theorem bY.append{M:Np}{az bs:List TV}{xs ys:List LI3}(h:bY M az xs)(h':bY M bs ys):bY M (az++bs) (xs++ys):=by
 induction az generalizing xs with
 |nil=>have:=h.qo;subst this;simpa using h'
 |cons c az ih=>
  obtain⟨v,vs,rfl,hv,hvs⟩:=h.iT;exact .cons hv (ih hvs)
theorem bY.take{M:Np}{az:List TV}{xs:List LI3}(h:bY M az xs)(n:Nat):bY M (az.take n) (xs.take n):=
 ⟨by simp[h.len],fun i c v h1 h2=>by
  rw[a4v]at h1 h2;split at h1
  .rename_i hi;rw[a0u hi]at h2;exact h.at_ i c v h1 h2
  .simp at h1⟩
theorem bY.drop{M:Np}{az:List TV}{xs:List LI3}(h:bY M az xs)(n:Nat):bY M (az.drop n) (xs.drop n):=
 ⟨by simp[h.len],fun i c v h1 h2=>by rw[a4w]at h1 h2;exact h.at_ _ c v h1 h2⟩
theorem bY.get{M:Np}{az:List TV}{xs:List LI3}(h:bY M az xs){i:Nat}{c:TV}(hc:az[i]? = some c):∃v,xs[i]? = some v∧VR M c v:=by
 have hi:i<az.length:=(a0a.1 hc).1;have wF:i<xs.length:=by rw[<-h.len];exact hi
 exact⟨xs[i],by simp[wF],h.at_ i c _ hc (by simp[wF])⟩
def L9:Lc->Lc->Prop
 |.cells ls,.cells yg=>∀p∈ls,∃q∈yg,q.c=p.c∧q.base=p.base∧p.ext<=q.ext∧q.tot=p.tot
 |.obj r o,.obj r' o'=>r=r'∧o <+: o'
 |_,_=>False
def sK{α:Type}(M M':α->Option Lc):Prop:=∀k l,M k=some l->∃l',M' k=some l'∧L9 l l'
theorem L9.refl(l:Lc):L9 l l:=by
 cases l with
 |cells ls=>exact fun p hp=>⟨p,hp,rfl,rfl,a0E _,rfl⟩
 |obj r o=>exact⟨rfl,ags o⟩
theorem L9.trans{a b c:Lc}(h:L9 a b)(h':L9 b c):L9 a c:=by
 cases a<;>cases b<;>cases c<;>simp only[L9]at *
 .intro p hp;obtain⟨q,hq,h1,h2,h3,h4⟩:=h p hp;obtain⟨r,hr,g1,g2,g3,g4⟩:=h' q hq;exact⟨r,hr,g1.trans h1,g2.trans h2,a4Z h3 g3,g4.trans h4⟩
 exact⟨h.1.trans h'.1,h.2.trans h'.2⟩
theorem sK.refl{α:Type}(M:α->Option Lc):sK M M:=fun _ l h=>⟨l,h,.refl l⟩
theorem sK.trans{α:Type}{a b c:α->Option Lc}(h:sK a b)(h':sK b c):sK a c:=fun k l hl=>
 let ⟨l',h1,h2⟩:=h k l hl
 let ⟨l'',g1,g2⟩:=h' k l' h1
 ⟨l'',g1,h2.trans g2⟩
theorem sK.h{M M':Mp}(hm:sK M M'):sK M.h M'.h:=fun b l hl=>hm (.h b) l hl
theorem VR.mono{M M':Np}(hm:sK M M'){v:TV}{x:LI3}(h:VR M v x):VR M' v x:=by
 induction h with
 |bool b=>exact .bool b
 |int k n=>exact .int k n
 |str s=>exact .str s
 |a2v=>exact .a2v
 |U1=>exact .U1
 |YI=>exact .YI
 |nfn=>exact .nfn
 |a2w=>exact .a2w
 |ptr hb hp h ht=>
  obtain⟨l',h1,h2⟩:=hm _ _ hb;cases l' with
  |obj r _=>exact h2.elim
  |cells yg=>
   obtain⟨q,hq,e1,e2,e3,e4⟩:=h2 _ hp;rw[<-e1,<-e2];exact .ptr h1 hq (a4Z h e3) (by rw[e2,e4];exact ht)
 |aP hb hp h hl hc hx ha hk=>
  obtain⟨l',h1,h2⟩:=hm _ _ hb;cases l' with
  |obj r _=>exact h2.elim
  |cells yg=>
   rcases hp with hp|hp
   .exact .aP h1 (.inl hp) h hl hc hx (.inl hp) hk
   obtain⟨q,hq,e1,e2,e3,e4⟩:=h2 _ hp;exact .aP h1 (.inr hq) (a4Z h e3) hl hc hx (by rw[e1,e2,e4];exact ha) hk
 |map h=>
  obtain⟨l',h1,h2⟩:=hm _ _ h;cases l' with
  |obj r _=>cases h2.1;exact .map h1
  |cells yg=>exact h2.elim
 |kX h=>
  obtain⟨l',h1,h2⟩:=hm _ _ h;cases l' with
  |obj r _=>cases h2.1;exact .kX h1
  |cells yg=>exact h2.elim
 |iter h=>
  obtain⟨l',h1,h2⟩:=hm _ _ h;cases l' with
  |obj r _=>cases h2.1;exact .iter h1
  |cells yg=>exact h2.elim
 |fn h1 _ h3 _ ih2 ih4=>exact .fn h1 ih2 h3 ih4
 |agg h1 _ ih=>exact .agg h1 ih
 |cO h1 _ ih=>exact .cO h1 ih
theorem bY.mono{M M':Np}(hm:sK M M'){az:List TV}{xs:List LI3}(h:bY M az xs):bY M' az xs:=
 ⟨h.len,fun i c v h1 h2=>(h.at_ i c v h1 h2).mono hm⟩
theorem a4P{M:Np}{v:TV}{x y:LI3}(h:v.toC=some x)(hy:VR M v y):y=x:=by cases hy<;>simp[TV.toC]at h<;>first|exact h|exact h.symm|skip
theorem a0r{M:Np}:∀{az:List TV} {xs ys:List LI3},TV.TQ az=some xs->bY M az ys->ys=xs
 | [],xs,ys,h,hy=>by simp[TV.TQ]at h;subst h;exact hy.qo
 |c::az,xs,ys,h,hy=>by
  simp only[TV.TQ]at h;split at h
  .rename_i v vs h1 h2;simp at h;subst h;obtain⟨w,ws,rfl,hw,YJ⟩:=hy.iT;rw[a4P h1 hw,a0r h2 YJ]
  simp at h
theorem wH{M:Np}{v:TV}{x y:LI3}(h:v.yL=some x)(hy:VR M v y):y=x:=by
 unfold TV.yL at h;split at h
 .simp only[a0i]at h;obtain⟨vs,h1,rfl⟩:=h;cases hy with
  |agg g1 g2=>rw[a0r h1 ⟨g1,g2⟩]
 exact a4P h hy
theorem VR.a4Q{M:Np}{v:TV}{x:LI3}(h:TV.ofC x=some v):VR M v x:=by unfold TV.ofC at h;split at h<;>simp at h<;>subst h<;>constructor
theorem bY.a0s{M:Np}:∀{xs:List LI3} {az:List TV},TV.CJ xs=some az->bY M az xs
 | [],az,h=>by simp[TV.CJ]at h;subst h;exact .nil
 |x::xs,az,h=>by
  simp only[TV.CJ]at h;split at h
  .rename_i v vs h1 h2;simp at h;subst h;exact .cons (.a4Q h1) (bY.a0s h2)
  simp at h
theorem VR.yM{M:Np}{v:TV}{x:LI3}(h:TV.VJ x=some v):VR M v x:=by
 unfold TV.VJ at h;split at h
 .rename_i cs;simp only[a0i]at h;obtain⟨vs,h1,rfl⟩:=h;have:=VR.agg' (bY.a0s (M:=M) h1);simpa using this
 exact .a4Q h
theorem VR.cells{M:Np}{v:TV}{x:LI3}(h:VR M v x):bY M v.cells x.cells.toList:=by
 cases h with
 |agg h1 h2=>exact⟨by simpa[TV.cells,Value.cells]using h1,by simpa[TV.cells,Value.cells]using h2⟩
 |_=>exact .cons (by first|assumption|constructor<;>assumption) .nil
theorem jk{α:Type}{P:LI1}:∀{s:Sem α} {a:α},aB P s=some a->∀w,s.run P w=.ok a w
 |.pure b,a,h,w=>by simp[aB]at h;simp[Sem.run,h]
 |.program k,a,h,w=>by simp only[aB]at h;simp only[Sem.run];exact jk h w
 |.mark _ k,a,h,w=>by simp only[aB]at h;simp only[Sem.run];exact jk h w
 |.load ..,a,h,w=>by simp[aB]at h
 |.store ..,a,h,w=>by simp[aB]at h
 |.new ..,a,h,w=>by simp[aB]at h
 |.shape ..,a,h,w=>by simp[aB]at h
 |.freeze ..,a,h,w=>by simp[aB]at h
 |.frozen ..,a,h,w=>by simp[aB]at h
 |.getObj ..,a,h,w=>by simp[aB]at h
 |.setObj ..,a,h,w=>by simp[aB]at h
 |.choose ..,a,h,w=>by simp[aB]at h
 |.sys ..,a,h,w=>by simp[aB]at h
 |.halt ..,a,h,w=>by simp[aB]at h
def wr:HB->Bool
 |.cells .ro _=>false
 |.mark=>false
 |_=>true
def aI:Lc->List Nat
 |.cells ls=>ls.map (·.c)
 |.obj r _=>[r]
structure ND(N:Np)(w:LI4)(k:BK)(cs:List TV)(p:Pl):Prop where
 row:∃(arr:Array LI3) (ty:LI2) (fz:Nat×Nat),w.heap[p.c]? = some (.cells arr ty fz)∧arr.size=p.tot∧(k≠.ro->fz=(0,0)) ∧
  ((k=.last->p.ext=cs.length)->∀(i:Nat) (c:TV) (v:LI3),i<p.ext->cs[i]? = some c->arr[p.base+i]? = some v->VR N c v)
 fit:p.base+p.ext<=p.tot
 ext:p.ext<=cs.length
 base:k≠.ro->p.base=0
inductive ER(M:Mp):EV->LI3->Prop
 |val {v:TV} {x:LI3} (h:VR M.h v x):ER M (.val v) x
 |loc {k off:Nat} {p:Pl} (h:M (.l k)=some (.cells [p])) (hb:p.base=0):ER M (.loc k off) (.pointer (some ⟨p.c,off,none⟩))
 |undef:ER M .undef Go.undef
 |ent {r j:Nat} {v:TV} {r1 i:Nat} {o:List Nat} {x:LI3} (h:M (.h r)=some (.obj r1 o)) (hi:o[i]? = some j) (hv:VR M.h v x):ER M (.ent r j v) (.tuple #[x,Go.goInt i])
 |EG {r j r1 i:Nat} {o:List Nat} (h:M (.h r)=some (.obj r1 o)) (hi:o[i]? = some j):ER M (.EG r j) (Go.goInt i)
theorem ER.vS{M:Mp}{v:TV}{x:LI3}(h:ER M (.val v) x):VR M.h v x:=by cases h;assumption
def jY(M:Mp)(env:List (Nat×EV))(tmps:Array LI3):Prop:=∀t e,dM t env=some e->ER M e (tmps.getD t Go.undef)
structure a9g(N:Np)(rd:Bool)(f nt:Nat)(env:List (Nat×EV))(ps:List Nat)(a b:Code)(jP:Option Code)(lp:Loop):Prop where
 ps:lp.params.toList=ps
 uQ:lp.assign=a
 body:lp.body=b
 size:nt<=lp.tmps.size
 La:∀t v,dM t env=some (.val v)->VR N v (lp.tmps.getD t Go.undef)
 U2:∀t,dM t env=some .undef->lp.tmps.getD t Go.undef=Go.undef
 nol:∀t e,dM t env=some e->isVal (t,e)=true
 ready:rd=true->lp.state=.ready∧lp.pending=none
 busy:rd=false->jP=none->lp.state=.busy
 done:rd=false->∀j,jP=some j->j≠.skip->lp.state=.done∧lp.pending=some j
structure wI(N:Np)(o:List Nat)(es:List (TV×TV))(xs:Array MapEntry):Prop where
 len:es.length=xs.size
 ord:o.length=xs.size
 nod:o.Nodup
 sur:∀j,j<es.length->j∈o
 at_:∀(i:Nat) (x:MapEntry),xs[i]? = some x->x.born=i∧∃j e,o[i]? = some j∧es[j]? = some e∧VR N e.1 x.key∧VR N e.2 x.val
def ahv(N:Np)(w:LI4)(es:List (TV×TV))(r:Nat)(o:List Nat):Prop:=
 ∃xs:Array MapEntry,w.heap[r]? = some (.map xs xs.size)∧wI N o es xs
theorem wI.mono{N N':Np}{o:List Nat}{es:List (TV×TV)}{xs:Array MapEntry}(hm:sK N N')(h:wI N o es xs):wI N' o es xs:=
 ⟨h.len,h.ord,h.nod,h.sur,fun i x hx=>let ⟨b,j,e,h1,h2,h3,h4⟩:=h.at_ i x hx;⟨b,j,e,h1,h2,h3.mono hm,h4.mono hm⟩⟩
def mP(N:Np)(w:LI4)(k:BK)(cs:List TV)(ls:List Pl):Prop:=
 (∀c∈cs,jc c=true)∧(∀p∈ls,ND N w k cs p)∧(k=.own->∃p,ls=[p]∧p.ext=cs.length) ∧
   ((k=.grow∨k=.last)->(ls.map (·.c)).Nodup∧∀p∈ls,∀q∈ls,p.ext=cs.length->q.ext=cs.length->p=q)
def pW(N:Np)(w:LI4):HB->Lc->Prop
 |.cells k cs,.cells ls=>mP N w k cs ls
 |.nH cs,.cells ls=>∃cs',cs'.Perm cs∧mP N w .last cs' ls
 |.map es,.obj r o=>ahv N w es r o
 |.mark,.obj r _=>r<w.heap.size
 |.dD m n seen,.obj r _=>∃(b:Nat) (o:List Nat) (sa:Array Nat),N m=some (.obj b o)∧w.heap[r]? = some (.mapIter (some b) n sa n)∧n<=o.length∧sa.toList.map (fun i=>o[i]?)=seen.reverse.map some
 |.loop rd f nt env ps a b jP,.obj r _=>∃lp,w.heap[r]? = some (.loop lp)∧a9g N rd f nt env ps a b jP lp
 |_,_=>False
theorem ND.mono{N N':Np}{w w':LI4}{k:BK}{cs:List TV}{p:Pl}(hm:sK N N')(hw:w'.heap[p.c]? = w.heap[p.c]?)(h:ND N w k cs p):ND N' w' k cs p:=
 ⟨let ⟨arr,ty,fz,h1,h2,h3,h4⟩:=h.row;⟨arr,ty,fz,hw.trans h1,h2,h3,fun z i c v a b d=>(h4 z i c v a b d).mono hm⟩,h.fit,h.ext,h.base⟩
theorem a9g.mono{N N':Np}{rd:Bool}{f nt:Nat}{env:List (Nat×EV)}{ps:List Nat}{a b:Code}{jP:Option Code}{lp:Loop}(hm:sK N N')(h:a9g N rd f nt env ps a b jP lp):a9g N' rd f nt env ps a b jP lp:=
 { h with La:=fun t v e=>(h.La t v e).mono hm }
theorem mP.mono{N N':Np}{w w':LI4}{k:BK}{cs:List TV}{ls:List Pl}(hm:sK N N')(hw:∀p∈ls,w'.heap[p.c]? = w.heap[p.c]?)(h:mP N w k cs ls):mP N' w' k cs ls:=
 ⟨h.1,fun p hp=>(h.2.1 p hp).mono hm (hw p hp),h.2.2⟩
theorem pW.mono{N N':Np}{w w':LI4}{b:HB}{l:Lc}(hm:sK N N')(hw:∀c∈aI l,w'.heap[c]? = w.heap[c]?)(h:pW N w b l):pW N' w' b l:=by
 cases b with
 |cells k cs=>
  cases l with
  |obj r _=>exact h.elim
  |cells ls=>exact mP.mono hm (fun p hp=>hw p.c (a1k.2 ⟨p,hp,rfl⟩)) h
 |nH cs=>
  cases l with
  |obj r _=>exact h.elim
  |cells ls=>
   obtain⟨cs',h1,h2⟩:=h;exact⟨cs',h1,h2.mono hm fun p hp=>hw p.c (a1k.2 ⟨p,hp,rfl⟩)⟩
 |map es=>
  cases l with
  |cells ls=>exact h.elim
  |obj r _=>
   obtain⟨xs,h1,h2⟩:=h;exact⟨xs,(hw r (by simp[aI])).trans h1,h2.mono hm⟩
 |mark=>
  cases l with
  |cells ls=>exact h.elim
  |obj r _=>
   have h':r<w.heap.size:=h;have:=hw r (by simp[aI]);rw[a3J h']at this;exact(a2q.1 this).1
 |dD m n seen=>
  cases l with
  |cells ls=>exact h.elim
  |obj r _=>
   obtain⟨b,o,sa,h1,h2,h3,h4⟩:=h;obtain⟨l',g1,g2⟩:=hm _ _ h1;cases l' with
   |cells yg=>exact g2.elim
   |obj b' o'=>
    obtain⟨rfl,g3⟩:=g2;refine⟨b,o',sa,g1,(hw r (by simp[aI])).trans h2,a4Z h3 g3.length_le,?_⟩;rw[<-h4];refine a4V fun i hi=>?_;have:o[i]?∈sa.toList.map (fun i=>o[i]?):=a1k.2 ⟨i,hi,rfl⟩;rw[h4]at this;obtain⟨j,_,hj⟩:=a1k.1 this;have aQ:=(a0a.1 hj.symm).1;obtain⟨t,rfl⟩:=g3;rw[a0p aQ]
 |loop rd f nt env ps a b jP=>
  cases l with
  |cells ls=>exact h.elim
  |obj r _=>
   obtain⟨lp,h1,h2⟩:=h;exact⟨lp,(hw r (by simp[aI])).trans h1,h2.mono hm⟩
theorem pW.inb{N:Np}{w:LI4}{b:HB}{l:Lc}(h:pW N w b l):∀c∈aI l,c<w.heap.size:=by
 intro c hc;cases b with
 |cells k cs=>
  cases l with
  |obj r _=>exact h.elim
  |cells ls=>
   obtain⟨p,hp,rfl⟩:=a1k.1 hc;obtain⟨arr,ty,fz,h1,_⟩:=(h.2.1 p hp).row;exact(a2q.1 h1).1
 |nH cs=>
  cases l with
  |obj r _=>exact h.elim
  |cells ls=>
   obtain⟨p,hp,rfl⟩:=a1k.1 hc;obtain⟨cs',_,h⟩:=h;obtain⟨arr,ty,fz,h1,_⟩:=(h.2.1 p hp).row;exact(a2q.1 h1).1
 |map es=>
  cases l with
  |cells ls=>exact h.elim
  |obj r _=>
   obtain⟨xs,h1,_⟩:=h;simp[aI]at hc;subst hc;exact(a2q.1 h1).1
 |mark=>
  cases l with
  |cells ls=>exact h.elim
  |obj r _=>
   simp[aI]at hc;subst hc;exact h
 |dD m n seen=>
  cases l with
  |cells ls=>exact h.elim
  |obj r _=>
   obtain⟨b,o,sa,_,h1,_⟩:=h;simp[aI]at hc;subst hc;exact(a2q.1 h1).1
 |loop rd f nt env ps a b jP=>
  cases l with
  |cells ls=>exact h.elim
  |obj r _=>
   obtain⟨lp,h1,_⟩:=h;simp[aI]at hc;subst hc;exact(a2q.1 h1).1
abbrev Ct:=Key->Option HB
structure Valid(M:Mp)(D:Key->Prop)(C:Ct)(w:LI4):Prop where
 ok:∀k l,M k=some l->D k->∃b,C k=some b∧pW M.h w b l
 own:∀k k' l l' b,k≠k'->M k=some l->M k'=some l'->D k->C k=some b->wr b=true->∀c∈aI l,c∉aI l'
 inb:∀k l,M k=some l->∀c∈aI l,c<w.heap.size
def uS:Key->Prop:=fun _=>True
theorem Valid.has{M:Mp}{C:Ct}{w:LI4}(h:Valid M uS C w){k:Key}{l:Lc}(hk:M k=some l):(C k).isSome=true:=
 let ⟨_,h1,_⟩:=h.ok k l hk trivial;by simp[h1]
theorem Valid.of_heap{M:Mp}{D:Key->Prop}{C:Ct}{w w':LI4}(h:Valid M D C w)(hw:w'.heap=w.heap):Valid M D C w':=
 ⟨fun k l hk hd=>let ⟨b,h1,h2⟩:=h.ok k l hk hd;⟨b,h1,h2.mono (.refl _) (fun c _=>by rw[hw])⟩,h.own,by rw[hw];exact h.inb⟩
def dL(M:Mp)(k:Key)(l:Lc):Mp:=fun j=>if j=k then some l else M j
def lZ(C:Ct)(k:Key)(b:HB):Ct:=fun j=>if j=k then some b else C j
theorem mQ{M:Mp}{k:Key}{l:Lc}(h:∀l0,M k=some l0->L9 l0 l):sK M (dL M k l):=by
 intro j l0 hj;by_cases hjk:j=k
 .subst hjk;exact⟨l,by simp[dL],h l0 hj⟩
 exact⟨l0,by simp[dL,hjk,hj],.refl _⟩
theorem Valid.upd{M:Mp}{D D':Key->Prop}{C:Ct}{w w':LI4}(h:Valid M D C w)(k:Key)(b:HB)(l:Lc)
  (hD:∀j,D' j->D j∨j=k)
  (hold:∀l0,M k=some l0->D k∧L9 l0 l∧∀b0,C k=some b0->wr b0=true)
  (gQ:∀c,c<w.heap.size->c∉aI l->w'.heap[c]? = w.heap[c]?)
  (gy:∀c∈aI l,(∃l0,M k=some l0∧c∈aI l0)∨w.heap.size<=c)
  (ES:w.heap.size<=w'.heap.size)
  (QW:pW (dL M k l).h w' b l):Valid (dL M k l) D' (lZ C k b) w':=by
 have hle:sK M (dL M k l):=mQ fun l0 h0=>(hold l0 h0).2.1;refine⟨?_,?_,?_⟩
 .intro j l0 hj hd;by_cases hjk:j=k
  .subst hjk;simp only[dL,a1I,a01]at hj;subst hj;exact⟨b,by simp[lZ],QW⟩
  .simp only[dL,hjk,a3l]at hj;obtain⟨b0,h1,h2⟩:=h.ok j l0 hj ((hD j hd).resolve_right hjk);refine⟨b0,by simp[lZ,hjk,h1],h2.mono hle.h fun c hc=>?_⟩;have aQ:=h.inb j l0 hj c hc;refine gQ c aQ fun pV=>?_;rcases gy c pV with⟨l1,QX,hc1⟩|ET
   .obtain⟨hDk,_,hw⟩:=hold l1 QX;obtain⟨b1,CW,_⟩:=h.ok k l1 QX hDk;exact h.own k j l1 l0 b1 (fun e=>hjk e.symm) QX hj hDk CW (hw b1 CW) c hc1 hc
   .omega
 .intro j j' l0 l0' b0 iF hj E5 hd hb hw c hc Qu;by_cases hjk:j=k
  .subst hjk;have a9h:j'≠j:=fun e=>iF e.symm;simp only[dL,a1I,a01]at hj;subst hj;simp only[dL,a9h,a3l]at E5;have aQ:=h.inb j' l0' E5 c Qu;rcases gy c hc with⟨l1,QX,hc1⟩|ET
   .obtain⟨hDk,_,hw⟩:=hold l1 QX;obtain⟨b1,CW,_⟩:=h.ok j l1 QX hDk;exact h.own j j' l1 l0' b1 iF QX E5 hDk CW (hw b1 CW) c hc1 Qu
   .omega
  .simp only[dL,hjk,a3l]at hj;simp only[lZ,hjk,a3l]at hb;have hdj:=(hD j hd).resolve_right hjk;have aQ:=h.inb j l0 hj c hc;by_cases a9h:j'=k
   .subst a9h;simp only[dL,a1I,a01]at E5;subst E5;rcases gy c Qu with⟨l1,QX,hc1⟩|ET
    .exact h.own j j' l0 l1 b0 iF hj QX hdj hb hw c hc hc1
    .omega
   .simp only[dL,a9h,a3l]at E5;exact h.own j j' l0 l0' b0 iF hj E5 hdj hb hw c hc Qu
 .intro j l0 hj c hc;by_cases hjk:j=k
  .subst hjk;simp only[dL,a1I,a01]at hj;subst hj;exact QW.inb c hc
  .simp only[dL,hjk,a3l]at hj;exact a9H (h.inb j l0 hj c hc) ES
structure Ext(M0:Mp)(C0:Ct)(w0:LI4)(M:Mp)(C:Ct)(w:LI4)(ws:List Key):Prop where
 IK:sK M0 M
 frame:∀c,c<w0.heap.size->(∀k∈ws,∀l,M0 k=some l->c∉aI l)->w.heap[c]? = w0.heap[c]?
 nM:∀k,(C0 k).isSome=true->k∉ws->C k=C0 k
 lH:∀k,((C0 k).isSome=true∨C k=none)->k∉ws->M k=M0 k
 fresh:∀k l,M k=some l->∀c∈aI l,c<w0.heap.size->∃l0,M0 k=some l0∧c∈aI l0
 size:w0.heap.size<=w.heap.size
 has:∀k,(C0 k).isSome=true->(C k).isSome=true
 wsub:∀k∈ws,(C0 k).isSome=true
 wrote:∀k∈ws,(M0 k).isSome=true∧∀b,C0 k=some b->wr b=true
 os:w.os=w0.os
 output:w.output=w0.output
 tape:w.tape=w0.tape
theorem Ext.refl(M:Mp)(C:Ct)(w:LI4):Ext M C w M C w []:=
 ⟨.refl _,fun _ _ _=>rfl,fun _ _ _=>rfl,fun _ _ _=>rfl,fun _ l h c hc _=>⟨l,h,hc⟩,a0E _,fun _ h=>h,(by simp),(by simp),rfl,rfl,rfl⟩
theorem Ext.drew{M0:Mp}{C0:Ct}{w0:LI4}{M:Mp}{C:Ct}{w w':LI4}{ws:List Key}(h:Ext M0 C0 w0 M C w ws)
  (hh:w'.heap=w.heap) (ho:w'.os=w.os) (hu:w'.output=w.output) (ht:w'.tape=w.tape):Ext M0 C0 w0 M C w' ws:=
 { h with frame:=(by rw[hh];exact h.frame),size:=(by rw[hh];exact h.size),os:=ho.trans h.os,output:=hu.trans h.output,tape:=ht.trans h.tape }
theorem Ext.trans{M0 M M':Mp}{C0 C C':Ct}{w0 w w':LI4}{ws VT ae1:List Key}(h:Ext M0 C0 w0 M C w ws)(h':Ext M C w M' C' w' VT)
  (hd:∀k l,M0 k=some l->(C0 k).isSome=true) (hs:∀k,(C0 k).isSome=true->(k∈ws∨k∈VT)->k∈ae1) (hb:∀k∈ae1,(C0 k).isSome=true∧(k∈ws∨k∈VT)) :
  Ext M0 C0 w0 M' C' w' ae1 where
 IK:=h.IK.trans h'.IK
 frame:=by intro c hc hf;have h1:w.heap[c]? = w0.heap[c]?:=h.frame c hc fun k hk l hl=>hf k (hs k (h.wsub k hk) (.inl hk)) l hl;rw[<-h1];refine h'.frame c (a9H hc h.size) fun k hk l hl pV=>?_;obtain⟨l0,h2,h3⟩:=h.fresh k l hl c pV hc;exact hf k (hs k (hd k l0 h2) (.inr hk)) l0 h2 h3
 nM:=fun k hk hn=>by have hn1:k∉ws:=fun e=>hn (hs k hk (.inl e));have E8:k∉VT:=fun e=>hn (hs k hk (.inr e));rw[h'.nM k (h.has k hk) E8,h.nM k hk hn1]
 lH:=fun k hk hn=>by
  rcases hk with hk|hk
  .have hn1:k∉ws:=fun e=>hn (hs k hk (.inl e));have E8:k∉VT:=fun e=>hn (hs k hk (.inr e));rw[h'.lH k (.inl (h.has k hk)) E8,h.lH k (.inl hk) hn1]
  .have hC:C k=none:=by
    cases hc:C k with
    |none=>rfl
    |some b=>have:=h'.has k (by simp[hc]);simp[hk]at this
   have E8:k∉VT:=fun e=>by have:=h'.wsub k e;simp[hC]at this
   have hn1:k∉ws:=fun e=>by have:=h.has k (h.wsub k e);simp[hC]at this
   rw[h'.lH k (.inr hk) E8,h.lH k (.inr hC) hn1]
 fresh:=fun k l hl c hc aQ=>by obtain⟨l1,h1,h2⟩:=h'.fresh k l hl c hc (a9H aQ h.size);exact h.fresh k l1 h1 c h2 aQ
 size:=a4Z h.size h'.size
 has:=fun k hk=>h'.has k (h.has k hk)
 wsub:=fun k hk=>(hb k hk).1
 wrote:=fun k hk=>by
  by_cases h1:k∈ws
  .exact h.wrote k h1
  .have h2:=h'.wrote k ((hb k hk).2.resolve_left h1);rw[h.lH k (.inl (hb k hk).1) h1,h.nM k (hb k hk).1 h1]at h2;exact h2
 os:=h'.os.trans h.os
 output:=h'.output.trans h.output
 tape:=h'.tape.trans h.tape
theorem Ext.upd{M:Mp}{C:Ct}{w w':LI4}(k:Key)(b:HB)(l:Lc)(ws:List Key)
  (YJ:((C k).isSome=true∧ws=[k]∧(M k).isSome=true∧∀b,C k=some b->wr b=true)∨(C k=none∧M k=none∧ws=[]))
  (hle:sK M (dL M k l))
  (gQ:∀c,c<w.heap.size->c∉aI l->w'.heap[c]? = w.heap[c]?)
  (gy:∀c∈aI l,(∃l0,M k=some l0∧c∈aI l0)∨w.heap.size<=c)
  (ES:w.heap.size<=w'.heap.size) (ho:w'.os=w.os) (hou:w'.output=w.output) (ht:w'.tape=w.tape) :
  Ext M C w (dL M k l) (lZ C k b) w' ws where
 IK:=hle
 frame:=by
  intro c hc hf;refine gQ c hc fun pV=>?_;rcases gy c pV with⟨l0,h1,h2⟩|ET
  .rcases YJ with⟨_,rfl,_⟩|⟨_,hn,_⟩
   .exact hf k (by simp) l0 h1 h2
   .rw[hn]at h1;cases h1
  .omega
 nM:=fun j hj hn=>by
  have:j≠k:=by
   rintro rfl;rcases YJ with⟨_,rfl,_⟩|⟨h1,_⟩
   .simp at hn
   .simp[h1]at hj
  simp[lZ,this]
 lH:=fun j hj hn=>by
  have:j≠k:=by
   rintro rfl;rcases YJ with⟨_,rfl,_⟩|⟨h1,_⟩
   .simp at hn
   .rcases hj with hj|hj
    .simp[h1]at hj
    .simp[lZ]at hj
  simp[dL,this]
 fresh:=fun j l0 hj c hc aQ=>by
  by_cases hjk:j=k
  .subst hjk;simp only[dL,a1I,a01]at hj;subst hj;rcases gy c hc with h1|ET
   .exact h1
   .omega
  .simp only[dL,hjk,a3l]at hj;exact⟨l0,hj,hc⟩
 size:=ES
 has:=fun j hj=>by
  by_cases hjk:j=k
  .simp[lZ,hjk]
  .simpa[lZ,hjk]using hj
 wsub:=by
  rcases YJ with⟨h1,rfl,_⟩|⟨_,_,rfl⟩
  .intro j hj;simp at hj;subst hj;exact h1
  .simp
 wrote:=by
  rcases YJ with⟨_,rfl,h1⟩|⟨_,_,rfl⟩
  .intro j hj;simp at hj;subst hj;exact h1
  .simp
 os:=ho
 output:=hou
 tape:=ht
theorem ER.mono{M M':Mp}(hm:sK M M')(hl:∀k l,M (.l k)=some l->M' (.l k)=some l){e:EV}{x:LI3}(h:ER M e x):ER M' e x:=by
 cases h with
 |val h=>exact .val (h.mono hm.h)
 |loc h hb=>exact .loc (hl _ _ h) hb
 |undef=>exact .undef
 |ent h hi hv=>
  obtain⟨l',h1,h2⟩:=hm _ _ h;cases l' with
  |cells _=>exact h2.elim
  |obj r1 o'=>
   obtain⟨rfl,t,rfl⟩:=h2;exact .ent h1 (by rw[a0p (a0a.1 hi).1];exact hi) (hv.mono hm.h)
 |EG h hi=>
  obtain⟨l',h1,h2⟩:=hm _ _ h;cases l' with
  |cells _=>exact h2.elim
  |obj r1 o'=>
   obtain⟨rfl,t,rfl⟩:=h2;exact .EG h1 (by rw[a0p (a0a.1 hi).1];exact hi)
structure NG(M:Mp)(D:Key->Prop)(C:Ct)(w:LI4)(v:EV)(C1:Ct)(ws:List Key)(x:LI3)(w':LI4)(M':Mp):Prop where
 val:Valid M' (fun k=>D k∨(C k=none∧(C1 k).isSome=true)) C1 w'
 ext:Ext M C w M' C1 w' ws
 er:ER M' v x
 loc:∀k l,M (.l k)=some l->M' (.l k)=some l
theorem NG.same{M:Mp}{D:Key->Prop}{C:Ct}{w:LI4}{v:EV}{x:LI3}(h:Valid M D C w)(he:ER M v x):NG M D C w v C [] x w M:=
 ⟨⟨fun k l hk hd=>h.ok k l hk (hd.elim id fun⟨a,b⟩=>by simp[a]at b),fun k k' l l' b a1 a2 a3 hd=>h.own k k' l l' b a1 a2 a3 (hd.elim id fun⟨a,b⟩=>by simp[a]at b),h.inb⟩,.refl M C w,he,fun _ _ h=>h⟩
theorem wJ(w:LI4)(o:Obj)(i:Nat)(h:i<w.heap.size):(w.alloc o).heap[i]? = w.heap[i]?:=by show(w.heap.push o)[i]? = w.heap[i]?;rw[Array.getElem?_push,a0q (Nat.ne_of_lt h)]
section
variable {P:LI1} {w:LI4}
theorem jd{t:LI2}{i:TypeInfo}(h:P.info? t=some i):(typeInfo t).run P w=.ok i w:=by simp[typeInfo,h]
theorem Fv{t:LI2}{n:Nat}(h:dH P t=some n):∃i,P.info? t=some i∧i.size=n:=by simpa[dH]using h
theorem dh{t:LI2}{n:Nat}(h:dH P t=some n):(Go.sizeOf t).run P w=.ok n w:=by obtain⟨i,h1,h2⟩:=Fv h;simp[Go.sizeOf,jd h1,h2]
theorem Ai{t:LI2}{b:Bool}(h:wE P t=some b):(isAgg t).run P w=.ok b w:=by
 unfold wE at h;split at h<;>simp at h<;>subst h
 .simp[isAgg,run_underlying ‹_›]
 .simp[isAgg,run_underlying ‹_›]
 rename_i d _ _ hu;simp only[isAgg,Sem.run_bind,run_underlying hu,Result.andThen_ok];cases d<;>simp_all
theorem uz(c o n:Nat):(⟨c,o,none⟩:Addr).add n=⟨c,o+n,none⟩:=by unfold Addr.add;split<;>simp_all
theorem IY{N:Np}{c:TV}{v:LI3}(h:VR N c v)(ho:jc c=true):v.oneCell'=true:=by cases h<;>first|rfl|simp[jc]at ho
theorem uD{cs:List TV}{off n:Nat}{r:List TV}(h:sub cs off n=some r):off+n<=cs.length∧r=(cs.drop off).take n∧r.length=n:=by
 unfold sub at h;split at h
 .rename_i hl;simp at h;subst h;exact⟨hl,rfl,by simp;omega⟩
 simp at h
theorem vY{cs:List TV}{off:Nat}{new r:List TV}(h:wC cs off new=some r) :
  off+new.length<=cs.length∧r=cs.take off++new++cs.drop (off+new.length)∧r.length=cs.length:=by
 unfold wC at h;split at h
 .rename_i hl;simp at h;subst h;exact⟨hl,by simp,by simp;omega⟩
 .simp at h
theorem ND.slice{N:Np}{k:BK}{cs:List TV}{p:Pl}(h:ND N w k cs p){off n:Nat}{r:List TV}(hr:sub cs off n=some r)(he:off+n<=p.ext)(hz:k=.last->p.ext=cs.length) :
  ∃xs:List LI3,bY N r xs∧∀(j:Nat) (v:LI3),xs[j]? = some v->w.cell? ⟨p.c,p.base+off+j,none⟩=some v:=by
 obtain⟨arr,ty,fz,h1,h2,_,h4⟩:=h.row;obtain⟨s1,s2,s3⟩:=uD hr;have hf:=h.fit;refine⟨(arr.toList.drop (p.base+off)).take n,⟨by rw[s3];simp;omega,fun i c v a b=>?_⟩,fun j v hj=>?_⟩
 .rw[s2,a4v]at a;rw[a4v]at b;split at a
  .rename_i hi;rw[a0u hi,a4w]at b;rw[a4w]at a;exact h4 hz (off+i) c v (by omega) a (by simpa[aaz]using b)
  .simp at a
 .rw[a4v]at hj;split at hj
  .rw[a4w]at hj;simp only[World.cell?,h1];simpa using hj
  .simp at hj
theorem yN{N:Np}{k:BK}{cs:List TV}{p:Pl}(h:ND N w k cs p){off n:Nat}{r:List TV}(hr:sub cs off n=some r)(he:off+n<=p.ext)(hz:k=.last->p.ext=cs.length) :
  ∃xs:List LI3,bY N r xs∧∀w':LI4,w'.heap=w.heap->(loadCells ⟨p.c,p.base+off,none⟩ n).run P w'=.ok xs.toArray w':=by
 obtain⟨xs,h1,h2⟩:=h.slice hr he hz;refine⟨xs,h1,fun w' hw'=>?_⟩;have hl:xs.length=n:=by rw[<-h1.len];exact(uD hr).2.2
 have:=run_loadCells_list (P:=P) w' ⟨p.c,p.base+off,none⟩ xs (fun j v hj=>by rw[uz];have e:=h2 j v hj;simp only[World.cell?,hw']at e ⊢;exact e)
 rwa [hl]at this
theorem Kv{N:Np}{k:BK}{cs:List TV}{p:Pl}(h:ND N w k cs p){t:LI2}{off n:Nat}{v:TV}(hs:dH P t=some n)
  (hv:uy P t cs off=some v) (he:off+n<=p.ext) (hz:k=.last->p.ext=cs.length) :
  ∃x,VR N v x∧(loadVar t ⟨p.c,p.base+off,none⟩).run P w=.ok x w:=by
 unfold uy at hv;rw[hs]at hv;cases ha:wE P t with
 |none=>simp[ha]at hv
 |some b=>
  cases b with
  |true=>
   simp only[ha,a0i]at hv;obtain⟨r,hr,rfl⟩:=hv;obtain⟨xs,g1,g2⟩:=yN (P:=P) h hr he hz;exact⟨_,.agg' g1,by simp[loadVar,Ai ha,dh hs,g2 w rfl]⟩
  |false=>
   simp only[ha]at hv;split at hv
   case isFalse=>simp at hv
   rename_i hn1;have he1:off+1<=p.ext:=(by omega);have aQ:=(a0a.1 hv).1;have hr:sub cs off 1=some [v]:=by unfold sub;rw[a0u (by omega)];congr 1;rw[a6d aQ];have:=(a0a.1 hv).2;simp[this]
   obtain⟨xs,g1,g2⟩:=h.slice hr he1 hz;obtain⟨x,xs',rfl,gx,_⟩:=g1.iT;have:=g2 0 x rfl;simp only[adR]at this;exact⟨x,gx,by simp[loadVar,Ai ha,this]⟩
end
theorem IZ{M:Mp}{k:Key}{l:Lc}(h:M k=some l):dL M k l=M:=by
 funext j;unfold dL;split
 .rename_i e;rw[e,h]
 rfl
theorem kF(s:St)(b:HB)(e:List (Nat×EV))(ws:List Nat):St.get { s with heap:=s.heap++[b],env:=e,ws:=ws }=lZ s.get (.h s.heap.length) b:=by
 funext k
 cases k with
 |h j=>
  simp only[St.get,lZ,Key.h.injEq];split
  .rename_i e;subst e;simp
  rename_i e;by_cases hj:j<s.heap.length
  .rw[a0p hj]
  rw[a4r (by simp;omega),a4r (by omega)]
 |l j=>simp[St.get,lZ]
theorem jF(s:St)(i:Nat)(b:HB)(h:i<s.heap.length)(e:List (Nat×EV))(ws:List Nat):St.get { s with heap:=s.heap.set i b,env:=e,ws:=ws }=lZ s.get (.h i) b:=by
 funext k
 cases k with
 |h j=>
  simp only[St.get,lZ,Key.h.injEq];rw[a9V];by_cases hj:i=j
  .subst hj;simp[h]
  rw[a0q hj,a0q (fun e=>hj e.symm)]
 |l j=>simp[St.get,lZ]
theorem QY(s:St)(cs:List TV)(e:List (Nat×EV))(ws:List Nat):St.get { s with loc:=s.loc++[cs],env:=e,ws:=ws }=lZ s.get (.l s.loc.length) (.cells .own cs):=by
 funext k
 cases k with
 |l j=>
  simp only[St.get,lZ,Key.l.injEq];split
  .rename_i e;subst e;simp
  rename_i e;by_cases hj:j<s.loc.length
  .rw[a0p hj]
  rw[a4r (by simp;omega),a4r (by omega)]
 |h j=>simp[St.get,lZ]
theorem NH(s:St)(i:Nat)(cs:List TV)(h:i<s.loc.length)(e:List (Nat×EV))(ws:List Nat):St.get { s with loc:=s.loc.set i cs,env:=e,ws:=ws }=lZ s.get (.l i) (.cells .own cs):=by
 funext k
 cases k with
 |l j=>
  simp only[St.get,lZ,Key.l.injEq];rw[a9V];by_cases hj:i=j
  .subst hj;simp[h]
  rw[a0q hj,a0q (fun e=>hj e.symm)]
 |h j=>simp[St.get,lZ]
theorem yh{h:List HB}{b lim:Nat}{cs:List TV}(e:mM h b lim=some cs):∃k,h[b]? = some (.cells k cs)∧(k=.last->lim=cs.length):=by
 unfold mM at e;split at e
 .rename_i k cs' hb;split at e
  .cases e
  rename_i hn;simp at e;subst e;exact⟨k,hb,fun hk=>Decidable.not_not.1 fun hl=>hn ⟨hk,hl⟩⟩
 simp at e
theorem Kw{k k':BK}{b:Bool}(e:Ag k b=some k'):(k=.own∧k'=.own)∨((k=.grow∨k=.last)∧k'=.last∧b=true):=by unfold Ag at e;split at e<;>simp_all
theorem J3{h h':List HB}{b off lim:Nat}{new:List TV}(e:TT h b off lim new=some h') :
  ∃k k' cs cs',h[b]? = some (.cells k cs)∧((k=.own∧k'=.own)∨((k=.grow∨k=.last)∧k'=.last∧lim=cs.length))∧wC cs off new=some cs'∧h'=h.set b (.cells k' cs'):=by
 unfold TT at e;split at e
 .rename_i k cs hb;split at e
  .rename_i k' hk;simp only[a0i]at e;obtain⟨cs',h1,h2⟩:=e;refine⟨k,k',cs,cs',hb,?_,h1,h2.symm⟩;rcases Kw hk with h|⟨a,b,c⟩
   .exact .inl h
   .exact .inr ⟨a,b,by simpa using c⟩
  .cases e
 .simp at e
theorem VU{arr:Array LI3}{off:Nat}{xs:List LI3}(i:Nat)(h:off+xs.length<=arr.size) :
  (arr.toList.take off++xs++arr.toList.drop (off+xs.length)).toArray[i]? = if i<off then arr[i]? else if i<off+xs.length then xs[i-off]? else arr[i]?:=by
 have hl:(arr.toList.take off).length=off:=by simp;omega
 simp only[adS];by_cases h1:i<off
 .rw[a0u h1,a5d,a0p (by omega),a4v,a0u h1];simp
 .rw[a0q h1];by_cases h2:i<off+xs.length
  .rw[a0u h2,a5d,a0G (by omega),hl,a0p (by omega)]
  .rw[a0q h2,a0G (by simp;omega),a4w];have:off+xs.length+(i-(List.take off arr.toList++xs).length)=i:=by simp;omega
   rw[this];simp
theorem a2x{cs new r:List TV}{off:Nat}(h:wC cs off new=some r)(i:Nat) :
  r[i]? = if i<off then cs[i]? else if i<off+new.length then new[i-off]? else cs[i]?:=by
 obtain⟨h1,h2,_⟩:=vY h;have hl:(cs.take off).length=off:=by simp;omega
 rw[h2];by_cases h1:i<off
 .rw[a0u h1,a5d,a0p (by omega),a4v,a0u h1]
 .rw[a0q h1];by_cases h2:i<off+new.length
  .rw[a0u h2,a5d,a0G (by omega),hl,a0p (by omega)]
  .rw[a0q h2,a0G (by simp;omega),a4w];congr 1;simp;omega
theorem VW{cs new r:List TV}{off:Nat}(h:wC cs off new=some r)(hc:∀c∈cs,jc c=true)(hn:∀c∈new,jc c=true):∀c∈r,jc c=true:=by
 obtain⟨_,h2,_⟩:=vY h;intro c hcr;rw[h2]at hcr;simp only[a3c]at hcr;rcases hcr with(h|h)|h
 .exact hc c (a9e h)
 .exact hn c h
 exact hc c (a4X h)
theorem vT(w:LI4)(g:Nat)(arr:Array LI3)(c:Nat)(h:c≠g):(w.setRow g arr).heap[c]? = w.heap[c]?:=by simp only[World.setRow,abU];rw[a0q (fun e=>h e.symm)]
theorem NJ(w:LI4)(g:Nat)(arr cur:Array LI3)(ty:LI2)(fz:Nat×Nat)(h:w.heap[g]? = some (.cells cur ty fz)):(w.setRow g arr).heap[g]? = some (.cells arr ty fz):=by simp[World.setRow,abU,h]
theorem Valid.widen{M:Mp}{D:Key->Prop}{C C1:Ct}{w':LI4}(h:Valid M D C1 w')(hn:∀k,C k=none->C1 k=none):Valid M (fun j=>D j∨(C j=none∧(C1 j).isSome=true)) C1 w':=
 have aux:∀j,(D j∨(C j=none∧(C1 j).isSome=true))->D j:=fun j hj=>hj.elim id fun⟨a,b⟩=>by rw[hn j a]at b;cases b
 ⟨fun k l hk hd=>h.ok k l hk (aux k hd),fun k k' l l' b a1 a2 a3 hd=>h.own k k' l l' b a1 a2 a3 (aux k hd),h.inb⟩
theorem Ea{C:Ct}{k:Key}{b:HB}(hk:(C k).isSome=true):∀j,C j=none->lZ C k b j=none:=by
 intro j hj;unfold lZ;split
 .rename_i e;subst e;rw[hj]at hk;cases hk
 exact hj
theorem Valid.wrB{M:Mp}{D:Key->Prop}{C:Ct}{w:LI4}(h:Valid M D C w){k:Key}{ls:List Pl}{p:Pl}{cs:List TV}{kk BJ:BK}(hk:M k=some (.cells ls))(hd:D k)
  (hc:C k=some (.cells kk cs)) (hp:p∈ls) (yj:(kk=.own∧BJ=.own)∨((kk=.grow∨kk=.last)∧BJ=.last∧p.ext=cs.length)) :
  p.base=0∧p.ext=cs.length∧(∀c∈cs,jc c=true)∧(∀q∈ls,ND M.h w kk cs q)∧(ls.map (·.c)).Nodup∧(∀q∈ls,q.ext=cs.length->q=p) ∧
  ∃(arr:Array LI3) (ty:LI2),w.heap[p.c]? = some (.cells arr ty (0,0))∧arr.size=p.tot∧cs.length<=p.tot ∧
   ∀(i:Nat) (c:TV) (v:LI3),cs[i]? = some c->arr[i]? = some v->VR M.h c v:=by
 obtain⟨b,h1,h2⟩:=h.ok k _ hk hd;rw[hc]at h1;cases h1;obtain⟨g1,g2,g3,g4⟩:=h2;have iF:kk≠.ro:=by rcases yj with⟨e,_⟩|⟨e|e,_⟩<;>rw[e]<;>simp
 have Eb:=g2 p hp;have hb:=Eb.base iF;have hx:p.ext=cs.length∧(ls.map (·.c)).Nodup∧∀q∈ls,q.ext=cs.length->q=p:=by
  rcases yj with⟨e,_⟩|⟨e,_,he⟩
  .obtain⟨q,rfl,hq⟩:=g3 e;simp at hp;subst hp;exact⟨hq,by simp,fun q' hq' _=>by simpa using hq'⟩
  .obtain⟨n1,n2⟩:=g4 e;exact⟨he,n1,fun q hq hqe=>n2 q hq p hp hqe he⟩
 obtain⟨arr,ty,fz,r1,r2,r3,r4⟩:=Eb.row;have:=r3 iF;subst this;have hf:=Eb.fit;refine⟨hb,hx.1,g1,g2,hx.2.1,hx.2.2,arr,ty,r1,r2,by omega,fun i c v a b=>?_⟩;have hi:=(a0a.1 a).1;exact r4 (fun _=>hx.1) i c v (by omega) a (by simpa[hb]using b)
theorem Valid.YK{M:Mp}{D:Key->Prop}{C:Ct}{w:LI4}(h:Valid M D C w){k:Key}{ls:List Pl}{p:Pl}{cs:List TV}{kk BJ:BK}{lim:Nat}(hk:M k=some (.cells ls))(hd:D k)
  (hc:C k=some (.cells kk cs)) (hp:p∈ls) (hl:lim<=p.ext) (yj:(kk=.own∧BJ=.own)∨((kk=.grow∨kk=.last)∧BJ=.last∧lim=cs.length)) :
  (kk=.own∧BJ=.own)∨((kk=.grow∨kk=.last)∧BJ=.last∧p.ext=cs.length):=by
 rcases yj with e|⟨e1,e2,e3⟩
 .exact .inl e
 .obtain⟨b,h1,h2⟩:=h.ok k _ hk hd;rw[hc]at h1;cases h1;have:=(h2.2.1 p hp).ext;exact .inr ⟨e1,e2,by omega⟩
theorem NM:∀{ls:List Pl},(ls.map (·.c)).Nodup->∀{p q:Pl},p∈ls->q∈ls->q.c=p.c->q=p
 | [],_,p,q,hp,_,_=>by simp at hp
 |a::ls,h,p,q,hp,hq,e=>by
  simp only[a4t,a4z]at h;rcases a1F.1 hp with h1|h1<;>rcases a1F.1 hq with h2|h2
  .rw[h1,h2]
  .exact(h.1 (a1k.2 ⟨q,h2,by rw[e,h1]⟩)).elim
  .exact(h.1 (a1k.2 ⟨p,h1,by rw[<-e,h2]⟩)).elim
  exact NM h.2 h1 h2 e
theorem zf{P:LI1}{M:Mp}{D:Key->Prop}{C:Ct}{w:LI4}(h:Valid M D C w){k:Key}{ls:List Pl}{p:Pl}{cs cs' new:List TV}{off:Nat}{xs:List LI3}{kk BJ:BK}
  (hk:M k=some (.cells ls)) (hd:D k) (hc:C k=some (.cells kk cs)) (hp:p∈ls) (yj:(kk=.own∧BJ=.own)∨((kk=.grow∨kk=.last)∧BJ=.last∧p.ext=cs.length))
  (ho:wC cs off new=some cs') (hx:bY M.h new xs) (hn:∀c∈new,jc c=true) :
  ∃w',(storeCells ⟨p.c,p.base+off,none⟩ xs).run P w=.ok () w'∧Valid M D (lZ C k (.cells BJ cs')) w'∧Ext M C w M (lZ C k (.cells BJ cs')) w' [k]:=by
 obtain⟨hb,he,h1,Eb,jG,huq,arr,ty,hr,hs,hle,hv⟩:=h.wrB hk hd hc hp yj;obtain⟨o1,o2,o3⟩:=vY ho;have hlen:=hx.len;have iF:kk≠.ro:=by rcases yj with⟨e,_⟩|⟨e|e,_⟩<;>rw[e]<;>simp
 have ahx:BJ≠.ro:=by rcases yj with⟨_,e⟩|⟨_,e,_⟩<;>rw[e]<;>simp
 have Yw:∀b0,C k=some b0->wr b0=true:=fun b0 Ad=>by rw[hc]at Ad;cases Ad;cases kk<;>simp_all [wr]
 have Fz:∀v∈xs,v.oneCell'=true:=by
  intro v hv;obtain⟨i,hi,rfl⟩:=a4N.1 hv;have wF:i<new.length:=by omega
  exact IY (hx.at_ i new[i] xs[i] (by simp[wF]) (by simp[hi])) (hn _ (a4D wF))
 have vU:=run_storeCells_at (P:=P) p.c (p.base+off) ty xs 0 arr w hr (by omega) Fz;simp only[adR,hb,a3I]at vU
 let w':LI4:=w.setRow p.c (arr.toList.take off++xs++arr.toList.drop (off+xs.length)).toArray
 have qI:dL M k (.cells ls)=M:=IZ hk;have gQ:∀c,c<w.heap.size->c∉aI (.cells ls)->w'.heap[c]? = w.heap[c]?:=fun c _ hc=>vT w p.c _ c (fun e=>hc (by rw[e];exact a1k.2 ⟨p,hp,rfl⟩));have gy:∀c∈aI (.cells ls),(∃l0,M k=some l0∧c∈aI l0)∨w.heap.size<=c:=fun c hc=>.inl ⟨_,hk,hc⟩;have vk:w.heap.size<=w'.heap.size:=by simp[w']
 have J4:sK M (dL M k (.cells ls)):=by rw[qI];exact .refl _
 refine⟨w',by rw[hb,a3I];exact vU,?_,?_⟩
 .have:=h.upd (D':=D) (w':=w') k (.cells BJ cs') (.cells ls) (fun j hj=>.inl hj) (fun l0 h0=>by
   rw[hk]at h0;cases h0;exact⟨hd,.refl _,Yw⟩) gQ gy vk (by
   rw[qI];refine⟨VW ho h1 hn,fun q hq=>?_,fun e=>?_,fun e=>⟨jG,fun q1 IL q2 Gw e1 e2=>by rw[huq q1 IL (by omega),huq q2 Gw (by omega)]⟩⟩
   .have YL:=Eb q hq;by_cases Yx:q.c=p.c
    .have:=NM jG hp hq Yx;subst this;refine⟨⟨_,ty,(0,0),NJ w q.c _ arr ty (0,0) hr,by simp;omega,fun _=>rfl,fun _ i c v hi a b=>?_⟩,by omega,by omega,fun _=>hb⟩;rw[hb,a3I,VU i (by omega)]at b;rw[a2x ho i,hlen]at a;split at a
     .rename_i hi1;rw[a0u hi1]at b;exact hv i c v a b
     .rename_i hi1;rw[a0q hi1]at b;split at a
      .rename_i Le;rw[a0u Le]at b;exact hx.at_ _ c v a b
      .rename_i Le;rw[a0q Le]at b;exact hv i c v a b
    .obtain⟨uT,ty',fz',t1,t2,t3,t4⟩:=YL.row;refine⟨⟨uT,ty',fz',(vT w p.c _ q.c Yx).trans t1,t2,fun _=>t3 iF,fun hz i c v hi a b=>?_⟩,YL.fit,by have:=YL.ext;omega,fun _=>YL.base iF⟩;exfalso;apply Yx;rcases yj with⟨e,_⟩|⟨_,e,_⟩
     .obtain⟨b',g1,g2⟩:=h.ok k _ hk hd;rw[hc]at g1;cases g1;obtain⟨q',g3,_⟩:=g2.2.2.1 e;rw[g3]at hq hp;simp at hq hp;rw[hq,hp]
     .rw[huq q hq (by rw[hz e];omega)]
   .rcases yj with⟨e0,_⟩|⟨_,e1,_⟩
    .obtain⟨b',g1,g2⟩:=h.ok k _ hk hd;rw[hc]at g1;cases g1;obtain⟨q',g3,g4⟩:=g2.2.2.1 e0;exact⟨q',g3,by omega⟩
    .rw[e1]at e;cases e)
  rwa [qI]at this
 .have:=Ext.upd (M:=M) (C:=C) (w:=w) (w':=w') k (.cells BJ cs') (.cells ls) [k] (.inl ⟨by simp[hc],rfl,by simp[hk],Yw⟩) J4 gQ gy vk rfl rfl rfl
  rwa [qI]at this
theorem NP{M:Mp}{D:Key->Prop}{C:Ct}{w:LI4}(h:Valid M D C w){k:Key}{cs:List TV}{arr:Array LI3}(ty:LI2)
  (hk:M k=none) (hc:C k=none) (hl:cs.length<=arr.size) (hx:∀(i:Nat) (c:TV) (v:LI3),cs[i]? = some c->arr[i]? = some v->VR M.h c v) (hn:∀c∈cs,jc c=true) :
  Valid (dL M k (.cells [⟨w.heap.size,0,cs.length,arr.size⟩])) (fun j=>D j∨(C j=none∧(lZ C k (.cells .own cs) j).isSome=true)) (lZ C k (.cells .own cs)) (w.alloc (.cells arr ty)) ∧
  Ext M C w (dL M k (.cells [⟨w.heap.size,0,cs.length,arr.size⟩])) (lZ C k (.cells .own cs)) (w.alloc (.cells arr ty)) []:=by
 have hle:sK M (dL M k (.cells [⟨w.heap.size,0,cs.length,arr.size⟩])):=mQ fun l0 h0=>by rw[hk]at h0;cases h0
 have gQ:∀c,c<w.heap.size->c∉aI (.cells [⟨w.heap.size,0,cs.length,arr.size⟩])->(w.alloc (.cells arr ty)).heap[c]? = w.heap[c]?:=fun c hc _=>wJ w _ c hc;have gy:∀c∈aI (.cells [⟨w.heap.size,0,cs.length,arr.size⟩]),(∃l0,M k=some l0∧c∈aI l0)∨w.heap.size<=c:=fun c hc=>.inr (by simp[aI]at hc;omega);refine⟨h.upd k _ _ (fun j hj=>?_) (fun l0 h0=>by rw[hk]at h0;cases h0) gQ gy (by simp) ?_,Ext.upd k _ _ [] (.inr ⟨hc,hk,rfl⟩) hle gQ gy (by simp) rfl rfl rfl⟩
 .rcases hj with hj|⟨a,b⟩
  .exact .inl hj
  .right;unfold lZ at b;split at b
   .assumption
   .simp[a]at b
 .refine⟨hn,fun q hq=>?_,fun _=>⟨_,rfl,rfl⟩,by simp⟩;simp at hq;subst hq;exact⟨⟨arr,ty,(0,0),heap_alloc_new w _,rfl,fun _=>rfl,fun _ i c v _ a b=>(hx i c v a (by simpa using b)).mono hle.h⟩,by simpa using hl,a0E _,fun _=>rfl⟩
theorem a4R{M:Mp}{env:List (Nat×EV)}{a:Act}(hE:jY M env a.tmps){x:Operand}{e:EV}(h:IJ env x=some e):ER M e (a.eval x):=by
 cases x with
 |tmp t=>exact hE t e h
 |const v=>
  simp only[IJ,a0i]at h;obtain⟨t,h1,rfl⟩:=h;exact .val (.yM h1)
 |func f=>
  simp only[IJ,a01]at h;subst h;exact .val (VR.fn (xs:=[]) (ys:=[]) rfl (by simp) rfl (by simp))
 |global g=>simp[IJ]at h
theorem YM{M:Mp}{env:List (Nat×EV)}{a:Act}(hE:jY M env a.tmps){x:Operand}{v:TV}(h:qO env x=some v):VR M.h v (a.eval x):=by
 unfold qO at h;split at h
 .rename_i v' he;simp at h;subst h;exact(a4R hE he).vS
 simp at h
structure PR(N:Np)(ps:List (Nat×TV))(qs:List (Nat×LI3)):Prop where
 len:ps.length=qs.length
 at_:∀(i:Nat) (p:Nat×TV) (q:Nat×LI3),ps[i]? = some p->qs[i]? = some q->p.1=q.1∧VR N p.2 q.2
theorem PR.nil{N:Np}:PR N [] []:=⟨rfl,by simp⟩
theorem PR.cons{N:Np}{i:Nat}{v:TV}{x:LI3}{ps:List (Nat×TV)}{qs:List (Nat×LI3)}(h:VR N v x)(hs:PR N ps qs):PR N ((i,v)::ps) ((i,x)::qs):=
 ⟨by simp[hs.len],fun j p q a b=>by
  cases j with
  |zero=>simp at a b;subst a;subst b;exact⟨rfl,h⟩
  |succ j=>simp at a b;exact hs.at_ j p q a b⟩
theorem PR.iT{N:Np}{i:Nat}{v:TV}{ps:List (Nat×TV)}{qs:List (Nat×LI3)}(h:PR N ((i,v)::ps) qs):∃x qs',qs=(i,x)::qs'∧VR N v x∧PR N ps qs':=by
 cases qs with
 |nil=>have:=h.len;simp at this
 |cons q qs'=>
  have h0:=h.at_ 0 (i,v) q rfl rfl;obtain⟨j,x⟩:=q;obtain⟨h1,h2⟩:=h0;simp only at h1;subst h1;exact⟨x,qs',rfl,h2,⟨by have:=h.len;simpa using this,fun j p q a b=>h.at_ (j+1) p q (by simpa using a) (by simpa using b)⟩⟩
theorem PR.qo{N:Np}{qs:List (Nat×LI3)}(h:PR N [] qs):qs=[]:=by have:=h.len;simp at this;exact a4a this.symm
def ahA(P:LI1)(c:Sem Next)(w:LI4)(x:LI3)(w':LI4):Prop:=
 c.run P w=.ok (.value x) w'∨(x=Go.undef∧c.run P w=.ok .skip w')
def Gx(P:LI1)(M:Mp)(D:Key->Prop)(C:Ct)(w:LI4)(c:Sem Next)(v:EV)(C1:Ct)(ws:List Key):Prop:=
 ∃x w' M',ahA P c w x w'∧NG M D C w v C1 ws x w' M'
section
variable {P:LI1} {M:Mp} {D:Key->Prop} {w:LI4} {s:St}
theorem Gx.same{C:Ct}{c:Sem Next}{v:EV}{x:LI3}(hV:Valid M D C w)(hr:c.run P w=.ok (.value x) w)(he:ER M v x):Gx P M D C w c v C []:=
 ⟨x,w,M,.inl hr,.same hV he⟩
theorem qV{k:Key}{l:Lc}(hk:M k=none):∀j l',M (.l j)=some l'->dL M k l (.l j)=some l':=by intro j l' h;unfold dL;rw[a0q (fun e=>by rw[<-e,h]at hk;cases hk)];exact h
theorem a4S(hV:Valid M D s.get w)(zi:M (.h s.heap.length)=none)(hnl:M (.l s.loc.length)=none)(site:Bool){cs:List TV}{xs:Array LI3}(ty:LI2)
  (hx:bY M.h cs xs.toList) (hn:∀c∈cs,jc c=true) {v:EV} {s1:St} (h:qP site s cs=(v,s1)) :
  ∃M',NG M D s.get w v s1.get [] (.pointer (some ⟨w.heap.size,0,none⟩)) (w.alloc (.cells xs ty)) M':=by
 have hlen:cs.length<=xs.size:=by have:=hx.len;simpa using agY this
 have EU:∀(i:Nat) (c:TV) (v:LI3),cs[i]? = some c->xs[i]? = some v->VR M.h c v:=fun i c v a b=>hx.at_ i c v a (by simpa using b);unfold qP at h;cases site with
 |true=>
  simp only[a1I,a0z]at h;obtain⟨rfl,rfl⟩:=h;have hc:s.get (.h s.heap.length)=none:=by simp[St.get]
  have:=NP hV ty zi hc hlen EU hn;refine⟨dL M (.h s.heap.length) (.cells [⟨w.heap.size,0,cs.length,xs.size⟩]),⟨?_,?_,?_,qV zi⟩⟩
  .rw[kF];exact this.1
  .rw[kF];exact this.2
  .exact .val (VR.ptr (p:=⟨w.heap.size,0,cs.length,xs.size⟩) (ls:=[⟨w.heap.size,0,cs.length,xs.size⟩]) (by simp[Mp.h,dL]) (by simp) (a0E _) (by simpa using hlen))
 |false=>
  simp only[a2z,a3l,a0z]at h;obtain⟨rfl,rfl⟩:=h;have hc:s.get (.l s.loc.length)=none:=by simp[St.get]
  have:=NP hV ty hnl hc hlen EU hn;refine⟨dL M (.l s.loc.length) (.cells [⟨w.heap.size,0,cs.length,xs.size⟩]),⟨?_,?_,?_,qV hnl⟩⟩
  .rw[QY];exact this.1
  .rw[QY];exact this.2
  .exact ER.loc (p:=⟨w.heap.size,0,cs.length,xs.size⟩) (by simp[dL]) rfl
theorem a0t{x:LI3}{c:TV}(h:TV.ofC x=some c):jc c=true:=by unfold TV.ofC at h;split at h<;>simp at h<;>subst h<;>rfl
theorem VX:∀{xs:List LI3} {cs:List TV},TV.CJ xs=some cs->∀c∈cs,jc c=true
 | [],cs,h=>by simp[TV.CJ]at h;subst h;simp
 |x::xs,cs,h=>by
  simp only[TV.CJ]at h;split at h
  .rename_i v vs h1 h2;simp at h;subst h;intro c hc;rcases a1F.1 hc with rfl|hc
   .exact a0t h1
   exact VX h2 c hc
  simp at h
theorem a2y{x:LI3}{v:TV}(h:TV.VJ x=some v):∀c∈v.cells,jc c=true:=by
 unfold TV.VJ at h;split at h
 .simp only[a0i]at h;obtain⟨vs,h1,rfl⟩:=h;exact VX h1
 have h1:=a0t h;cases v<;>simp[jc]at h1<;>simp[TV.cells,jc]
theorem wK{t:LI2}{z:List TV}(h:Kr P t=some z):∃i x v,P.info? t=some i∧i.zero=some x∧TV.VJ x=some v∧z=v.cells∧(∀c∈z,jc c=true) ∧
  (∀N:Np,bY N z x.cells.toList)∧∀w,(zeroValue t).run P w=.ok x w:=by
 unfold Kr at h;split at h
 .rename_i i hi;split at h
  .rename_i x hx;simp only[a0i]at h;obtain⟨v,h1,rfl⟩:=h;exact⟨i,x,v,hi,hx,h1,rfl,a2y h1,fun N=>(VR.yM h1).cells,fun w=>by simp[zeroValue,jd hi,hx]⟩
  .simp at h
 .simp at h
theorem YN(vs:List LI3):∀(k off:Nat) (arr:Array LI3),off+k+vs.length<=arr.size ->
  ((vs.zipIdx k).foldl (fun(cs:Array LI3) (c:LI3×Nat)=>cs.setIfInBounds (off+c.2) c.1) arr).toList=arr.toList.take (off+k)++vs++arr.toList.drop (off+k+vs.length):=by
 induction vs with
 |nil=>intro k off arr h;simp
 |cons v vs ih=>
  intro k off arr h;simp only[a4q]at h;simp only[List.zipIdx_cons,adB];rw[ih (k+1) off _ (by simp;omega)];have e:=list_seg_step arr.toList (off+k) v vs (by simp;omega);simpa[Array.toList_setIfInBounds,aaz]using e
theorem LM{N:Np}{place place':Nat->Option (Nat×Nat)}(hp:∀i x,place i=some x->place' i=some x):∀{ps:List (Nat×TV)} {qs:List (Nat×LI3)} {cs r:List TV} {arr:Array LI3},sJ place cs ps=some r->PR N ps qs ->
  bY N cs arr.toList->∃uT,Instr.fill place' arr qs=some uT∧bY N r uT.toList
 | [],qs,cs,r,arr,h,hq,hc=>by have:=hq.qo;subst this;simp[sJ]at h;subst h;exact⟨arr,rfl,hc⟩
 |(i,v)::ps,qs,cs,r,arr,h,hq,hc=>by
  obtain⟨x,qs',rfl,hx,hq'⟩:=hq.iT;simp only[sJ]at h;split at h
  .rename_i off size Eb;split at h
   .rename_i vk;split at h
    .rename_i cs' ho;obtain⟨o1,o2,o3⟩:=vY ho;have hxc:=hx.cells;have hl1:=hxc.len;have QZ:=hc.len;simp only[aa6]at hl1 QZ;have e:(x.cells.zipIdx.foldl (fun(cs:Array LI3) (c:LI3×Nat)=>cs.setIfInBounds (off+c.2) c.1) arr).toList=arr.toList.take off++x.cells.toList++arr.toList.drop (off+x.cells.toList.length):=by rw[<-Array.foldl_toList,Array.toList_zipIdx];have:=YN x.cells.toList 0 off arr (by simp;omega);simpa using this
     have Qu:bY N cs' (x.cells.zipIdx.foldl (fun(cs:Array LI3) (c:LI3×Nat)=>cs.setIfInBounds (off+c.2) c.1) arr).toList:=by have hlx:x.cells.toList.length=v.cells.length:=(by simp[hl1]);rw[e,o2,hlx];exact((hc.take off).append hxc).append (hc.drop _)
     obtain⟨uT,g1,g2⟩:=LM hp h hq' Qu;refine⟨uT,?_,g2⟩;simp only[Instr.fill,hp i _ Eb];rw[a0q (by simp;omega)];exact g1
    .simp at h
   .simp at h
  .simp at h
theorem NQ{w:LI4}:∀(fs:List Field),CO P fs=true->(fs.mapM (fun f=>Functor.map (Prod.mk f.offset) (Go.sizeOf f.type):Field->Sem (Nat×Nat))).run P w=.ok (fs.map fun f=>(f.offset,(dH P f.type).getD 0)) w
 | [],_=>by simp
 |f::fs,h=>by simp only[CO,ac3,a2f]at h;obtain⟨n,hn⟩:=a5h.1 h.1;have ih:=NQ (w:=w) fs (by simpa[CO]using h.2);simp only[List.mapM_cons,Sem.run_bind,Sem.run_map,dh hn,Result.andThen_ok,Sem.run_pure,ih,a4t,hn,a6k]
theorem a4U{N:Np}{t:LI2}{ps:List (Nat×TV)}{qs:List (Nat×LI3)}{v:TV}(h:Nr P t ps=some v)(hq:PR N ps qs) :
  ∃x,VR N v x∧∀w,(Instr.build t qs.toArray).run P w=.ok x w:=by
 unfold Nr at h;split at h
 .rename_i z fs hz hu;split at h
  .rename_i ha;simp only[a0i]at h;obtain⟨r,hr,rfl⟩:=h;obtain⟨i,x,v,_,_,_,_,_,hvr,hzr⟩:=wK hz;obtain⟨uT,g1,g2⟩:=LM (place':=fun i=>(fs.map fun f=>(f.offset,(dH P f.type).getD 0))[i]?) (fun i x hx=>by
    unfold TU at hx;split at hx
    .rename_i f hf;simp only[a0i]at hx;obtain⟨n,hn,rfl⟩:=hx;simp[hf,hn]
    .simp at hx) hr hq (hvr N)
   refine⟨_,.agg' g2,fun w=>?_⟩;have hm:(fs.mapM (fun f=>Functor.map (Prod.mk f.offset) (Go.sizeOf f.type):Field->Sem (Nat×Nat))).run P w=.ok (fs.map fun f=>(f.offset,(dH P f.type).getD 0)) w:=by rw[Array.mapM_eq_mapM_toList,Sem.run_map,NQ fs.toList ha];simp only[Result.andThen_ok];congr 1;apply adX;simp
   simp only[Array.getElem?_map]at g1;simp[Instr.build,hzr w,run_underlying hu,hm,g1]
  .simp at h
 .rename_i z n e hz hu;split at h
  .rename_i n hn;simp only[a0i]at h;obtain⟨r,hr,rfl⟩:=h;obtain⟨i,x,v,_,_,_,_,_,hvr,hzr⟩:=wK hz;obtain⟨uT,g1,g2⟩:=LM (place':=fun i=>some (i*n,n)) (fun i x hx=>hx) hr hq (hvr N);exact⟨_,.agg' g2,fun w=>by simp[Instr.build,hzr w,run_underlying hu,dh hn,g1]⟩
  .simp at h
 .simp at h
end
section
variable {P:LI1} {M:Mp} {D:Key->Prop} {w:LI4} {s:St}
theorem VY{t:LI2}{cs:List TV}{off:Nat}{v:TV}(h:uy P t cs off=some v):∃n,dH P t=some n∧off+n<=cs.length:=by
 unfold uy at h;split at h
 .rename_i n _ hn;simp only[a0i]at h;obtain⟨r,hr,_⟩:=h;exact⟨n,hn,(uD hr).1⟩
 .rename_i n _ hn;split at h
  .rename_i h1;subst h1;exact⟨1,hn,(a0a.1 h).1⟩
  simp at h
 simp at h
theorem a0v{N:Np}{t:LI2}{cs:List TV}{off:Nat}{v:TV}{xs:List LI3}(h:uy P t cs off=some v)(hx:bY N cs xs) :
  ∃x,VR N v x∧(Go.part t xs.toArray off).run P w=.ok x w:=by
 unfold uy at h;split at h
 .rename_i n ha hn;simp only[a0i]at h;obtain⟨r,hr,rfl⟩:=h;obtain⟨s1,s2,s3⟩:=uD hr;have hl:=hx.len;refine⟨.agg ((xs.drop off).take n).toArray,.agg' (by rw[s2];exact(hx.drop off).take n),?_⟩;simp[Go.part,Ai ha,dh hn]
 .rename_i n ha hn;split at h
  .obtain⟨x,h1,h2⟩:=hx.get h;exact⟨x,h2,by simp[Go.part,Ai ha,h1]⟩
  .simp at h
 .simp at h
theorem Gy{t:LI2}{e:EV}{v:TV}{i:mJ}{x:LI3}(hV:Valid M D s.get w)(h:loadT P t s e=some (v,i))(hx:ER M e x)(hD:∀k∈i.ts,D k) :
  i.ws=[]∧∃y,VR M.h v y∧(Instr.loadAt t x).run P w=.ok y w:=by
 unfold loadT at h;split at h
 .rename_i k off;split at h
  .rename_i cs hk;simp only[a0i,a0z]at h;obtain⟨v',hv,rfl,rfl⟩:=h;cases hx with
   |loc hm hb=>
    rename_i p;have hg:s.get (.l k)=some (.cells .own cs):=(by simp[St.get,hk]);have hd:=hD (.l k) (by simp[xP]);obtain⟨b,h1,h2⟩:=hV.ok _ _ hm hd;rw[hg]at h1;cases h1;obtain⟨_,h3,h4,_⟩:=h2;obtain⟨q,hq,he⟩:=h4 rfl;simp at hq;subst hq;obtain⟨n,hn,hle⟩:=VY hv;obtain⟨y,g1,g2⟩:=Kv (P:=P) (h3 p (by simp)) hn hv (by omega) (fun e=>by cases e);rw[hb,a3I]at g2;exact⟨rfl,y,g1,by simp[Instr.loadAt,Instr.sureAddr,g2]⟩
  .simp at h
 .rename_i b off lim;split at h
  .rename_i cs n hb hn;split at h
   .rename_i Lh;simp only[a0i,a0z]at h;obtain⟨v',hv,rfl,rfl⟩:=h;cases hx with
    |val hx=>
     cases hx with
     |ptr hm hp hl ht=>
      rename_i ls p;obtain⟨k,hk,VZ⟩:=yh hb;have hd:=hD (.h b) (by simp[xP]);obtain⟨gJ,h1,h2⟩:=hV.ok _ _ hm hd;simp only[St.get,hk,a01]at h1;subst h1;obtain⟨_,h3,_⟩:=h2;obtain⟨y,g1,g2⟩:=Kv (P:=P) (h3 p hp) hn hv (by omega) (fun e=>by have:=VZ e;have:=(h3 p hp).ext;omega);exact⟨rfl,y,g1,by simp[Instr.loadAt,Instr.sureAddr,g2]⟩
   .simp at h
  .simp at h
 .simp at h
theorem LP{l:List TV}(h:l.all jc=true):∀c∈l,jc c=true:=by simpa using h
theorem YO{t:LI2}{e:EV}{v:TV}{i:mJ}{x y:LI3}{s1:St}(hV:Valid M D s.get w)(h:storeT P t s e v=some (s1,i))(hx:ER M e x)(hy:VR M.h v y)(hD:∀k∈i.ts,D k) :
  s1.env=s.env∧∃w',(Instr.storeAt t x y).run P w=.ok () w'∧Valid M D s1.get w'∧Ext M s.get w M s1.get w' i.ws∧∀k,s.get k=none->s1.get k=none:=by
 unfold storeT at h;split at h
 case h_2=>simp at h
 rename_i n hn;split at h
 case isFalse=>simp at h
 rename_i hc;obtain⟨hlen,Fz⟩:=hc;have hyc:=hy.cells;have hyl:y.cells.size=n:=by have:=hyc.len;simp at this;omega
 split at h
 .rename_i k off;split at h
  .rename_i cs hk;simp only[a0i,a0z]at h;obtain⟨cs',ho,rfl,rfl⟩:=h;cases hx with
   |loc hm hb=>
    rename_i p;have hg:s.get (.l k)=some (.cells .own cs):=(by simp[St.get,hk]);obtain⟨w',r1,r2,r3⟩:=zf (P:=P) hV hm (hD _ (by simp[pF])) hg (a2D.2 rfl) (.inl ⟨rfl,rfl⟩) ho hyc (LP Fz);have Kz:=(a0a.1 hk).1;refine⟨rfl,w',?_,?_,?_,?_⟩
    .rw[hb,a3I]at r1;simp[Instr.storeAt,Instr.sureAddr,storeVar,dh hn,hyl,r1]
    .rw[NH s k cs' Kz];exact r2
    .rw[NH s k cs' Kz];exact r3
    .rw[NH s k cs' Kz];exact Ea (by simp[hg])
  .simp at h
 .rename_i b off lim;split at h
  .rename_i Lh;simp only[a0i,a0z]at h;obtain⟨h',hs,rfl,rfl⟩:=h;cases hx with
   |val hx=>
    cases hx with
    |ptr hm hp hl ht=>
     rename_i ls p;obtain⟨kk,BJ,cs,cs',hb,yj,ho,rfl⟩:=J3 hs;have hg:s.get (.h b)=some (.cells kk cs):=(by simp[St.get,hb]);obtain⟨w',r1,r2,r3⟩:=zf (P:=P) hV hm (hD _ (by simp[pF])) hg hp (hV.YK hm (hD _ (by simp[pF])) hg hp hl yj) ho hyc (LP Fz);have Kz:=(a0a.1 hb).1;refine⟨rfl,w',?_,?_,?_,?_⟩
     .simp[Instr.storeAt,Instr.sureAddr,storeVar,dh hn,hyl,r1]
     .rw[jF s b _ Kz];exact r2
     .rw[jF s b _ Kz];exact r3
     .rw[jF s b _ Kz];exact Ea (by simp[hg])
  .simp at h
 .simp at h
theorem Gz{n:Nat}{v:TV}{j:Nat}{N:Np}{x:LI3}(h:idx n v=some j)(hx:VR N v x):∃k i,x=.int k i∧0<=i∧i<n∧j=i.toNat∧j<n:=by
 unfold idx at h;split at h
 .rename_i k i;split at h
  .rename_i hc;simp at h;subst h;cases hx;exact⟨k,i,rfl,hc.1,hc.2,rfl,by omega⟩
  simp at h
 simp at h
theorem NR{o:Nat}{e e':EV}{x:LI3}(h:Qq o e=some e')(hx:ER M e x):∃a,x=.pointer (some a)∧ER M e' (.pointer (some (a.add o))):=by
 unfold Qq at h;split at h
 .simp at h;subst h;cases hx with
  |loc hm hb=>exact⟨_,rfl,by rw[uz];exact .loc hm hb⟩
 .rename_i b off lim;split at h
  .rename_i hl;simp at h;subst h;cases hx with
   |val hx=>
    cases hx with
    |ptr hm hp hl ht=>exact⟨_,rfl,by rw[uz,aaz];exact .val (.ptr hm hp hl ht)⟩
  simp at h
 simp at h
theorem U3{t:LI2}{f n:Nat}{e e':EV}{x:LI3}(h1:Gt P t f=some n)(h:Qq n e=some e')(hx:ER M e x) :
  ∃y,ER M e' y∧(Instr.fieldAt t x f).run P w=.ok y w:=by
 obtain⟨a,rfl,he⟩:=NR h hx;unfold Gt at h1;split at h1
 .rename_i fs hu;split at h1
  .rename_i fd hf;split at h1
   .rename_i m hm;split at h1
    .simp at h1
    .rename_i hz;simp at h1;subst h1;refine⟨_,he,?_⟩;simp[Instr.fieldAt,run_underlying hu,hf,Instr.sureAddr,fieldPlace,dh hm,hz]
   .simp at h1
  .simp at h1
 .simp at h1
theorem NS{N:Np}{t:LI2}{f:Nat}{v v':TV}{x:LI3}(h:Ns P t v f=some v')(hx:VR N v x) :
  ∃y,VR N v' y∧(Instr.field t x f).run P w=.ok y w:=by
 unfold Ns at h;split at h
 .rename_i fs cs hu;split at h
  .rename_i fd hf;cases hx with
   |agg g1 g2=>
    obtain⟨y,r1,r2⟩:=a0v (P:=P) (w:=w) h ⟨g1,g2⟩;exact⟨y,r1,by simp[Instr.field,run_underlying hu,hf,asAgg,r2]⟩
  .simp at h
 .simp at h
theorem Aj{t:LI2}{e e':EV}{v:TV}{x y:LI3}(h:mO P t e v=some e')(hx:ER M e x)(hy:VR M.h v y) :
  ∃z,ER M e' z∧(Instr.indexAt t x y).run P w=.ok z w:=by
 unfold mO at h;split at h
 .rename_i el hu;split at h
  .rename_i n b off len cap sz ex hn;split at h
   .rename_i vk;simp only[a0i]at h;obtain⟨j,hj,rfl⟩:=h;subst vk;obtain⟨k,i,rfl,h0,h1,rfl,h2⟩:=Gz hj hy;cases hx with
    |val hx=>
     cases hx with
     |aP hb hp hl hle hc hex ha hk=>
      rename_i ls p a cap';rcases ha with ha|⟨rfl,ha⟩
      .omega
      .have hmul:i.toNat*n+n<=len*n:=by
        have:=a3w n (show i.toNat+1<=len by omega)
        rwa [a3i,aa8]at this
       have abO:cap*n<=cap'*n:=a3w n (by omega);have hp:=hp.resolve_left (by omega);refine⟨_,.val (.ptr hb hp (lim:=off+cap*n) (off:=off+i.toNat*n) (by omega) (by omega)),?_⟩;simp[Instr.indexAt,asIntOf,run_underlying hu,h0,h1,dh hn,uz,aaz]
   .simp at h
  .simp at h
 .rename_i len el hu;split at h
  .rename_i n hn;split at h
   .rename_i j hj;obtain⟨k,i,rfl,h0,h1,rfl,h2⟩:=Gz hj hy;obtain⟨a,rfl,he⟩:=NR h hx;refine⟨_,he,?_⟩;simp[Instr.indexAt,asIntOf,run_underlying hu,Instr.sureAddr,h0,h1,dh hn]
   .simp at h
  .simp at h
 .simp at h
theorem NT{N:Np}{t:LI2}{v u r:TV}{x y:LI3}(h:IW P t v u=some r)(hx:VR N v x)(hy:VR N u y) :
  ∃z,VR N r z∧(Instr.index t x y).run P w=.ok z w:=by
 unfold IW at h;split at h
 .rename_i len el cs hu;split at h
  .rename_i n j hn hj;obtain⟨k,i,rfl,h0,h1,rfl,h2⟩:=Gz hj hy;cases hx with
   |agg g1 g2=>
    obtain⟨z,r1,r2⟩:=a0v (P:=P) (w:=w) h ⟨g1,g2⟩;exact⟨z,r1,by simp[Instr.index,asIntOf,run_underlying hu,h0,h1,dh hn,r2]⟩
  .simp at h
 .rename_i bs hu;split at h
  .rename_i j hj;obtain⟨k,i,rfl,h0,h1,rfl,h2⟩:=Gz hj hy;simp only[a0i]at h;obtain⟨b,hb,rfl⟩:=h;cases hx;exact⟨_,.int _ _,by simp[Instr.index,asIntOf,run_underlying hu,h0,hb]⟩
  .simp at h
 .simp at h
end
section
variable {P:LI1} {M:Mp} {D:Key->Prop} {w:LI4} {s:St}
theorem a0w{N:Np}:∀{az:List TV} {xs ys:List LI3},BX az=some xs->bY N az ys->ys=xs
 | [],xs,ys,h,hy=>by simp[BX]at h;subst h;exact hy.qo
 |c::az,xs,ys,h,hy=>by
  simp only[BX]at h;split at h
  .rename_i v vs h1 h2;simp at h;subst h;obtain⟨u,us,rfl,hu,hus⟩:=hy.iT;rw[wH h1 hu,a0w h2 hus]
  simp at h
def GH:NK->LI3->Prop
 |.ptr,x=>x=.pointer none
 |.aP,x=>x=.slice none 0 0
 |.map,x=>x=.map none
 |.fn,x=>x=.nilFunc
 |.ifc,x=>x=.nilIface
def yO:NK->LI3->Prop
 |.ptr,x=>∃a,x=.pointer (some a)
 |.aP,x=>∃a l c,x=.slice (some a) l c
 |.map,x=>∃r,x=.map (some r)
 |.fn,x=>∃f a c,x=.func f a c
 |.ifc,_=>False
theorem a0x{N:Np}{v:TV}{k:NK}{x:LI3}(h:YH v=some k)(hx:VR N v x):GH k x:=by cases hx<;>simp[YH]at h<;>subst h<;>rfl
theorem W9{N:Np}{v:TV}{k:NK}{x:LI3}(h:Kt v=some k)(hx:VR N v x):yO k x:=by cases hx<;>simp[Kt]at h<;>subst h<;>simp[yO]
theorem a4W{t:LI2}{k:NK}(h:Ku P t=some k):match k with
  |.ptr=>∃e,P.underlying t=some (.pointer e)
  |.aP=>∃e,P.underlying t=some (.slice e)
  |.map=>∃e f,P.underlying t=some (.map e f)
  |.fn=>∃e f g,P.underlying t=some (.func e f g)
  |.ifc=>False:=by
 unfold Ku at h;split at h<;>simp at h<;>subst h<;>simp_all
theorem a2A{t:LI2}{k:NK}{x y:LI3}(h:Ku P t=some k)(hxy:(GH k x∧yO k y)∨(yO k x∧GH k y))(d:Nat) :
  (Op.equalIn (d+1) t x y).run P w=.ok false w:=by
 have hk:=a4W h;cases k with
 |ptr=>
  obtain⟨e,hu⟩:=hk;rcases hxy with⟨hx,a,rfl⟩|⟨⟨a,rfl⟩,hy⟩
  .cases hx;simp[Op.equalIn,run_underlying hu]
  .cases hy;simp[Op.equalIn,run_underlying hu]
 |aP=>
  obtain⟨e,hu⟩:=hk;rcases hxy with⟨hx,a,l,c,rfl⟩|⟨⟨a,l,c,rfl⟩,hy⟩
  .cases hx;simp[Op.equalIn,run_underlying hu]
  .cases hy;simp[Op.equalIn,run_underlying hu]
 |map=>
  obtain⟨e,f,hu⟩:=hk;rcases hxy with⟨hx,a,rfl⟩|⟨⟨a,rfl⟩,hy⟩
  .cases hx;simp[Op.equalIn,run_underlying hu]
  .cases hy;simp[Op.equalIn,run_underlying hu]
 |fn=>
  obtain⟨e,f,g,hu⟩:=hk;rcases hxy with⟨hx,a,b,c,rfl⟩|⟨⟨a,b,c,rfl⟩,hy⟩
  .cases hx;simp[Op.equalIn,run_underlying hu]
  .cases hy;simp[Op.equalIn,run_underlying hu]
 |ifc=>exact hk.elim
theorem a0y{t:LI2}{k:NK}{ox oy:Operand}{x y:LI3}(h:Ku P t=some k)(hxy:(GH k x∧yO k y)∨(yO k x∧GH k y))(b:Bool)(op:BinOp)(hb:(op=.eql∧b=false)∨(op=.neq∧b=true)) :
  (do eqGuard op t ox oy x y;binOp op t x y:Sem LI3).run P w=.ok (.bool b) w:=by
 have he:(Op.equal t x y).run P w=.ok false w:=a2A h hxy 9999;have hg:(eqGuard op t ox oy x y).run P w=.ok () w:=by
  cases k<;>rcases hxy with⟨hx,hy⟩|⟨hx,hy⟩<;>simp only[GH,yO]at hx hy <;>
   (first|(exact hy.elim)|(exact hx.elim)|skip)<;>(try obtain⟨_,rfl⟩:=hx)<;>(try obtain⟨_,rfl⟩:=hy)<;>(try obtain⟨_,_,rfl⟩:=hx)<;>(try obtain⟨_,_,rfl⟩:=hy)<;>(try subst hx)<;>(try subst hy) <;>
   (try obtain⟨_,_,_,rfl⟩:=hx)<;>(try obtain⟨_,_,_,rfl⟩:=hy)<;>rcases hb with⟨rfl,rfl⟩|⟨rfl,rfl⟩<;>simp[eqGuard]
 have Qv:(binOp op t x y).run P w=.ok (.bool b) w:=by
  cases k<;>rcases hxy with⟨hx,hy⟩|⟨hx,hy⟩<;>simp only[GH,yO]at hx hy <;>
   (first|(exact hy.elim)|(exact hx.elim)|skip)<;>(try obtain⟨_,rfl⟩:=hx)<;>(try obtain⟨_,rfl⟩:=hy)<;>(try obtain⟨_,_,rfl⟩:=hx)<;>(try obtain⟨_,_,rfl⟩:=hy)<;>(try subst hx)<;>(try subst hy) <;>
   (try obtain⟨_,_,_,rfl⟩:=hx)<;>(try obtain⟨_,_,_,rfl⟩:=hy)<;>rcases hb with⟨rfl,rfl⟩|⟨rfl,rfl⟩<;>simp only[binOp,Sem.run_bind,he,Result.andThen_ok,Sem.run_pure,abM]
 simp only[Sem.run_bind,hg,Result.andThen_ok,Qv]
theorem YP{N:Np}{op:BinOp}{t:LI2}{ox oy:Operand}{a b r:TV}{x y:LI3}(h:sO P op t ox oy a b=some r)(hx:VR N a x)(hy:VR N b y) :
  ∃z,VR N r z∧(do eqGuard op t ox oy x y;binOp op t x y:Sem LI3).run P w=.ok z w:=by
 unfold sO at h;split at h
 .rename_i u v hu hv;split at h
  .rename_i z hz;have e1:=wH hu hx;have e2:=wH hv hy;subst e1;subst e2;exact⟨z,.yM h,jk hz w⟩
  .simp at h
 .split at h
  .rename_i hn;unfold CP at hn;split at hn
   case h_2=>simp at hn
   rename_i k hk;have hxy:(GH k x∧yO k y)∨(yO k x∧GH k y):=by
    simp only[a9n,a2f,a6P]at hn;rcases hn with⟨h1,h2⟩|⟨h1,h2⟩
    .exact .inl ⟨a0x h1 hx,W9 h2 hy⟩
    .exact .inr ⟨W9 h1 hx,a0x h2 hy⟩
   split at h
   .simp at h;subst h;exact⟨_,.bool false,a0y hk hxy false _ (.inl ⟨rfl,rfl⟩)⟩
   .simp at h;subst h;exact⟨_,.bool true,a0y hk hxy true _ (.inr ⟨rfl,rfl⟩)⟩
   .simp at h
  .simp at h
theorem iZ{N:Np}{op:UnOp}{a r:TV}{x:LI3}(h:unT P op a=some r)(hx:VR N a x):∃z,VR N r z∧(Op.unary op x).run P w=.ok z w:=by
 unfold unT at h;split at h
 .rename_i u hu;split at h
  .rename_i z hz;have e1:=wH hu hx;subst e1;exact⟨z,.yM h,jk hz w⟩
  simp at h
 simp at h
theorem U4{N:Np}{t u:LI2}{a r:TV}{x:LI3}(h:QS P t u a=some r)(hx:VR N a x):∃z,VR N r z∧(convert t u x).run P w=.ok z w:=by
 unfold QS at h;split at h
 .rename_i u hu;split at h
  .rename_i z hz;have e1:=wH hu hx;subst e1;exact⟨z,.yM h,jk hz w⟩
  simp at h
 simp at h
theorem zk{N:Np}{mx:Bool}{at_:Array LI2}{t:LI2}{az:List TV}{r:TV}{xs:List LI3}(h:DZ P mx at_ t az=some r)(hx:bY N az xs) :
  ∃z,VR N r z∧(if mx then Builtin.max_ at_ t xs.toArray else Builtin.min_ at_ t xs.toArray).run P w=.ok z w:=by
 unfold DZ at h;split at h
 .rename_i us hu;split at h
  .rename_i z hz;have e1:=a0w hu hx;subst e1;exact⟨z,.yM h,jk hz w⟩
  .simp at h
 .simp at h
theorem lJ{n j:Nat}{v:TV}(h:qQ n v=some j):j<=n:=by
 unfold qQ at h;split at h
 .split at h
  .simp at h;omega
  simp at h
 simp at h
theorem sV{N:Np}{n j m:Nat}{v:TV}{x:LI3}{code:BoundsCode}(h:qQ n v=some j)(hx:VR N v x)(hm:j<=m) :
  (Instr.sliceBound x m code).run P w=.ok j w:=by
 unfold qQ at h;split at h
 .rename_i k i;split at h
  .rename_i hc;simp at h;subst h;cases hx;have:i<=(m:Int):=(by omega);simp[Instr.sliceBound,asIntOf,hc.1,this]
  .simp at h
 .simp at h
inductive OR(N:Np):Option TV->Option LI3->Prop
 |none:OR N none none
 |some {v:TV} {x:LI3} (h:VR N v x):OR N (some v) (some x)
theorem yt{N:Np}{is:Bool}{len cap' n l0 hg:Nat}{lo hi:Option TV}{YQ wF:Option LI3}(hl:OR N lo YQ)(hh:OR N hi wF)
  (h1:jE n len hi=some hg) (h2:jE hg 0 lo=some l0) (h3:hg<=cap'):(Instr.sliceBounds is len cap' YQ wF none).run P w=.ok (l0,hg,cap') w:=by
 cases hh with
 |none=>
  simp only[jE,a01]at h1;subst h1;cases hl with
  |none=>simp only[jE,a01]at h2;subst h2;simp[Instr.sliceBounds]
  |some hv=>simp only[jE]at h2;simp[Instr.sliceBounds,sV (P:=P) (w:=w) h2 hv (lJ h2)]
 |some hv'=>
  simp only[jE]at h1;cases hl with
  |none=>simp only[jE,a01]at h2;subst h2;simp[Instr.sliceBounds,sV (P:=P) (w:=w) h1 hv' h3]
  |some hv=>simp only[jE]at h2;simp[Instr.sliceBounds,sV (P:=P) (w:=w) h1 hv' h3,sV (P:=P) (w:=w) h2 hv (lJ h2)]
theorem FB{N:Np}{is:Bool}{len cap' n k l0 hg m:Nat}{lo:Option TV}{hi mx:TV}{YQ:Option LI3}{wF mx':LI3}(hl:OR N lo YQ)(hh:VR N hi wF)(hm:VR N mx mx')
  (h0:qQ k mx=some m) (h1:qQ n hi=some hg) (h2:jE hg 0 lo=some l0) (h3:hg<=m) (h4:m<=cap'):(Instr.sliceBounds is len cap' YQ (some wF) (some mx')).run P w=.ok (l0,hg,m) w:=by
 have r1:=fun code=>sV (P:=P) (w:=w) (code:=code) h0 hm h4;have r2:=fun code=>sV (P:=P) (w:=w) (code:=code) h1 hh h3;cases hl with
 |none=>simp only[jE,a01]at h2;subst h2;simp[Instr.sliceBounds,r1,r2]
 |some hv=>simp only[jE]at h2;simp[Instr.sliceBounds,r1,r2,sV (P:=P) (w:=w) h2 hv (lJ h2)]
theorem NU{N:Np}{t:LI2}{v r:TV}{lo hi mx:Option TV}{x:LI3}{YQ wF mx':Option LI3}(h:qR P t v lo hi mx=some r)(hx:VR N v x)
  (hl:OR N lo YQ) (hh:OR N hi wF) (hm:OR N mx mx'):∃z,VR N r z∧(Instr.sliceAt t x YQ wF mx').run P w=.ok z w:=by
 unfold qR at h;split at h
 .-- strings
  rename_i bs hu;split at h
  .simp at h
  .cases hm;split at h
   .rename_i h0 iD;split at h
    .rename_i l0 qM;simp at h;subst h;cases hx;refine⟨_,.str _,?_⟩;have hle:h0<=bs.size:=by
      cases hi with
      |none=>simp only[jE,a01]at iD;omega
      |some v=>simp only[jE]at iD;exact lJ iD
     have e1:=yt (P:=P) (w:=w) (is:=false) (cap':=bs.size) hl hh iD qM hle;simp[Instr.sliceAt,Instr.slice,run_underlying hu,e1]
    .simp at h
   .simp at h
 .-- slices
  rename_i e b off len cap sz ex hu;split at h
  .rename_i n hn;split at h
   case isFalse=>simp at h
   rename_i vk;subst vk;cases hx with
   |aP hb hp FC hle wL hex ha hk=>
    rename_i ls p a cap';have fin:∀(l hgh m:Nat) (ex':Bool),l<=hgh->hgh<=len->hgh<=m->m<=cap'->(m':Nat)->m'<=m->m'<=cap->hgh<=m'->(ex'=true->m=m') ->
      VR N (.aP b (off+l*n) (hgh-l) (m'-l) n ex') (.slice (if m=l then some a else(some a).map (·.add (l*n))) (hgh-l) (m-l)):=by
     intro l hgh m ex' h1 h2 h3 h4 m' h5 h5' h6 h7;have hmul:l*n+(hgh-l)*n=hgh*n:=by rw[<-a3i];congr 1;omega
     have abO:m'*n<=cap*n:=a3w n h5';have arp:l*n+(m'-l)*n=m'*n:=by rw[<-a3i];congr 1;omega
     have BL:(if m=l then some a else(some a).map (·.add (l*n)))=some (if m=l then a else a.add (l*n)):=by split<;>rfl
     rw[BL];refine .aP hb (hp.imp (fun e=>by omega) id) (by omega) (by omega) (by omega) (fun e=>by have:=h7 e;omega) ?_ (by omega);by_cases hml:m=l
     .left;omega
     .right;rcases ha with ha|⟨rfl,ha⟩
      .omega
      .rw[a0q hml,uz];have arq:l*n+(m-l)*n=m*n:=by rw[<-a3i];congr 1;omega
       have ars:m*n<=cap'*n:=a3w n h4;exact⟨by rw[aaz],by omega⟩
    split at h
    .rename_i m0;cases hm with
     |some Qw=>
      split at h
      .rename_i m h0 hm1;split at h
       .rename_i hg xM;split at h
        .rename_i l0 qM;simp at h;subst h;cases hh with
         |some hhv=>
          have b1:=lJ hm1;have b2:=lJ xM;have b3:l0<=hg:=by
           cases lo with
           |none=>simp only[jE,a01]at qM;omega
           |some v=>simp only[jE]at qM;exact lJ qM
          have e1:=FB (P:=P) (w:=w) (is:=true) (len:=len) (cap':=cap') hl hhv Qw hm1 xM qM (by omega) (by omega);exact⟨_,fin l0 hg m true b3 (by omega) (by omega) (by omega) m (by omega) (by omega) (by omega) (fun _=>rfl),by simp[Instr.sliceAt,Instr.slice,run_underlying hu,e1,dh hn]⟩
        .simp at h
       .simp at h
      .simp at h
    .cases hm;split at h
     .rename_i hg iD;split at h
      .rename_i l0 qM;simp at h;subst h;have hgl:hg<=len:=by
        cases hi with
        |none=>simp only[jE,a01]at iD;omega
        |some v=>simp only[jE]at iD;exact lJ iD
       have hlg:l0<=hg:=by
        cases lo with
        |none=>simp only[jE,a01]at qM;omega
        |some v=>simp only[jE]at qM;exact lJ qM
       refine⟨_,fin l0 hg cap' ex hlg hgl (by omega) (by omega) cap wL (by omega) (by omega) hex,?_⟩;have e1:=yt (P:=P) (w:=w) (is:=true) (cap':=cap') hl hh iD qM (by omega);simp[Instr.sliceAt,Instr.slice,run_underlying hu,e1,dh hn]
      .simp at h
     .simp at h
  .simp at h
 .-- nil
  rename_i e hu;split at h
  .rename_i x0 x1 x2 x3 hn Rf iD qM;split at h
   .simp at h
   .rename_i hg;simp at h;subst h;cases hx;refine⟨_,.U1,?_⟩;have z1:∀{o:Option TV} {k:Nat},jE 0 0 o=some k->k=0:=fun{o k} e=>by
     cases o with
     |none=>simp only[jE,a01]at e;omega
     |some v=>simp only[jE]at e;have:=lJ e;omega
    have e2:=z1 iD;subst e2;have e3:=z1 qM;subst e3;have e1:(Instr.sliceBounds true 0 0 YQ wF mx').run P w=.ok (0,0,0) w:=by
     cases hm with
     |none=>exact yt hl hh iD qM (by omega)
     |some Qw=>
      have e4:=z1 Rf;subst e4;cases hh with
      |none=>simp at hg
      |some hhv=>exact FB hl hhv Qw Rf iD qM (by omega) (by omega)
    simp[Instr.sliceAt,Instr.slice,run_underlying hu,e1,dh hn]
  .simp at h
 .simp at h
theorem CX{t:LI2}{e:EV}{r:TV}{lo hi mx:Option TV}{x:LI3}{YQ wF mx':Option LI3}(h:qG P t e lo hi mx=some r)(hx:ER M e x)
  (hl:OR M.h lo YQ) (hh:OR M.h hi wF) (hm:OR M.h mx mx'):∃z,VR M.h r z∧(Instr.sliceAt t x YQ wF mx').run P w=.ok z w:=by
 unfold qG at h;split at h
 .rename_i n el b off lim hu;split at h
  .rename_i size hn;split at h
   .simp at h
   .rename_i hc;cases hx with
    |val hx=>
    cases hx with
    |ptr hb hp FC ank=>
    rename_i ls p;split at h
    .rename_i m Rf;split at h
     .rename_i hg iD;split at h
      .rename_i l0 qM;split at h
       .simp at h
       .rename_i hs;simp at h;subst h;have hmn:m<=n:=by
         cases mx with
         |none=>simp only[jE,a01]at Rf;omega
         |some v=>simp only[jE]at Rf;exact lJ Rf
        have hgm:hg<=m:=by
         cases hi with
         |none=>
          cases mx with
          |some v=>simp at hs
          |none=>simp only[jE,a01]at iD Rf;omega
         |some v=>simp only[jE]at iD;exact lJ iD
        have hlg:l0<=hg:=by
         cases lo with
         |none=>simp only[jE,a01]at qM;omega
         |some v=>simp only[jE]at qM;exact lJ qM
        have e1:(Instr.sliceBounds false n n YQ wF mx').run P w=.ok (l0,hg,m) w:=by
         cases hm with
         |none=>
          simp only[jE,a01]at Rf;subst Rf;exact yt hl hh iD qM (by omega)
         |some Qw=>
          cases hh with
          |none=>simp at hs
          |some hhv=>
           simp only[jE]at Rf iD;exact FB hl hhv Qw Rf iD qM (by omega) hmn
        have m1:l0*size+(hg-l0)*size=hg*size:=by rw[<-a3i];congr 1;omega
        have m2:l0*size+(m-l0)*size=m*size:=by rw[<-a3i];congr 1;omega
        have m3:hg*size<=n*size:=a3w size (by omega);have m4:m*size<=n*size:=a3w size (by omega);refine⟨.slice (some (if m=l0 then(⟨p.c,p.base+off,none⟩:Addr)else(⟨p.c,p.base+off,none⟩:Addr).add (l0*size))) (hg-l0) (m-l0),?_,?_⟩
        .refine .aP hb (.inr hp) (by omega) (by omega) (by omega) (fun _=>rfl) ?_ (by omega);by_cases hml:m=l0
         .left;omega
         .right;rw[a0q hml,uz];exact⟨by rw[aaz],by omega⟩
        .simp[Instr.sliceAt,run_underlying hu,Instr.sureAddr,e1,dh hn]
      .simp at h
     .simp at h
    .simp at h
  .simp at h
 .simp at h
theorem oD(z:List TV):∀n,(times z n).length=n*z.length
 | 0=>by simp[times]
 |n+1=>by simp[times,oD z n,a3i,Nat.add_comm]
theorem Rh(z:List TV)(hz:0<z.length):∀(n i:Nat),i<n*z.length->(times z n)[i]? = z[i%z.length]?
 | 0,i,h=>by simp at h
 |n+1,i,h=>by
  simp only[times];by_cases hi:i<z.length
  .rw[a0p hi,Nat.mod_eq_of_lt hi]
  rw[a0G (by omega),Rh z hz n (i-z.length) (by rw[a3i]at h;omega)];congr 1;rw[Nat.mod_eq_sub_mod (a:=i) (by omega)]
theorem J5{z:List TV}(h:∀c∈z,jc c=true):∀n,∀c∈times z n,jc c=true
 | 0=>by simp[times]
 |n+1=>by
  intro c hc;simp only[times,a3c]at hc;rcases hc with hc|hc
  .exact h c hc
  exact J5 h n c hc
theorem Wh{N:Np}{z:List TV}{x:Array LI3}(h:bY N z x.toList)(n m:Nat)(hm:m=n*z.length) :
  bY N (times z n) ((Array.range m).map (x[·%x.size]!)).toList:=by
 have hl:=h.len;simp only[aa6]at hl;refine⟨by simp[oD,hm],fun i c v a b=>?_⟩;have hi:i<n*z.length:=by have:=(a0a.1 a).1;rwa [oD]at this
 have hz:0<z.length:=by
  rcases abQ z.length with e|e
  .rw[e]at hi;simp at hi
  .exact e
 rw[Rh z hz n i hi]at a;have ahC:i%x.size<x.size:=Nat.mod_lt _ (by omega);have hb:v=x[i%x.size]:=by rw[adV,Array.getElem?_map]at b;simp only[Array.getElem?_range]at b;rw[a0u (by omega)]at b;simp only[a0A,a01]at b;rw[<-b,getElem!_pos x _ ahC]
 rw[hl]at a;exact h.at_ (i%x.size) c v a (by simp[hb,ahC])
theorem qW{t e:LI2}{n:Nat}(h:jL P t=some (e,n)):P.underlying t=some (.slice e)∧dH P e=some n∧0<n:=by
 unfold jL at h;split at h
 .rename_i e' hu;split at h
  .rename_i n' hn;split at h
   .simp at h
   simp at h;obtain⟨rfl,rfl⟩:=h;exact⟨hu,hn,by omega⟩
  simp at h
 simp at h
theorem Ri{place:Nat->Option (Nat×Nat)}:∀{ps:List (Nat×TV)} {cs r:List TV},sJ place cs ps=some r->r.length=cs.length
 | [],cs,r,h=>by simp[sJ]at h;rw[h]
 |(i,v)::ps,cs,r,h=>by
  simp only[sJ]at h;split at h
  .split at h
   .split at h
    .rename_i cs' ho;rw[Ri h,(vY ho).2.2]
    simp at h
   simp at h
  simp at h
theorem Rj{place:Nat->Option (Nat×Nat)}:∀{ps:List (Nat×TV)} {cs r:List TV},sJ place cs ps=some r->(∀c∈cs,jc c=true) ->
  (∀p∈ps,∀c∈p.2.cells,jc c=true)->∀c∈r,jc c=true
 | [],cs,r,h,h1,_=>by simp[sJ]at h;subst h;exact h1
 |(i,v)::ps,cs,r,h,h1,h2=>by
  simp only[sJ]at h;split at h
  .split at h
   .split at h
    .rename_i cs' ho;exact Rj h (VW ho h1 (h2 (i,v) (by simp))) (fun p hp=>h2 p (by simp[hp]))
    .simp at h
   .simp at h
  .simp at h
theorem uj{t:LI2}{len:Nat}{ps:List (Nat×TV)}{qs:List (Nat×LI3)}{r:TV}{s1:St}(hV:Valid M D s.get w)(zi:M (.h s.heap.length)=none)
  (h:qH P t len s ps=some (r,s1)) (hq:PR M.h ps qs) :
  s1.env=s.env∧∃x w' M',(Instr.buildSlice t len qs.toArray).run P w=.ok x w'∧NG M D s.get w (.val r) s1.get [] x w' M':=by
 unfold qH at h;split at h
 case h_2=>simp at h
 rename_i e n yP;obtain⟨hu,hn,hn0⟩:=qW yP;split at h
 case isFalse=>simp at h
 rename_i hc;obtain⟨hc1,KA⟩:=hc;split at h
 case h_2=>simp at h
 rename_i z hz;split at h
 case isFalse=>simp at h
 rename_i U5;split at h
 case h_2=>simp at h
 rename_i cs hf;simp at h;obtain⟨rfl,rfl⟩:=h;obtain⟨i,x,v,_,_,_,_,hz1,hvr,hzr⟩:=wK hz;have hx0:=(hvr M.h).len;simp only[aa6]at hx0;have ht:=Wh (hvr M.h) len (len*n) (by rw[U5]);obtain⟨uT,g1,g2⟩:=LM (place':=fun i=>some (i*n,n)) (fun i x hx=>hx) hf hq ht;have Fz:∀c∈cs,jc c=true:=Rj hf (J5 hz1 len) (fun p hp=>by have:=a4I.1 KA p hp;exact LP this)
 have hlen:cs.length=uT.size:=by have:=g2.len;simpa using this
 have pV:cs.length=len*n:=by rw[Ri hf,oD,U5]
 have yQ:s.get (.h s.heap.length)=none:=by simp[St.get]
 have EU:∀(i:Nat) (c:TV) (v:LI3),cs[i]? = some c->uT[i]? = some v->VR M.h c v:=fun i c v a b=>g2.at_ i c v a (by simpa using b);have gy:=NP hV e zi yQ (agY hlen) EU Fz;refine⟨rfl,.slice (some ⟨w.heap.size,0,none⟩) len len,w.alloc (.cells uT e),dL M (.h s.heap.length) (.cells [⟨w.heap.size,0,cs.length,uT.size⟩]),?_,⟨?_,?_,?_,qV zi⟩⟩
 .have hle:¬(len*n>2^24):=by omega
  by_cases h0:len*n=0
  .have anm:cs=[]:=a4a (by omega);have g1':Instr.fill (fun i=>some (i*n,n)) ((Array.range (len*n)).map ((#[]:Array LI3)[·%(#[]:Array LI3).size]!)) qs=some uT:=by rw[h0]at g1 ⊢;have e0:Array.range 0=#[]:=rfl;rw[e0]at g1 ⊢;simpa using g1
   simp only[Instr.buildSlice,Sem.run_bind,run_underlying hu,Result.andThen_ok,dh hn];rw[a0q hle,a0u h0];simp only[Sem.run_pure,Sem.run_bind,Result.andThen_ok,g1',newRow,run_newObj,World.alloc]
  .simp only[Instr.buildSlice,Sem.run_bind,run_underlying hu,Result.andThen_ok,dh hn];rw[a0q hle,a0q h0];simp only[Sem.run_pure,Sem.run_bind,Result.andThen_ok,hzr w,g1,newRow,run_newObj,World.alloc]
 .rw[kF];exact gy.1
 .rw[kF];exact gy.2
 .have hlb:len<2^63:=by have:=Nat.le_mul_of_pos_right len (show 0<n by omega);omega
  refine .val (.aP (ls:=[⟨w.heap.size,0,cs.length,uT.size⟩]) (p:=⟨w.heap.size,0,cs.length,uT.size⟩) (by simp[Mp.h,dL]) (by simp) (by simp[pV]) (a0E _) (a0E _) (fun _=>rfl) (.inr ⟨by simp,by simp;omega⟩) hlb)
end
section
variable {P:LI1} {M:Mp} {D:Key->Prop} {w:LI4} {s:St}
theorem a0B{i:Int}(h0:0<=i)(h1:i<=2^40):i64.wrap i=i:=by have h2:i%(2^64:Int)=i:=a8F h0 (by omega);simp only[IntKind.wrap,IntKind.bits,IntKind.signed,h2];rw[a0q];simp only[adx,a1n,ge_iff_le];omega
theorem Rk{N:Np}{v:TV}{n:Nat}{x:LI3}(h:a2u v=some n)(hx:VR N v x):∃k i,x=.int k i∧0<=i∧i<=2^40∧n=i.toNat:=by
 unfold a2u at h;split at h
 .split at h
  .rename_i k i hc;simp at h;subst h;cases hx;exact⟨k,i,rfl,hc.1,hc.2,rfl⟩
  simp at h
 simp at h
theorem Ak{e:LI2}{n:Nat}(h:uh P e n=true):∃i x,P.info? e=some i∧i.zero=some x∧x.cells.size=i.size∧n*i.bytes<=2^40∧n<=2^40∧i.bytes<=2^20∧0<i.bytes:=by
 unfold uh at h;split at h
 .rename_i i hi;simp only[a2f,a1n]at h;obtain⟨⟨⟨⟨h1,h2⟩,h3⟩,h4⟩,h5⟩:=h;unfold a4L at h5;split at h5
  .rename_i x hx;exact⟨i,x,hi,hx,by simpa using h5,h1,h2,h3,h4⟩
  simp at h5
 simp at h
theorem Am{t:LI2}{a b r:TV}{x y:LI3}{s1:St}(hV:Valid M D s.get w)(zi:M (.h s.heap.length)=none)
  (h:sQ P t s a b=some (r,s1)) (hx:VR M.h a x) (hy:VR M.h b y) :
  s1.env=s.env∧∃z w' M',(Instr.makeSlice t x y).run P w=.ok z w'∧NG M D s.get w (.val r) s1.get [] z w' M':=by
 unfold sQ at h;split at h
 case h_2=>simp at h
 rename_i e n l c yP hl hc;obtain⟨hu,hn,hn0⟩:=qW yP;obtain⟨_,li,rfl,l0,l1,rfl⟩:=Rk hl hx;obtain⟨_,ci,rfl,c0,c1,rfl⟩:=Rk hc hy;split at h
 case isFalse=>simp at h
 rename_i Rl;obtain⟨hlc,KC⟩:=Rl;obtain⟨i,zx,hi,hzx,hzs,CW,yu,hb3,hb4⟩:=Ak KC;split at h
 case h_2=>simp at h
 rename_i z hz;split at h
 case isFalse=>simp at h
 rename_i U5;simp at h;obtain⟨rfl,rfl⟩:=h;obtain⟨i',x,v,wF,FD,_,_,hz1,hvr,hzr⟩:=wK hz;rw[hi]at wF;cases wF;have ht:=Wh (hvr M.h) ci.toNat (ci.toNat*n) (by rw[U5])
 let arr:Array LI3:=(Array.range (ci.toNat*n)).map (x.cells[·%x.cells.size]!)
 have hlen:(times z ci.toNat).length=arr.size:=by have:=ht.len;simpa[arr]using this
 have pV:(times z ci.toNat).length=ci.toNat*n:=by rw[oD,U5]
 have yQ:s.get (.h s.heap.length)=none:=by simp[St.get]
 have EU:∀(i:Nat) (c:TV) (v:LI3),(times z ci.toNat)[i]? = some c->arr[i]? = some v->VR M.h c v:=fun i c v a b=>ht.at_ i c v a (by rw[adV];exact b);have gy:=NP hV e zi yQ (agY hlen) EU (J5 hz1 _);have hmul:(li.toNat)*n<=ci.toNat*n:=a3w n hlc;refine⟨rfl,.slice (some ⟨w.heap.size,0,none⟩) li.toNat ci.toNat,w.alloc (.cells arr e),dL M (.h s.heap.length) (.cells [⟨w.heap.size,0,(times z ci.toNat).length,arr.size⟩]),?_,⟨?_,?_,?_,qV zi⟩⟩
 .have hwl:=a0B l0 l1;have hwc:=a0B c0 c1;have FH:¬((i.bytes:Int)*ci>2^48):=by
   have e1:(ci.toNat*i.bytes:Nat)<=2^40:=CW;have e2:((i.bytes:Int)*ci)=((ci.toNat*i.bytes:Nat):Int):=by rw[Nat.mul_comm,ae7,ah6 c0]
   omega
  simp only[Instr.makeSlice,Sem.run_bind,run_underlying hu,Result.andThen_ok,asInt,asIntOf,Sem.run_pure,jd hi,hwl,hwc];rw[a0q (by simp;exact⟨⟨⟨c0,by omega⟩,l0⟩,by omega⟩)];simp only[Sem.run_bind,run_askRoom,Result.andThen_ok,dh hn];by_cases h0:ci.toNat*n=0
  .rw[a0u h0];have e0:arr=#[]:=Array.eq_empty_of_size_eq_zero (by omega);have e1:(Array.range (ci.toNat*n)).map ((#[]:Array LI3)[·%(#[]:Array LI3).size]!)=#[]:=by rw[h0];have e0:Array.range 0=#[]:=rfl;rw[e0];simp
   simp only[Sem.run_pure,Result.andThen_ok,e1,newRow,Sem.run_bind,run_newObj,World.alloc,e0]
  .rw[a0q h0];simp only[Sem.run_bind,hzr w,Sem.run_pure,Result.andThen_ok,newRow,run_newObj,World.alloc,arr]
 .rw[kF];exact gy.1
 .rw[kF];exact gy.2
 .refine .val (.aP (ls:=[⟨w.heap.size,0,(times z ci.toNat).length,arr.size⟩]) (p:=⟨w.heap.size,0,(times z ci.toNat).length,arr.size⟩) (by simp[Mp.h,dL]) (by simp) (by simp[pV]) hlc (a0E _) (fun _=>rfl) (.inr ⟨by simp,by simp;omega⟩) (by omega))
theorem YR{at_:Array LI2}{t:LI2}{v r:TV}{i:mJ}{x:LI3}(hV:Valid M D s.get w)(h:YG P at_ s.heap v=some (r,i))(hx:VR M.h v x)(hD:∀k∈i.ts,D k) :
  i.ws=[]∧∃z,VR M.h r z∧(Builtin.len_ at_ t #[x]).run P w=.ok z w:=by
 unfold YG at h;split at h
 case h_2=>simp at h
 rename_i t0 ht0;split at h
 .rename_i b hu;simp at h;obtain⟨rfl,rfl⟩:=h;cases hx;exact⟨rfl,_,.int _ _,by simp[Builtin.len_,ht0,run_underlying hu,goInt]⟩
 .rename_i n el _ hu;simp at h;obtain⟨rfl,rfl⟩:=h;exact⟨rfl,_,.int _ _,by simp[Builtin.len_,ht0,run_underlying hu,goInt]⟩
 .rename_i el b off len cap sz ex hu;simp at h;obtain⟨rfl,rfl⟩:=h;cases hx;exact⟨rfl,_,.int _ _,by simp[Builtin.len_,ht0,run_underlying hu,goInt]⟩
 .rename_i el hu;simp at h;obtain⟨rfl,rfl⟩:=h;cases hx;exact⟨rfl,_,.int _ _,by simp[Builtin.len_,ht0,run_underlying hu,goInt]⟩
 .rename_i k el hu;simp at h;obtain⟨rfl,rfl⟩:=h;cases hx;exact⟨rfl,_,.int _ _,by simp[Builtin.len_,ht0,run_underlying hu,goInt]⟩
 .rename_i k el r0 hu;split at h
  .rename_i es he;simp at h;obtain⟨rfl,rfl⟩:=h;cases hx with
   |map hm=>
    obtain⟨gJ,h1,h2⟩:=hV.ok _ _ hm (hD _ (by simp[xP]));simp only[St.get,he,a01]at h1;subst h1;obtain⟨xs,g1,g2⟩:=h2;have g2:=g2.len;refine⟨rfl,_,.int _ _,?_⟩;simp[Builtin.len_,ht0,run_underlying hu,goInt,getObj,Sem.run,g1,g2]
  .simp at h
 .simp at h
end
section
variable {P:LI1} {M:Mp} {D:Key->Prop} {w:LI4} {s:St}
theorem CY{C:Ct}{size n:Nat}{v:TV}{l:List TV}{x:LI3}{h:List HB}(hh:∀b,C (.h b)=h[b]?)(hV:Valid M D C w)(hs:dZ size h v=some (n,l))(hx:VR M.h v x)(hD:∀k∈dF v,D k) :
  (Builtin.lenOf x).run P w=.ok n w∧(∀c∈l,jc c=true)∧∃arr,(∀w':LI4,w'.heap=w.heap->(Builtin.firstCells size n x).run P w'=.ok arr w')∧bY M.h l arr.toList:=by
 unfold dZ at hs;split at hs
 .simp at hs;obtain⟨rfl,rfl⟩:=hs;cases hx;exact⟨by simp[Builtin.lenOf],by simp,#[],fun w' _=>by simp[Builtin.firstCells],.nil⟩
 .rename_i b off len cap sz ex;split at hs
  .rename_i vk;subst vk;split at hs
   .rename_i hz;subst hz;simp at hs;obtain⟨rfl,rfl⟩:=hs;cases hx with
    |aP hm hp FC hle wL hex ha hk=>
     exact⟨by simp[Builtin.lenOf],by simp,#[],fun w' _=>by simp[Builtin.firstCells,loadCells,loadCellsFrom],.nil⟩
   split at hs
   .rename_i cs hb;simp only[a0i,a0z]at hs;obtain⟨r,hr,rfl,rfl⟩:=hs;cases hx with
    |aP hm hp FC hle wL hex ha hk=>
     rename_i ls p a cap';obtain⟨k,hk,VZ⟩:=yh hb;obtain⟨gJ,h1,h2⟩:=hV.ok _ _ hm (hD _ (by simp[dF]));rw[hh,hk]at h1;cases h1;obtain⟨g1,g2,_⟩:=h2;obtain⟨s1,s2,s3⟩:=uD hr;refine⟨by simp[Builtin.lenOf],fun c hc=>g1 c (by rw[s2]at hc;exact a4X (a9e hc)),?_⟩;by_cases h0:cap'=0
     .have qM:len=0:=(by omega);subst qM;have:r=[]:=a4a (by rw[s3];simp);subst this;exact⟨#[],fun w' _=>by simp[Builtin.firstCells,loadCells,loadCellsFrom],.nil⟩
     .rcases ha with ha|⟨rfl,ha⟩
      .exact absurd ha h0
      .obtain⟨xs,x1,x2⟩:=yN (P:=P) (g2 p (hp.resolve_left h0)) hr (by have:=a3w sz hle;omega) (fun e=>by have:=VZ e;have:=(g2 p (hp.resolve_left h0)).ext;omega);exact⟨xs.toArray,fun w' hw'=>by simp[Builtin.firstCells,x2 w' hw'],x1⟩
   .simp at hs
  .simp at hs
 .rename_i bs;split at hs
  .rename_i vk;simp at hs;obtain⟨rfl,rfl⟩:=hs;cases hx;refine⟨by simp[Builtin.lenOf],by simp[jc],(bs.extract 0 bs.size).data.map fun b=>.int .u8 b.toNat,fun w' _=>rfl,?_⟩;refine⟨by simp,fun i c v a b=>?_⟩;simp only[a4y,a0i]at a;obtain⟨y,hy,rfl⟩:=a;rw[show bs.extract 0 bs.size=bs from by simp]at b;simp only[Array.toList_map,a4y,hy,a0A,a01]at b;rw[<-b];exact .int _ _
  .simp at hs
 .simp at hs
theorem U6{size n b off len cap sz:Nat}{ex:Bool}{l:List TV}{h:List HB}(hs:dZ size h (.aP b off len cap sz ex)=some (n,l)):sz=size∧n=len∧l.length=len*size:=by
 simp only[dZ]at hs;split at hs
 .rename_i hz;split at hs
  .rename_i h0;cases hs;exact⟨hz,h0.symm,by simp[h0]⟩
  split at hs
  .simp only[a0i,a0z]at hs;obtain⟨r,hr,rfl,rfl⟩:=hs;exact⟨hz,rfl,(uD hr).2.2⟩
  cases hs
 cases hs
theorem Ro(N:Nat):∀(r c:Nat),c<=2*N+192->Builtin.growBy N r c<=2*N+192
 | 0,c,h=>by simpa[Builtin.growBy]using h
 |r+1,c,h=>by
  simp only[Builtin.growBy];split
  .exact h
  exact Ro N r _ (by omega)
theorem YS{Lj c:Nat}(h:c<Lj):Builtin.nextslicecap Lj c<=2*Lj+192:=by
 unfold Builtin.nextslicecap;split
 .omega
 split
 .omega
 exact Ro Lj 4 c (by omega)
theorem a9j{Lj c b:Nat}(h:c<Lj)(h1:Lj*b<=2^40)(h2:b<=2^20):¬(Builtin.nextslicecap Lj c*b>2^48):=by
 have e1:=YS h;have e2:Builtin.nextslicecap Lj c*b<=(2*Lj+192)*b:=a3w b e1;have e3:(2*Lj+192)*b=2*(Lj*b)+192*b:=by rw[a3i,Nat.mul_assoc]
 omega
theorem wM(z:Array LI3)(n:Nat):(Builtin.zeroCells z n).size=n*z.size:=by simp[Builtin.zeroCells]
def wP:TypeDesc->Bool
 |.int _=>true
 |_=>false
theorem YT{t:LI2}(h:¬(TW P t||(P.underlying t).isNone)=true):∃d,P.underlying t=some d∧wP d=false:=by
 simp only[a9n,adE,agA]at h;obtain⟨h1,h2⟩:=h;cases hu:P.underlying t with
 |none=>simp[hu]at h2
 |some d=>
  refine⟨d,rfl,?_⟩;unfold TW at h1;rw[hu]at h1;cases d<;>simp_all [wP]
theorem FI{at_:Array LI2}{st xt e:LI2}{size n sLen sCap:Nat}{i:TypeInfo}{z sv xv:LI3}{base:Option Addr}{d:TypeDesc}{old new:Array LI3}{ty:LI2}
  (h0:at_[0]? = some st) (h1:at_[1]? = some xt) (hu:P.underlying st=some (.slice e)) (hn:dH P e=some size) (GI:P.underlying xt=some d) (hd:wP d=false)
  (hi:P.info? e=some i) (hz:i.zero=some z) (hsv:sv=.slice base sLen sCap)
  (hl:(Builtin.lenOf xv).run P w=.ok n w) (wL:sCap<sLen+n) (CW:(sLen+n)*i.bytes<=2^40) (yu:sLen+n<=2^40) (hb3:i.bytes<=2^20)
  (hold:∀w':LI4,w'.heap=w.heap->(Builtin.firstCells size sLen sv).run P w'=.ok old w') (gy:∀w':LI4,w'.heap=w.heap->(Builtin.firstCells size n xv).run P w'=.ok new w') :
  ∃kR,sLen+n<=kR∧kR<2^63∧(Builtin.append_ at_ ty #[sv,xv]).run P w=.ok (.slice (some ⟨w.heap.size,0,none⟩) (sLen+n) kR) (w.drew.alloc (.cells (old++new++Builtin.zeroCells z.cells (kR-(sLen+n))) e)):=by
 subst hsv;refine⟨(Question.appendCap (sLen+n) sCap e).cut (w.tape w.drawn (.appendCap (sLen+n) sCap e)),by simp[Question.cut],?_,?_⟩
 .have:=Nat.mod_lt (w.tape w.drawn (.appendCap (sLen+n) sCap e)) (show 0<2^63-(sLen+n) by omega);simp only[Question.cut];omega
 have hz':∀w,(zeroValue e).run P w=.ok z w:=fun w=>by simp[zeroValue,jd hi,hz]
 have hq:(Question.appendCap (sLen+n) sCap e).forced=false:=rfl;have hle:¬(sLen+n<=sCap):=by omega
 have FH:¬(((sLen+n:Nat):Int)>i64.max):=by have:i64.max=2^63-1:=rfl;rw[this];omega
 have KC:=a9j wL CW hb3;have e1:=hold w.drew rfl;have e2:=gy w.drew rfl;unfold Builtin.append_;simp only[adS,a2C,a9R,h0,h1];simp only[Sem.run_bind,run_underlying hu,Result.andThen_ok,dh hn,run_underlying GI,Sem.run_pure];rw[a0q (by cases d<;>simp_all [wP])];simp only[Sem.run_bind,hl,Result.andThen_ok];rw[a0q hle];simp only[Sem.run_bind,jd hi,Result.andThen_ok];rw[a0q (fun h=>FH h.1)];simp only[Sem.run_bind,jd hi,Result.andThen_ok];rw[a0q KC];simp only[Sem.run_bind,Sem.run_pure,run_choose,hq,a2z,a3l,Result.andThen_ok,jd hi,run_askRoom,World.drew_eq,e1];rw[a0u (by cases d<;>simp_all [wP])];simp only[Sem.run_bind,Sem.run_pure,Result.andThen_ok,e2,hz',newRow,run_newObj,World.size_drew,World.alloc_eq]
theorem Rq{at_:Array LI2}{st xt e:LI2}{size n sLen sCap:Nat}{a:Addr}{sv xv:LI3}{d:TypeDesc}{new:Array LI3}{ty:LI2}{w':LI4}
  (h0:at_[0]? = some st) (h1:at_[1]? = some xt) (hu:P.underlying st=some (.slice e)) (hn:dH P e=some size) (GI:P.underlying xt=some d) (hd:wP d=false)
  (hsv:sv=.slice (some a) sLen sCap) (hl:(Builtin.lenOf xv).run P w=.ok n w) (wL:sLen+n<=sCap)
  (gy:(Builtin.firstCells size n xv).run P w=.ok new w) (uU:(storeCells (a.add (sLen*size)) new.toList).run P w=.ok () w') :
  (Builtin.append_ at_ ty #[sv,xv]).run P w=.ok (.slice (some a) (sLen+n) sCap) w':=by
 subst hsv;unfold Builtin.append_;simp only[adS,a2C,a9R,h0,h1];simp only[Sem.run_bind,run_underlying hu,Result.andThen_ok,dh hn,run_underlying GI,Sem.run_pure];rw[a0q (by cases d<;>simp_all [wP])];simp only[Sem.run_bind,hl,Result.andThen_ok];rw[a0u wL];rw[a0u (by cases d<;>simp_all [wP])];simp only[Sem.run_bind,gy,Result.andThen_ok,uU,Sem.run_pure]
theorem Wi{at_:Array LI2}{st xt e:LI2}{size sLen sCap:Nat}{base:Option Addr}{sv xv:LI3}{d:TypeDesc}{new:Array LI3}{ty:LI2}
  (h0:at_[0]? = some st) (h1:at_[1]? = some xt) (hu:P.underlying st=some (.slice e)) (hn:dH P e=some size) (GI:P.underlying xt=some d) (hd:wP d=false)
  (hsv:sv=.slice base sLen sCap) (hl:(Builtin.lenOf xv).run P w=.ok 0 w) (wL:sLen<=sCap)
  (gy:(Builtin.firstCells size 0 xv).run P w=.ok new w) (iF:new.toList=[]) :
  (Builtin.append_ at_ ty #[sv,xv]).run P w=.ok sv w:=by
 subst hsv;unfold Builtin.append_;simp only[adS,a2C,a9R,h0,h1];simp only[Sem.run_bind,run_underlying hu,Result.andThen_ok,dh hn,run_underlying GI,Sem.run_pure];rw[a0q (by cases d<;>simp_all [wP])];simp only[Sem.run_bind,hl,Result.andThen_ok];rw[a0u (by omega)];rw[a0u (by cases d<;>simp_all [wP])];simp only[Sem.run_bind,gy,Result.andThen_ok];cases base<;>simp[iF,storeCells]
end
section
variable {P:LI1} {M:Mp} {D:Key->Prop} {w:LI4} {s:St}
def BOk(P:LI1)(M:Mp)(D:Key->Prop)(C:Ct)(w:LI4)(c:Sem LI3)(v:TV)(C1:Ct)(ws:List Key):Prop:=
 ∃x w' M',c.run P w=.ok x w'∧NG M D C w (.val v) C1 ws x w' M'
theorem Ext.drew'{M0:Mp}{C0:Ct}{w0:LI4}{M:Mp}{C:Ct}{w:LI4}{ws:List Key}(h:Ext M0 C0 w0.drew M C w ws):Ext M0 C0 w0 M C w ws:=
 ⟨h.IK,h.frame,h.nM,h.lH,h.fresh,h.size,h.has,h.wsub,h.wrote,h.os,h.output,h.tape⟩
theorem bY.U7{N:Np}{l:List TV}{arr:Array LI3}(h:bY N l arr.toList){i:Nat}{c:TV}{v:LI3}(a:l[i]? = some c)(b:arr[i]? = some v):VR N c v:=
 h.at_ i c v a (by rw[adV];exact b)
theorem Wj(hV:Valid M D s.get w)(zi:M (.h s.heap.length)=none){cs:List TV}{pre rest:Array LI3}{e:LI2}(hx:bY M.h cs pre.toList)(hn:∀c∈cs,jc c=true)
  {len kR size:Nat} (Rt:cs.length=len*size) (hle:len<=kR) (hk:kR<2^63) (NV:rest.size=(kR-len)*size) :
  ∃M',NG M D s.get w (.val (.aP s.heap.length 0 len len size false)) (St.get { s with heap:=s.heap++[.cells .own cs] }) [] (.slice (some ⟨w.heap.size,0,none⟩) len kR) (w.drew.alloc (.cells (pre++rest) e)) M':=by
 have yQ:s.get (.h s.heap.length)=none:=by simp[St.get]
 have Eb:pre.size=cs.length:=by have:=hx.len;simp at this;omega
 have ank:(pre++rest).size=kR*size:=by
  have:len*size+(kR-len)*size=kR*size:=by rw[<-a3i];congr 1;omega
  simp;omega
 have hmul:len*size<=kR*size:=a3w size hle;have YU:Valid M D s.get w.drew:=hV.of_heap rfl;have gy:=NP YU (cs:=cs) (arr:=pre++rest) e zi yQ (by omega) (fun i c v a b=>by have hi:=(a0a.1 a).1;rw[aaA (by omega)]at b;exact hx.U7 a b) hn
 refine⟨dL M (.h s.heap.length) (.cells [⟨w.heap.size,0,cs.length,(pre++rest).size⟩]),⟨?_,?_,?_,qV zi⟩⟩
 .rw[kF];exact gy.1
 .rw[kF];exact gy.2.drew'
 .exact .val (.aP (ls:=[⟨w.heap.size,0,cs.length,(pre++rest).size⟩]) (p:=⟨w.heap.size,0,cs.length,(pre++rest).size⟩) (by simp[Mp.h,dL]) (by simp) (by simp[Rt]) (a0E _) hle (fun h=>by simp at h) (.inr ⟨by simp,by simp only[a3I];omega⟩) hk)
theorem EW:∀{ls:List Pl},(ls.map (·.c)).Nodup->∀{p q:Pl},p∈ls->q∈ls->q.c=p.c->q=p
 | [],_,p,q,hp,_,_=>by simp at hp
 |a::ls,h,p,q,hp,hq,e=>by
  simp only[a4t,a4z]at h;rcases a1F.1 hp with h1|h1<;>rcases a1F.1 hq with h2|h2
  .rw[h1,h2]
  .exact(h.1 (a1k.2 ⟨q,h2,by rw[e,h1]⟩)).elim
  .exact(h.1 (a1k.2 ⟨p,h1,by rw[<-e,h2]⟩)).elim
  exact EW h.2 h1 h2 e
theorem a0C(hV:Valid M D s.get w){b:Nat}{k:BK}{cs new:List TV}{ls:List Pl}{p:Pl}{x:Array LI3}(hm:M (.h b)=some (.cells ls))(hd:D (.h b))(hb:s.heap[b]? = some (.cells k cs))
  (hk:k≠.ro) (hp:p∈ls) (FC:cs.length<=p.ext) (hx:bY M.h new x.toList) (hn:∀c∈new,jc c=true) (iF:new≠[]) {w':LI4}
  (fl:Bool) (old rest:Array LI3) (ty0:LI2)
  (hw:(fl=true∧cs.length+new.length<=p.tot∧(storeCells ⟨p.c,cs.length,none⟩ x.toList).run P w=.ok () w') ∨
   (fl=false∧bY M.h cs old.toList∧w'=w.drew.alloc (.cells (old++x++rest) ty0))) :
  ∃M' q,Valid M' D (St.get { s with heap:=s.heap.set b (.cells k.more (cs++new)) }) w'∧Ext M s.get w M' (St.get { s with heap:=s.heap.set b (.cells k.more (cs++new)) }) w' [.h b] ∧
   (∀j l,M (.l j)=some l->M' (.l j)=some l)∧(∃yg,M' (.h b)=some (.cells yg)∧q∈yg)∧cs.length+new.length<=q.ext∧q.base=0 ∧
   ((fl=true∧q.c=p.c∧q.tot=p.tot)∨(fl=false∧q.c=w.heap.size∧q.tot=(old++x++rest).size)):=by
 have hg:s.get (.h b)=some (.cells k cs):=by simp[St.get,hb]
 have zl:=(a0a.1 hb).1;obtain⟨gJ,h1,h2⟩:=hV.ok _ _ hm hd;rw[hg]at h1;cases h1;obtain⟨ho,Eb,ahE,a0D⟩:=h2;have hxl:=hx.len;simp only[aa6]at hxl;have jG:(ls.map (·.c)).Nodup:=by
  cases k with
  |ro=>exact absurd rfl hk
  |own=>obtain⟨q,rfl,_⟩:=ahE rfl;simp
  |grow=>exact(a0D (.inl rfl)).1
  |last=>exact(a0D (.inr rfl)).1
 have arx:∀q∈ls,q.ext=cs.length->q=p:=by
  intro q hq he;cases k with
  |ro=>exact absurd rfl hk
  |own=>
   obtain⟨q',e',_⟩:=ahE rfl;rw[e']at hp hq;simp at hp hq;rw[hq,hp]
  |grow=>
   have:=(Eb p hp).ext;exact(a0D (.inl rfl)).2 q hq p hp he (by omega)
  |last=>
   have:=(Eb p hp).ext;exact(a0D (.inr rfl)).2 q hq p hp he (by omega)
 have hpe:p.ext=cs.length:=by have:=(Eb p hp).ext;omega
 have hpb:p.base=0:=(Eb p hp).base hk;have hmr:k.more≠.own:=by cases k<;>simp[BK.more]
 have hml:k.more=.last->k=.last:=by cases k<;>simp[BK.more]
 have Fz:∀c∈cs++new,jc c=true:=by
  intro c hc;rcases a3c.1 hc with h|h
  .exact ho c h
  .exact hn c h
 rcases hw with⟨hfl,KC,uU⟩|⟨hfl,hold,rfl⟩
 .-- in place
  let p':Pl:={ p with ext:=cs.length+new.length }
  let yg:List Pl:=ls.map fun q=>if q.c=p.c then p' else q
  have hqp:∀q∈ls,q.c=p.c->q=p:=by intro q hq he;exact EW jG hp hq he
  have hp':p'∈yg:=a1k.2 ⟨p,hp,by simp⟩;have a5a:yg.map (·.c)=ls.map (·.c):=by
   simp only[yg,a8m];apply a4V;intro q hq;simp only[Function.comp];split
   .rename_i he;exact he.symm
   .rfl
  have hlc:L9 (.cells ls) (.cells yg):=by
   intro q hq;by_cases he:q.c=p.c
   .have:=hqp q hq he;subst this;exact⟨p',hp',rfl,rfl,by simp[p'];omega,rfl⟩
   .exact⟨q,a1k.2 ⟨q,hq,by simp[he]⟩,rfl,rfl,a0E _,rfl⟩
  obtain⟨arr,ty,fz,r1,r2,r3,r4⟩:=(Eb p hp).row;have:=r3 hk;subst this;have ahH:∀v∈x.toList,v.oneCell'=true:=by
   intro v hv;obtain⟨i,hi,rfl⟩:=a4N.1 hv;have wF:i<new.length:=by simp at hi;omega
   exact IY (hx.at_ i new[i] x.toList[i] (by simp[wF]) (by simp)) (hn _ (a4D wF))
  have vU:=run_storeCells_at (P:=P) p.c cs.length ty x.toList 0 arr w r1 (by simp;omega) ahH;simp only[adR,aa6]at vU;rw[vU]at uU;have ant:=Result.ok.inj uU;obtain⟨_,rfl⟩:=ant
  let w':LI4:=w.setRow p.c (arr.toList.take cs.length++x.toList++arr.toList.drop (cs.length+x.size)).toArray
  have gQ:∀c,c<w.heap.size->c∉aI (.cells yg)->w'.heap[c]? = w.heap[c]?:=fun c _ hc=>vT w p.c _ c (fun e=>hc (by rw[e];exact a1k.2 ⟨p',hp',rfl⟩));have gy:∀c∈aI (.cells yg),(∃l0,M (.h b)=some l0∧c∈aI l0)∨w.heap.size<=c:=fun c hc=>.inl ⟨_,hm,by simp only[aI]at hc ⊢;rwa [a5a]at hc⟩;have J4:sK M (dL M (.h b) (.cells yg)):=mQ fun l0 h0=>by rw[hm]at h0;cases h0;exact hlc
  have Wn:∀i,(arr.toList.take cs.length++x.toList++arr.toList.drop (cs.length+x.size)).toArray[i]? = if i<cs.length then arr[i]? else if i<cs.length+x.size then x[i-cs.length]? else arr[i]?:=by intro i;have:=VU (arr:=arr) (off:=cs.length) (xs:=x.toList) i (by simp;omega);simpa using this
  have QW:pW (dL M (.h b) (.cells yg)).h w' (.cells k.more (cs++new)) (.cells yg):=by
   refine⟨Fz,fun q hq=>?_,fun e=>absurd e hmr,fun _=>⟨by rw[a5a];exact jG,fun q1 IL q2 Gw e1 e2=>?_⟩⟩
   .obtain⟨q0,YL,rfl⟩:=a1k.1 hq;by_cases he:q0.c=p.c
    .simp only[he,a1I];refine⟨⟨_,ty,(0,0),NJ w p.c _ arr ty (0,0) r1,by simp[p'];omega,fun _=>rfl,fun _ i c v hi a b=>?_⟩,by simp[p',hpb];omega,by simp[p'],fun _=>hpb⟩;simp only[p',hpb,a3I]at b hi;rw[Wn i]at b;by_cases h1:i<cs.length
     .rw[a0u h1]at b;rw[a0p h1]at a;exact(r4 (fun _=>hpe) i c v (by omega) a (by simpa[hpb]using b)).mono J4.h
     .rw[a0q h1,a0u (by omega)]at b;rw[a0G (by omega)]at a;exact(hx.U7 a b).mono J4.h
    .simp only[he,a3l];have IL:=Eb q0 YL;obtain⟨uT,ty',fz',t1,t2,t3,t4⟩:=IL.row;refine⟨⟨uT,ty',fz',(vT w p.c _ q0.c he).trans t1,t2,fun _=>t3 hk,fun hz i c v hi a b=>?_⟩,IL.fit,by have:=IL.ext;simp;omega,fun _=>IL.base hk⟩;have:=IL.ext;rw[a0p (by omega)]at a;exact(t4 (fun e=>by have:=hz (by rw[e];rfl);have:0<new.length:=abL.2 iF;simp at *;omega) i c v hi a b).mono J4.h
   .have aux:∀q∈yg,q.ext=(cs++new).length->new≠[]->q=p':=by
     intro q hq e iF;obtain⟨q0,YL,rfl⟩:=a1k.1 hq;by_cases he:q0.c=p.c
     .simp[he]
     .simp only[he,a3l]at e;have:=(Eb q0 YL).ext;have:0<new.length:=abL.2 iF;simp at e;omega
    rw[aux q1 IL e1 iF,aux q2 Gw e2 iF]
  refine⟨dL M (.h b) (.cells yg),p',?_,?_,?_,⟨yg,by simp[dL],hp'⟩,a0E _,hpb,.inl ⟨hfl,rfl,rfl⟩⟩
  .rw[jF s b _ zl];exact hV.upd (.h b) _ _ (fun j hj=>.inl hj) (fun l0 h0=>by rw[hm]at h0;cases h0;exact⟨hd,hlc,fun b0 Ad=>by rw[hg]at Ad;cases Ad;cases k<;>simp_all [wr]⟩) gQ gy (by simp) QW
  .rw[jF s b _ zl];exact Ext.upd (.h b) _ _ [.h b] (.inl ⟨by simp[hg],rfl,by simp[hm],fun b0 Ad=>by rw[hg]at Ad;cases Ad;cases k<;>simp_all [wr]⟩) J4 gQ gy (by simp) rfl rfl rfl
  .intro j l hj;simp[dL,hj]
 .-- a new row
  let p':Pl:=⟨w.heap.size,0,cs.length+new.length,(old++x++rest).size⟩
  let yg:List Pl:=p'::ls
  let w':LI4:=w.drew.alloc (.cells (old++x++rest) ty0)
  have LQ:=hold.len;simp only[aa6]at LQ;have aQ:∀q∈ls,q.c<w.heap.size:=fun q hq=>hV.inb _ _ hm q.c (a1k.2 ⟨q,hq,rfl⟩);have hlc:L9 (.cells ls) (.cells yg):=fun q hq=>⟨q,a3h _ hq,rfl,rfl,a0E _,rfl⟩;have gQ:∀c,c<w.heap.size->c∉aI (.cells yg)->w'.heap[c]? = w.heap[c]?:=fun c hc _=>wJ w.drew _ c hc;have gy:∀c∈aI (.cells yg),(∃l0,M (.h b)=some l0∧c∈aI l0)∨w.heap.size<=c:=by
   intro c hc;simp only[aI,yg,a4t,a1F]at hc;rcases hc with rfl|hc
   .exact .inr (a0E _)
   .exact .inl ⟨_,hm,hc⟩
  have J4:sK M (dL M (.h b) (.cells yg)):=mQ fun l0 h0=>by rw[hm]at h0;cases h0;exact hlc
  have QW:pW (dL M (.h b) (.cells yg)).h w' (.cells k.more (cs++new)) (.cells yg):=by
   refine⟨Fz,fun q hq=>?_,fun e=>absurd e hmr,fun _=>⟨?_,fun q1 IL q2 Gw e1 e2=>?_⟩⟩
   .rcases a1F.1 hq with rfl|hq
    .refine⟨⟨_,ty0,(0,0),heap_alloc_new w.drew _,rfl,fun _=>rfl,fun _ i c v hi a b=>?_⟩,by simp[p'];omega,by simp[p'],fun _=>rfl⟩;simp only[p',a3I]at b hi;by_cases h1:i<cs.length
     .rw[a0p h1]at a;rw[Array.append_assoc,aaA (by omega)]at b;exact(hold.U7 a b).mono J4.h
     .rw[a0G (by omega)]at a;rw[Array.append_assoc,Array.getElem?_append_right (by omega),aaA (by omega),<-LQ]at b;exact(hx.U7 a b).mono J4.h
    .have IL:=Eb q hq;obtain⟨uT,ty',fz',t1,t2,t3,t4⟩:=IL.row;refine⟨⟨uT,ty',fz',(wJ w.drew _ q.c (aQ q hq)).trans t1,t2,fun _=>t3 hk,fun hz i c v hi a b=>?_⟩,IL.fit,by have:=IL.ext;simp;omega,fun _=>IL.base hk⟩;have:=IL.ext;rw[a0p (by omega)]at a;exact(t4 (fun e=>by have:=hz (by rw[e];rfl);have:0<new.length:=abL.2 iF;simp at *;omega) i c v hi a b).mono J4.h
   .simp only[yg,a4t,a4z];refine⟨fun a2B=>?_,jG⟩;obtain⟨q,hq,he⟩:=a1k.1 a2B;have:=aQ q hq;simp only[p']at he;omega
   .have ahI:0<new.length:=abL.2 iF;have aux:∀q∈yg,q.ext=(cs++new).length->q=p':=by
     intro q hq e;rcases a1F.1 hq with rfl|hq
     .rfl
     .have:=(Eb q hq).ext;simp at e;omega
    rw[aux q1 IL e1,aux q2 Gw e2]
  refine⟨dL M (.h b) (.cells yg),p',?_,?_,?_,⟨yg,by simp[dL],a2M⟩,a0E _,rfl,.inr ⟨hfl,rfl,rfl⟩⟩
  .rw[jF s b _ zl];exact hV.upd (.h b) _ _ (fun j hj=>.inl hj) (fun l0 h0=>by rw[hm]at h0;cases h0;exact⟨hd,hlc,fun b0 Ad=>by rw[hg]at Ad;cases Ad;cases k<;>simp_all [wr]⟩) gQ gy (by simp) QW
  .rw[jF s b _ zl];exact Ext.upd (.h b) _ _ [.h b] (.inl ⟨by simp[hg],rfl,by simp[hm],fun b0 Ad=>by rw[hg]at Ad;cases Ad;cases k<;>simp_all [wr]⟩) J4 gQ gy (by simp) rfl rfl rfl
  .intro j l hj;simp[dL,hj]
end
section
variable {P:LI1} {M:Mp} {D:Key->Prop} {w:LI4} {s:St}
theorem J6{at_:Array LI2}{ty:LI2}{d x r:TV}{s1:St}{i:mJ}{dv xv:LI3}(hV:Valid M D s.get w)(zi:M (.h s.heap.length)=none)
  (h:jm P at_ s d x=some (r,s1,i)) (hd:VR M.h d dv) (hx:VR M.h x xv) (hD:∀k∈i.ts,D k) :
  s1.env=s.env∧BOk P M D s.get w (Builtin.append_ at_ ty #[dv,xv]) r s1.get i.ws:=by
 unfold jm at h;split at h
 case h_2=>simp at h
 rename_i st xt h0 h1;split at h
 .simp at h
 rename_i hint;obtain⟨dd,GI,hdd⟩:=YT hint;split at h
 case h_2=>simp at h
 rename_i e size yP;obtain⟨hu,hn,hn0⟩:=qW yP;split at h
 case h_2=>simp at h
 rename_i n new mV;split at h
 .-- nothing
  rename_i hz;subst hz;have key:∀(base:Option Addr) (l c:Nat),dv=.slice base l c->l<=c->(∀k∈dF x,D k)->(Builtin.append_ at_ ty #[dv,xv]).run P w=.ok dv w:=by
   intro base l c e hlc hDk;obtain⟨s1',s2',arr,U8,s4'⟩:=CY (P:=P) (fun b=>rfl) hV mV hx hDk;refine Wi h0 h1 hu hn GI hdd e s1' hlc (U8 w rfl) ?_;have a5b:new=[]:=by
    unfold dZ at mV;split at mV
    .simp at mV;exact mV
    .split at mV
     .split at mV
      .simpa using mV
      split at mV
      .simp only[a0i,a0z]at mV;obtain⟨r',hr',e1,e2⟩:=mV;subst e2;exact a4a (by rw[(uD hr').2.2,e1];simp)
      .simp at mV
     .simp at mV
    .split at mV
     .simp at mV;obtain⟨e1,e2⟩:=mV;rw[<-e2];rename_i bs _;have:bs.data.toList=[]:=a4a (by simpa using e1);simp[this]
     .simp at mV
    .simp at mV
   rw[a5b]at s4';exact s4'.qo
  split at h
  .simp at h;obtain⟨rfl,rfl,rfl⟩:=h;have YV:=hd;cases hd;exact⟨rfl,_,w,M,key none 0 0 rfl (a0E _) hD,.same hV (.val YV)⟩
  .split at h
   .simp at h;obtain⟨rfl,rfl,rfl⟩:=h;have YV:=hd;cases hd with
    |aP hb hp FC hle wL hex ha hk=>
     exact⟨rfl,_,w,M,key _ _ _ rfl (by omega) hD,.same hV (.val YV)⟩
   .simp at h
  .simp at h
 rename_i hz;split at h
 case isFalse=>simp at h
 rename_i hlen;have abP:new≠[]:=by intro e;have:0<n*size:=Nat.mul_pos (by omega) hn0;rw[e]at hlen;simp only[a4O]at hlen;omega
 split at h
 .-- nil
  split at h
  case isFalse=>simp at h
  rename_i KC;simp at h;obtain⟨rfl,rfl,rfl⟩:=h;obtain⟨inf,z,hi,hiz,hzs,CW,yu,hb3,hb4⟩:=Ak KC;obtain⟨s1',s2',arr,U8,s4'⟩:=CY (P:=P) (fun b=>rfl) hV mV hx hD;have vk:inf.size=size:=by obtain⟨i',e1,e2⟩:=Fv hn;rw[hi]at e1;cases e1;exact e2
  cases hd;obtain⟨kR,c1,c1',c2⟩:=FI (P:=P) (w:=w) (ty:=ty) (base:=none) (sLen:=0) (sCap:=0) (old:=#[]) (new:=arr) h0 h1 hu hn GI hdd hi hiz rfl s1' (by omega) (by simpa using CW) (by omega) hb3
   (fun w' hw'=>by simp[Builtin.firstCells]) U8
  simp only[a3I]at c1 c2;obtain⟨M',hp⟩:=Wj (size:=size) (len:=n) (rest:=Builtin.zeroCells z.cells (kR-n)) (e:=e) (pre:=#[]++arr) hV zi (by simpa using s4') s2' hlen c1 c1' (by rw[wM,hzs,vk]);exact⟨rfl,_,_,M',c2,hp⟩
 .-- a slice
  rename_i b off len cap sz ex;split at h
  case isFalse=>simp at h
  rename_i ae4;subst ae4;have hd0:=hd;cases hd with
  |aP hb hp FC hle wL hex ha hk=>
  rename_i ls p a cap';split at h
  .-- room
   rename_i anw;simp only[a0i,a0z]at h;obtain⟨hp',FK,rfl,rfl,rfl⟩:=h;obtain⟨kk,BJ,cs,cs',hbc,yj,ho,rfl⟩:=J3 FK;have hDs:∀k∈dF x,D k:=fun k hk=>hD k (a3h _ hk);obtain⟨s1',s2',arr,U8,s4'⟩:=CY (P:=P) (fun b=>rfl) hV mV hx hDs;have hg:s.get (.h b)=some (.cells kk cs):=(by simp[St.get,hbc]);have zl:=(a0a.1 hbc).1;rcases ha with ha|⟨rfl,ha⟩
   .omega
   have hDb:=hD (.h b) (by simp);have hp:=hp.resolve_left (by omega);obtain⟨w',r1,r2,r3⟩:=zf (P:=P) hV hb hDb hg hp (hV.YK hb hDb hg hp FC yj) ho s4' s2';obtain⟨o1,o2,o3⟩:=vY ho;have hmul:len*sz+n*sz=(len+n)*sz:=(by rw[a3i]);refine⟨rfl,_,w',M,Rq (P:=P) (w:=w) (ty:=ty) (a:=⟨p.c,p.base+off,none⟩) h0 h1 hu hn GI hdd rfl s1' (by omega) (U8 w rfl) (by rw[uz,aaz];exact r1),⟨?_,?_,?_,fun _ _ h=>h⟩⟩
   .rw[jF s b _ zl];exact⟨fun k l hk hd=>r2.ok k l hk (hd.elim id fun⟨x1,x2⟩=>by
      simp only[lZ]at x2;split at x2
      .rename_i e;subst e;rw[hg]at x1;cases x1
      .simp[x1]at x2),fun k k' l l' b' a1 a2 a3 hd=>r2.own k k' l l' b' a1 a2 a3 (hd.elim id fun⟨x1,x2⟩=>by
      simp only[lZ]at x2;split at x2
      .rename_i e;subst e;rw[hg]at x1;cases x1
      .simp[x1]at x2),r2.inb⟩
   .rw[jF s b _ zl];exact r3
   .exact .val (.aP hb (.inr hp) (by omega) (by omega) wL hex (.inr ⟨rfl,ha⟩) hk)
  .rename_i anw;split at h
   case isFalse=>simp at h
   rename_i KC;obtain⟨inf,z,hi,hiz,hzs,CW,yu,hb3,hb4⟩:=Ak KC;have vk:inf.size=sz:=by obtain⟨i',e1,e2⟩:=Fv hn;rw[hi]at e1;cases e1;exact e2
   have hmul:len*sz+n*sz=(len+n)*sz:=(by rw[a3i]);split at h
   .-- exact: always a new row
    rename_i ahK;have NW:=hex ahK;simp only[a0i,a0z]at h;obtain⟨⟨l0,old⟩,qI,rfl,rfl,rfl⟩:=h;obtain⟨_,qM,hold⟩:=U6 qI;rw[qM]at qI;have hDs:∀k∈dF x,D k:=fun k hk=>hD k (a3h _ hk);obtain⟨s1',s2',arr,U8,s4'⟩:=CY (P:=P) (fun b=>rfl) hV mV hx hDs;obtain⟨t1',t2',a5c,t3',t4'⟩:=CY (P:=P) (fun b=>rfl) hV qI hd0 (fun k hk=>hD k (by simp[dF]at hk;simp[hk,fQ]));obtain⟨kR,c1,c1',c2⟩:=FI (P:=P) (w:=w) (ty:=ty) (base:=some a) (sLen:=len) (sCap:=cap') (old:=a5c) (new:=arr) h0 h1 hu hn GI hdd hi hiz rfl s1' (by omega) CW yu hb3 t3' U8;obtain⟨M',ahL⟩:=Wj (size:=sz) (len:=len+n) (rest:=Builtin.zeroCells z.cells (kR-(len+n))) (e:=e) (pre:=a5c++arr) hV zi (by simpa using t4'.append s4') (fun c hc=>(a3c.1 hc).elim (t2' c) (s2' c)) (by simp[hold,hlen,hmul]) c1 c1' (by rw[wM,hzs,vk]);exact⟨rfl,_,_,M',c2,ahL⟩
   .-- it grows
    split at h
    case h_2=>simp at h
    rename_i ahK _ k cs hbc;split at h
    .simp at h
    .rename_i Rl;simp only[adE,ne_eq,Decidable.not_not]at Rl;have hkc:=hk;obtain⟨hk,rfl,rfl,pV,qM⟩:=Rl;have hp:=hp.resolve_left (by omega);simp only[a01,a0z]at h;obtain⟨rfl,rfl,rfl⟩:=h;have hDs:∀k∈dF x,D k:=fun k hk=>hD k (a3h _ hk);have hDb:=hD (.h b) (by simp);obtain⟨s1',s2',arr,U8,s4'⟩:=CY (P:=P) (fun b=>rfl) hV mV hx hDs;have hg:s.get (.h b)=some (.cells k cs):=(by simp[St.get,hbc]);have hnb:∀(M':Mp) (w':LI4),Valid M' D (St.get { s with heap:=s.heap.set b (.cells k.more (cs++new)) }) w' ->
       Valid M' (fun j=>D j∨(s.get j=none∧(St.get { s with heap:=s.heap.set b (.cells k.more (cs++new)) } j).isSome=true)) (St.get { s with heap:=s.heap.set b (.cells k.more (cs++new)) }) w':=by
      intro M' w' hv;have aux:∀j,(D j∨(s.get j=none∧(St.get { s with heap:=s.heap.set b (.cells k.more (cs++new)) } j).isSome=true))->D j:=by
       intro j hj;rcases hj with hj|⟨x1,x2⟩
       .exact hj
       .rw[jF s b _ (a0a.1 hbc).1]at x2;simp only[lZ]at x2;split at x2
        .rename_i e;subst e;exact hDb
        .simp[x1]at x2
      exact⟨fun k l hk hd=>hv.ok k l hk (aux k hd),fun k k' l l' b' a1 a2 a3 hd=>hv.own k k' l l' b' a1 a2 a3 (aux k hd),hv.inb⟩
     have arB:arr.size=n*sz:=by have:=s4'.len;simp at this;omega
     have ahM:p.base=0∧p.ext<=cs.length:=by obtain⟨gJ,q1,q2⟩:=hV.ok _ _ hb hDb;rw[hg]at q1;cases q1;exact⟨(q2.2.1 p hp).base hk,(q2.2.1 p hp).ext⟩
     by_cases CZ:len+n<=cap'
     .-- in place
      rcases ha with ha|⟨rfl,ha⟩
      .omega
      have abO:(len+n)*sz<=cap'*sz:=a3w sz CZ;have Fz:∀v∈arr.toList,v.oneCell'=true:=by
       intro v hv;obtain⟨i,hi,rfl⟩:=a4N.1 hv;have wF:i<new.length:=by simp at hi;omega
       exact IY (s4'.at_ i new[i] arr.toList[i] (by simp[wF]) (by simp)) (s2' _ (a4D wF))
      obtain⟨gJ,q1,q2⟩:=hV.ok _ _ hb hDb;rw[hg]at q1;cases q1;obtain⟨row,rty,rfz,z1,z2,z3,z4⟩:=(q2.2.1 p hp).row;have:=z3 hk;subst this;have vU:=run_storeCells_at (P:=P) p.c cs.length rty arr.toList 0 row w z1 (by simp;omega) Fz;obtain⟨M',q,v1,v2,v3,⟨yg,v4,v5⟩,v6,v7,v8⟩:=a0C (P:=P) hV hb hDb hbc hk hp (by omega) s4' s2' abP true #[] #[] 0 (.inl ⟨rfl,by omega,vU⟩);rcases v8 with⟨_,v9,v10⟩|⟨v9,_⟩
      .refine⟨rfl,_,_,M',Rq (P:=P) (w:=w) (ty:=ty) (a:=⟨p.c,p.base+0,none⟩) h0 h1 hu hn GI hdd rfl s1' CZ (U8 w rfl) (by rw[uz,ahM.1];simp only[a3I,adR];rw[<-pV];exact vU),⟨hnb _ _ v1,v2,?_,v3⟩⟩;refine .val (.aP v4 (.inr v5) (by omega) (a0E _) CZ (fun h=>by simp at h) (.inr ⟨by rw[v9,v7,ahM.1],by rw[v7,v10];omega⟩) hkc)
      .cases v9
     .-- a new row
      have qI:dZ sz s.heap (.aP b 0 len len sz ex)=some (len,cs):=by
       have:sub cs 0 (len*sz)=some cs:=by unfold sub;rw[a0u (by omega)];simp[<-pV]
       simp[dZ,mM,hbc,this,pV,qM]
      obtain⟨t1',t2',a5c,t3',t4'⟩:=CY (P:=P) (fun b=>rfl) hV qI hd0 (fun k hk=>by simp[dF]at hk;rw[hk];exact hDb);obtain⟨kR,c1,c1',c2⟩:=FI (P:=P) (w:=w) (ty:=ty) (base:=some a) (sLen:=len) (sCap:=cap') (old:=a5c) (new:=arr) h0 h1 hu hn GI hdd hi hiz rfl s1' (by omega) CW yu hb3 t3' U8;obtain⟨M',q,v1,v2,v3,⟨yg,v4,v5⟩,v6,v7,v8⟩:=a0C (P:=P) hV hb hDb hbc hk hp (by omega) s4' s2' abP false a5c (Builtin.zeroCells z.cells (kR-(len+n))) e (.inr ⟨rfl,t4',rfl⟩);rcases v8 with⟨v9,_⟩|⟨_,v10,v11⟩
      .cases v9
      .refine⟨rfl,_,_,M',c2,⟨hnb _ _ v1,v2,?_,v3⟩⟩;refine .val (.aP v4 (.inr v5) (by omega) (a0E _) c1 (fun h=>by simp at h) (.inr ⟨by rw[v10,v7],?_⟩) c1');rw[v11,v7];have LQ:=t4'.len;simp only[aa6]at LQ;have hm3:(len+n)*sz+(kR-(len+n))*sz=kR*sz:=by rw[<-a3i];congr 1;omega
       simp only[Array.size_append,wM,hzs,vk];omega
 .simp at h
end
section
variable {P:LI1} {M:Mp} {D:Key->Prop} {w:LI4} {s:St}
theorem a5e{cs l:List TV}{off n m:Nat}(h:sub cs off n=some l)(hm:m<=n):sub cs off m=some (l.take m):=by obtain⟨h1,h2,h3⟩:=uD h;unfold sub;rw[a0u (by omega),h2,aeT,a88 hm]
theorem U9{at_:Array LI2}{ty:LI2}{d x r:TV}{s1:St}{i:mJ}{dv xv:LI3}(hV:Valid M D s.get w)
  (h:Gu P at_ s d x=some (r,s1,i)) (hd:VR M.h d dv) (hx:VR M.h x xv) (hD:∀k∈i.ts,D k) :
  s1.env=s.env∧BOk P M D s.get w (Builtin.copy_ at_ ty #[dv,xv]) r s1.get i.ws:=by
 unfold Gu at h;split at h
 case h_2=>simp at h
 rename_i st h0;split at h
 case h_2=>simp at h
 rename_i e size yP;obtain⟨hu,hn,hn0⟩:=qW yP;split at h
 case h_2=>simp at h
 rename_i n new mV;split at h
 case isFalse=>simp at h
 rename_i hlen;obtain⟨hlen,NY⟩:=hlen;have first:∀(m:Nat),m<=n->(∀k∈dF x,D k)->(Builtin.lenOf xv).run P w=.ok n w∧(∀c∈new.take (m*size),jc c=true) ∧
   ∃arr,(Builtin.firstCells size m xv).run P w=.ok arr w∧bY M.h (new.take (m*size)) arr.toList:=by
  intro m hm hDs;obtain⟨s1',s2',arr,U8,s4'⟩:=CY (P:=P) (fun b=>rfl) hV mV hx hDs;refine⟨s1',fun c hc=>s2' c (a9e hc),?_⟩;have hmul:m*size<=n*size:=a3w size hm;cases hx with
  |U1=>
   unfold dZ at mV;simp at mV;obtain⟨rfl,rfl⟩:=mV;exact⟨#[],by simp[Builtin.firstCells],by simpa using bY.nil⟩
  |aP hb hp FC hle wL hex ha hk=>
   rename_i b off len cap sz ex ls p a cap';unfold dZ at mV;simp only at mV;split at mV
   case isFalse=>simp at mV
   rename_i vk;subst vk;split at mV
   .rename_i hz;simp at mV;obtain⟨rfl,rfl⟩:=mV;have:m=0:=(by omega);subst this;exact⟨#[],by simp[Builtin.firstCells,loadCells,loadCellsFrom],by simpa using bY.nil⟩
   split at mV
   case h_2=>simp at mV
   rename_i cs hbc;simp only[a0i,a0z]at mV;obtain⟨r',hr,rfl,rfl⟩:=mV;obtain⟨k,hk,VZ⟩:=yh hbc;obtain⟨gJ,h1,h2⟩:=hV.ok _ _ hb (hDs _ (by simp[dF]));simp only[St.get,hk,a01]at h1;subst h1;by_cases h00:cap'=0
   .have qM:len=0:=(by omega);subst qM;have:m=0:=(by omega);subst this;exact⟨#[],by simp[Builtin.firstCells,loadCells,loadCellsFrom],by simpa using bY.nil⟩
   .rcases ha with ha|⟨rfl,ha⟩
    .exact absurd ha h00
    .obtain⟨xs,x1,x2⟩:=yN (P:=P) (h2.2.1 p (hp.resolve_left h00)) (a5e hr hmul) (by have:=a3w sz hle;omega) (fun e=>by have:=VZ e;have:=(h2.2.1 p (hp.resolve_left h00)).ext;omega);exact⟨xs.toArray,by simp[Builtin.firstCells,x2 w rfl],x1⟩
  |str bs=>simp[isStr]at NY
  |_=>simp[dZ]at mV
 split at h
 .simp at h;obtain⟨rfl,rfl,rfl⟩:=h;cases hd;obtain⟨f1,f2,arr,f3,f4⟩:=first 0 (a4G _) hD
  have f5:=f4.len;simp at f5;exact⟨rfl,.int .i64 0,w,M,by simp[Builtin.copy_,h0,run_underlying hu,f1,dh hn,f3,goInt],.same hV (.val (.int _ _))⟩
 .rename_i b off len cap sz ex;split at h
  case isFalse=>simp at h
  rename_i vk;subst vk;have hd0:=hd;cases hd with
  |aP hb hp FC hle wL hex ha hk=>
  rename_i ls p a cap';split at h
  .rename_i hm;simp at h;obtain⟨rfl,rfl,rfl⟩:=h;obtain⟨f1,f2,arr,f3,f4⟩:=first 0 (a4G _) hD
   have f5:arr.toList=[]:=by have:=f4.len;simp only[abR,List.take_zero,a4O]at this;exact a4a this.symm
   refine⟨rfl,.int .i64 0,w,M,?_,.same hV (.val (.int _ _))⟩;have e1:Nat.min n len=0:=hm;simp[Builtin.copy_,h0,run_underlying hu,f1,dh hn,e1,f3,goInt,f5,storeCells]
  .rename_i hm;simp only[a0i,a0z]at h;obtain⟨hp',FK,rfl,rfl,rfl⟩:=h;obtain⟨kk,BJ,cs,cs',hbc,yj,ho,rfl⟩:=J3 FK;obtain⟨f1,f2,arr,f3,f4⟩:=first (min n len) (Nat.min_le_left _ _) (fun k hk=>hD k (a3h _ hk))
   have hg:s.get (.h b)=some (.cells kk cs):=(by simp[St.get,hbc]);have zl:=(a0a.1 hbc).1;rcases ha with ha|⟨rfl,ha⟩
   .omega
   obtain⟨w',r1,r2,r3⟩:=zf (P:=P) hV hb (hD (.h b) (by simp)) hg (hp.resolve_left (by omega)) (hV.YK hb (hD (.h b) (by simp)) hg (hp.resolve_left (by omega)) FC yj) ho f4 f2;refine⟨rfl,.int .i64 (min n len:Nat),w',M,?_,⟨?_,?_,.val (.int _ _),fun _ _ h=>h⟩⟩
   .have e1:Nat.min n len=min n len:=rfl;simp[Builtin.copy_,h0,run_underlying hu,f1,dh hn,e1,f3,goInt,r1]
   .rw[jF s b _ zl];exact r2.widen (Ea (by simp[hg]))
   .rw[jF s b _ zl];exact r3
 .simp at h
end
section
variable {P:LI1} {M:Mp} {D:Key->Prop} {w:LI4} {s:St} {N:Np}
theorem bJ{α β:Type}(x:Sem α)(f:α->Sem β):aB P (x >>= f)=(aB P x).bind fun a=>aB P (f a):=by
 show aB P (x.bind f)=_
 induction x with
 |pure a=>rfl
 |program k ih=>exact ih P
 |mark m k ih=>exact ih
 |_=>rfl
def J7(b:Nat->Bool)(L:List MapEntry)(i0:Nat):Option (Nat×LI3)->Prop
 |none=>∀i,i<L.length->b i=false
 |some (i,v)=>i0<=i∧b (i-i0)=true∧∃x,L[i-i0]? = some x∧v=x.val
theorem J7.succ{b:Nat->Bool}{e:MapEntry}{L:List MapEntry}{i0:Nat}{r:Option (Nat×LI3)}(hb:b 0=false)(h:J7 (fun i=>b (i+1)) L (i0+1) r):J7 b (e::L) i0 r:=by
 cases r with
 |none=>
  intro i hi;cases i with
  |zero=>exact hb
  |succ i=>exact h i (by simpa using hi)
 |some r=>
  obtain⟨h1,h2,x,h3,h4⟩:=h;have e1:r.1-i0=(r.1-(i0+1))+1:=by omega
  refine⟨by omega,by rw[e1];exact h2,x,by rw[e1];simpa using h3,h4⟩
theorem KD(kind:TypeDesc)(k:LI3):∀(L:List MapEntry) (i0:Nat) (b:Nat->Bool),(∀i x,L[i]? = some x->Instr.sameNow kind k x.key=some (b i)) ->
  ∃r,Instr.findNow kind k L i0=some r∧J7 b L i0 r
 | [],i0,b,_=>⟨none,rfl,fun i hi=>absurd hi (by simp)⟩
 |e::L,i0,b,h=>by
  have h0:=h 0 e rfl;obtain⟨r,g1,g2⟩:=KD kind k L (i0+1) (fun i=>b (i+1)) fun i x hx=>h (i+1) x (by simpa using hx);simp only[Instr.findNow,h0];cases hb:b 0 with
  |true=>exact⟨_,rfl,a0E _,by simpa using hb,e,by simp,rfl⟩
  |false=>exact⟨r,g1,g2.succ hb⟩
theorem D5(kt:LI2)(k:LI3):∀(L:List MapEntry) (i0:Nat) (b:Nat->Bool),(∀i x,L[i]? = some x->aB P (Op.equal kt k x.key)=some (b i)) ->
  ∃r,(∀w,(Instr.findAsking kt k L i0).run P w=.ok r w)∧J7 b L i0 r
 | [],i0,b,_=>⟨none,fun w=>rfl,fun i hi=>absurd hi (by simp)⟩
 |e::L,i0,b,h=>by
  have h0:=fun w=>jk (h 0 e rfl) w;obtain⟨r,g1,g2⟩:=D5 kt k L (i0+1) (fun i=>b (i+1)) fun i x hx=>h (i+1) x (by simpa using hx);cases hb:b 0 with
  |true=>exact⟨some (i0,e.val),fun w=>by simp[Instr.findAsking,h0 w,hb],a0E _,by simpa using hb,e,by simp,rfl⟩
  |false=>exact⟨r,fun w=>by simp[Instr.findAsking,h0 w,hb,g1 w],g2.succ hb⟩
theorem a0F:∀{l:List TV} {vs:List LI3},BX l=some vs->∀(i:Nat) (c:TV),l[i]? = some c->∃v,vs[i]? = some v∧c.yL=some v
 | [],vs,h,i,c,hc=>by simp at hc
 |a::l,vs,h,i,c,hc=>by
  simp only[BX]at h;split at h
  .rename_i v ws h1 h2;cases h;cases i with
   |zero=>simp at hc;subst hc;exact⟨v,rfl,h1⟩
   |succ i=>simpa using a0F h2 i c (by simpa using hc)
  cases h
def FR(N:Np)(o:List Nat)(es:List (TV×TV))(xs:Array MapEntry):Option Nat->Option (Nat×LI3)->Prop
 |none,none=>True
 |some j,some (i,v)=>o[i]? = some j∧∃e x,es[j]? = some e∧xs[i]? = some x∧v=x.val∧VR N e.1 x.key∧VR N e.2 x.val
 |_,_=>False
theorem GK{o:List Nat}{kt:LI2}{k:LI3}{es:List (TV×TV)}{r:Option Nat}{xs:Array MapEntry}(h:EO P kt k es=some r)(hx:wI N o es xs) :
  (∀w,(Instr.checkKey xs.isEmpty 10000 kt k).run P w=.ok () w)∧∃r',(∀w,(Instr.findKey kt k xs.toList).run P w=.ok r' w) ∧
   FR N o es xs r r':=by
 unfold EO at h;split at h
 case h_2=>simp at h
 rename_i ks EX;split at h
 case h_2=>simp at h
 rename_i r0 hr;split at h
 case isFalse=>simp at h
 rename_i Ru;cases h;generalize r0.map (·.1)=r at Ru ⊢;have hl:es.isEmpty=xs.isEmpty:=by rw[a4J];simp[List.isEmpty_iff,<-a6i,hx.len]
 have Kz:ks.length=es.length:=by
  have:∀{l:List TV} {vs:List LI3},BX l=some vs->vs.length=l.length:=by
   intro l
   induction l with
   |nil=>intro vs h;simp[BX]at h;subst h;rfl
   |cons a l ih=>
    intro vs h;simp only[BX]at h;split at h
    .rename_i v ws h1 h2;cases h;simp[ih h2]
    .cases h
  simpa using this EX
 rw[bJ]at hr;cases hc:aB P (Instr.checkKey es.isEmpty 10000 kt k)with
 |none=>simp[hc]at hr
 |some u=>
  refine⟨fun w=>by rw[<-hl];exact jk hc w,?_⟩;unfold VP at Ru;split at Ru
  case h_2=>simp at Ru
  rename_i kind hd;have hdr:=fun w=>jk hd w;simp only[a2f]at Ru;obtain⟨hj,hs⟩:=Ru;have a9l:∀(i:Nat) (x:MapEntry),xs.toList[i]? = some x->∃(j:Nat) (e:TV×TV),o[i]? = some j∧es[j]? = some e∧VR N e.1 x.key∧VR N e.2 x.val∧ks[j]? = some x.key:=by intro i x hi;obtain⟨_,j,e,h1,h2,h3,h4⟩:=hx.at_ i x (by simpa using hi);obtain⟨v,g1,g2⟩:=a0F EX j e.1 (by simp[h2]);exact⟨j,e,h1,h2,h3,h4,by rw[g1,wH g2 h3]⟩
  let b:Nat->Bool:=fun i=>o[i]? == r
  have hb:∀i j,o[i]? = some j->b i=(some j==r):=fun i j h=>by simp only[b,h]
  have fin:∀r',J7 b xs.toList 0 r'->FR N o es xs r r':=by
   intro r' hf;cases r' with
   |none=>
    cases r with
    |none=>trivial
    |some j=>
     simp only[a1n]at hj;obtain⟨i,hi⟩:=a99.1 (hx.sur j (by omega));have h1:=hf i (by have:=(a0a.1 hi).1;have:=hx.ord;simp;omega);rw[hb i j hi]at h1;simp at h1
   |some q=>
    obtain⟨i,v⟩:=q;obtain⟨_,h1,x,h2,h3⟩:=hf;simp only[Nat.sub_zero]at h1 h2;obtain⟨j,e,g1,g2,g3,g4,_⟩:=a9l i x h2;rw[hb i j g1]at h1;simp only[a6P]at h1;subst h1;exact⟨g1,e,x,g2,by simpa using h2,h3,g3,g4⟩
  have FM:∀{p:LI3×Nat->Bool},ks.zipIdx.all p=true->∀j x,ks[j]? = some x->p (x,j)=true:=by intro p hp j x hjx;exact a4I.1 hp (x,j) (a9M.2 (by simpa using hjx))
  unfold Instr.findKey;rcases a9n _ _▸hs with hs|hs
  .obtain⟨r',g1,g2⟩:=KD kind k xs.toList 0 b fun i x hi=>by obtain⟨j,e,h1,_,_,_,h5⟩:=a9l i x hi;have:=FM hs j _ h5;simp only[a6P]at this;rw[this,hb i j h1]
   exact⟨r',fun w=>by simp[hdr w,g1],fin r' g2⟩
  .by_cases h0:xs.toList=[]
   .refine⟨none,fun w=>by simp[hdr w,h0,Instr.findNow],fin none (by rw[h0];intro i hi;simp at hi)⟩
   .have Yy:Instr.findNow kind k xs.toList 0=none:=by
     cases hL:xs.toList with
     |nil=>exact absurd hL h0
     |cons x L=>
      obtain⟨j,e,h1,_,_,_,h5⟩:=a9l 0 x (by rw[hL];rfl);have:=FM hs j _ h5;simp only[a2f,a6P]at this;simp only[Instr.findNow,this.1]
    obtain⟨r',g1,g2⟩:=D5 (P:=P) kt k xs.toList 0 b fun i x hi=>by obtain⟨j,e,h1,_,_,_,h5⟩:=a9l i x hi;have:=FM hs j _ h5;simp only[a2f,a6P]at this;rw[this.2,hb i j h1]
    exact⟨r',fun w=>by simp[hdr w,Yy,g1 w],fin r' g2⟩
theorem Ec{t:LI2}{m k r:TV}{ok:Bool}{mv kv:LI3}(hV:Valid M D s.get w)(h:iq P t s.heap m k ok=some r)(hm:VR M.h m mv)(hk:VR M.h k kv)
  (hD:∀j∈(match m with|.map r=>[Key.h r] |_=>[]),D j):∃z,VR M.h r z∧(Instr.lookup t mv kv ok).run P w=.ok z w:=by
 unfold iq at h;split at h
 case h_2=>simp at h
 rename_i kt e kx hu hkx;have:=wH hkx hk;subst this;simp only at h;have main:∀(o:List Nat) (es:List (TV×TV)) (xs:Array MapEntry),wI M.h o es xs->((mv=.map none∧xs=#[])∨∃r1 ck,mv=.map (some r1)∧w.heap[r1]? = some (.map xs ck)) ->
   (match EO P kt kv es with
   |some (some i)=>match es[i]? with
    |some (_,v)=>some (if ok then .cO [v,.bool true]else v)
    |none=>none
   |some none=>match P.info? e with
    |some i=>match i.zero with
     |some z=>(TV.VJ z).map fun z=>if ok then .cO [z,.bool false]else z
     |none=>none
    |none=>none
   |none=>none)=some r->∃z,VR M.h r z∧(Instr.lookup t mv kv ok).run P w=.ok z w:=by
  intro o es xs hx vU h;cases hf:EO P kt kv es with
  |none=>simp[hf]at h
  |some r0=>
   rw[hf]at h;obtain⟨c1,r',c2,c3⟩:=GK hf hx;cases r0 with
   |some j=>
    cases r' with
    |none=>exact c3.elim
    |some jv=>
     obtain⟨j',v⟩:=jv;obtain⟨_,e',x',e1,e2,rfl,_,hv⟩:=c3;simp only[e1,a01]at h;subst h;refine⟨if ok then .tuple #[x'.val,.bool true]else x'.val,?_,?_⟩
     .cases ok
      .exact hv
      .exact .Qs (.cons hv (.cons (.bool true) .nil))
     .rcases vU with⟨rfl,rfl⟩|⟨r1,ck,rfl,hmp⟩
      .simp only[Instr.lookup,Sem.run_bind,run_underlying hu,Result.andThen_ok,c1 w,c2 w,Sem.run_pure]
      .simp only[Instr.lookup,Sem.run_bind,run_underlying hu,Result.andThen_ok,getObj,Sem.run,hmp,c1 w,c2 w,Sem.run_pure]
   |none=>
    cases r' with
    |some jv=>exact c3.elim
    |none=>
     simp only at h;split at h
     case h_2=>simp at h
     rename_i inf hi;split at h
     case h_2=>simp at h
     rename_i z hz;simp only[a0i]at h;obtain⟨zt,hzt,rfl⟩:=h;have hv:VR M.h zt z:=.yM hzt;refine⟨if ok then .tuple #[z,.bool false]else z,?_,?_⟩
     .cases ok
      .exact hv
      .exact .Qs (.cons hv (.cons (.bool false) .nil))
     .have hzr:(zeroValue e).run P w=.ok z w:=(by simp[zeroValue,jd hi,hz]);rcases vU with⟨rfl,rfl⟩|⟨r1,ck,rfl,hmp⟩
      .simp only[Instr.lookup,Sem.run_bind,run_underlying hu,Result.andThen_ok,c1 w,c2 w,Sem.run_pure,hzr]
      .simp only[Instr.lookup,Sem.run_bind,run_underlying hu,Result.andThen_ok,getObj,Sem.run,hmp,c1 w,c2 w,Sem.run_pure,hzr]
 cases hm with
 |YI=>exact main [] [] #[] ⟨rfl,rfl,.nil,by simp,by simp⟩ (.inl ⟨rfl,rfl⟩) h
 |map hmm=>
  rename_i r0 r1 o1;obtain⟨gJ,b1,b2⟩:=hV.ok _ _ hmm (hD _ (by simp));simp only[St.get]at b1;simp only[b1]at h;cases gJ with
  |map es=>
   obtain⟨xs,g1,g2⟩:=b2;exact main o1 es xs g2 (.inr ⟨r1,xs.size,rfl,g1⟩) h
  |cells k cs=>exact b2.elim
  |loop=>simp at h
  |mark=>simp at h
  |nH=>simp at h
  |dD=>simp at h
 |_=>simp at h
end
section
variable {P:LI1} {M:Mp} {D:Key->Prop} {w:LI4} {s:St}
theorem zn(hV:Valid M D s.get w){r r1:Nat}{o o':List Nat}{es gG:List (TV×TV)}{xs xs':Array MapEntry}(hm:M (.h r)=some (.obj r1 o))(hd:D (.h r))(hb:s.heap[r]? = some (.map es))
  (hr:w.heap[r1]? = some (.map xs xs.size)) (ho:o <+: o') (hx:wI (dL M (.h r) (.obj r1 o')).h o' gG xs') :
  Valid (dL M (.h r) (.obj r1 o')) (fun j=>D j∨(s.get j=none∧(St.get { s with heap:=s.heap.set r (.map gG) } j).isSome=true)) (St.get { s with heap:=s.heap.set r (.map gG) }) { w with heap:=w.heap.setIfInBounds r1 (.map xs' xs'.size) } ∧
  Ext M s.get w (dL M (.h r) (.obj r1 o')) (St.get { s with heap:=s.heap.set r (.map gG) }) { w with heap:=w.heap.setIfInBounds r1 (.map xs' xs'.size) } [.h r]:=by
 have hg:s.get (.h r)=some (.map es):=by simp[St.get,hb]
 have zl:=(a0a.1 hb).1;have hle:sK M (dL M (.h r) (.obj r1 o')):=mQ fun l0 h0=>by rw[hm]at h0;cases h0;exact⟨rfl,ho⟩
 have aQ:r1<w.heap.size:=(a2q.1 hr).1;have gQ:∀c,c<w.heap.size->c∉aI (.obj r1 o')->(w.heap.setIfInBounds r1 (Obj.map xs' xs'.size))[c]? = w.heap[c]?:=fun c _ hc=>by rw[a9a,a0q (by simp[aI]at hc;omega)]
 have gy:∀c∈aI (.obj r1 o'),(∃l0,M (.h r)=some l0∧c∈aI l0)∨w.heap.size<=c:=fun c hc=>.inl ⟨_,hm,hc⟩;constructor
 .rw[jF s r _ zl];refine Valid.widen ?_ (Ea (by simp[hg]));exact hV.upd (D':=D) (w':={ w with heap:=w.heap.setIfInBounds r1 (.map xs' xs'.size) }) (.h r) (.map gG) (.obj r1 o') (fun j hj=>.inl hj) (fun l0 h0=>by rw[hm]at h0;cases h0;exact⟨hd,⟨rfl,ho⟩,fun b0 Ad=>by rw[hg]at Ad;cases Ad;rfl⟩) gQ gy (by simp) ⟨xs',by simp[aQ],hx⟩
 .rw[jF s r _ zl];exact Ext.upd (M:=M) (C:=s.get) (w:=w) (w':={ w with heap:=w.heap.setIfInBounds r1 (.map xs' xs'.size) }) (.h r) (.map gG) (.obj r1 o') [.h r] (.inl ⟨by simp[hg],rfl,by simp[hm],fun b0 Ad=>by rw[hg]at Ad;cases Ad;rfl⟩) hle gQ gy (by simp) rfl rfl rfl
theorem wI.lt{N:Np}{o:List Nat}{es:List (TV×TV)}{xs:Array MapEntry}(g2:wI N o es xs):∀j∈o,j<es.length:=fun j hj=>by
 obtain⟨i,hi⟩:=a99.1 hj;have:i<xs.size:=by rw[<-g2.ord];exact(a0a.1 hi).1
 obtain⟨_,j',e,z1,z2,_⟩:=g2.at_ i _ (a3J this);rw[hi]at z1;cases z1;exact(a0a.1 z2).1
theorem wI.upd{N N':Np}{o:List Nat}{es:List (TV×TV)}{xs:Array MapEntry}(g2:wI N o es xs)(hle:sK N N'){i j:Nat}{x':MapEntry}{f:MapEntry->MapEntry}{k v:TV}
  (q1:o[i]? = some j) (e2:xs[i]? = some x') (hb:(f x').born=x'.born) (hk:VR N' k (f x').key) (hv:VR N' v (f x').val):wI N' o (es.set j (k,v)) (xs.modify i f):=by
 have g3:=g2.mono hle;refine⟨by simp[g2.len],by simp[g2.ord],g2.nod,fun j' E5=>g2.sur j' (by simpa using E5),fun a x h2=>?_⟩;rw[abU]at h2;by_cases ha:i=a
 .subst ha;rw[a0u rfl,e2]at h2;simp only[a0A,a01]at h2;subst h2;obtain⟨z1,j2,e2',z2,z3,_⟩:=g2.at_ i x' e2;rw[q1]at z2;cases z2;exact⟨hb.trans z1,j,(k,v),q1,by rw[a9V];simp[(a0a.1 z3).1],hk,hv⟩
 .rw[a0q ha]at h2;obtain⟨z1,j2,e2',z2,z3,z4,z5⟩:=g3.at_ a x h2;refine⟨z1,j2,e2',z2,?_,z4,z5⟩;have iF:j≠j2:=fun e=>by subst e;have i1:=a0a.1 q1;have i2:=a0a.1 z2;exact ha ((aaP g2.nod (h₀:=i1.1) (h₁:=i2.1)).1 (i1.2.trans i2.2.symm))
  rw[a9V,a0q iF];exact z3
theorem wI.push{N N':Np}{o:List Nat}{es:List (TV×TV)}{xs:Array MapEntry}(g2:wI N o es xs)(hle:sK N N'){k v:TV}{kv vv:LI3}
  (hk:VR N' k kv) (hv:VR N' v vv):wI N' (o++[es.length]) (es++[(k,v)]) (xs.push { key:=kv,val:=vv,born:=xs.size }):=by
 have aQ:=g2.lt;have g3:=g2.mono hle;refine⟨by simp[g2.len],by simp[g2.ord],?_,fun j hj=>?_,fun a x h2=>?_⟩
 .rw[a96];exact⟨g2.nod,by simp,fun x hx y hy=>by simp at hy;subst hy;have:=aQ x hx;omega⟩
 .simp only[a1o,a4q,a4O]at hj;rcases a4u j es.length with h1|h1
  .exact a5j _ (g2.sur j h1)
  .exact abW _ (by simp;omega)
 .rw[Array.getElem?_push]at h2;by_cases ha:a=xs.size
  .rw[a0u ha]at h2;simp only[a01]at h2;subst h2;exact⟨ha.symm,es.length,(k,v),by rw[a0G (by rw[g2.ord];omega),g2.ord,ha];simp,by simp,hk,hv⟩
  .rw[a0q ha]at h2;obtain⟨z1,j2,e2',z2,z3,z4,z5⟩:=g3.at_ a x h2;exact⟨z1,j2,e2',by rw[a0p (a0a.1 z2).1];exact z2,by rw[a0p (a0a.1 z3).1];exact z3,z4,z5⟩
theorem Rx{t:LI2}{m k v:TV}{s1:St}{i:mJ}{mv kv vv:LI3}(hV:Valid M D s.get w)(h:y9 P t s m k v=some (s1,i))(hm:VR M.h m mv)(hk:VR M.h k kv)(hv:VR M.h v vv)
  (hD:∀j∈i.ts,D j):s1.env=s.env∧∃w' M',(Instr.mapUpdate t mv kv vv).run P w=.ok () w' ∧
   Valid M' (fun j=>D j∨(s.get j=none∧(s1.get j).isSome=true)) s1.get w'∧Ext M s.get w M' s1.get w' i.ws∧(∀k l,M (.l k)=some l->M' (.l k)=some l):=by
 unfold y9 at h;split at h
 case h_2=>simp at h
 rename_i kt et kx r hu hkx;have:=wH hkx hk;subst this;split at h
 case h_2=>simp at h
 rename_i es LU hck;have c0:=jk hck w;cases hm with
 |map hmm=>
 rename_i r1 o1;have zo:∀o',∀k l,M (.l k)=some l->dL M (.h r) (.obj r1 o') (.l k)=some l:=fun o' k l h=>by simp[dL,h]
 have go:D (.h r)->∃xs,w.heap[r1]? = some (.map xs xs.size)∧wI M.h o1 es xs:=by intro hd;obtain⟨gJ,b1,b2⟩:=hV.ok _ _ hmm hd;simp only[St.get,LU,a01]at b1;subst b1;exact b2
 split at h
 .-- an entry that is there
  rename_i j hf;split at h
  case h_2=>simp at h
  rename_i old ov0 hj;split at h
  case h_2=>simp at h
  rename_i ov hov;split at h
  case isFalse=>simp at h
  rename_i Wp;simp only[a01,a0z]at h;obtain⟨rfl,rfl⟩:=h;have hd:=hD (.h r) (by simp[pF]);obtain⟨xs,g1,g2⟩:=go hd;obtain⟨c1,r',c2,c3⟩:=GK hf g2;cases r' with
  |none=>exact c3.elim
  |some jv=>
   obtain⟨i,v'⟩:=jv;obtain⟨q1,e',x',e1,e2,rfl,q2,_⟩:=c3;rw[hj]at e1;cases e1;have hold:x'.key=ov:=wH hov q2;have hle:sK M (dL M (.h r) (.obj r1 o1)):=mQ fun l0 h0=>by have h0':M (.h r)=some l0:=h0;have Qx:M (.h r)=some (.obj r1 o1):=hmm;rw[Qx]at h0';cases h0';exact .refl _
   have FD:=g2.upd (f:=fun e=>{ e with key:=kv,val:=vv }) hle.h q1 e2 rfl (hk.mono hle.h) (hv.mono hle.h);obtain⟨v1,v2⟩:=zn hV hmm hd LU g1 (ags _) FD;refine⟨rfl,_,_,?_,v1,v2,zo _⟩;simp only[Instr.mapUpdate,Sem.run_bind,run_underlying hu,Result.andThen_ok,getObj,Sem.run,g1];simp only[c0,c2 w,Result.andThen_ok,e2,a0A,a6k,Instr.keyThatStays,hold,Wp,a1I,setObj];simp only[Sem.run_bind,Sem.run_pure,Result.andThen_ok,Sem.run,g1,Array.size_modify]
 .-- a new entry
  rename_i hf;simp only[a01,a0z]at h;obtain⟨rfl,rfl⟩:=h;have hd:=hD (.h r) (by simp[pF]);obtain⟨xs,g1,g2⟩:=go hd;obtain⟨c1,r',c2,c3⟩:=GK hf g2;cases r' with
  |some jv=>exact c3.elim
  |none=>
   have EI:o1 <+: o1++[es.length]:=⟨_,rfl⟩;have hle:sK M (dL M (.h r) (.obj r1 (o1++[es.length]))):=mQ fun l0 h0=>by have h0':M (.h r)=some l0:=h0;have Qx:M (.h r)=some (.obj r1 o1):=hmm;rw[Qx]at h0';cases h0';exact⟨rfl,EI⟩
   have FD:=g2.push hle.h (hk.mono hle.h) (hv.mono hle.h);obtain⟨v1,v2⟩:=zn hV hmm hd LU g1 EI FD;refine⟨rfl,_,_,?_,v1,v2,zo _⟩;simp only[Instr.mapUpdate,Sem.run_bind,run_underlying hu,Result.andThen_ok,getObj,Sem.run,g1];simp only[c0,c2 w,Result.andThen_ok,setObj,Sem.run,g1,Array.size_push]
 .simp at h
theorem a2E{t:LI2}{m k:TV}{e:EV}{s1:St}{i:mJ}{mv kv:LI3}(hV:Valid M D s.get w)(h:Ah P t s m k=some (e,s1,i))(hm:VR M.h m mv)(hk:VR M.h k kv)
  (hD:∀j∈i.ts,D j):s1.env=s.env∧∃x w' M',(Instr.mapEntry t mv kv).run P w=.ok x w'∧ER M' e x ∧
   Valid M' (fun j=>D j∨(s.get j=none∧(s1.get j).isSome=true)) s1.get w'∧Ext M s.get w M' s1.get w' i.ws∧(∀k l,M (.l k)=some l->M' (.l k)=some l):=by
 unfold Ah at h;split at h
 case h_2=>simp at h
 rename_i kt et kx r hu hkx;have:=wH hkx hk;subst this;split at h
 case h_2=>simp at h
 rename_i es LU hck;have c0:=jk hck w;cases hm with
 |map hmm=>
 rename_i r1 o1;have zo:∀o',∀k l,M (.l k)=some l->dL M (.h r) (.obj r1 o') (.l k)=some l:=fun o' k l h=>by simp[dL,h]
 have go:D (.h r)->∃xs,w.heap[r1]? = some (.map xs xs.size)∧wI M.h o1 es xs:=by intro hd;obtain⟨gJ,b1,b2⟩:=hV.ok _ _ hmm hd;simp only[St.get,LU,a01]at b1;subst b1;exact b2
 have IQ:∀o',dL M (.h r) (.obj r1 o') (.h r)=some (.obj r1 o'):=fun o'=>by simp[dL]
 split at h
 .rename_i j hf;split at h
  case h_2=>simp at h
  rename_i old v0 hj;split at h
  case h_2=>simp at h
  rename_i ov hov;split at h
  case isFalse=>simp at h
  rename_i Wp;simp only[a01,a0z]at h;obtain⟨rfl,rfl,rfl⟩:=h;have hd:=hD (.h r) (by simp[pF]);obtain⟨xs,g1,g2⟩:=go hd;obtain⟨c1,r',c2,c3⟩:=GK hf g2;cases r' with
  |none=>exact c3.elim
  |some jv=>
   obtain⟨i,v'⟩:=jv;obtain⟨q1,e',x',e1,e2,rfl,q2,q3⟩:=c3;rw[hj]at e1;cases e1;have hold:x'.key=ov:=wH hov q2;have hle:sK M (dL M (.h r) (.obj r1 o1)):=mQ fun l0 h0=>by have h0':M (.h r)=some l0:=h0;have Qx:M (.h r)=some (.obj r1 o1):=hmm;rw[Qx]at h0';cases h0';exact .refl _
   have FD:=g2.upd (f:=fun e=>{ e with key:=kv }) hle.h q1 e2 rfl (hk.mono hle.h) (q3.mono hle.h);obtain⟨v1,v2⟩:=zn hV hmm hd LU g1 (ags _) FD;refine⟨rfl,.tuple #[x'.val,Go.goInt i],_,_,?_,.ent (IQ _) q1 (q3.mono hle.h),v1,v2,zo _⟩;simp only[Instr.mapEntry,Sem.run_bind,run_underlying hu,Result.andThen_ok,getObj,Sem.run,g1];simp only[c0,c2 w,Result.andThen_ok,e2,a0A,a6k,Instr.keyThatStays,hold,Wp,a1I,setObj,(g2.at_ i x' e2).1];simp only[Sem.run_bind,Sem.run_pure,Result.andThen_ok,Sem.run,g1,Array.size_modify]
 .rename_i hf;split at h
  case h_2=>simp at h
  rename_i inf hi;split at h
  case h_2=>simp at h
  rename_i z hz;split at h
  case h_2=>simp at h
  rename_i zt hzt;simp only[a01,a0z]at h;obtain⟨rfl,rfl,rfl⟩:=h;have hd:=hD (.h r) (by simp[pF]);obtain⟨xs,g1,g2⟩:=go hd;obtain⟨c1,r',c2,c3⟩:=GK hf g2;have hzr:(zeroValue et).run P w=.ok z w:=by simp[zeroValue,jd hi,hz]
  cases r' with
  |some jv=>exact c3.elim
  |none=>
   have EI:o1 <+: o1++[es.length]:=⟨_,rfl⟩;have hle:sK M (dL M (.h r) (.obj r1 (o1++[es.length]))):=mQ fun l0 h0=>by have h0':M (.h r)=some l0:=h0;have Qx:M (.h r)=some (.obj r1 o1):=hmm;rw[Qx]at h0';cases h0';exact⟨rfl,EI⟩
   have FD:=g2.push hle.h (hk.mono hle.h) (.yM hzt);obtain⟨v1,v2⟩:=zn hV hmm hd LU g1 EI FD;refine⟨rfl,.tuple #[z,Go.goInt xs.size],_,_,?_,.ent (IQ _) (by rw[a0G (by rw[g2.ord];omega),g2.ord];simp) (.yM hzt),v1,v2,zo _⟩;simp only[Instr.mapEntry,Sem.run_bind,run_underlying hu,Result.andThen_ok,getObj,Sem.run,g1];simp only[c0,c2 w,hzr,Result.andThen_ok,setObj,Sem.run,g1,Array.size_push,Sem.run_bind,Sem.run_pure]
 .simp at h
theorem a5f{t:LI2}{m k:TV}{e:EV}{s1:St}{i:mJ}{mv kv:LI3}(hV:Valid M D s.get w)(h:CQ P t s m k=some (e,s1,i))(hm:VR M.h m mv)(hk:VR M.h k kv)
  (hD:∀j∈i.ts,D j):s1.env=s.env∧∃x w' M',(Instr.mapEntry t mv kv).run P w=.ok x w'∧ER M' e x ∧
   Valid M' (fun j=>D j∨(s.get j=none∧(s1.get j).isSome=true)) s1.get w'∧Ext M s.get w M' s1.get w' i.ws∧(∀k l,M (.l k)=some l->M' (.l k)=some l):=by
 unfold CQ at h;split at h
 .rename_i h0;split at h
  .cases h;exact a2E hV h0 hm hk hD
  .cases h
 .cases h
theorem Ua{xs:Array MapEntry}{i:Nat}(h:∀(a:Nat) (x:MapEntry),xs[a]? = some x->x.born=a)(hi:i<xs.size):xs.findIdx? (fun e=>(e.born:Int)==(i:Int))=some i:=by
 rw[Array.findIdx?_eq_some_iff_getElem];refine⟨hi,?_,fun j hj=>?_⟩
 .have:=h i _ (a3J hi);simp[this]
 have:=h j _ (a3J (Nat.lt_trans hj hi));simp[this];omega
theorem a2F{t:LI2}{m v:TV}{e:EV}{s1:St}{i:mJ}{mv ev vv:LI3}(hV:Valid M D s.get w)(h:Gv s m e v=some (s1,i))(hm:VR M.h m mv)(he:ER M e ev)(hv:VR M.h v vv)
  (hD:∀j∈i.ts,D j):s1.env=s.env∧∃w' M',(Instr.entryStore t mv ev vv).run P w=.ok () w' ∧
   Valid M' (fun j=>D j∨(s.get j=none∧(s1.get j).isSome=true)) s1.get w'∧Ext M s.get w M' s1.get w' i.ws∧(∀k l,M (.l k)=some l->M' (.l k)=some l):=by
 unfold Gv at h;split at h
 case h_2=>simp at h
 rename_i r r' j;split at h
 case isFalse=>simp at h
 rename_i hrr;subst hrr;split at h
 case h_2=>simp at h
 rename_i es LU;split at h
 case h_2=>simp at h
 rename_i k v0 hj;simp only[a01,a0z]at h;obtain⟨rfl,rfl⟩:=h;cases hm with
 |map hmm=>
 rename_i r1 o1;cases he with
 |EG h1 q1=>
 rename_i r2 i o2;have Qx:M (.h r)=some (.obj r1 o1):=hmm;rw[Qx]at h1;cases h1;have hd:=hD (.h r) (by simp[pF]);obtain⟨gJ,b1,b2⟩:=hV.ok _ _ hmm hd;simp only[St.get,LU,a01]at b1;subst b1;obtain⟨xs,g1,g2⟩:=b2;have aQ:i<xs.size:=by rw[<-g2.ord];exact(a0a.1 q1).1
 obtain⟨z1,j2,e2',z2,z3,z4,z5⟩:=g2.at_ i _ (a3J aQ);rw[q1]at z2;cases z2;rw[hj]at z3;cases z3;have hle:sK M (dL M (.h r) (.obj r1 o1)):=mQ fun l0 h0=>by have h0':M (.h r)=some l0:=h0;rw[Qx]at h0';cases h0';exact .refl _
 have FD:=g2.upd (f:=fun e=>{ e with val:=vv }) hle.h q1 (a3J aQ) rfl (z4.mono hle.h) (hv.mono hle.h);obtain⟨v1,v2⟩:=zn hV hmm hd LU g1 (ags _) FD;refine⟨rfl,_,_,?_,v1,v2,fun k l h=>by simp[dL,h]⟩;have hf:=Ua (fun a x hx=>(g2.at_ a x hx).1) aQ;simp only[Instr.entryStore,Sem.run_bind,Result.andThen_ok,getObj,Sem.run,g1,asInt,asIntOf,Go.goInt,hf,setObj];simp only[Sem.run_bind,Sem.run_pure,Result.andThen_ok,Sem.run,hf,g1,Array.size_modify]
end
def GL(M:Mp)(env:List (Nat×EV))(a:Act)(X:Array Operand):Prop:=∀x∈X,∀e,IJ env x=some e->ER M e (a.eval x)
theorem jY.on{M:Mp}{env:List (Nat×EV)}{a:Act}(hE:jY M env a.tmps)(X:Array Operand):GL M env a X:=fun _ _ _ he=>a4R hE he
section
variable {M:Mp} {env:List (Nat×EV)} {a:Act} {X:Array Operand}
theorem pJ(hE:GL M env a X){x:Operand}(hx:x∈X){e:EV}(h:IJ env x=some e):ER M e (a.eval x):=hE x hx e h
theorem iw(hE:GL M env a X){x:Operand}(hx:x∈X){v:TV}(h:qO env x=some v):VR M.h v (a.eval x):=by
 unfold qO at h;split at h
 .rename_i v' he;simp at h;subst h;exact(pJ hE hx he).vS
 simp at h
theorem GN(hE:GL M env a X):∀{xs:List Operand} {vs:List TV},(∀x∈xs,x∈X)->TR env xs=some vs->bY M.h vs (xs.map a.eval)
 | [],vs,_,h=>by simp[TR]at h;subst h;exact .nil
 |x::xs,vs,hx,h=>by
  simp only[TR]at h;split at h
  .rename_i v vs' h1 h2;simp at h;subst h;exact .cons (iw hE (hx x (by simp)) h1) (GN hE (fun y hy=>hx y (by simp[hy])) h2)
  simp at h
theorem Ub(hE:GL M env a X):∀{xs:List (Nat×Operand)} {vs:List (Nat×TV)},(∀p∈xs,p.2∈X)->VO env xs=some vs ->
  PR M.h vs (xs.map fun(i,x)=>(i,a.eval x))
 | [],vs,_,h=>by simp[VO]at h;subst h;exact .nil
 |(i,x)::xs,vs,hx,h=>by
  simp only[VO]at h;split at h
  .rename_i v vs' h1 h2;simp at h;subst h;exact .cons (iw hE (hx (i,x) (by simp)) h1) (Ub hE (fun y hy=>hx y (by simp[hy])) h2)
  .simp at h
theorem GR(hE:GL M env a X){o:Option Operand}(hx:∀x,o=some x->x∈X){v:Option TV}(h:VQ env o=some v):OR M.h v (o.map a.eval):=by
 unfold VQ at h;split at h
 .simp at h;subst h;exact .none
 rename_i x;split at h
 .rename_i v' hv;simp at h;subst h;exact .some (iw hE (hx x rfl) hv)
 simp at h
end
section
variable {P:LI1} {M:Mp} {D:Key->Prop} {w:LI4} {s:St}
def GU:Op->Bool
 |.call { callee:=.value _,.. }=>true
 |_=>false
theorem Gx.mW{C:Ct}{c:Sem Next}{v:TV}{S:Sem LI3}(hV:Valid M D C w)(hc:c=(do pure (.value (<-S))))(h:∃z,VR M.h v z∧S.run P w=.ok z w):Gx P M D C w c (.val v) C []:=by obtain⟨z,h1,h2⟩:=h;exact .same hV (by rw[hc];simp[h2]) (.val h1)
theorem Gx.NZ{C:Ct}{c:Sem Next}{v:EV}{S:Sem LI3}(hV:Valid M D C w)(hc:c=(do pure (.value (<-S))))(h:∃z,ER M v z∧S.run P w=.ok z w):Gx P M D C w c v C []:=by obtain⟨z,h1,h2⟩:=h;exact .same hV (by rw[hc];simp[h2]) h1
theorem Gx.ahN{C:Ct}{c:Sem Next}{v:TV}{S:Sem LI3}{C1:Ct}{ws:List Key}(hc:c=(do pure (.value (<-S))))(h:BOk P M D C w S v C1 ws):Gx P M D C w c (.val v) C1 ws:=by obtain⟨x,w',M',h1,h2⟩:=h;exact⟨x,w',M',.inl (by rw[hc];simp[h1]),h2⟩
theorem Gx.ae6{C:Ct}{c:Sem Next}{S:Sem Unit}{C1:Ct}{ws:List Key}(hc:c=(do S;pure .skip))(h:∃w' M',S.run P w=.ok () w'∧Valid M' (fun j=>D j∨(C j=none∧(C1 j).isSome=true)) C1 w'∧Ext M C w M' C1 w' ws∧(∀k l,M (.l k)=some l->M' (.l k)=some l)):Gx P M D C w c .undef C1 ws:=by obtain⟨w',M',h1,h2,h3,h4⟩:=h;exact⟨Go.undef,w',M',.inr ⟨rfl,by rw[hc];simp[h1]⟩,⟨h2,h3,.undef,h4⟩⟩
theorem Gx.anD{C:Ct}{c:Sem Next}{S:Sem Unit}{C1:Ct}{ws:List Key}(hc:c=(do S;pure .skip))(h:∃w',S.run P w=.ok () w'∧Valid M (fun j=>D j∨(C j=none∧(C1 j).isSome=true)) C1 w'∧Ext M C w M C1 w' ws):Gx P M D C w c .undef C1 ws:=by obtain⟨w',h1,h2,h3⟩:=h;exact⟨Go.undef,w',M,.inr ⟨rfl,by rw[hc];simp[h1]⟩,⟨h2,h3,.undef,fun _ _ h=>h⟩⟩
theorem YW{b:Builtin}{at_:Array LI2}{t:LI2}{cs:Array Bool}{az:List TV}{xs:List LI3}{v:TV}{s1:St}{i:mJ}(hV:Valid M D s.get w)(zi:M (.h s.heap.length)=none)
  (h:qU P b at_ t s az=some (v,s1,i)) (hx:bY M.h az xs) (hD:∀k∈i.ts,D k):s1.env=s.env∧Gx P M D s.get w (builtin b at_ t cs xs.toArray) (.val v) s1.get i.ws:=by
 unfold qU at h;split at h
 .simp only[a0i,a0z]at h;obtain⟨⟨v',i'⟩,h1,rfl,rfl,rfl⟩:=h;obtain⟨x,xs',rfl,hx1,hx2⟩:=hx.iT;have:=hx2.qo;subst this;obtain⟨e1,e2⟩:=YR (t:=t) hV h1 hx1 hD;refine⟨rfl,?_⟩;simp only;rw[e1];exact .mW hV rfl e2
 .obtain⟨x,xs',rfl,hx1,hx2⟩:=hx.iT;obtain⟨y,ys',rfl,hy1,hy2⟩:=hx2.iT;have:=hy2.qo;subst this;obtain⟨e1,e2⟩:=J6 (ty:=t) hV zi h hx1 hy1 hD;exact⟨e1,.ahN rfl e2⟩
 .obtain⟨x,xs',rfl,hx1,hx2⟩:=hx.iT;obtain⟨y,ys',rfl,hy1,hy2⟩:=hx2.iT;have:=hy2.qo;subst this;obtain⟨e1,e2⟩:=U9 (ty:=t) hV h hx1 hy1 hD;exact⟨e1,.ahN rfl e2⟩
 .simp only[a0i,a0z]at h;obtain⟨v',h1,rfl,rfl,rfl⟩:=h;exact⟨rfl,.mW hV rfl (zk h1 hx)⟩
 .simp only[a0i,a0z]at h;obtain⟨v',h1,rfl,rfl,rfl⟩:=h;exact⟨rfl,.mW hV rfl (zk h1 hx)⟩
 .simp at h
theorem ahO{call:aY}{site:Nat->Bool}{o:Oper}{a:Act}{v:EV}{s1:St}{i:mJ}(hV:Valid M D s.get w)(hE:GL M s.env a o.op.operands)(zi:M (.h s.heap.length)=none)(hnl:M (.l s.loc.length)=none)
  (h:pG P call site s o=some (v,s1,i)) (hc:GU o.op=false) (hD:∀k∈i.ts,D k):s1.env=s.env∧Gx P M D s.get w (execOp a.eval o) v s1.get i.ws:=by
 unfold pG at h;unfold execOp;split at h
 .-- move
  rename_i x ho;rw[ho];simp only[a0i,a0z]at h;obtain⟨e,he,rfl,rfl,rfl⟩:=h;exact⟨rfl,.same hV rfl (pJ hE (by simp[ho,Op.operands]) he)⟩
 .rename_i x ho;rw[ho];simp only[a0i,a0z]at h;obtain⟨e,he,rfl,rfl,rfl⟩:=h;exact⟨rfl,.same hV rfl (pJ hE (by simp[ho,Op.operands]) he)⟩
 .-- pick
  rename_i c x y ho;rw[ho];split at h
  .rename_i t ht;simp only[a0i,a0z]at h;obtain⟨e,he,rfl,rfl,rfl⟩:=h;have hb:=iw hE (by simp[ho,Op.operands]) ht;have qL:a.eval c=.bool t:=by cases qL:a.eval c<;>rw[qL]at hb<;>cases hb;rfl
   have:=pJ hE (by cases t<;>simp[ho,Op.operands]) he;refine⟨rfl,.same hV (x:=a.eval (if t then x else y)) ?_ this⟩;simp only[Sem.run_bind,qL,asBool,Sem.run_pure,Result.andThen_ok];cases t<;>rfl
  .simp at h
 .-- alloc
  rename_i e ho;rw[ho];simp only[a0i]at h;obtain⟨z,hz,h⟩:=h;obtain⟨i',x,v',_,_,_,_,hz1,hvr,hzr⟩:=wK hz;simp only[a0z]at h;obtain⟨rfl,rfl,rfl⟩:=h;obtain⟨M',hp⟩:=a4S hV zi hnl (site (o.dst.getD 0)) e (hvr M.h) hz1 rfl;refine⟨by unfold qP;split<;>rfl,_,_,M',.inl ?_,hp⟩;simp[Instr.alloc,hzr w,newVar,newRow]
 .-- box
  rename_i t x ho;rw[ho];split at h
  .rename_i v0 hv0;split at h
   .rename_i Fz;simp only[a01,a0z]at h;obtain⟨rfl,rfl,rfl⟩:=h;obtain⟨M',hp⟩:=a4S hV zi hnl (site (o.dst.getD 0)) t (iw hE (by simp[ho,Op.operands]) hv0).cells (LP Fz) rfl;refine⟨by unfold qP;split<;>rfl,_,_,M',.inl ?_,hp⟩;simp[Instr.box,newVar,newRow]
   .simp at h
  .simp at h
 .-- build
  rename_i t ps ho;rw[ho];split at h
  .rename_i qs hq;simp only[a0i,a0z]at h;obtain⟨v0,hb,rfl,rfl,rfl⟩:=h;obtain⟨x,h1,h2⟩:=a4U hb (Ub hE (fun p hp=>by simp[ho,Op.operands];exact⟨p.1,by simpa using hp⟩) hq);refine⟨rfl,.mW hV rfl ⟨x,h1,?_⟩⟩;have:=h2 w
   rwa [show(List.map (fun x=>(x.1,a.eval x.2)) ps.toList).toArray=ps.map (fun x=>(x.1,a.eval x.2))from by apply adX;simp]at this
  .simp at h
 .-- buildSlice
  rename_i t len ps ho;rw[ho];split at h
  .rename_i qs hq;simp only[a0i,a0z]at h;obtain⟨⟨v0,s0⟩,hb,rfl,rfl,rfl⟩:=h;obtain⟨e1,x,w',M',h1,h2⟩:=uj hV zi hb (Ub hE (fun p hp=>by simp[ho,Op.operands];exact⟨p.1,by simpa using hp⟩) hq);refine⟨e1,x,w',M',.inl ?_,h2⟩;rw[show(List.map (fun x=>(x.1,a.eval x.2)) ps.toList).toArray=ps.map (fun x=>(x.1,a.eval x.2))from by apply adX;simp]at h1;simp[h1]
  .simp at h
 .-- load
  rename_i t x ho;rw[ho];split at h
  .rename_i e he;simp only[a0i,a0z]at h;obtain⟨⟨v0,i0⟩,hl,rfl,rfl,rfl⟩:=h;obtain⟨e1,e2⟩:=Gy hV hl (pJ hE (by simp[ho,Op.operands]) he) hD;refine⟨rfl,?_⟩;simp only;rw[e1];exact .mW hV rfl e2
  .simp at h
 .-- store
  rename_i t x y ho;rw[ho];split at h
  .rename_i e v0 he hv0;simp only[a0i,a0z]at h;obtain⟨⟨s0,i0⟩,hl,rfl,rfl,rfl⟩:=h;obtain⟨e1,w',e2,e3,e4,e5⟩:=YO hV hl (pJ hE (by simp[ho,Op.operands]) he) (iw hE (by simp[ho,Op.operands]) hv0) hD;exact⟨e1,.anD rfl ⟨w',e2,e3.widen e5,e4⟩⟩
  .simp at h
 .-- nilCheck
  rename_i x ho;rw[ho];split at h
  .rename_i k off he;simp only[a01,a0z]at h;obtain⟨rfl,rfl,rfl⟩:=h;have hx:=pJ hE (by simp[ho,Op.operands]) he;refine⟨rfl,.same hV (x:=a.eval x) ?_ hx⟩;cases hxe:a.eval x<;>rw[hxe]at hx<;>cases hx
   simp[hxe]
  .rename_i b off lim he;simp only[a01,a0z]at h;obtain⟨rfl,rfl,rfl⟩:=h;have hx:=pJ hE (by simp[ho,Op.operands]) he;refine⟨rfl,.same hV (x:=a.eval x) ?_ hx⟩;have FD:=hx.vS;cases hxe:a.eval x<;>rw[hxe]at FD<;>cases FD
   simp[hxe]
  .rename_i f b c he;simp only[a01,a0z]at h;obtain⟨rfl,rfl,rfl⟩:=h;have hx:=pJ hE (by simp[ho,Op.operands]) he;refine⟨rfl,.same hV (x:=a.eval x) ?_ hx⟩;have FD:=hx.vS;cases hxe:a.eval x<;>rw[hxe]at FD<;>cases FD
   simp[hxe]
  .rename_i l he;simp only[a01,a0z]at h;obtain⟨rfl,rfl,rfl⟩:=h;have hx:=pJ hE (by simp[ho,Op.operands]) he;refine⟨rfl,.same hV (x:=a.eval x) ?_ hx⟩;have FD:=hx.vS;cases hxe:a.eval x<;>rw[hxe]at FD<;>cases FD
   simp[hxe]
  .simp at h
 .-- binOp
  rename_i op t x y t' ho;rw[ho];split at h
  .rename_i u v0 hu hv;simp only[a0i,a0z]at h;obtain⟨r,hb,rfl,rfl,rfl⟩:=h;exact⟨rfl,.mW hV rfl (YP hb (iw hE (by simp[ho,Op.operands]) hu) (iw hE (by simp[ho,Op.operands]) hv))⟩
  .simp at h
 .-- unOp
  rename_i op t x ho;rw[ho];split at h
  .rename_i u hu;simp only[a0i,a0z]at h;obtain⟨r,hb,rfl,rfl,rfl⟩:=h;exact⟨rfl,.mW hV rfl (iZ hb (iw hE (by simp[ho,Op.operands]) hu))⟩
  .simp at h
 .-- convert
  rename_i t t' x ho;rw[ho];split at h
  .rename_i u hu;simp only[a0i,a0z]at h;obtain⟨r,hb,rfl,rfl,rfl⟩:=h;exact⟨rfl,.mW hV rfl (U4 hb (iw hE (by simp[ho,Op.operands]) hu))⟩
  .simp at h
 .-- makeFunc
  rename_i f az bs ho;rw[ho];split at h
  .rename_i us vs hu hv;simp only[a01,a0z]at h;obtain⟨rfl,rfl,rfl⟩:=h;have h1:=GN hE (fun x hx=>by simp[ho,Op.operands];exact .inl (by simpa using hx)) hu;have h2:=GN hE (fun x hx=>by simp[ho,Op.operands];exact .inr (by simpa using hx)) hv;refine⟨rfl,.mW hV rfl ⟨.func (.func f) (az.map a.eval) (bs.map a.eval),?_,rfl⟩⟩;have:=VR.fn (f:=f) h1.len h1.at_ h2.len h2.at_
   rwa [show(List.map a.eval az.toList).toArray=az.map a.eval from by apply adX;simp,show(List.map a.eval bs.toList).toArray=bs.map a.eval from by apply adX;simp]at this
  .simp at h
 .-- makeMap
  rename_i t r ho;rw[ho];have yQ:s.get (.h s.heap.length)=none:=by simp[St.get]
  have hle:sK M (dL M (.h s.heap.length) (.obj w.heap.size [])):=mQ fun l0 h0=>by rw[zi]at h0;cases h0
  have gQ:∀c,c<w.heap.size->c∉aI (.obj w.heap.size [])->(w.alloc (.map #[] 0)).heap[c]? = w.heap[c]?:=fun c hc _=>wJ w _ c hc;have gy:∀c∈aI (.obj w.heap.size []),(∃l0,M (.h s.heap.length)=some l0∧c∈aI l0)∨w.heap.size<=c:=fun c hc=>.inr (by simp[aI]at hc;omega);have key:NG M D s.get w (.val (.map s.heap.length)) (St.get { s with heap:=s.heap++[.map []] }) [] (.map (some w.heap.size)) (w.alloc (.map #[] 0)) (dL M (.h s.heap.length) (.obj w.heap.size [])):=by
   refine⟨?_,?_,.val (.map (o:=[]) (by simp[Mp.h,dL])),qV zi⟩
   .rw[kF];refine hV.upd _ _ _ (fun j hj=>?_) (fun l0 h0=>by rw[zi]at h0;cases h0) gQ gy (by simp) ⟨#[],heap_alloc_new w _,rfl,rfl,.nil,by simp,by simp⟩;rcases hj with hj|⟨x1,x2⟩
    .exact .inl hj
    .right;unfold lZ at x2;split at x2
     .assumption
     .simp[x1]at x2
   .rw[kF];exact Ext.upd _ _ _ [] (.inr ⟨yQ,zi,rfl⟩) hle gQ gy (by simp) rfl rfl rfl
  split at h
  .rename_i _ hr;simp only[a01,a0z]at h;obtain⟨rfl,rfl,rfl⟩:=h;have:=GR hE (fun x hx=>by simp[ho,Op.operands,hx]) hr;refine⟨rfl,_,_,_,.inl ?_,key⟩;cases hrr:r.map a.eval with
   |none=>simp[hrr,Instr.makeMap]
   |some y=>rw[hrr]at this;cases this
  .rename_i k n _ _ hr hu;simp only[a01,a0z]at h;obtain⟨rfl,rfl,rfl⟩:=h;have:=GR hE (fun x hx=>by simp[ho,Op.operands,hx]) hr;refine⟨rfl,_,_,_,.inl ?_,key⟩;cases hrr:r.map a.eval with
   |none=>rw[hrr]at this;cases this
   |some y=>
    rw[hrr]at this;cases this with
    |some hy=>
     cases hy;simp[hrr,Instr.makeMap,run_underlying hu,asInt,asIntOf]
  .simp at h
 .-- makeSlice
  rename_i t l c ho;rw[ho];split at h
  .rename_i u v0 hu hv;simp only[a0i,a0z]at h;obtain⟨⟨r,s0⟩,hb,rfl,rfl,rfl⟩:=h;obtain⟨e1,z,w',M',e2,e3⟩:=Am hV zi hb (iw hE (by simp[ho,Op.operands]) hu) (iw hE (by simp[ho,Op.operands]) hv);exact⟨e1,z,w',M',.inl (by simp[e2]),e3⟩
  .simp at h
 .-- slice
  rename_i t x lo hi mx ho;rw[ho];split at h
  .rename_i e YQ wF mx' he GV hhi hmx;have h1:=GR hE (fun x hx=>by simp[ho,Op.operands,hx]) GV;have h2:=GR hE (fun x hx=>by simp[ho,Op.operands,hx]) hhi;have h3:=GR hE (fun x hx=>by simp[ho,Op.operands,hx]) hmx;split at h
   .simp only[a0i,a0z]at h;obtain⟨r,hb,rfl,rfl,rfl⟩:=h;exact⟨rfl,.mW hV rfl (CX hb (pJ hE (by simp[ho,Op.operands]) he) h1 h2 h3)⟩
   .simp only[a0i,a0z]at h;obtain⟨r,hb,rfl,rfl,rfl⟩:=h;exact⟨rfl,.mW hV rfl (NU hb (pJ hE (by simp[ho,Op.operands]) he).vS h1 h2 h3)⟩
   .simp at h
  .simp at h
 .-- fieldAddr
  rename_i t x f ho;rw[ho];split at h
  .rename_i e n he hn;simp only[a0i,a0z]at h;obtain⟨r,hb,rfl,rfl,rfl⟩:=h;exact⟨rfl,.NZ hV rfl (U3 hn hb (pJ hE (by simp[ho,Op.operands]) he))⟩
  .simp at h
 .-- field
  rename_i t x f ho;rw[ho];split at h
  .rename_i u hu;simp only[a0i,a0z]at h;obtain⟨r,hb,rfl,rfl,rfl⟩:=h;exact⟨rfl,.mW hV rfl (NS hb (iw hE (by simp[ho,Op.operands]) hu))⟩
  .simp at h
 .-- indexAddr
  rename_i t x y ho;rw[ho];split at h
  .rename_i e u he hu;simp only[a0i,a0z]at h;obtain⟨r,hb,rfl,rfl,rfl⟩:=h;exact⟨rfl,.NZ hV rfl (Aj hb (pJ hE (by simp[ho,Op.operands]) he) (iw hE (by simp[ho,Op.operands]) hu))⟩
  .simp at h
 .-- index
  rename_i t x y ho;rw[ho];split at h
  .rename_i u v0 hu hv;simp only[a0i,a0z]at h;obtain⟨r,hb,rfl,rfl,rfl⟩:=h;exact⟨rfl,.mW hV rfl (NT hb (iw hE (by simp[ho,Op.operands]) hu) (iw hE (by simp[ho,Op.operands]) hv))⟩
  .simp at h
 .-- lookup
  rename_i t m k ok ho;rw[ho];split at h
  .rename_i u v0 hu hv;simp only[a0i,a0z]at h;obtain⟨r,hb,rfl,rfl,rfl⟩:=h;exact⟨rfl,.mW hV rfl (Ec hV hb (iw hE (by simp[ho,Op.operands]) hu) (iw hE (by simp[ho,Op.operands]) hv) hD)⟩
  .simp at h
 .-- mapUpdate
  rename_i t m k x ho;rw[ho];split at h
  .rename_i u v0 y hu hv hy;simp only[a0i,a0z]at h;obtain⟨⟨s0,i0⟩,hb,rfl,rfl,rfl⟩:=h;obtain⟨e1,e2⟩:=Rx hV hb (iw hE (by simp[ho,Op.operands]) hu) (iw hE (by simp[ho,Op.operands]) hv) (iw hE (by simp[ho,Op.operands]) hy) hD;exact⟨e1,.ae6 rfl e2⟩
  .simp at h
 .-- insert
  rename_i t m k x ho;rw[ho];split at h
  .rename_i u v0 y hu hv hy;simp only[a0i,a0z]at h;obtain⟨⟨s0,i0⟩,hb,rfl,rfl,rfl⟩:=h;obtain⟨e1,e2⟩:=Rx hV hb (iw hE (by simp[ho,Op.operands]) hu) (iw hE (by simp[ho,Op.operands]) hv) (iw hE (by simp[ho,Op.operands]) hy) hD;exact⟨e1,.ae6 rfl e2⟩
  .simp at h
 .-- mapEntry
  rename_i t m k ho;rw[ho];split at h
  .rename_i u v0 hu hv;obtain⟨e1,z,w',M',h1,h2,h3,h4,h5⟩:=a5f hV h (iw hE (by simp[ho,Op.operands]) hu) (iw hE (by simp[ho,Op.operands]) hv) hD;exact⟨e1,z,w',M',.inl (by show(do pure (.value (<-Instr.mapEntry t _ _)):Sem Next).run P w=_;simp[h1]),h3,h4,h2,h5⟩
  .simp at h
 .-- entryStore
  rename_i t m k x ho;rw[ho];split at h
  .rename_i u v0 y hu hv hy;simp only[a0i,a0z]at h;obtain⟨⟨s0,i0⟩,hb,rfl,rfl,rfl⟩:=h;obtain⟨e1,e2⟩:=a2F (t:=t) hV hb (iw hE (by simp[ho,Op.operands]) hu) (pJ hE (by simp[ho,Op.operands]) hv) (iw hE (by simp[ho,Op.operands]) hy) hD;exact⟨e1,.ae6 rfl e2⟩
  .simp at h
 .-- extract
  rename_i x n ho;rw[ho];split at h
  .rename_i e he;simp only[a0i,a0z]at h;obtain⟨r,hb,rfl,rfl,rfl⟩:=h;have hx:=pJ hE (by simp[ho,Op.operands]) he;refine⟨rfl,.NZ hV rfl ?_⟩;generalize a.eval x=xv at hx;unfold yZ at hb;split at hb
   .simp only[a0i]at hb;obtain⟨y0,hb,rfl⟩:=hb;cases hx with
    |val hx=>
     cases hx with
     |cO g1 g2=>
      obtain⟨y,y1,y2⟩:=(bY.mk g1 g2).get hb;exact⟨y,.val y2,by simp[Instr.extract,y1]⟩
   .cases hx with
    |ent q1 q2 q3=>
     split at hb<;>cases hb
     .exact⟨_,.val q3,by simp[Instr.extract]⟩
     .exact⟨_,.EG q1 q2,by simp[Instr.extract]⟩
   .cases hb
  .simp at h
 .-- call
  rename_i c ho;rw[ho]at hc ⊢;unfold Nu at h;split at h
  .rename_i b az hb has;simp only[a0i,a0z]at h;obtain⟨⟨v0,s0,i0⟩,qL,rfl,rfl,rfl⟩:=h;obtain⟨e1,e2⟩:=YW (cs:=c.args.map fun|.const _=>true|_=>false) hV zi qL (GN hE (fun x hx=>by simp[ho,Op.operands,Call.operands,hb];simpa using hx) has) hD;refine⟨e1,?_⟩;obtain⟨x,w',M',r1,r2⟩:=e2;refine⟨x,w',M',?_,r2⟩;rw[show(List.map a.eval c.args.toList).toArray=c.args.map a.eval from by apply adX;simp]at r1;unfold ahA at r1 ⊢;simp only[resolve,hb,Sem.run_bind,Sem.run_pure,Result.andThen_ok,invoke];exact r1
  .rename_i f az hf has;obtain⟨callee,args,ats⟩:=c;simp only at hf;subst hf;simp[GU]at hc
  .simp at h
 .-- range
  rename_i t x ho;rw[ho];split at h
  .rename_i r k el hv hu;split at h
   .rename_i es LU;simp only[a01,a0z]at h;obtain⟨rfl,rfl,rfl⟩:=h;have hx:=iw hE (by simp[ho,Op.operands]) hv;refine⟨rfl,?_⟩;generalize hxv:a.eval x=xv at hx;cases hx with
    |map hm=>
    rename_i r1 o1;obtain⟨gJ,b1,b2⟩:=hV.ok _ _ hm (hD (.h r) (by simp[xP]));simp only[St.get,LU,a01]at b1;subst b1;obtain⟨xs,g1,g2⟩:=b2;have yQ:s.get (.h s.heap.length)=none:=(by simp[St.get]);have hrl:r<s.heap.length:=(a0a.1 LU).1;have hle:sK M (dL M (.h s.heap.length) (.obj w.heap.size [])):=mQ fun l0 h0=>by rw[zi]at h0;cases h0
    have gQ:∀c,c<w.heap.size->c∉aI (.obj w.heap.size [])->(w.alloc (.mapIter (some r1) xs.size #[] xs.size)).heap[c]? = w.heap[c]?:=fun c hc _=>wJ w _ c hc;have gy:∀c∈aI (.obj w.heap.size []),(∃l0,M (.h s.heap.length)=some l0∧c∈aI l0)∨w.heap.size<=c:=fun c hc=>.inr (by simp[aI]at hc;omega);refine⟨.pointer (some ⟨w.heap.size,0,none⟩),w.alloc (.mapIter (some r1) xs.size #[] xs.size),dL M (.h s.heap.length) (.obj w.heap.size []),.inl ?_,?_,?_,.val (.iter (o:=[]) (by simp[Mp.h,dL])),qV zi⟩
    .simp[hxv,Instr.range,run_underlying hu,getObj,Sem.run,g1,newObj]
    .rw[kF];refine hV.upd _ _ _ (fun j hj=>?_) (fun l0 h0=>by rw[zi]at h0;cases h0) gQ gy (by simp) ⟨r1,o1,#[],?_,?_,?_,rfl⟩
     .rcases hj with hj|⟨x1,x2⟩
      .exact .inl hj
      .right;unfold lZ at x2;split at x2
       .assumption
       .simp[x1]at x2
     .have:(Key.h r)≠.h s.heap.length:=fun e=>by cases e;omega
      simp only[Mp.h,dL,a0q this];exact hm
     .rw[g2.len];exact heap_alloc_new w _
     .rw[g2.len,g2.ord];exact a0E _
    .rw[kF];exact Ext.upd _ _ _ [] (.inr ⟨yQ,zi,rfl⟩) hle gQ gy (by simp) rfl rfl rfl
   .simp at h
  .simp at h
 .-- entry
  rename_i x ho;rw[ho];split at h
  .rename_i b hv;split at h
   .rename_i r n i seen hb;split at h
    .rename_i es LU;split at h
     case isFalse=>simp at h
     rename_i hn;simp only[a0i,a0z]at h;obtain⟨e,he,rfl,rfl,rfl⟩:=h;have hx:=iw hE (by simp[ho,Op.operands]) hv;refine⟨rfl,.mW hV rfl ?_⟩;generalize a.eval x=xv at hx;cases hx with
     |iter hm=>
     rename_i b1 o1;obtain⟨gJ,c1,c2⟩:=hV.ok _ _ hm (hD (.h b) (by simp[fQ]));simp only[St.get,hb,a01]at c1;subst c1;obtain⟨r1,o,sa,d1,d2,d3,d4⟩:=c2;obtain⟨gJ,c1,c2⟩:=hV.ok (.h r) _ d1 (hD (.h r) (by simp[fQ]));simp only[St.get,LU,a01]at c1;subst c1;obtain⟨xs,g1,g2⟩:=c2;have iF:sa.toList≠[]:=fun e=>by rw[e]at d4;simp at d4
     obtain⟨k,hk⟩:∃k,sa.back? = some k∧o[k]? = some i:=by
      have h1:(sa.toList.map fun i=>o[i]?).getLast? = some (some i):=by rw[d4];simp
      rw[List.getLast?_map]at h1;simp only[a0i]at h1;obtain⟨k,h2,h3⟩:=h1;exact⟨k,by rw[<-Array.getLast?_toList];exact h2,h3⟩
     have kN:k<xs.size:=by rw[<-g2.ord];exact(a0a.1 hk.2).1
     obtain⟨q1,j,e',q2,q3,q4,q5⟩:=g2.at_ k _ (a3J kN);rw[hk.2]at q2;cases q2;rw[he]at q3;cases q3;refine⟨.tuple #[xs[k].key,xs[k].val],.Qs (.cons q4 (.cons q5 .nil)),?_⟩;have hf:xs.find? (·.born==k)=some xs[k]:=by rw[<-Array.find?_toList];have:xs[k].born==k:=(by simpa using q1);rw[List.find?_eq_some_iff_getElem];refine⟨this,k,by simpa using kN,by simp,fun j hj=>?_⟩;have sD:j<xs.size:=(by omega);have:=(g2.at_ j _ (a3J sD)).1;simp only[Array.getElem_toList];rw[this];simp;omega
     have hc:xs.size=n:=by rw[<-g2.len];exact hn
     simp only[Instr.entry,getObj,Sem.run_bind,Sem.run,d2,g1,Result.andThen_ok,hk.1,hc,bne_self_eq_false,a2z,a3l,hf];rfl
    .simp at h
   .simp at h
  .simp at h
 .simp at h
end
abbrev lu(h:List HB):Ct:=St.get ⟨[],[],h,[]⟩
def Mp.only(M:Mp):Mp
 |.h b=>M (.h b)
 |.l _=>none
abbrev nT(r:Option Nat):Fence:={ Fence.wide with round:=r }
def Ll(R:LI3->LI4->Prop):Ending->LI4->Prop
 |.returned v,w=>R v w
 |_,_=>False
def jQ(M:Mp)(h:List HB)(w:LI4)(v:TV)(h':List HB)(ws:List Nat)(y:LI3)(w':LI4):Prop:=
 ∃M',Valid M' uS (lu h') w'∧(∀k,M' (.l k)=none)∧Ext M (lu h) w M' (lu h') w' (ws.map .h)∧VR M'.h v y
def LV(P:LI1)(d:Deferred)(w:LI4)(R:LI3->LI4->Prop):Prop:=
 ∃f az,(invoke d.target d.args).run P w=.ok (.enter f az) w∧∀n,CallsIn Fence.wide n P f az w (Ll R)
def Uc(P:LI1)(d:Deferred)(w:LI4)(R:LI3->LI4->Prop):Prop:=
 ∃l f tmps uQ body,(invoke d.target d.args).run P w=.ok (.round l f tmps uQ body) w∧∀n,RoundIn Fence.wide n P l f tmps uQ body w (Ll R)
def iH(P:LI1)(call:aY):Prop:=
 ∀fv args h v h' ws,call fv args h=some (v,h',ws)->∀(M:Mp) (w:LI4) (x:LI3) (xs:List LI3),Valid M uS (lu h) w->(∀k,M (.l k)=none)->VR M.h fv x->bY M.h args xs ->
  ∃d,(∀w,(Deferred.ofValue x xs.toArray).run P w=.ok d w)∧((LV P d w (jQ M h w v h' ws)∧∃f a b,fv=.fn f a b)∨(Uc P d w (jQ M h w v h' ws)∧∃l,fv=.kX l))
theorem CallsIn.ex{n:Nat}{P:LI1}{f:FuncId}{az:Array LI3}{w:LI4}{R:LI3->LI4->Prop}(h:CallsIn Fence.wide n P f az w (Ll R)):∃y w',R y w':=by
 obtain⟨e,w',fr,hR,_⟩:=h.2 [] (room_wide _);cases e with
 |returned v=>exact⟨v,w',hR⟩
 |panicked c=>exact hR.elim
 |outgrown=>exact hR.elim
theorem RoundIn.ex{n:Nat}{P:LI1}{l:Nat}{f:FuncId}{tmps:Array LI3}{uQ body:Code}{w:LI4}{R:LI3->LI4->Prop}(h:RoundIn Fence.wide n P l f tmps uQ body w (Ll R)):∃y w',R y w':=by
 obtain⟨e,w',hR,_⟩:=h.2 default [] (room_wide _);cases e with
 |returned v=>exact⟨v,w',hR⟩
 |panicked c=>exact hR.elim
 |outgrown=>exact hR.elim
section
variable {P:LI1} {call:aY}
theorem iH.ex(hC:iH P call){fv:TV}{args:List TV}{h:List HB}{v:TV}{h':List HB}{ws:List Nat}(hc:call fv args h=some (v,h',ws)){M:Mp}{w:LI4}{x:LI3}{xs:List LI3}
  (hV:Valid M uS (lu h) w) (hl:∀k,M (.l k)=none) (hx:VR M.h fv x) (O1:bY M.h args xs):∃y w',jQ M h w v h' ws y w':=by
 obtain⟨d,_,h1|h1⟩:=hC _ _ _ _ _ _ hc M w x xs hV hl hx O1
 .obtain⟨⟨f,az,_,h2⟩,_⟩:=h1;exact CallsIn.ex (h2 0)
 .obtain⟨⟨l,f,tmps,uQ,body,_,h2⟩,_⟩:=h1;exact RoundIn.ex (h2 0)
def abT(M' M:Mp):Mp
 |.h b=>M' (.h b)
 |.l j=>M (.l j)
theorem FN{M:Mp}{D:Key->Prop}{s:St}{w:LI4}(hV:Valid M D s.get w)(hh:∀b l,M (.h b)=some l->D (.h b)):Valid M.only uS (lu s.heap) w:=by
 refine⟨?_,?_,?_⟩
 .intro k l hk _;cases k with
  |l j=>cases hk
  |h b=>exact hV.ok (.h b) l hk (hh b l hk)
 .intro k k' l l' b iF hk oG _ hc hw;cases k with
  |l j=>cases hk
  |h b=>
   cases k' with
   |l j=>cases oG
   |h b'=>exact hV.own _ _ _ _ _ iF hk oG (hh b l hk) hc hw
 intro k l hk;cases k with
 |l j=>cases hk
 |h b=>exact hV.inb _ _ hk
theorem Ry{M:Mp}{D:Key->Prop}{s:St}{w:LI4}(hV:Valid M D s.get w)
  (zo:∀j l,M (.l j)=some l->∀k' l',Key.l j≠k'->M k'=some l'->∀c∈aI l,c∉aI l')
  {v:TV} {h':List HB} {ws:List Nat} {y:LI3} {w':LI4} (hr:jQ M.only s.heap w v h' ws y w') :
  ∃M',NG M D s.get w (.val v) (St.get { s with heap:=h' }) (ws.map .h) y w' M':=by
 obtain⟨M',YU,hl',hX,hy⟩:=hr;have pV:∀(b j:Nat) (l l':Lc),M' (.h b)=some l->M (.l j)=some l'->∀c∈aI l,c∉aI l':=by intro b j l l' hb hj c hc Qu;have aQ:=hV.inb _ _ hj c Qu;obtain⟨l0,h1,h2⟩:=hX.fresh _ _ hb c hc aQ;exact zo j l' hj (.h b) l0 (by simp) h1 c Qu h2
 refine⟨abT M' M,⟨⟨?_,?_,?_⟩,?_,.val hy,fun _ _ h=>h⟩⟩
 .intro k l hk hd;cases k with
  |h b=>exact YU.ok (.h b) l hk trivial
  |l j=>
   rcases hd with hd|⟨h1,h2⟩
   .obtain⟨b0,h1,h2⟩:=hV.ok (.l j) l hk hd;refine⟨b0,h1,h2.mono (N:=M.h) (N':=(abT M' M).h) (hX.IK.h) fun c hc=>?_⟩;refine hX.frame c (hV.inb _ _ hk c hc) fun k' oG l' hl' anG=>?_;obtain⟨b',_,rfl⟩:=a1k.1 oG;exact zo j l hk (.h b') l' (by simp) hl' c hc anG
   .simp only[St.get]at h1 h2;rw[h1]at h2;cases h2
 .intro k k' l l' b0 iF hk oG hd hc hw;cases k with
  |h b=>
   cases k' with
   |h b'=>exact YU.own (.h b) (.h b') l l' b0 iF hk oG trivial hc hw
   |l j=>exact pV b j l l' hk oG
  |l j=>
   cases k' with
   |h b'=>exact fun c hc Qu=>pV b' j l' l oG hk c Qu hc
   |l j'=>exact zo j l hk (.l j') l' iF oG
 .intro k l hk c hc;cases k with
  |h b=>exact YU.inb (.h b) l hk c hc
  |l j=>exact a9H (hV.inb (.l j) l hk c hc) hX.size
 .exact
  {IK:=by
    intro k l hk;cases k with
    |h b=>exact hX.IK (.h b) l hk
    |l j=>exact⟨l,hk,.refl l⟩
   frame:=fun c hc hf=>hX.frame c hc fun k hk l hl=>by obtain⟨b',_,rfl⟩:=a1k.1 hk;exact hf _ hk l hl
   nM:=fun k hk hn=>by
    cases k with
    |h b=>exact hX.nM (.h b) hk hn
    |l j=>rfl
   lH:=fun k hk hn=>by
    cases k with
    |h b=>exact hX.lH (.h b) hk hn
    |l j=>rfl
   fresh:=fun k l hk c hc aQ=>by
    cases k with
    |h b=>exact hX.fresh (.h b) l hk c hc aQ
    |l j=>exact⟨l,hk,hc⟩
   size:=hX.size
   has:=fun k hk=>by
    cases k with
    |h b=>exact hX.has (.h b) hk
    |l j=>exact hk
   wsub:=fun k hk=>by obtain⟨b',_,rfl⟩:=a1k.1 hk;exact hX.wsub _ hk
   wrote:=fun k hk=>by obtain⟨b',_,rfl⟩:=a1k.1 hk;exact hX.wrote _ hk
   os:=hX.os
   output:=hX.output
   tape:=hX.tape }
theorem getEnv(s:St)(env:List (Nat×EV))(ws:List Nat):St.get { s with env:=env,ws:=ws }=s.get:=by funext k;cases k<;>rfl
theorem YX(s:St)(d:Option Nat)(v:EV):St.get (s.put d v)=s.get:=by funext k;cases d<;>cases k<;>rfl
theorem Valid.sub{M:Mp}{D D':Key->Prop}{C:Ct}{w:LI4}(hV:Valid M D C w)(h:∀k,D' k->D k):Valid M D' C w:=
 ⟨fun k l hk hd=>hV.ok k l hk (h k hd),fun k k' l l' b a1 a2 a3 hd=>hV.own k k' l l' b a1 a2 a3 (h k hd),hV.inb⟩
theorem a2G{site:Nat->Bool}{s:St}{o:Oper}{c:Call}(h:o.op=.defer c):pG P call site s o=none:=by simp[pG,h]
def uF(P:LI1)(call:aY)(site:Nat->Bool)(fl nt:Nat)(ops:Array Oper)(o:Oper)(s:St)(i:mJ)(s':St):Prop:=
 Nv nt o=true∧((CS ops s.env o=some true∧∃v s1,pG P call site s o=some (v,s1,i)∧s'=St.put { s1 with ws:=jZ fl i.ws s.ws } o.dst v) ∨
  (CS ops s.env o=some false∧i=cZ∧s'=s.put o.dst .undef))
def oH(i:mJ)(k:Key):Prop:=k∈i.ts∨k∈i.ws∨(i.all=true∧k.isH=true)
def LW(M:Mp)(env:List (Nat×EV))(tmps:Array LI3)(ops:Array Oper)(o:Oper):Prop:=
 ∀j want d,o.guard=some (j,want)->(ops[j]?).bind (·.dst)=some d->∀e,dM d env=some e->ER M e (tmps.getD d Go.undef)
theorem LX{M:Mp}{env:List (Nat×EV)}{tmps:Array LI3}{ops:Array Oper}{o:Oper}{b:Bool}(hG:LW M env tmps ops o)(h:CS ops env o=some b):Region.wanted o (yielded ops tmps)=b:=by
 unfold CS at h;unfold Region.wanted;split at h
 .rename_i hg;rw[hg];simpa using h
 rename_i j want hg;rw[hg];simp only;split at h
 rotate_left
 .simp at h
 rename_i d hd;split at h
 .rename_i b0 he;have h3:=(hG j want d hg hd _ he).vS;have hb:tmps.getD d Go.undef=.bool b0:=by generalize tmps.getD d Go.undef=z at h3;cases h3;rfl
  have:tmps[d]? = some (.bool b0):=by
   by_cases h1:d<tmps.size
   .simp only[Array.getD,h1,dite_true]at hb;rw[a3J h1];exact congrArg some hb
   simp[Array.getD,h1,Go.undef]at hb
  simp only[yielded,hd,a4C,this];simpa using h
 .rename_i he;have h2:=hG j want d hg hd _ he;have hb:tmps.getD d Go.undef=Go.undef:=by generalize tmps.getD d Go.undef=z at h2;cases h2;rfl
  have:tmps[d]? = some Go.undef∨tmps[d]? = none:=by
   by_cases h1:d<tmps.size
   .simp only[Array.getD,h1,dite_true]at hb;rw[a3J h1];exact .inl (congrArg some hb)
   right;simpa using h1
  simp at h;subst h;rcases this with this|this<;>simp only[yielded,hd,a4C,this]<;>rfl
 simp at h
def KE(M:Mp)(D:Key->Prop)(s:St)(w:LI4)(o:Oper)(i:mJ)(s':St)(x:LI3)(w':LI4):Prop:=
 ∃v M',s'=St.put { s' with env:=s.env } o.dst v∧NG M D s.get w v s'.get i.ws x w' M'
theorem Ud(s:St)(env:List (Nat×EV))(d:Option Nat)(v:EV)(h:s.env=env):s.put d v=St.put { s.put d v with env:=env } d v:=by subst h;cases d<;>rfl
theorem a0H(hC:iH P call){site:Nat->Bool}{fl nt:Nat}{ops:Array Oper}{o:Oper}{s s':St}{i:mJ}{M:Mp}{D:Key->Prop}{w:LI4}{a:Act}
  (hS:uF P call site fl nt ops o s i s') (hV:Valid M D s.get w) (zi:M (.h s.heap.length)=none) (hnl:M (.l s.loc.length)=none)
  (zo:∀j l,M (.l j)=some l->∀k' l',Key.l j≠k'->M k'=some l'->∀c∈aI l,c∉aI l')
  (hE:GL M s.env a o.op.operands) (hG:LW M s.env a.tmps ops o) (hD:∀k,oH i k->(M k).isSome=true->D k) :
  (∃x w',KE M D s w o i s' x w') ∧
   ∀(r:Option Nat) (n:Nat) (Q:Exit->Act->LI4->Prop) (idx:Nat) (K:Act->LI4->Prop),ops[idx]? = some o ->
    (∀x w',KE M D s w o i s' x w'->K (a.put o.dst x) w')->wpOpIn (nT r) n P ops Q idx K a w:=by
 obtain⟨_,⟨hw,v,s1,kY,rfl⟩|⟨hw,rfl,rfl⟩⟩:=hS
 .have a0I:=LX hG hw;by_cases hc:GU o.op=true
  .-- a call
   have:∃f args ats,o.op=.call { callee:=.value f,args:=args,argTypes:=ats }:=by
    unfold GU at hc;split at hc
    .rename_i f args ats ho;exact⟨_,_,_,ho⟩
    .cases hc
   obtain⟨f,args,ats,ho⟩:=this;simp only[pG,ho,Nu]at kY;split at kY
   .rename_i b az hb has;cases hb
   .rename_i f' az hf has;injection hf with hf;subst hf;split at kY
    .rename_i fv hfv;split at kY
     .rename_i v0 h' ws yw;simp only[a01,a0z]at kY;obtain⟨rfl,rfl,rfl⟩:=kY;have hh:∀b l,M (.h b)=some l->D (.h b):=fun b l hb=>hD _ (.inr (.inr ⟨rfl,rfl⟩)) (by simp[hb]);have hVo:=FN hV hh;have hfx:VR M.only.h fv (a.eval f):=iw hE (by simp[ho,Op.operands,Call.operands]) hfv;have hax:bY M.only.h az (args.toList.map a.eval):=GN hE (fun x hx=>by simp[ho,Op.operands,Call.operands];exact .inr (by simpa using hx)) has;have conv:∀y w',jQ M.only s.heap w v0 h' ws y w'->KE M D s w o ⟨true,[],ws.map .h⟩ (St.put { s with heap:=h',ws:=jZ fl (ws.map .h) s.ws } o.dst (.val v0)) y w':=by intro y w' hr;obtain⟨M',hp⟩:=Ry hV zo hr;refine⟨.val v0,M',Ud _ _ _ _ rfl,?_⟩;rw[YX];exact hp
      obtain⟨d,hd,vw⟩:=hC _ _ _ _ _ _ yw M.only w (a.eval f) (args.toList.map a.eval) hVo (fun _=>rfl) hfx hax;refine⟨?_,?_⟩
      .obtain⟨y,w',hr⟩:=iH.ex hC yw hVo (fun _=>rfl) hfx hax;exact⟨y,w',conv y w' hr⟩
      .intro r n Q idx K Ue hK;unfold wpOpIn;simp only[Ue,a0I,a1I];refine⟨fun _ _=>trivial,?_⟩;have a5i:∀nx,(invoke d.target d.args).run P w=.ok nx w->(o.semAt (nT r).round a.eval).run P w=.ok nx w:=by intro nx hnx;rw[Oper.semAt_eq _ _ _ (fun c=>by rw[ho];simp)];unfold execOp;rw[ho];have:=hd w;rw[show(List.map a.eval args.toList).toArray=args.map a.eval from by apply adX;simp]at this;simp[resolve,this,hnx]
       rcases vw with⟨⟨f1,as1,hinv,pV⟩,_⟩|⟨⟨l1,f1,tm1,ag1,bd1,hinv,hrd⟩,_⟩
       .rw[a5i _ hinv];refine⟨fun h=>by simp[Fence.wide]at h,CallsIn.mono (F:=nT r) (pV (n-1)) fun e w' he=>?_⟩;cases e with
        |returned y=>exact hK y w' (conv y w' he)
        |panicked c=>exact he.elim
        |outgrown=>exact he.elim
       .rw[a5i _ hinv];refine⟨fun h=>by simp[Fence.wide]at h,RoundIn.mono (F:=nT r) (hrd (n-1)) fun e w' he=>?_⟩;cases e with
        |returned y=>exact hK y w' (conv y w' he)
        |panicked c=>exact he.elim
        |outgrown=>exact he.elim
     .simp at kY
    .simp at kY
   .simp at kY
  .-- no call
   have Qu:GU o.op=false:=(by simpa using hc);have YU:Valid M (fun k=>D k∨M k=none) s.get w:=⟨fun k l hk hd=>hV.ok k l hk (hd.resolve_right (by simp[hk])),fun k k' l l' b a1 a2 a3 hd=>hV.own k k' l l' b a1 a2 a3 (hd.resolve_right (by simp[a2])),hV.inb⟩;obtain⟨he,x,w',M',hr,hp⟩:=ahO YU hE zi hnl kY Qu (fun k hk=>by
    cases hm:M k with
    |none=>exact .inr rfl
    |some l=>exact .inl (hD k (.inl hk) (by simp[hm])))
   have uU:KE M D s w o i (St.put { s1 with ws:=jZ fl i.ws s.ws } o.dst v) x w':=by refine⟨v,M',Ud _ _ _ _ he,?_⟩;have hg:St.get { s1 with ws:=jZ fl i.ws s.ws }=s1.get:=getEnv s1 s1.env _;rw[YX,hg];exact⟨hp.val.sub fun k hk=>hk.imp .inl id,hp.ext,hp.er,hp.loc⟩
   refine⟨⟨x,w',uU⟩,fun r n Q idx K Ue hK=>?_⟩;unfold wpOpIn;simp only[Ue,a0I,a1I];refine⟨fun _ _=>trivial,?_⟩;rw[Oper.semAt_eq _ _ _ (fun c ho=>by rw[a2G ho]at kY;cases kY)];rcases hr with hr|⟨rfl,hr⟩
   .rw[hr];exact hK x w' uU
   .rw[hr];exact hK _ w' uU
 .have a0I:=LX hG hw;have uU:KE M D s w o cZ (s.put o.dst .undef) Go.undef w:=by refine⟨.undef,M,Ud _ _ _ _ rfl,?_⟩;rw[YX];exact .same hV .undef
  refine⟨⟨_,_,uU⟩,fun r n Q idx K Ue hK=>?_⟩;unfold wpOpIn;simp only[Ue,a0I,a2z,a3l];exact⟨fun _ _=>trivial,hK _ _ uU⟩
end
structure wQ(M0:Mp)(h0:List HB)(w0:LI4):Prop where
 val:Valid M0 uS (lu h0) w0
 loc:∀k,M0 (.l k)=none
structure Rel(M0:Mp)(h0:List HB)(w0:LI4)(nt:Nat)(M:Mp)(s:St)(a:Act)(w:LI4):Prop where
 val:Valid M uS s.get w
 ext:Ext M0 (lu h0) w0 M s.get w (s.ws.map .h)
 env:jY M s.env a.tmps
 size:nt<=a.tmps.size
 marks:∀d∈a.defers,∃k r,d=⟨.collected r,#[]⟩∧lu h0 (.h k)=none∧(∃o,M (.h k)=some (.obj r o))∧s.get (.h k)=some .mark∧w.heap[r]? = some (.deferred (some []))
 apart:a.defers.Pairwise (·≠·)
theorem a5k{fl b c:Nat}{ws:List Nat}:c∈EH fl b ws↔c∈ws∨(c=b∧b<fl):=by
 unfold EH;split
 .rename_i h;split
  .rename_i hc;have hc:b∈ws:=(by simpa using hc);constructor
   .exact .inl
   rintro (h1|⟨rfl,_⟩)
   .exact h1
   exact hc
  simp only[a1F];constructor
  .rintro (rfl|h1)
   .exact .inr ⟨rfl,h⟩
   exact .inl h1
  rintro (h1|⟨rfl,_⟩)
  .exact .inr h1
  exact .inl rfl
 rename_i h;constructor
 .exact .inl
 rintro (h1|⟨_,h1⟩)
 .exact h1
 exact absurd h1 h
theorem oJ{fl c:Nat}:∀{ks:List Key} {ws:List Nat},c∈jZ fl ks ws↔c∈ws∨(Key.h c∈ks∧c<fl)
 | [],ws=>by simp[jZ]
 |.h b::ks,ws=>by
  rw[jZ,oJ,a5k];simp only[a1F,Key.h.injEq];constructor
  .rintro ((h|⟨rfl,h⟩)|⟨h1,h2⟩)
   .exact .inl h
   .exact .inr ⟨.inl rfl,h⟩
   exact .inr ⟨.inr h1,h2⟩
  rintro (h|⟨rfl|h1,h2⟩)
  .exact .inl (.inl h)
  .exact .inl (.inr ⟨rfl,h2⟩)
  exact .inr ⟨h1,h2⟩
 |.l b::ks,ws=>by rw[jZ,oJ];simp
theorem zq{t:Nat}{s:St}{d:Option Nat}{v:EV}:dM t (s.put d v).env=if d=some t then some v else dM t s.env:=by
 cases d with
 |none=>simp[St.put]
 |some d=>simp[St.put,dM]
theorem zu{a:Act}{d:Option Nat}{x:LI3}{t:Nat}:(a.put d x).tmps.getD t Go.undef=if d=some t∧t<a.tmps.size then x else a.tmps.getD t Go.undef:=by
 cases d with
 |none=>simp[Act.put]
 |some d=>
  simp only[Act.put,a01];simp only[<-adV,a8B,a9a];by_cases h:d=t
  .subst h;by_cases h1:d<a.tmps.size
   .simp[h1]
   simp[h1]
  simp[h]
theorem GX{a:Act}{d:Option Nat}{x:LI3}:(a.put d x).tmps.size=a.tmps.size:=by cases d<;>simp[Act.put]
theorem jR{a:Act}{d:Option Nat}{x:LI3}:(a.put d x).defers=a.defers:=by cases d<;>rfl
section
variable {P:LI1} {call:aY} {site:Nat->Bool} {fl nt:Nat} {ops:Array Oper} {o:Oper} {s s':St} {i:mJ}
theorem uF.a0J(h:uF P call site fl nt ops o s i s'):s'.ws=jZ fl i.ws s.ws:=by
 obtain⟨_,⟨_,v,s1,_,rfl⟩|⟨_,rfl,rfl⟩⟩:=h
 .cases o.dst<;>rfl
 cases o.dst<;>rfl
theorem uF.dst(h:uF P call site fl nt ops o s i s'){d:Nat}(hd:o.dst=some d):d<nt:=by have:=h.1;simp only[Nv,hd]at this;simpa using this
variable {M0:Mp} {h0:List HB} {w0:LI4} {M:Mp} {a:Act} {w:LI4}
theorem Rel.loc(hR:Rel M0 h0 w0 nt M s a w):∀j l,M (.l j)=some l->∀k' l',Key.l j≠k'->M k'=some l'->∀c∈aI l,c∉aI l':=by intro j l hj k' l' iF oG;obtain⟨b,h1,_⟩:=hR.val.ok _ _ hj trivial;refine hR.val.own _ _ _ _ b iF hj oG trivial h1 ?_;simp only[St.get,a0i]at h1;obtain⟨_,_,rfl⟩:=h1;rfl
theorem Rel.nh(hR:Rel M0 h0 w0 nt M s a w):M (.h s.heap.length)=none:=by
 cases h:M (.h s.heap.length)with
 |none=>rfl
 |some l=>have:=hR.val.has h;simp[St.get]at this
theorem Rel.nl(hR:Rel M0 h0 w0 nt M s a w):M (.l s.loc.length)=none:=by
 cases h:M (.l s.loc.length)with
 |none=>rfl
 |some l=>have:=hR.val.has h;simp[St.get]at this
theorem D6{h:List HB}{k:Key}(hk:(lu h k).isSome=true):∃b,k=.h b∧b<h.length:=by
 cases k with
 |h b=>exact⟨b,rfl,by simpa[lu,St.get]using hk⟩
 |l j=>simp[lu,St.get]at hk
theorem YZ{h:List HB}{b:Nat}(hb:b<h.length):(lu h (.h b)).isSome=true:=by simp[lu,St.get,hb]
theorem Rz(hR:Rel M0 h0 w0 nt M s a w){M':Mp}{C':Ct}{w':LI4}{ws:List Key}(hX:Ext M s.get w M' C' w' ws) :
  ∀d∈a.defers,∃k r,d=⟨.collected r,#[]⟩∧lu h0 (.h k)=none∧(∃o,M' (.h k)=some (.obj r o))∧C' (.h k)=some .mark∧w'.heap[r]? = some (.deferred (some [])):=by
 intro d hd;obtain⟨k,r,h1,h2,⟨o,h3⟩,h4,h5⟩:=hR.marks d hd;have hn:Key.h k∉ws:=fun CZ=>by have:=(hX.wrote _ CZ).2 _ h4;cases this
 obtain⟨l',g1,g2⟩:=hX.IK _ _ h3;obtain⟨o',hl⟩:∃o',l'=.obj r o':=by
  cases l' with
  |cells ls=>exact g2.elim
  |obj r' o'=>cases g2.1;exact⟨o',rfl⟩
 refine⟨k,r,h1,h2,⟨o',by rw[g1,hl]⟩,by rw[hX.nM _ (by simp[h4]) hn,h4],?_⟩;rw[hX.frame r (a2q.1 h5).1 fun k' oG l0 qM hc=>?_,h5];obtain⟨b,hb,_⟩:=hR.val.ok _ _ qM trivial;exact hR.val.own k' (.h k) l0 (.obj r o) b (fun e=>hn (e▸oG)) qM h3 trivial hb ((hX.wrote _ oG).2 b hb) r hc (by simp[aI])
theorem O4(hB:wQ M0 h0 w0)(hR:Rel M0 h0 w0 nt M s a w)(hS:uF P call site h0.length nt ops o s i s'){x:LI3}{w':LI4}(uU:KE M uS s w o i s' x w') :
  ∃M',Rel M0 h0 w0 nt M' s' (a.put o.dst x) w':=by
 obtain⟨v,M',he,hp⟩:=uU;refine⟨M',hp.val.sub fun k _=>.inl trivial,?_,?_,by rw[GX];exact hR.size,by rw[jR];exact Rz hR hp.ext,by rw[jR];exact hR.apart⟩
 .refine hR.ext.trans hp.ext (fun k l hk=>hB.val.has hk) (fun k hk CZ=>?_) (fun k hk=>?_)
  .obtain⟨b,rfl,hb⟩:=D6 hk;rw[hS.a0J];refine a1k.2 ⟨b,oJ.2 ?_,rfl⟩;rcases CZ with h1|h1
   .obtain⟨b',h2,h3⟩:=a1k.1 h1;cases h3;exact .inl h2
   .exact .inr ⟨h1,hb⟩
  .rw[hS.a0J]at hk;obtain⟨b,hb,rfl⟩:=a1k.1 hk;rcases oJ.1 hb with h1|⟨h1,h2⟩
   .have:Key.h b∈s.ws.map .h:=a1k.2 ⟨b,h1,rfl⟩;exact⟨hR.ext.wsub _ this,.inl this⟩
   .exact⟨YZ h2,.inr h1⟩
 .intro t e hl;rw[he,zq]at hl;rw[zu];by_cases hd:o.dst=some t
  .rw[a0u hd]at hl;have:=hS.dst hd;have:=hR.size;rw[a0u ⟨hd,by omega⟩];cases hl;exact hp.er
  .rw[a0q hd]at hl;rw[a0q (fun h=>hd h.1)];exact(hR.env t e hl).mono hp.ext.IK hp.loc
theorem Rel.guard(hR:Rel M0 h0 w0 nt M s a w):LW M s.env a.tmps ops o:=fun _ _ d _ _ e he=>hR.env d e he
theorem GY(hC:iH P call)(hR:Rel M0 h0 w0 nt M s a w)(hS:uF P call site h0.length nt ops o s i s') :
  (∃x w',KE M uS s w o i s' x w') ∧
   ∀(r:Option Nat) (n:Nat) (Q:Exit->Act->LI4->Prop) (idx:Nat) (K:Act->LI4->Prop),ops[idx]? = some o ->
    (∀x w',KE M uS s w o i s' x w'->K (a.put o.dst x) w')->wpOpIn (nT r) n P ops Q idx K a w:=
 a0H hC hS hR.val hR.nh hR.nl hR.loc (hR.env.on _) hR.guard fun _ _ _=>trivial
theorem D7{o:Oper}{os:List Oper}{s s':St}{is:List mJ}(h:lG P call site fl nt ops (o::os) s=some (s',is)) :
  ∃i s1 is',uF P call site fl nt ops o s i s1∧lG P call site fl nt ops os s1=some (s',is')∧is=i::is':=by
 simp only[lG]at h;split at h
 .simp at h
 .rename_i hd;have hd:Nv nt o=true:=by simpa using hd
  split at h
  .rename_i hw;split at h
   .rename_i v s1 i kY;split at h
    .rename_i s2 is2 hr;simp only[a01,a0z]at h;obtain⟨rfl,rfl⟩:=h;exact⟨i,_,_,⟨hd,.inl ⟨hw,v,s1,kY,rfl⟩⟩,hr,rfl⟩
    .simp at h
   .simp at h
  .rename_i hw;split at h
   .rename_i s2 is2 hr;simp only[a01,a0z]at h;obtain⟨rfl,rfl⟩:=h;exact⟨_,_,_,⟨hd,.inr ⟨hw,rfl,rfl⟩⟩,hr,rfl⟩
   .simp at h
  .simp at h
theorem a5l(hC:iH P call)(hB:wQ M0 h0 w0){r:Option Nat}{n:Nat}{Q:Exit->Act->LI4->Prop}:∀(os:List Oper) (k:Nat) (s s':St) (is:List mJ) (M:Mp) (a:Act) (w:LI4),ops.toList.drop k=os ->
  lG P call site h0.length nt ops os s=some (s',is)->Rel M0 h0 w0 nt M s a w ->
  (∀M' a' w',Rel M0 h0 w0 nt M' s' a' w'->a'.defers=a.defers->Q .normal a' w')->wpOpsIn (nT r) n P ops Q (List.range' k os.length) a w
 | [],k,s,s',is,M,a,w,_,h,hR,hQ=>by simp only[lG,a01,a0z]at h;obtain⟨rfl,rfl⟩:=h;exact hQ M a w hR rfl
 |o::os,k,s,s',is,M,a,w,hd,h,hR,hQ=>by
  obtain⟨i,s1,is',hS,hr,rfl⟩:=D7 h;have ho:ops[k]? = some o:=by have:=congrArg (fun l=>l[0]?) hd;simpa using this
  have YV:ops.toList.drop (k+1)=os:=by rw[<-afv,hd];rfl
  simp only[a4q,List.range'_succ];rw[wpOpsIn_cons];refine(GY hC hR hS).2 r n Q k _ ho fun x w' uU=>?_;obtain⟨M',FP⟩:=O4 hB hR hS uU;exact a5l hC hB os (k+1) s1 s' is' M' _ w' YV hr FP fun M2 a2 w2 h2 hdf=>hQ M2 a2 w2 h2 (hdf.trans jR)
theorem a2H(hC:iH P call)(hB:wQ M0 h0 w0){r:Option Nat}{n:Nat}{Q:Exit->Act->LI4->Prop}{id:Nat}{s s':St}{is:List mJ}{M:Mp}{a:Act}{w:LI4}
  (h:lG P call site h0.length nt ops ops.toList s=some (s',is)) (hR:Rel M0 h0 w0 nt M s a w)
  (hQ:∀M' a' w',Rel M0 h0 w0 nt M' s' a' w'->a'.defers=a.defers->Q .normal a' w'):(Code.region id ops false).wpIn (nT r) n P Q a w:=by
 refine wpIn_region ?_;have:=a5l (r:=r) (n:=n) (Q:=Q) hC hB ops.toList 0 s s' is M a w rfl h hR hQ;simpa[List.range_eq_range']using this
end
theorem O5{i:Nat}:∀{xs l:List Nat},i∈Nw xs l->i∈xs∨i∈l
 | [],l,h=>.inr h
 |x::xs,l,h=>by
  simp only[Nw]at h;rcases O5 h with h1|h1
  .exact .inl (a3h _ h1)
  split at h1
  .exact .inr h1
  rcases a1F.1 h1 with rfl|h2
  .exact .inl a2M
  exact .inr h2
theorem GZ{acc:List (List Nat)}{i:Nat}:∀{es:List Edge} {l:List Nat},
  i∈es.foldl (fun l e=>if Region.binds .any e then Nw (e.on::acc.getD e.on []) l else l) l->i∈l∨∃e∈es,Region.binds .any e=true∧(i=e.on∨i∈acc.getD e.on [])
 | [],l,h=>.inl h
 |e::es,l,h=>by
  simp only[adB]at h;rcases GZ h with h1|⟨e',h2,h3⟩
  .split at h1
   .rename_i hb;rcases O5 h1 with h2|h2
    .refine .inr ⟨e,a2M,hb,?_⟩;exact a1F.1 h2
    .exact .inl h2
   .exact .inl h1
  .exact .inr ⟨e',a3h _ h2,h3⟩
theorem Z4{acc:List (List Nat)}{o:Oper}{i:Nat}(h:i∈Fq acc o):∃e∈o.after,Region.binds .any e=true∧(i=e.on∨i∈acc.getD e.on []):=by
 rcases GZ h with h1|⟨e,h2,h3⟩
 .cases h1
 exact⟨e,by simpa using h2,h3⟩
theorem H6:∀(os:List Oper) (acc:List (List Nat)),∃t,EP os acc=acc++t
 | [],acc=>⟨[],by simp[EP]⟩
 |o::os,acc=>by obtain⟨t,ht⟩:=H6 os (acc++[Fq acc o]);exact⟨Fq acc o::t,by simp[EP,ht]⟩
theorem RD:∀(os:List Oper) (acc:List (List Nat)) (k:Nat) (o:Oper),os[k]? = some o ->
  (EP os acc)[acc.length+k]? = some (Fq ((EP os acc).take (acc.length+k)) o)
 | [],acc,k,o,h=>by simp at h
 |o'::os,acc,0,o,h=>by simp at h;subst h;obtain⟨t,ht⟩:=H6 os (acc++[Fq acc o']);simp[EP,ht]
 |o'::os,acc,k+1,o,h=>by
  have:=RD os (acc++[Fq acc o']) k o (by simpa using h);simp only[EP];simp only[a1o,a4q,a4O]at this
  rwa [show acc.length+(0+1)+k=acc.length+(k+1) by omega]at this
def Wq(ops:List Oper)(j:Nat):List Nat:=(EP ops []).getD j []
theorem a5m{ops:List Oper}{j i:Nat}{o:Oper}(hj:ops[j]? = some o)(h:i∈Wq ops j):∃e∈o.after,Region.binds .any e=true∧(i=e.on∨(e.on<j∧i∈Wq ops e.on)):=by
 have:=RD ops [] j o hj;simp only[a4O,a3I]at this;unfold Wq at h;rw[a4p,this]at h;simp only[a6k]at h;obtain⟨e,h1,h2,h3⟩:=Z4 h;refine⟨e,h1,h2,h3.imp id fun h4=>?_⟩;rw[a4p,a4v]at h4;split at h4
 .rename_i aQ;exact⟨aQ,by unfold Wq;rw[a4p];exact h4⟩
 simp at h4
def uG(D:Nat->Prop)(o:Oper):Prop:=∀e∈o.after,Region.binds .any e=true->D e.on
theorem Uf{ops:List Oper}{D:Nat->Prop}(hc:∀j o,ops[j]? = some o->D j->uG D o):∀(j:Nat) (o:Oper),ops[j]? = some o->uG D o->∀i∈Wq ops j,D i:=by
 intro j
 induction j using Nat.strongRecOn with
 |_ j ih=>
  intro o ho hw i hi;obtain⟨e,h1,h2,h3⟩:=a5m ho hi;rcases h3 with rfl|⟨aQ,h4⟩
  .exact hw e h1 h2
  have hd:=hw e h1 h2;have hl:j<ops.length:=(a0a.1 ho).1;have hoe:ops[e.on]? = some ops[e.on]:=a0n (by omega);exact ih e.on aQ _ hoe (hc _ _ hoe hd) i h4
theorem yR{ops:List Oper}{i j:Nat}(Ap:i<j)(hj:j<ops.length)(hn:i∉Wq ops j):(i,j)∈oC ops:=by simp only[oC,adY,a4B,a1k,a8G];exact⟨j,hj,i,⟨Ap,by simpa[Wq]using hn⟩,rfl⟩
theorem Ws{ops:List Oper}(h:nR ops=true){i:Nat}{o:Oper}(ho:ops[i]? = some o){e:Edge}(he:e∈o.after)(hb:Region.binds .any e=true):e.on<i:=by
 simp only[nR,a2f,a4I]at h;have:=h.1 (o,i) (by rw[a9M];simpa using ho)
 simp only[acZ]at this;have:=this e he;simpa[hb]using this
theorem Aq{ops:List Oper}(h:nR ops=true){i j:Nat}{a b:Oper}(hp:(i,j)∈oC ops)(ha:ops[i]? = some a)(hb:ops[j]? = some b):a.apart ops.toArray b=true∧b.apart ops.toArray a=true:=by simp only[nR,a2f,a4I]at h;have:=h.2 (i,j) hp;simpa[ha,hb]using this
theorem RF{xQ:List mJ}:∀{ps:List (Nat×Nat)},BI xQ ps=true->∀{i j:Nat} {a b:mJ},(i,j)∈ps->xQ[i]? = some a->xQ[j]? = some b->calm a b=true
 | [],_,i,j,a,b,h,_,_=>by cases h
 |(x,y)::r,hd,i,j,a,b,h,ha,hb=>by
  simp only[BI,a2f]at hd;rcases a1F.1 h with h1|h1
  .cases h1;simpa[ha,hb]using hd.1
  exact RF hd.2 h1 ha hb
section
variable {P:LI1} {call:aY} {site:Nat->Bool} {s s1:St} {o:Oper} {v:EV} {i:mJ}
theorem a5n{t:LI2}{a:EV}{r:TV×mJ}(h:loadT P t s a=some r):r.2.ws=[]:=by
 unfold loadT at h;split at h
 .split at h
  .simp only[a0i]at h;obtain⟨_,_,rfl⟩:=h;rfl
  simp at h
 .split at h
  .split at h
   .simp only[a0i]at h;obtain⟨_,_,rfl⟩:=h;rfl
   simp at h
  simp at h
 simp at h
theorem a9p{at_:Array LI2}{h0:List HB}{x:TV}{r:TV×mJ}(h:YG P at_ h0 x=some r):r.2.ws=[]:=by
 unfold YG at h
 repeat' (split at h)
 all_goals first
  |(simp at h;done)
  |(simp only[a01]at h;subst h;rfl)
theorem ahP(h:pG P call site s o=some (v,s1,i))(hm:IX o.op=false):i.ws=[]:=by
 unfold pG at h;split at h
 all_goals first
  |(simp at h;done)
  |(rename_i ho;rw[ho]at hm;simp[IX]at hm;done)
  |(simp only[a0i,a0z]at h;obtain⟨_,_,_,_,rfl⟩:=h;rfl)
  |(split at h<;>first|(simp at h;done)|(simp only[a0i,a0z,a01]at h;first|(obtain⟨_,_,_,_,rfl⟩:=h;rfl)|(obtain⟨_,_,rfl⟩:=h;rfl)))
  |skip
 .split at h
  .split at h
   .simp only[a01,a0z]at h;obtain⟨_,_,rfl⟩:=h;rfl
   simp at h
  simp at h
 .split at h
  .simp only[a0i,a0z]at h;obtain⟨r,hr,_,_,rfl⟩:=h;exact a5n hr
  simp at h
 .split at h
  .split at h
   .simp only[a0i,a0z]at h;obtain⟨_,_,_,_,rfl⟩:=h;rfl
   .simp only[a0i,a0z]at h;obtain⟨_,_,_,_,rfl⟩:=h;rfl
   simp at h
  simp at h
 .rename_i c ho;rw[ho]at hm;obtain⟨callee,args,ats⟩:=c;unfold Nu at h;simp only at h;split at h
  .rename_i b az;simp only[a0i,a0z]at h;obtain⟨⟨v0,s0,i0⟩,hb,_,_,rfl⟩:=h;simp only[IX]at hm;unfold qU at hb;split at hb
   .simp only[a0i,a0z]at hb;obtain⟨r,hr,_,_,rfl⟩:=hb;exact a9p hr
   .simp at hm
   .simp at hm
   .simp only[a0i,a0z]at hb;obtain⟨r,hr,_,_,rfl⟩:=hb;rfl
   .simp only[a0i,a0z]at hb;obtain⟨r,hr,_,_,rfl⟩:=hb;rfl
   simp at hb
  .simp[IX]at hm
  simp at h
 .split at h
  .split at h
   .simp only[a01,a0z]at h;obtain⟨_,_,rfl⟩:=h;rfl
   simp at h
  simp at h
 split at h
 .split at h
  .split at h
   .split at h
    .simp only[a0i,a0z]at h;obtain⟨_,_,_,_,rfl⟩:=h;rfl
    simp at h
   simp at h
  simp at h
 simp at h
theorem ahQ(h:pG P call site s o=some (v,s1,i))(hm:Ny o.op=false):i.ts=[]∧i.ws=[]∧i.all=false:=by
 unfold pG at h;split at h
 all_goals first
  |(simp at h;done)
  |(rename_i ho;rw[ho]at hm;simp[Ny]at hm;done)
  |(simp only[a0i,a0z]at h;obtain⟨_,_,_,_,rfl⟩:=h;exact⟨rfl,rfl,rfl⟩)
  |(split at h<;>first|(simp at h;done)|(simp only[a0i,a0z,a01]at h;first|(obtain⟨_,_,_,_,rfl⟩:=h;exact⟨rfl,rfl,rfl⟩)|(obtain⟨_,_,rfl⟩:=h;exact⟨rfl,rfl,rfl⟩)))
  |skip
 .split at h
  .split at h
   .simp only[a01,a0z]at h;obtain⟨_,_,rfl⟩:=h;exact⟨rfl,rfl,rfl⟩
   simp at h
  simp at h
 .split at h
  .split at h
   .simp only[a0i,a0z]at h;obtain⟨_,_,_,_,rfl⟩:=h;exact⟨rfl,rfl,rfl⟩
   .simp only[a0i,a0z]at h;obtain⟨_,_,_,_,rfl⟩:=h;exact⟨rfl,rfl,rfl⟩
   simp at h
  simp at h
 rename_i c ho;rw[ho]at hm;obtain⟨callee,args,ats⟩:=c;unfold Nu at h;simp only at h;split at h
 .rename_i b az;simp only[a0i,a0z]at h;obtain⟨⟨v0,s0,i0⟩,hb,_,_,rfl⟩:=h;simp only[Ny]at hm;unfold qU at hb;split at hb
  .simp at hm
  .simp at hm
  .simp at hm
  .simp only[a0i,a0z]at hb;obtain⟨r,hr,_,_,rfl⟩:=hb;exact⟨rfl,rfl,rfl⟩
  .simp only[a0i,a0z]at hb;obtain⟨r,hr,_,_,rfl⟩:=hb;exact⟨rfl,rfl,rfl⟩
  simp at hb
 .simp[Ny]at hm
 simp at h
variable {fl nt:Nat} {ops:Array Oper} {s':St}
theorem uF.w(h:uF P call site fl nt ops o s i s')(hm:IX o.op=false):i.ws=[]:=by
 obtain⟨_,⟨_,v,s1,h1,_⟩|⟨_,rfl,_⟩⟩:=h
 .exact ahP h1 hm
 rfl
theorem uF.t(h:uF P call site fl nt ops o s i s')(hm:Ny o.op=false):i.ts=[]∧i.ws=[]∧i.all=false:=by
 obtain⟨_,⟨_,v,s1,h1,_⟩|⟨_,rfl,_⟩⟩:=h
 .exact ahQ h1 hm
 exact⟨rfl,rfl,rfl⟩
theorem O6{ws:List Key}{b:mJ}(h:Nz ws b=true){k:Key}(hk:k∈ws):¬oH b k:=by
 simp only[Nz,a4I]at h;have:=h k hk;simp only[a2f,a97,agW]at this;obtain⟨⟨h1,h2⟩,h3⟩:=this;rintro (h4|h4|⟨h4,h5⟩)
 .simp[h4]at h2
 .simp[h4]at h3
 simp[h4,h5]at h1
theorem a2I{xQ:List mJ}{ol:List Oper}(hd:BI xQ (ni ol)=true){x y:Nat}{a b:Oper}{ia ib:mJ}{sa sa' sb sb':St}(hp:(x,y)∈oC ol)(ha:ol[x]? = some a)(hb:ol[y]? = some b)
  (hia:xQ[x]? = some ia) (hib:xQ[y]? = some ib) (sta:uF P call site fl nt ops a sa ia sa') (stb:uF P call site fl nt ops b sb ib sb') :
  BH a b=true∨((∀k∈ia.ws,¬oH ib k)∧(∀k∈ib.ws,¬oH ia k)):=by
 cases hsp:BH a b
 case true=>exact .inl rfl
 right;by_cases hh:((IX a.op&&Ny b.op)||(Ny a.op&&IX b.op))=true
 .have hm:(x,y)∈ni ol:=by simp only[ni,a8G];refine⟨hp,?_⟩;simp only[ha,hb,hsp,abM,ahe];exact hh
  have:=RF hd hm hia hib;simp only[calm,a2f]at this;exact⟨fun k hk=>O6 this.1 hk,fun k hk=>O6 this.2 hk⟩
 .simp only[a9n,a2f,adE,not_and,agA]at hh;constructor
  .intro k hk ht;have h1:IX a.op=true:=by
    cases h2:IX a.op with
    |true=>rfl
    |false=>rw[sta.w h2]at hk;cases hk
   obtain⟨t1,t2,t3⟩:=stb.t (hh.1 h1);rcases ht with h|h|⟨h,_⟩
   .rw[t1]at h;cases h
   .rw[t2]at h;cases h
   .rw[t3]at h;cases h
  .intro k hk ht;have h1:IX b.op=true:=by
    cases h2:IX b.op with
    |true=>rfl
    |false=>rw[stb.w h2]at hk;cases hk
   have h2:Ny a.op=false:=by
    cases h3:Ny a.op with
    |false=>rfl
    |true=>have:=hh.2 h3;rw[h1]at this;cases this
   obtain⟨t1,t2,t3⟩:=sta.t h2;rcases ht with h|h|⟨h,_⟩
   .rw[t1]at h;cases h
   .rw[t2]at h;cases h
   .rw[t3]at h;cases h
end
end Tw
