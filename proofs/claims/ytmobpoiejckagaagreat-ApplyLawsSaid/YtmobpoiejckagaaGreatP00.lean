/- Part 1 of a proof: ApplyLaws -/
import Derived.RangeFuncLeaves
import Derived.OrdersIn
import Derived.Laws.CopyRow
import Derived.Laws.Rows
import Derived.Laws.Entries
set_option linter.unusedVariables false
set_option linter.unusedSimpArgs false
set_option linter.unusedSectionVars false
open Go.IntKind (i64)
noncomputable section
theorem aiC:false=false:=rfl
theorem aiD:(0:Int)<=0:=by decide
theorem aiE:(0:Int)<=1:=by decide
theorem aiF:(0:Int)<=2:=by decide
theorem aiG:true=true:=rfl
theorem aiH:(1:Int)=1:=rfl
theorem aiI:(0:Int)<=4:=by decide
theorem aiJ:(!true)=false:=rfl
theorem aiK:(!false)=true:=rfl
theorem aiL:(5:Int)<=5:=by decide
theorem aiM:(6:Int)<=6:=by decide
theorem aiN:(0:Int)=0:=rfl
theorem aiO:(1:Int)<=2:=by decide
theorem aiP:(1:Int)<=3:=by decide
theorem aiQ:(3:Int)<=3:=by decide
theorem aiR:(2:Int)<=3:=by decide
theorem aiS:(1:Int)<=4:=by decide
theorem aiT:(4:Int)<=4:=by decide
theorem aiU:(2:Int)<=4:=by decide
theorem aiV:(1:Int)<=5:=by decide
theorem aiW:(2:Int)<=5:=by decide
theorem aiX:(4:Int)<=5:=by decide
theorem aiY:(1:Int)<=6:=by decide
theorem aiZ:(2:Int)<=6:=by decide
theorem aj0:(4:Int)<=6:=by decide
theorem aj1:(0:Int)<=0/\(0:Int)<=6:=⟨by decide,by decide⟩
theorem aj2:(0:Int)<=1/\(1:Int)<=6:=⟨by decide,by decide⟩
theorem aj3:(2:Int)<=2:=by decide
theorem aj6:(0:Int)<=2/\(2:Int)<=6:=⟨by decide,by decide⟩
theorem aj7:(0:Int)<=3:=by decide
theorem aj9:(0:Int)<=3/\(3:Int)<=6:=⟨by decide,by decide⟩
theorem ajb:(0:Int)<=4/\(4:Int)<=6:=⟨by decide,by decide⟩
theorem ajd:(0:Int)<=5:=by decide
theorem aje:(0:Int)<=5/\(5:Int)<=6:=⟨by decide,by decide⟩
theorem ajg:(0:Int)<=6:=by decide
theorem ajh:(0:Int)<=6/\(6:Int)<=6:=⟨by decide,by decide⟩
abbrev LI0:=List Int
abbrev LI1:=Go.Program
abbrev LI2:=Go.TypeId
abbrev LI3:=Go.Value
abbrev LI4:=Go.World
abbrev a08:=@Option.some.injEq
abbrev a0w:=@List.getElem?_eq_some_iff
abbrev a0z:=@Option.map_eq_some_iff
abbrev a0N:=@List.getElem?_eq_getElem
abbrev a0Q:=@List.getElem?_append_left
abbrev a0U:=@if_neg
abbrev a18:=@if_pos
abbrev a1n:=@Prod.mk.injEq
abbrev a1p:=@Nat.le_refl
abbrev a1t:=@Option.map_some
abbrev a1y:=@List.getElem?_append_right
abbrev a1z:=@List.mem_map
abbrev a1A:=@List.getElem?_set_ne
abbrev a1D:=@List.length_append
abbrev a1F:=@decide_eq_true_eq
abbrev a1G:=@List.mem_cons
abbrev a2p:=@List.mem_singleton
abbrev a2r:=@if_true
abbrev a2y:=@List.getElem?_set_self
abbrev a2K:=@Bool.and_eq_true
abbrev a3l:=@Array.getElem?_eq_some_iff
abbrev a3F:=@Bool.false_eq_true
abbrev a3H:=@List.getElem?_cons_zero
abbrev a3J:=@List.mem_cons_of_mem
abbrev a3L:=@decide_eq_false_iff_not
abbrev a3M:=@List.mem_cons_self
abbrev a3N:=@List.mem_append
abbrev a3O:=@Nat.zero_add
abbrev a3V:=@if_false
abbrev a3X:=@Nat.mul_le_mul_right
abbrev a4h:=@List.getD_eq_getElem?_getD
abbrev a4p:=@Nat.add_mul
abbrev a4u:=@List.length_drop
abbrev a4v:=@Array.getElem?_eq_getElem
abbrev a4w:=@List.length_take
abbrev a4D:=@List.eq_nil_of_length_eq_zero
abbrev a4O:=@List.length_singleton
abbrev a4T:=@List.length_cons
abbrev a4U:=@List.getElem?_eq_none
abbrev a4V:=@List.map_append
abbrev a4W:=@List.map_cons
abbrev a5l:=@Nat.lt_or_ge
abbrev a5z:=@List.getElem?_drop
abbrev a5C:=@List.length_map
abbrev a5D:=@List.mem_range
abbrev a5E:=@List.getElem?_set_self'
abbrev a5F:=@List.getElem?_map
abbrev a5G:=@List.getElem?_take
abbrev a5H:=@List.map_congr_left
abbrev a5I:=@List.nodup_cons
abbrev a5J:=@Option.bind_some
abbrev a5K:=@List.getElem_mem
abbrev a5L:=@List.all_eq_true
abbrev a5M:=@List.mem_of_getElem?
abbrev a5N:=@List.length_set
abbrev a5O:=@List.prefix_rfl
abbrev a5P:=@List.idxOf_lt_length_iff
abbrev a5Q:=@List.mem_iff_getElem
abbrev a5R:=@Bool.eq_iff_iff
abbrev a5S:=@Nat.zero_le
abbrev a5T:=@not_false_eq_true
abbrev a5U:=@Int.toNat_natCast
abbrev a5V:=@List.length_nil
abbrev a5W:=@Nat.le_trans
abbrev a5X:=@List.mem_of_mem_drop
abbrev a5Y:=@List.contains_eq_mem
abbrev a6b:=@Option.getD_some
abbrev a6c:=@Option.isSome_iff_exists
abbrev a6h:=@List.mem_append_left
abbrev a6j:=@List.append_assoc
abbrev a6l:=@List.append_nil
abbrev a6m:=@List.nodup_nil
abbrev a6q:=@List.mem_filterMap
abbrev a6t:=@List.length_eq_zero_iff
abbrev a6u:=@List.drop_eq_getElem_cons
abbrev a6w:=@List.length_range
abbrev a6E:=@beq_iff_eq
abbrev a6S:=@List.eq_nil_iff_forall_not_mem
abbrev a7p:=@List.length_replicate
abbrev a7t:=@List.perm_ext_iff_of_nodup
abbrev a7u:=@not_true
abbrev a7v:=@of_decide_eq_true
abbrev a7x:=@Nat.min_eq_left
abbrev a7y:=@List.mem_filter
abbrev a8l:=@List.map_map
abbrev a8p:=@List.take_succ_eq_append_getElem
abbrev a8Q:=@Array.length_toList
abbrev a8V:=@Array.getD_eq_getD_getElem?
abbrev a9b:=@Int.emod_eq_of_lt
abbrev a9c:=@Bool.not_eq_true'
abbrev a9o:=@List.getElem?_of_mem
abbrev a9E:=@List.idxOf_eq_length
abbrev a9I:=@List.getElem_idxOf
abbrev a9J:=@List.prefix_append
abbrev a9L:=@Int.mul_le_mul_of_nonneg_left
abbrev a9M:=@List.nodup_append
abbrev a9S:=@List.mem_iff_getElem?
abbrev aa1:=@Array.getElem?_setIfInBounds
abbrev aa6:=@Nat.eq_of_beq_eq_true
abbrev aa7:=@Int.le_refl
abbrev aa8:=@List.mem_of_mem_take
abbrev aa9:=@List.getElem_map
abbrev aac:=@Bool.not_true
abbrev aad:=@List.take_of_length_le
abbrev aae:=@List.filterMap_cons
abbrev aaf:=@List.getElem_of_mem
abbrev aag:=@Bool.or_eq_true
abbrev aah:=@List.nil_append
abbrev aai:=@Option.some.inj
abbrev aaj:=@Classical.choose_spec
abbrev aak:=@List.length_filter_le
abbrev aal:=@Nat.lt_of_lt_of_le
abbrev aam:=@Nat.le_of_lt
abbrev aan:=@List.ext_getElem
abbrev aar:=@Nat.add_assoc
abbrev aau:=@List.mem_zipIdx_iff_getElem?
abbrev aaw:=@Bool.or_eq_false_iff
abbrev aax:=@List.getElem?_cons_succ
abbrev aay:=@List.getElem?_set
abbrev aaA:=@List.ext_getElem?
abbrev aaF:=@List.idxOf_append
abbrev aaK:=@List.findIdx?_eq_some_iff_getElem
abbrev aaS:=@Array.getElem?_append_left
abbrev aaT:=@List.getElem_inj
abbrev aaU:=@List.drop_zero
abbrev aaX:=@List.length_mergeSort
abbrev ab1:=@Int.mul_le_mul_of_nonneg_right
abbrev ab3:=@List.length_pos_iff
abbrev ab8:=@List.getElem?_range
abbrev abh:=@Bool.not_false
abbrev abk:=@Prod.ext
abbrev abm:=@Nat.one_mul
abbrev abL:=@Nat.eq_zero_or_pos
abbrev abM:=@List.map_nil
abbrev abN:=@Bool.not_eq_false'
abbrev abR:=@Array.getElem?_modify
abbrev ach:=@List.mem_append_right
abbrev aco:=@List.all_cons
abbrev acE:=@Int.add_mul_emod_self_left
abbrev ad4:=@forall_congr'
abbrev ad8:=@List.nodup_iff_pairwise_ne
abbrev ad9:=@Classical.byContradiction
abbrev ade:=@List.pairwise_iff_getElem
abbrev adf:=@Int.mul_one
abbrev adh:=@Nat.add_zero
abbrev adk:=@not_or
abbrev adl:=@Nat.zero_mul
abbrev ads:=@Array.all_eq_true_iff_forall_mem
abbrev adt:=@Nat.le_of_not_lt
abbrev adx:=@and_self
abbrev ady:=@List.take_length
abbrev adz:=@List.filter_cons_of_neg
abbrev adD:=@List.filter_cons_of_pos
abbrev aei:=@Bool.true_and
abbrev aer:=@List.any_cons
abbrev aey:=@List.foldl_cons
abbrev aeE:=@List.range_succ
abbrev aeJ:=@List.idxOf_cons
abbrev aeL:=@List.Nodup.length_le_of_subset
abbrev aeM:=@Nat.le_mul_of_pos_left
abbrev aeR:=@List.size_toArray
abbrev aeS:=@List.getElem?_toArray
abbrev aeV:=@Array.getElem?_toList
abbrev aeW:=@Array.ext'
abbrev af6:=@Bool.not_eq_true
abbrev af7:=@List.mem_flatMap
abbrev af8:=@List.getElem?_modify
abbrev afb:=@List.nodup_range
abbrev afe:=@List.replicate_succ
abbrev afg:=@List.mergeSort_perm
abbrev afh:=@List.length_zipWith
abbrev afi:=@Int.natCast_mul
abbrev afj:=@List.cons.injEq
abbrev afk:=@decide_eq_false
abbrev afm:=@List.forall_mem_singleton
abbrev afn:=@Nat.zero_lt_one
abbrev afo:=@List.getElem_range
abbrev afp:=@Bool.true_eq_false
abbrev afs:=@Nat.sub_self
abbrev afu:=@Int.le_of_lt
abbrev afz:=@List.find?_eq_none
abbrev afC:=@List.take_take
abbrev afF:=@List.drop_drop
abbrev afR:=@Ne.symm
abbrev afT:=@Option.map_map
abbrev afU:=@Int.mul_nonneg
abbrev agh:=@List.getElem?_replicate
abbrev agy:=@List.pairwise_map
abbrev agz:=@List.drop_of_length_le
abbrev agY:=@Bool.false_or
abbrev ah0:=@List.prefix_refl
abbrev ahd:=@List.any_eq_true
abbrev ahp:=@Bool.and_eq_false_iff
abbrev ahA:=@Nat.le_of_ble_eq_true
abbrev ahG:=@List.take_append_drop
abbrev ahK:=@Nat.le_of_eq
abbrev ahR:=@Int.emod_nonneg
abbrev ai3:=@Int.ediv_nonneg
abbrev ai6:=@Int.add_comm
abbrev aiq:=@List.getElem?_mapIdx
abbrev air:=@List.find?_cons
abbrev ais:=@Nat.not_lt_zero
abbrev ait:=@Int.toNat_of_nonneg
abbrev aiu:=@Nat.succ_eq_add_one
abbrev aiv:=@beq_eq_false_iff_ne
abbrev aiw:=@List.drop_take
abbrev aix:=@Nat.mul_le_mul
abbrev aiy:=@Int.add_mul
abbrev aiz:=@Nat.mul_one
abbrev aiA:=@List.contains_cons
abbrev aiB:=@Bool.and_true
namespace Tw
open Go
inductive NK where
 |ptr|aO|map|fn|ifc
 deriving DecidableEq
inductive TV where
 |bool (b:Bool)
 |int (k:IntKind) (n:Int)
 |str (s:ByteArray)
 |nil (k:NK)
 |ptr (b off lim:Nat)
 |aO (b off len cap sz:Nat) (ex:Bool)
 |map (r:Nat)
 |fn (f:FuncId) (first cap:List TV)
 |l9 (l:Nat)
 |agg (cs:List TV)
 |dK (cs:List TV)
 |iter (b:Nat)
inductive EV where
 |val (v:TV)
 |loc (k off:Nat)
 |undef
 |ent (r j:Nat) (v:TV)
 |Fj (r j:Nat)
inductive BK where
 |ro|own|grow|last
 deriving DecidableEq
inductive HB where
 |cells (k:BK) (cs:List TV)
 |map (es:List (TV×TV))
 |nT (cs:List TV)
 |mark
 |dh (r n:Nat) (seen:List Nat)
 |loop (ready:Bool) (f:FuncId) (nt:Nat) (env:List (Nat×EV)) (ps:List Nat) (assign body:Code) (jU:Option Code)
structure St where
 env:List (Nat×EV)
 loc:List (List TV)
 heap:List HB
 ws:List Nat
inductive Key where
 |h (b:Nat)
 |l (k:Nat)
 deriving DecidableEq
def St.get(s:St):Key->Option HB
 |.h b=>s.heap[b]?
 |.l k=>(s.loc[k]?).map (.cells .own)
def TV.toC:TV->Option LI3
 |.bool b=>some (.bool b)
 |.int k n=>some (.int k n)
 |.str s=>some (.string s)
 |.nil .ptr=>some (.pointer none)
 |.nil .aO=>some (.slice none 0 0)
 |.nil .map=>some (.map none)
 |.nil .fn=>some .nilFunc
 |.nil .ifc=>some .nilIface
 |_=>none
def TV.UL:List TV->Option (List LI3)
 | []=>some []
 |c::cs=>match c.toC,TV.UL cs with
  |some v,some vs=>some (v::vs)
  |_,_=>none
def TV.zk:TV->Option LI3
 |.agg cs=>(TV.UL cs).map fun vs=>.agg vs.toArray
 |v=>v.toC
def TV.ofC:LI3->Option TV
 |.bool b=>some (.bool b)
 |.int k n=>some (.int k n)
 |.string s=>some (.str s)
 |.pointer none=>some (.nil .ptr)
 |.slice none 0 0=>some (.nil .aO)
 |.map none=>some (.nil .map)
 |.nilFunc=>some (.nil .fn)
 |.nilIface=>some (.nil .ifc)
 |_=>none
def TV.Dh:List LI3->Option (List TV)
 | []=>some []
 |c::cs=>match TV.ofC c,TV.Dh cs with
  |some v,some vs=>some (v::vs)
  |_,_=>none
def TV.X4:LI3->Option TV
 |.agg cs=>(TV.Dh cs.toList).map .agg
 |v=>TV.ofC v
def TV.ad6:TV->Bool
 |.bool _|.int _ _|.str _|.nil _=>true
 |_=>false
def TV.ad7:TV->Bool
 |.agg cs=>cs.all TV.ad6
 |v=>v.ad6
def TV.flat:TV->Bool
 |.dK vs=>vs.all TV.ad7
 |v=>v.ad7
def TV.cells:TV->List TV
 |.agg cs=>cs
 |v=>[v]
def iM:TV->Bool
 |.agg _|.dK _=>false
 |_=>true
def aC{α}(P:LI1):Sem α->Option α
 |.pure a=>some a
 |.program k=>aC P (k P)
 |.mark _ k=>aC P k
 |_=>none
def dQ(t:Nat):List (Nat×EV)->Option EV
 | []=>none
 |(k,v)::r=>if k=t then some v else dQ t r
def St.put(s:St)(dst:Option Nat)(v:EV):St:=
 match dst with
 |some d=>{ s with env:=(d,v)::s.env }
 |none=>s
def pick(live:List Nat)(env:List (Nat×EV)):List (Nat×EV):=
 match live with
 | []=>[]
 |t::r=>match dQ t env with
  |some v=>(t,v)::pick r env
  |none=>pick r env
def JD(env:List (Nat×EV)):Operand->Option EV
 |.tmp t=>dQ t env
 |.const v=>(TV.X4 v).map .val
 |.func f=>some (.val (.fn f [] []))
 |.global _=>none
def rM(env:List (Nat×EV))(x:Operand):Option TV:=
 match JD env x with
 |some (.val v)=>some v
 |_=>none
def UM(env:List (Nat×EV)):List Operand->Option (List TV)
 | []=>some []
 |x::xs=>match rM env x,UM env xs with
  |some v,some vs=>some (v::vs)
  |_,_=>none
def Xb(env:List (Nat×EV)):List (Nat×Operand)->Option (List (Nat×TV))
 | []=>some []
 |(i,x)::xs=>match rM env x,Xb env xs with
  |some v,some vs=>some ((i,v)::vs)
  |_,_=>none
structure zl where
 all:Bool
 ts:List Key
 ws:List Key
def cO:zl:=⟨false,[],[]⟩
def yx(k:Key):zl:=⟨false,[k],[]⟩
def fO(k:List Key):zl:=⟨false,k,[]⟩
def qm(k:Key):zl:=⟨false,[k],[k]⟩
def sub(cs:List TV)(off n:Nat):Option (List TV):=
 if off+n<=cs.length then some ((cs.drop off).take n)else none
def wZ(cs:List TV)(off:Nat)(new:List TV):Option (List TV):=
 if off+new.length<=cs.length then some (cs.take off++new++cs.drop (off+new.length))else none
def xg(P:LI1)(t:LI2):Option Bool:=
 match P.underlying t with
 |some (.struct _)|some (.array _ _)=>some true
 |some _=>some false
 |none=>none
def dH(P:LI1)(t:LI2):Option Nat:=(P.info? t).map (·.size)
def vk(P:LI1)(t:LI2)(cs:List TV)(off:Nat):Option TV:=
 match xg P t,dH P t with
 |some true,some n=>(sub cs off n).map .agg
 |some false,some n=>if n=1 then cs[off]? else none
 |_,_=>none
def LM(P:LI1)(t:LI2):Option (List TV):=
 match P.info? t with
 |some i=>match i.zero with
  |some z=>(TV.X4 z).map TV.cells
  |none=>none
 |none=>none
def aV(h:List HB)(b:Nat):Option (List TV):=
 match h[b]? with
 |some (.cells _ cs)=>some cs
 |_=>none
def nG(h:List HB)(b lim:Nat):Option (List TV):=
 match h[b]? with
 |some (.cells k cs)=>if k=.last/\lim≠cs.length then none else some cs
 |_=>none
def Fq(floor:Nat)(b:Nat)(ws:List Nat):List Nat:=
 if b<floor then(if ws.contains b then ws else b::ws)else ws
def kH(floor:Nat):List Key->List Nat->List Nat
 | [],ws=>ws
 |.h b::r,ws=>kH floor r (Fq floor b ws)
 |.l _::r,ws=>kH floor r ws
def AL(k:BK)(whole:Bool):Option BK:=
 match k,whole with
 |.own,_=>some .own
 |.grow,true=>some .last
 |.last,true=>some .last
 |_,_=>none
def UN(h:List HB)(b off lim:Nat)(new:List TV):Option (List HB):=
 match h[b]? with
 |some (.cells k cs)=>match AL k (lim==cs.length)with
  |some k'=>(wZ cs off new).map fun cs'=>h.set b (.cells k' cs')
  |none=>none
 |_=>none
def BK.more:BK->BK
 |.last=>.last
 |_=>.grow
def ug(place:Nat->Option (Nat×Nat)):List TV->List (Nat×TV)->Option (List TV)
 |cs,[]=>some cs
 |cs,(i,v)::r=>match place i with
  |some (off,size)=>if v.cells.length=size then(match wZ cs off v.cells with|some cs'=>ug place cs' r|none=>none)else none
  |none=>none
def UO(P:LI1)(fs:Array Field)(i:Nat):Option (Nat×Nat):=
 match fs[i]? with
 |some f=>(dH P f.type).map fun n=>(f.offset,n)
 |none=>none
def Di(P:LI1)(fs:List Field):Bool:=fs.all fun f=>(dH P f.type).isSome
def Ot(P:LI1)(t:LI2)(parts:List (Nat×TV)):Option TV:=
 match LM P t,P.underlying t with
 |some z,some (.struct fs)=>if Di P fs.toList then(ug (UO P fs) z parts).map .agg else none
 |some z,some (.array _ e)=>match dH P e with
  |some n=>(ug (fun i=>some (i*n,n)) z parts).map .agg
  |none=>none
 |_,_=>none
def times(z:List TV):Nat->List TV
 | 0=>[]
 |n+1=>z++times z n
def jT(P:LI1)(t:LI2):Option (LI2×Nat):=
 match P.underlying t with
 |some (.slice e)=>match dH P e with
  |some n=>if n=0 then none else some (e,n)
  |none=>none
 |_=>none
def rO(site:Bool)(s:St)(cs:List TV):EV×St:=
 if site then(.val (.ptr s.heap.length 0 cs.length),{ s with heap:=s.heap++[.cells .own cs] })
 else(.loc s.loc.length 0,{ s with loc:=s.loc++[cs] })
def loadT(P:LI1)(t:LI2)(s:St):EV->Option (TV×zl)
 |.loc k off=>match s.loc[k]? with
  |some cs=>(vk P t cs off).map fun v=>(v,yx (.l k))
  |none=>none
 |.val (.ptr b off lim)=>match nG s.heap b lim,dH P t with
  |some cs,some n=>if off+n<=lim then(vk P t cs off).map fun v=>(v,yx (.h b))else none
  |_,_=>none
 |_=>none
def storeT(P:LI1)(t:LI2)(s:St)(a:EV)(v:TV):Option (St×zl):=
 match dH P t with
 |some n=>
  if v.cells.length=n/\v.cells.all iM=true then
   match a with
   |.loc k off=>match s.loc[k]? with
    |some cs=>(wZ cs off v.cells).map fun cs'=>({ s with loc:=s.loc.set k cs' },qm (.l k))
    |none=>none
   |.val (.ptr b off lim)=>if off+n<=lim then(UN s.heap b off lim v.cells).map fun h=>({ s with heap:=h },qm (.h b))else none
   |_=>none
  else none
 |none=>none
def RD(o:Nat):EV->Option EV
 |.loc k off=>some (.loc k (off+o))
 |.val (.ptr b off lim)=>if off+o<=lim then some (.val (.ptr b (off+o) lim))else none
 |_=>none
def HY(P:LI1)(t:LI2)(i:Nat):Option Nat:=
 match P.underlying t with
 |some (.struct fs)=>match fs[i]? with
  |some f=>match dH P f.type with
   |some n=>if n=0 then none else some f.offset
   |none=>none
  |none=>none
 |_=>none
def idx(n:Nat):TV->Option Nat
 |.int _ i=>if 0<=i/\i<n then some i.toNat else none
 |_=>none
def nH(P:LI1)(t:LI2)(x:EV)(i:TV):Option EV:=
 match P.underlying t with
 |some (.slice e)=>match dH P e,x with
  |some n,.val (.aO b off len cap sz _)=>if n=sz then(idx len i).map fun j=>.val (.ptr b (off+j*n) (off+cap*n))else none
  |_,_=>none
 |some (.array len e)=>match dH P e with
  |some n=>match idx len i with
   |some j=>RD (j*n) x
   |none=>none
  |none=>none
 |_=>none
def JH(P:LI1)(t:LI2)(x i:TV):Option TV:=
 match P.underlying t,x with
 |some (.array len e),.agg cs=>match dH P e,idx len i with
  |some n,some j=>vk P e cs (j*n)
  |_,_=>none
 |some .string,.str s=>match idx s.size i with
  |some j=>(s[j]?).map fun b=>.int .u8 b.toNat
  |none=>none
 |_,_=>none
def rP(n:Nat):TV->Option Nat
 |.int _ i=>if 0<=i/\i<=n then some i.toNat else none
 |_=>none
def jM(n d:Nat):Option TV->Option Nat
 |none=>some d
 |some v=>rP n v
def rQ(P:LI1)(t:LI2)(x:TV)(lo hi mx:Option TV):Option TV:=
 match P.underlying t,x with
 |some .string,.str s=>match mx with
  |some _=>none
  |none=>match jM s.size s.size hi with
   |some h=>match jM h 0 lo with
    |some l=>some (.str (s.extract l h))
    |none=>none
   |none=>none
 |some (.slice e),.aO b off len cap sz ex=>match dH P e with
  |some n=>
   if n=sz then
    match mx with
    |some m=>match rP cap m,hi with
     |some m,some h=>match rP (min m len) h with
      |some h=>match jM h 0 lo with
       |some l=>some (.aO b (off+l*n) (h-l) (m-l) sz true)
       |none=>none
      |none=>none
     |_,_=>none
    |none=>match jM len len hi with
     |some h=>match jM h 0 lo with
      |some l=>some (.aO b (off+l*n) (h-l) (cap-l) sz ex)
      |none=>none
     |none=>none
   else none
  |none=>none
 |some (.slice e),.nil .aO=>match dH P e,jM 0 0 mx,jM 0 0 hi,jM 0 0 lo with
  |some _,some _,some _,some _=>if mx.isSome&&hi.isNone then none else some (.nil .aO)
  |_,_,_,_=>none
 |_,_=>none
def qU(P:LI1)(t:LI2)(x:EV)(lo hi mx:Option TV):Option TV:=
 match P.underlying t,x with
 |some (.array n e),.val (.ptr b off lim)=>match dH P e with
  |some size=>
   if size=0\/lim<off+n*size\/2^24<n then none else
   match jM n n mx with
   |some m=>match jM m n hi with
    |some h=>match jM h 0 lo with
     |some l=>if mx.isSome&&hi.isNone then none else some (.aO b (off+l*size) (h-l) (m-l) size true)
     |none=>none
    |none=>none
   |none=>none
  |none=>none
 |_,_=>none
def dZ(size:Nat)(h:List HB):TV->Option (Nat×List TV)
 |.nil .aO=>some (0,[])
 |.aO b off len cap sz _=>if sz=size then(if len=0 then some (0,[])else match nG h b (off+cap*sz)with|some cs=>(sub cs off (len*size)).map fun l=>(len,l)|none=>none)else none
 |.str s=>if size=1 then some (s.size,s.data.toList.map fun b=>.int .u8 b.toNat)else none
 |_=>none
def dn:TV->List Key
 |.aO b _ _ _ _ _=>[.h b]
 |_=>[]
def UQ(P:LI1)(t:LI2):Bool:=
 match P.underlying t with
 |some (.int _)=>true
 |_=>false
def a5Z(i:TypeInfo):Bool:=
 match i.zero with
 |some z=>z.cells.size==i.size
 |none=>false
def uS(P:LI1)(e:LI2)(n:Nat):Bool:=
 match P.info? e with
 |some i=>decide (n*i.bytes<=2^40)&&decide (n<=2^40)&&decide (i.bytes<=2^20)&&decide (0<i.bytes)&&a5Z i
 |none=>false
def jy(P:LI1)(at_:Array LI2)(s:St)(d x:TV):Option (TV×St×zl):=
 match at_[0]?,at_[1]? with
 |some st,some xt=>
  if UQ P xt||(P.underlying xt).isNone then none else
  match jT P st with
  |some (e,size)=>match dZ size s.heap x with
   |some (n,new)=>
    if n=0 then(match d with
     |.nil .aO=>some (d,s,fO (dn x))
     |.aO _ _ _ _ sz _=>if sz=size then some (d,s,fO (dn x))else none
     |_=>none)
    else if new.length=n*size then
     match d with
     |.nil .aO=>if uS P e n then some (.aO s.heap.length 0 n n size false,{ s with heap:=s.heap++[.cells .own new] },fO (dn x))else none
     |.aO b off len cap sz ex=>
      if sz=size then
       if len+n<=cap then
        (UN s.heap b (off+len*size) (off+cap*size) new).map fun h=>(.aO b off (len+n) cap sz ex,{ s with heap:=h },⟨false,.h b::dn x,[.h b]⟩)
       else if uS P e (len+n)then
        if ex then
         (dZ size s.heap (.aO b off len cap sz ex)).map fun r=>(.aO s.heap.length 0 (len+n) (len+n) size false,{ s with heap:=s.heap++[.cells .own (r.2++new)] },fO (.h b::dn x))
        else match s.heap[b]? with
         |some (.cells k cs)=>
          if k=.ro\/off≠0\/len≠cap\/cs.length≠len*size\/len=0 then none
          else some (.aO b 0 (len+n) (len+n) size false,{ s with heap:=s.heap.set b (.cells k.more (cs++new))},⟨false,.h b::dn x,[.h b]⟩)
         |_=>none
       else none
      else none
     |_=>none
    else none
   |none=>none
  |none=>none
 |_,_=>none
def isStr:TV->Bool
 |.str _=>true
 |_=>false
def I4(P:LI1)(at_:Array LI2)(s:St)(d x:TV):Option (TV×St×zl):=
 match at_[0]? with
 |some st=>match jT P st with
  |some (_,size)=>match dZ size s.heap x with
   |some (n,new)=>
    if new.length=n*size/\isStr x=false then
     match d with
     |.nil .aO=>some (.int .i64 0,s,fO (dn x))
     |.aO b off len cap sz _=>
      if sz=size then
       if min n len=0 then some (.int .i64 0,s,fO (dn x))
       else(UN s.heap b off (off+cap*size) (new.take (min n len*size))).map fun h=>(.int .i64 (min n len:Nat),{ s with heap:=h },⟨false,.h b::dn x,[.h b]⟩)
      else none
     |_=>none
    else none
   |none=>none
  |none=>none
 |none=>none
def ZC(P:LI1)(at_:Array LI2)(h:List HB)(x:TV):Option (TV×zl):=
 match at_[0]? with
 |some t=>match P.underlying t,x with
  |some .string,.str s=>some (.int .i64 s.size,cO)
  |some (.array n _),_=>some (.int .i64 n,cO)
  |some (.slice _),.aO _ _ len _ _ _=>some (.int .i64 len,cO)
  |some (.slice _),.nil .aO=>some (.int .i64 0,cO)
  |some (.map _ _),.nil .map=>some (.int .i64 0,cO)
  |some (.map _ _),.map r=>match h[r]? with
   |some (.map es)=>some (.int .i64 es.length,yx (.h r))
   |_=>none
  |_,_=>none
 |none=>none
def CQ:List TV->Option (List LI3)
 | []=>some []
 |c::cs=>match c.zk,CQ cs with
  |some v,some vs=>some (v::vs)
  |_,_=>none
def Xc(P:LI1)(kt:LI2)(k:LI3)(ks:List LI3)(r:Option Nat):Bool:=
 match aC P (underlying kt)with
 |some kind=>(match r with|some j=>decide (j<ks.length)|none=>true)&&((ks.zipIdx.all fun(x,i)=>Instr.sameNow kind k x==some (some i==r)) ||
   (ks.zipIdx.all fun(x,i)=>Instr.sameNow kind k x==none&&aC P (Op.equal kt k x)==some (some i==r)))
 |none=>false
def FT(P:LI1)(kt:LI2)(k:LI3)(es:List (TV×TV)):Option (Option Nat):=
 match CQ (es.map (·.1))with
 |some ks=>match aC P (do Instr.checkKey es.isEmpty 10000 kt k;Instr.findKey kt k (ks.map fun x=>⟨x,.bool false,0⟩))with
  |some r=>if Xc P kt k ks (r.map (·.1))then some (r.map (·.1))else none
  |none=>none
 |none=>none
def LP:TV->Option NK
 |.ptr _ _ _=>some .ptr
 |.aO _ _ _ _ _ _=>some .aO
 |.map _=>some .map
 |.fn _ _ _|.l9 _=>some .fn
 |_=>none
def ZE:TV->Option NK
 |.nil k=>some k
 |_=>none
def LQ(P:LI1)(t:LI2):Option NK:=
 match P.underlying t with
 |some (.pointer _)=>some .ptr
 |some (.slice _)=>some .aO
 |some (.map _ _)=>some .map
 |some (.func _ _ _)=>some .fn
 |_=>none
def Dj(P:LI1)(t:LI2)(x y:TV):Bool:=
 match LQ P t with
 |some k=>(ZE x==some k&&LP y==some k)||(LP x==some k&&ZE y==some k)
 |none=>false
def uj(P:LI1)(op:BinOp)(t:LI2)(x y:Operand)(a b:TV):Option TV:=
 match a.zk,b.zk with
 |some u,some v=>match aC P (do eqGuard op t x y u v;binOp op t u v)with
  |some r=>TV.X4 r
  |none=>none
 |_,_=>if Dj P t a b then(match op with
  |.eql=>some (.bool false)
  |.neq=>some (.bool true)
  |_=>none)else none
def unT(P:LI1)(op:UnOp)(a:TV):Option TV:=
 match a.zk with
 |some u=>match aC P (Op.unary op u)with
  |some r=>TV.X4 r
  |none=>none
 |none=>none
def SE(P:LI1)(src dst:LI2)(a:TV):Option TV:=
 match a.zk with
 |some u=>match aC P (convert src dst u)with
  |some r=>TV.X4 r
  |none=>none
 |none=>none
def Ez(P:LI1)(mx:Bool)(at_:Array LI2)(t:LI2)(az:List TV):Option TV:=
 match CQ az with
 |some vs=>match aC P (if mx then Builtin.max_ at_ t vs.toArray else Builtin.min_ at_ t vs.toArray)with
  |some r=>TV.X4 r
  |none=>none
 |none=>none
def Ou(P:LI1)(t:LI2)(x:TV)(i:Nat):Option TV:=
 match P.underlying t,x with
 |some (.struct fs),.agg cs=>match fs[i]? with
  |some f=>vk P f.type cs f.offset
  |none=>none
 |_,_=>none
def qV(P:LI1)(t:LI2)(len:Nat)(s:St)(ps:List (Nat×TV)):Option (TV×St):=
 match jT P t with
 |some (e,n)=>if len*n<=2^24/\ps.all (fun p=>p.2.cells.all iM)=true then
   match LM P e with
   |some z=>if z.length=n then
     match ug (fun i=>some (i*n,n)) (times z len) ps with
     |some cs=>some (.aO s.heap.length 0 len len n true,{ s with heap:=s.heap++[.cells .own cs] })
     |none=>none
    else none
   |none=>none
  else none
 |none=>none
def a3C:TV->Option Nat
 |.int _ i=>if 0<=i/\i<=2^40 then some i.toNat else none
 |_=>none
def um(P:LI1)(t:LI2)(s:St)(l c:TV):Option (TV×St):=
 match jT P t,a3C l,a3C c with
 |some (e,n),some l,some c=>
  if l<=c/\uS P e c then
   match LM P e with
   |some z=>if z.length=n then some (.aO s.heap.length 0 l c n true,{ s with heap:=s.heap++[.cells .own (times z c)] })else none
   |none=>none
  else none
 |_,_,_=>none
def iG(P:LI1)(t:LI2)(h:List HB)(m k:TV)(ok:Bool):Option TV:=
 match P.underlying t,k.zk with
 |some (.map kt e),some kv=>
  let es:=match m with
   |.nil .map=>some []
   |.map r=>match h[r]? with
    |some (.map es)=>some es
    |_=>none
   |_=>none
  match es with
  |some es=>match FT P kt kv es with
   |some (some i)=>match es[i]? with
    |some (_,v)=>some (if ok then .dK [v,.bool true]else v)
    |none=>none
   |some none=>match P.info? e with
    |some i=>match i.zero with
     |some z=>(TV.X4 z).map fun z=>if ok then .dK [z,.bool false]else z
     |none=>none
    |none=>none
   |none=>none
  |none=>none
 |_,_=>none
def yI(P:LI1)(t:LI2)(s:St)(m k v:TV):Option (St×zl):=
 match P.underlying t,k.zk,m with
 |some (.map kt _),some kv,.map r=>match s.heap[r]?,aC P (Instr.checkKey false 10000 kt kv)with
  |some (.map es),some ()=>match FT P kt kv es with
   |some (some i)=>match es[i]? with
    |some (old,_)=>match old.zk with
     |some ov=>if Instr.sameBits 10000 ov kv then some ({ s with heap:=s.heap.set r (.map (es.set i (k,v))) },qm (.h r))else none
     |none=>none
    |none=>none
   |some none=>some ({ s with heap:=s.heap.set r (.map (es++[(k,v)])) },qm (.h r))
   |none=>none
  |_,_=>none
 |_,_,_=>none
def AO(P:LI1)(t:LI2)(s:St)(m k:TV):Option (EV×St×zl):=
 match P.underlying t,k.zk,m with
 |some (.map kt e),some kv,.map r=>match s.heap[r]?,aC P (Instr.checkKey false 10000 kt kv)with
  |some (.map es),some ()=>match FT P kt kv es with
   |some (some i)=>match es[i]? with
    |some (old,v)=>match old.zk with
     |some ov=>if Instr.sameBits 10000 ov kv then some (.ent r i v,{ s with heap:=s.heap.set r (.map (es.set i (k,v))) },qm (.h r))else none
     |none=>none
    |none=>none
   |some none=>match P.info? e with
    |some i=>match i.zero with
     |some z=>match TV.X4 z with
      |some z=>some (.ent r es.length z,{ s with heap:=s.heap.set r (.map (es++[(k,z)])) },qm (.h r))
      |none=>none
     |none=>none
    |none=>none
   |none=>none
  |_,_=>none
 |_,_,_=>none
def a1o(P:LI1)(t:LI2)(h h':List HB)(m k:TV):Bool:=
 match iG P t h m k false,iG P t h' m k false with
 |some (.int a x),some (.int b y)=>decide (a=b)&&x==y
 |_,_=>false
def Dk(P:LI1)(t:LI2)(s:St)(m k:TV):Option (EV×St×zl):=
 match AO P t s m k with
 |some (e,s1,i)=>if a1o P t s.heap s1.heap m k then some (e,s1,i)else none
 |none=>none
def I5(s:St)(m:TV)(e:EV)(v:TV):Option (St×zl):=
 match m,e with
 |.map r,.Fj r' j=>if r=r' then match s.heap[r]? with
  |some (.map es)=>match es[j]? with
   |some (k,_)=>some ({ s with heap:=s.heap.set r (.map (es.set j (k,v))) },qm (.h r))
   |none=>none
  |_=>none
  else none
 |_,_=>none
def zI(e:EV)(i:Nat):Option EV:=
 match e with
 |.val (.dK vs)=>(vs[i]?).map .val
 |.ent r j v=>match i with
  | 0=>some (.val v)
  | 1=>some (.Fj r j)
  |_=>none
 |_=>none
abbrev dN:=TV->List TV->List HB->Option (TV×List HB×List Nat)
def rU(P:LI1)(b:Builtin)(at_:Array LI2)(t:LI2)(s:St)(az:List TV):Option (TV×St×zl):=
 match b,az with
 |.len,[x]=>(ZC P at_ s.heap x).map fun(v,i)=>(v,s,i)
 |.append,[d,x]=>jy P at_ s d x
 |.copy,[d,x]=>I4 P at_ s d x
 |.min,az=>(Ez P false at_ t az).map fun v=>(v,s,cO)
 |.max,az=>(Ez P true at_ t az).map fun v=>(v,s,cO)
 |_,_=>none
def Xd(env:List (Nat×EV)):Option Operand->Option (Option TV)
 |none=>some none
 |some x=>match rM env x with
  |some v=>some (some v)
  |none=>none
def Ov(P:LI1)(call:dN)(s:St)(c:Call)(t:LI2):Option (EV×St×zl):=
 match c.callee,UM s.env c.args.toList with
 |.builtin b,some az=>(rU P b c.argTypes t s az).map fun(v,s,i)=>(.val v,s,i)
 |.value f,some az=>match rM s.env f with
  |some fv=>match call fv az s.heap with
   |some (v,h,ws)=>some (.val v,{ s with heap:=h },⟨true,[],ws.map .h⟩)
   |none=>none
  |none=>none
 |_,_=>none
def qo(P:LI1)(call:dN)(site:Nat->Bool)(s:St)(o:Oper):Option (EV×St×zl):=
 match o.op with
 |.move x|.assign x=>(JD s.env x).map fun v=>(v,s,cO)
 |.pick c a b=>match rM s.env c with
  |some (.bool t)=>(JD s.env (if t then a else b)).map fun v=>(v,s,cO)
  |_=>none
 |.alloc e=>(LM P e).map fun z=>let (v,s):=rO (site (o.dst.getD 0)) s z;(v,s,cO)
 |.box _ x=>match rM s.env x with
  |some v=>if v.cells.all iM then let (v,s):=rO (site (o.dst.getD 0)) s v.cells;some (v,s,cO)else none
  |none=>none
 |.build t ps=>match Xb s.env ps.toList with
  |some ps=>(Ot P t ps).map fun v=>(.val v,s,cO)
  |none=>none
 |.buildSlice t len ps=>match Xb s.env ps.toList with
  |some ps=>(qV P t len s ps).map fun(v,s)=>(.val v,s,cO)
  |none=>none
 |.load t a=>match JD s.env a with
  |some a=>(loadT P t s a).map fun(v,i)=>(.val v,s,i)
  |none=>none
 |.store t a x=>match JD s.env a,rM s.env x with
  |some a,some v=>(storeT P t s a v).map fun(s,i)=>(.undef,s,i)
  |_,_=>none
 |.nilCheck x=>match JD s.env x with
  |some (.loc k o)=>some (.loc k o,s,cO)
  |some (.val (.ptr b o lim))=>some (.val (.ptr b o lim),s,cO)
  |some (.val (.fn f a b))=>some (.val (.fn f a b),s,cO)
  |some (.val (.l9 l))=>some (.val (.l9 l),s,cO)
  |_=>none
 |.binOp op t x y _=>match rM s.env x,rM s.env y with
  |some a,some b=>(uj P op t x y a b).map fun v=>(.val v,s,cO)
  |_,_=>none
 |.unOp op _ x=>match rM s.env x with
  |some a=>(unT P op a).map fun v=>(.val v,s,cO)
  |none=>none
 |.convert src dst x=>match rM s.env x with
  |some a=>(SE P src dst a).map fun v=>(.val v,s,cO)
  |none=>none
 |.makeFunc (.func f) first cap=>match UM s.env first.toList,UM s.env cap.toList with
  |some a,some b=>some (.val (.fn f a b),s,cO)
  |_,_=>none
 |.makeMap t r=>match Xd s.env r,P.underlying t with
  |some none,_=>some (.val (.map s.heap.length),{ s with heap:=s.heap++[.map []] },cO)
  |some (some (.int _ _)),some (.map _ _)=>some (.val (.map s.heap.length),{ s with heap:=s.heap++[.map []] },cO)
  |_,_=>none
 |.makeSlice t l c=>match rM s.env l,rM s.env c with
  |some l,some c=>(um P t s l c).map fun(v,s)=>(.val v,s,cO)
  |_,_=>none
 |.slice t x lo hi mx=>match JD s.env x,Xd s.env lo,Xd s.env hi,Xd s.env mx with
  |some x,some lo,some hi,some mx=>match P.underlying t,x with
   |some (.array _ _),x=>(qU P t x lo hi mx).map fun v=>(.val v,s,cO)
   |_,.val x=>(rQ P t x lo hi mx).map fun v=>(.val v,s,cO)
   |_,_=>none
  |_,_,_,_=>none
 |.fieldAddr t x f=>match JD s.env x,HY P t f with
  |some a,some n=>(RD n a).map fun v=>(v,s,cO)
  |_,_=>none
 |.field t x f=>match rM s.env x with
  |some a=>(Ou P t a f).map fun v=>(.val v,s,cO)
  |none=>none
 |.indexAddr t x i=>match JD s.env x,rM s.env i with
  |some a,some i=>(nH P t a i).map fun v=>(v,s,cO)
  |_,_=>none
 |.index t x i=>match rM s.env x,rM s.env i with
  |some a,some i=>(JH P t a i).map fun v=>(.val v,s,cO)
  |_,_=>none
 |.lookup t m k ok=>match rM s.env m,rM s.env k with
  |some m,some k=>(iG P t s.heap m k ok).map fun v=>(.val v,s,fO (match m with|.map r=>[.h r] |_=>[]))
  |_,_=>none
 |.mapUpdate t m k x|.insert t m k x=>match rM s.env m,rM s.env k,rM s.env x with
  |some m,some k,some v=>(yI P t s m k v).map fun(s,i)=>(.undef,s,i)
  |_,_,_=>none
 |.mapEntry t m k=>match rM s.env m,rM s.env k with
  |some m,some k=>Dk P t s m k
  |_,_=>none
 |.entryStore _ m e x=>match rM s.env m,JD s.env e,rM s.env x with
  |some m,some e,some v=>(I5 s m e v).map fun(s,i)=>(.undef,s,i)
  |_,_,_=>none
 |.extract t i=>match JD s.env t with
  |some e=>(zI e i).map fun v=>(v,s,cO)
  |none=>none
 |.call c=>Ov P call s c o.type
 |.range t x=>match rM s.env x,P.underlying t with
  |some (.map r),some (.map _ _)=>match s.heap[r]? with
   |some (.map es)=>some (.val (.iter s.heap.length),{ s with heap:=s.heap++[.dh r es.length []] },yx (.h r))
   |_=>none
  |_,_=>none
 |.entry x=>match rM s.env x with
  |some (.iter b)=>match s.heap[b]? with
   |some (.dh r n (i::_))=>match s.heap[r]? with
    |some (.map es)=>if es.length=n then(es[i]?).map fun e=>(.val (.dK [e.1,e.2]),s,fO [.h b,.h r])else none
    |_=>none
   |_=>none
  |_=>none
 |_=>none
def Dl(ops:Array Oper)(env:List (Nat×EV))(o:Oper):Option Bool:=
 match o.guard with
 |none=>some true
 |some (j,want)=>match(ops[j]?).bind (·.dst)with
  |some d=>match dQ d env with
   |some (.val (.bool b))=>some (b==want)
   |some .undef=>some false
   |_=>none
  |none=>none
def Ox(nt:Nat)(o:Oper):Bool:=
 match o.dst with
 |some d=>decide (d<nt)
 |none=>true
def lQ(P:LI1)(call:dN)(site:Nat->Bool)(fl nt:Nat)(ops:Array Oper):List Oper->St->Option (St×List zl)
 | [],s=>some (s,[])
 |o::os,s=>if !Ox nt o then none else match Dl ops s.env o with
  |some true=>match qo P call site s o with
   |some (v,s1,i)=>match lQ P call site fl nt ops os ({ s1 with ws:=kH fl i.ws s.ws }.put o.dst v)with
    |some (s,is)=>some (s,i::is)
    |none=>none
   |none=>none
  |some false=>match lQ P call site fl nt ops os (s.put o.dst .undef)with
   |some (s,is)=>some (s,cO::is)
   |none=>none
  |none=>none
def Oy:List Nat->List Nat->List Nat
 | [],l=>l
 |x::xs,l=>Oy xs (if l.contains x then l else x::l)
def Gp(acc:List (List Nat))(o:Oper):List Nat:=
 o.after.toList.foldl (fun l e=>if Region.binds .any e then Oy (e.on::acc.getD e.on []) l else l) []
def FU:List Oper->List (List Nat)->List (List Nat)
 | [],acc=>acc
 |o::os,acc=>FU os (acc++[Gp acc o])
def JI:Op->Bool
 |.store .. |.mapUpdate .. |.insert .. |.mapEntry .. |.entryStore ..=>true
 |.call { callee:=.builtin b,.. }=>match b with
  |.len|.min|.max=>false
  |_=>true
 |.call _=>true
 |_=>false
def Oz:Op->Bool
 |.store .. |.mapUpdate .. |.insert .. |.mapEntry .. |.entryStore .. |.load .. |.lookup .. |.range .. |.entry ..=>true
 |.call { callee:=.builtin b,.. }=>match b with
  |.min|.max=>false
  |_=>true
 |.call _=>true
 |_=>false
def pF(ops:List Oper):List (Nat×Nat):=
 let pr:=FU ops []
 (List.range ops.length).flatMap fun j=>((List.range j).filter fun i=>!(pr.getD j []).contains i).map fun i=>(i,j)
def oq(ops:List Oper):Bool:=
 (ops.zipIdx.all fun(o,i)=>o.after.all fun e=>!Region.binds .any e||decide (e.on<i)) &&
 (pF ops).all fun(i,j)=>match ops[i]?,ops[j]? with
  |some a,some b=>a.apart ops.toArray b&&b.apart ops.toArray a
  |_,_=>false
def Cb(a b:Oper):Bool:=match a.op,b.op,a.guard,b.guard with
 |.lookup t (.tmp m) (.tmp k) false,.mapEntry t' (.tmp m') (.tmp k'),none,none=>t==t'&&m==m'&&k==k'
 |_,_,_,_=>false
def nO(ops:List Oper):List (Nat×Nat):=
 (pF ops).filter fun(i,j)=>match ops[i]?,ops[j]? with
  |some a,some b=>((JI a.op&&Oz b.op)||(Oz a.op&&JI b.op))&&!Cb a b
  |_,_=>false
def Key.isH:Key->Bool
 |.h _=>true
 |.l _=>false
def OA(ws:List Key)(b:zl):Bool:=
 ws.all fun k=>!(b.all&&k.isH)&&!b.ts.contains k&&!b.ws.contains k
def calm(a b:zl):Bool:=OA a.ws b&&OA b.ws a
def Cc(yA:List zl):List (Nat×Nat)->Bool
 | []=>true
 |(i,j)::r=>(match yA[i]?,yA[j]? with
  |some a,some b=>calm a b
  |_,_=>false)&&Cc yA r
inductive Ex where
 |norm|exit (id:Nat)|ret
structure FnT where
 nt:Nat
 body:Code
 results:List ResultVar
def UR(P:LI1)(f:Nat):Option FnT:=
 match P.funcs[f]? with
 | some fn => if fn.name == "runtime.NumGoroutine" then none else match fn.body with
  |some b=>some ⟨fn.ntmps,b,fn.results.toList⟩
  |none=>none
 |none=>none
structure vw where
 live:List (Nat×List (Nat×List Nat))
 head:List (Nat×List (Nat×List Nat))
 site:List (Nat×List Nat)
 exts:List Nat:=[]
 ext:TV->List TV->List HB->Option (TV×List HB×List Nat):=fun _ _ _=>none
 dem:List Nat:=[]
 din:List Nat:=[]
 aao:List Nat:=[]
def SG{α:Type}(k:Nat):List (Nat×List α)->List α
 | []=>[]
 |(j,l)::r=>if j=k then l else SG k r
def vw.iJ(T:vw)(f id:Nat):List Nat:=SG id (SG f T.live)
def vw.eY(T:vw)(f id:Nat):List Nat:=SG id (SG f T.head)
def vw.UU(T:vw)(f d:Nat):Bool:=(SG f T.site).contains d
def Dn:List (Nat×EV)->Nat
 | []=>0
 |(_,.loc k _)::r=>max (k+1) (Dn r)
 |_::r=>Dn r
def kJ(live:List Nat)(s:St):St:=
 let env:=pick live s.env
 { s with env:=env,loc:=s.loc.take (Dn env) }
def dW:Code->Nat
 |.region id _ _=>id
 |.seq a _=>dW a
 |.block _ b=>dW b
 |.loop b=>dW b
 |.scope b=>dW b
 |_=>0
def iter(g:St->Option (Ex×St)):Nat->St->Option (Ex×St)
 | 0,_=>none
 |n+1,s=>match g s with
  |some (.norm,s)=>iter g n s
  |r=>r
def isVal:Nat×EV->Bool
 |(_,.loc _ _)|(_,.ent _ _ _)|(_,.Fj _ _)=>false
 |_=>true
def SH:Bool->Option Code->Option Ex
 |true,none=>some .norm
 |false,some .ret=>some .ret
 |false,some (.exit id)=>some (.exit id)
 |_,_=>none
def exec(P:LI1)(T:vw)(call:dN)(L:Nat)(f:Nat)(iF:Bool)(fl nt:Nat):Code->St->Option (Ex×St)
 |.skip,s=>some (.norm,s)
 |.label _,s=>some (.norm,s)
 |.region id ops draw,s=>match lQ P call (fun d=>iF||T.UU f d) fl nt ops ops.toList s with
  |some (s,yA)=>if !draw||(oq ops.toList&&Cc yA (nO ops.toList))then some (.norm,{ s with env:=pick (T.iJ f id) s.env })else none
  |none=>none
 |.seq a b,s=>match exec P T call L f iF fl nt a s with
  |some (.norm,s)=>exec P T call L f iF fl nt b s
  |r=>r
 |.cond c a b,s=>match rM s.env c with
  |some (.bool true)=>exec P T call L f iF fl nt a s
  |some (.bool false)=>exec P T call L f iF fl nt b s
  |_=>none
 |.block id b,s=>match exec P T call L f iF fl nt b s with
  |some (.exit i,s)=>some (if i=id then .norm else .exit i,s)
  |r=>r
 |.scope b,s=>exec P T call L f iF fl nt b s
 |.loop b,s=>iter (fun s=>exec P T call L f iF fl nt b (kJ (T.eY f (dW b)) s)) L s
 |.exit id,s=>some (.exit id,s)
 |.ret,s=>some (.ret,s)
 |.rangeFunc g ps assign body,s=>match rM s.env g with
  |some (.fn f1 a1 b1)=>
   if s.env.all isVal&&!iF then
    match call (.fn f1 a1 b1) [.l9 (s.heap.length+1)] (s.heap++[.mark,.loop true f nt s.env ps.toList assign body none])with
    |some (_,h,ws)=>match h[s.heap.length+1]? with
     |some (.loop rd f2 RF e2 Dq a2 b2 jU)=>match SH rd jU with
      |some e=>some (e,{ s with heap:=h.set (s.heap.length+1) (.loop false f2 RF e2 Dq a2 b2 (some .skip)),ws:=kH fl (ws.map .h) s.ws })
      |none=>none
     |_=>none
    |none=>none
   else none
  |_=>none
 |_,_=>none
def a6a(P:LI1)(s:St):ResultVar->Option TV
 |.tmp t=>match dQ t s.env with
  |some (.val v)=>some v
  |_=>none
 |.cell a t=>match dQ a s.env with
  |some a=>(loadT P t s a).map (·.1)
  |none=>none
def yJ(P:LI1)(s:St):List ResultVar->Option (List TV)
 | []=>some []
 |r::rs=>match a6a P s r,yJ P s rs with
  |some v,some vs=>some (v::vs)
  |_,_=>none
def one:List TV->TV
 | [v]=>v
 |vs=>.dK vs
def oz:Nat->List TV->List (Nat×EV)
 |_,[]=>[]
 |k,v::vs=>(k,.val v)::oz (k+1) vs
def uo(env:List (Nat×EV)):List Nat->List TV->List (Nat×EV)
 |p::ps,v::vs=>uo ((p,.val v)::env) ps vs
 |_,_=>env
def apf(P:LI1)(T:vw)(call:dN)(L:Nat)(f:Nat)(args:List TV)(h:List HB):Option (TV×List HB×List Nat):=
 match UR P f with
 |some t=>match exec P T call L f false h.length t.nt t.body ⟨oz 0 args,[],h,[]⟩with
  |some (.norm,s)|some (.ret,s)=>match yJ P s t.results with
   |some vs=>if s.ws.isEmpty&&(one vs).flat then some (one vs,h,[])else some (one vs,s.heap,s.ws)
   |none=>none
  |_=>none
 |none=>none
def uq:Ex->Option Code
 |.norm=>none
 |.ret=>some .ret
 |.exit id=>some (.exit id)
def qp:Ex->Bool
 |.norm=>true
 |_=>false
def OB(P:LI1)(T:vw)(call:dN)(L:Nat)(l:Nat)(args:List TV)(h:List HB):Option (TV×List HB×List Nat):=
 match h[l]? with
 |some (.loop true f nt env ps assign body _)=>
  if args.length=ps.length/\ps.all (fun p=>decide (p<nt))then
   match exec P T call L f true h.length nt assign ⟨uo env ps args,[],h,[]⟩with
   |some (.norm,s)=>match s.heap[l]? with
    |some (.loop true f' nt' env' ps' a' b' _)=>
     match exec P T call L f true h.length nt body { s with heap:=s.heap.set l (.loop false f' nt' env' ps' a' b' none),ws:=Fq h.length l s.ws }with
     |some (e,s)=>match s.heap[l]? with
      |some (.loop false f' nt' env' ps' a' b' none)=>some (.bool (qp e),s.heap.set l (.loop (qp e) f' nt' env' ps' a' b' (uq e)),Fq h.length l s.ws)
      |_=>none
     |none=>none
    |_=>none
   |_=>none
  else none
 |_=>none
def ap(P:LI1)(T:vw)(L:Nat):Nat->dN
 | 0,_,_,_=>none
 |n+1,.fn f first cap,args,h=>apf P T (ap P T L n) L f (first++args++cap) h
 |n+1,.l9 l,args,h=>OB P T (ap P T L n) L l args h
 |_,_,_,_=>none
def run(P:LI1)(T:vw)(L n f:Nat)(args:List TV)(h:List HB):Option (TV×List HB×List Nat):=ap P T L n (.fn f [] []) args h
structure Pl where
 c:Nat
 base:Nat
 ext:Nat
 tot:Nat
inductive Lc where
 |cells (ls:List Pl)
 |obj (r:Nat) (o:List Nat)
abbrev Mp:=Key->Option Lc
abbrev Np:=Nat->Option Lc
def Mp.h(M:Mp):Np:=fun b=>M (.h b)
inductive VR(M:Np):TV->LI3->Prop
 |bool (b:Bool):VR M (.bool b) (.bool b)
 |int (k:IntKind) (n:Int):VR M (.int k n) (.int k n)
 |str (s:ByteArray):VR M (.str s) (.string s)
 |a3D:VR M (.nil .ptr) (.pointer none)
 |UW:VR M (.nil .aO) (.slice none 0 0)
 |ZF:VR M (.nil .map) (.map none)
 |nfn:VR M (.nil .fn) .nilFunc
 |a3E:VR M (.nil .ifc) .nilIface
 |ptr {b off lim:Nat} {ls:List Pl} {p:Pl} (hb:M b=some (.cells ls)) (hp:p∈ls) (h:lim<=p.ext) (ht:p.base+lim<=p.tot) :
   VR M (.ptr b off lim) (.pointer (some ⟨p.c,p.base+off,none⟩))
 |aO {b off len cap sz:Nat} {ex:Bool} {ls:List Pl} {p:Pl} {a:Addr} {cap':Nat} (hb:M b=some (.cells ls)) (hp:cap'=0\/p∈ls)
   (h:off+cap*sz<=p.ext) (hl:len<=cap) (hc:cap<=cap') (hx:ex=true->cap'=cap)
   (ha:cap'=0\/(a=⟨p.c,p.base+off,none⟩/\p.base+off+cap'*sz<=p.tot)) (hk:cap'<2^63) :
   VR M (.aO b off len cap sz ex) (.slice (some a) len cap')
 |map {r r':Nat} {o:List Nat} (h:M r=some (.obj r' o)):VR M (.map r) (.map (some r'))
 |l9 {l l':Nat} {o:List Nat} (h:M l=some (.obj l' o)):VR M (.l9 l) (.func (.yield l') #[] #[])
 |iter {l l':Nat} {o:List Nat} (h:M l=some (.obj l' o)):VR M (.iter l) (.pointer (some ⟨l',0,none⟩))
 |fn {f:FuncId} {az bs:List TV} {xs ys:List LI3} (h1:az.length=xs.length) (h2:∀(i:Nat) (c:TV) (v:LI3),az[i]? = some c->xs[i]? = some v->VR M c v)
   (h3:bs.length=ys.length) (h4:∀(i:Nat) (c:TV) (v:LI3),bs[i]? = some c->ys[i]? = some v->VR M c v):VR M (.fn f az bs) (.func (.func f) xs.toArray ys.toArray)
 |agg {az:List TV} {xs:List LI3} (h1:az.length=xs.length) (h2:∀(i:Nat) (c:TV) (v:LI3),az[i]? = some c->xs[i]? = some v->VR M c v):VR M (.agg az) (.agg xs.toArray)
 |dK {az:List TV} {xs:List LI3} (h1:az.length=xs.length) (h2:∀(i:Nat) (c:TV) (v:LI3),az[i]? = some c->xs[i]? = some v->VR M c v):VR M (.dK az) (.tuple xs.toArray)
structure bZ(M:Np)(az:List TV)(xs:List LI3):Prop where
 len:az.length=xs.length
 at_:∀(i:Nat) (c:TV) (v:LI3),az[i]? = some c->xs[i]? = some v->VR M c v
theorem VR.agg'{M az xs}(h:bZ M az xs):VR M (.agg az) (.agg xs.toArray):=.agg h.len h.at_
theorem VR.RG{M az xs}(h:bZ M az xs):VR M (.dK az) (.tuple xs.toArray):=.dK h.len h.at_
theorem bZ.nil{M}:bZ M [] []:=⟨rfl,fun i c v h=>by simp at h⟩
theorem bZ.cons{M c v az xs}(h:VR M c v)(hs:bZ M az xs):bZ M (c::az) (v::xs):=
 ⟨by simp[hs.len],fun i c' v' h1 h2=>by
  cases i with
  |zero=>simp at h1 h2;subst h1;subst h2;exact h
  |succ i=>simp at h1 h2;exact hs.at_ i _ _ h1 h2⟩
theorem bZ.pG{M xs}(h:bZ M [] xs):xs=[]:=by have:=h.len;simp at this;exact a4D this.symm
theorem bZ.iE{M c az xs}(h:bZ M (c::az) xs):∃v vs,xs=v::vs/\VR M c v/\bZ M az vs:=by
 cases xs with
 |nil=>have:=h.len;simp at this
 |cons v vs=>exact⟨v,vs,rfl,h.at_ 0 c v rfl rfl,⟨by have:=h.len;simpa using this,fun i c' v' h1 h2=>h.at_ (i+1) c' v' (by simpa using h1) (by simpa using h2)⟩⟩
theorem bZ.append{M az bs xs ys}(h:bZ M az xs)(h':bZ M bs ys):bZ M (az++bs) (xs++ys):=by
 induction az generalizing xs with
 |nil=>have:=h.pG;subst this;simpa using h'
 |cons c az ih=>
  obtain⟨v,vs,rfl,hv,RH⟩:=h.iE;exact .cons hv (ih RH)
theorem bZ.take{M az xs}(h:bZ M az xs)(n):bZ M (az.take n) (xs.take n):=
 ⟨by simp[h.len],fun i c v h1 h2=>by
  rw[a5G]at h1 h2;split at h1
  .rename_i hi;rw[a18 hi]at h2;exact h.at_ i c v h1 h2
  .simp at h1⟩
theorem bZ.drop{M az xs}(h:bZ M az xs)(n):bZ M (az.drop n) (xs.drop n):=
 ⟨by simp[h.len],fun i c v h1 h2=>by rw[a5z]at h1 h2;exact h.at_ _ c v h1 h2⟩
theorem bZ.get{M az xs}(h:bZ M az xs){i:Nat}{c}(hc:az[i]? = some c):∃v,xs[i]? = some v/\VR M c v:=by
 have hi:i<az.length:=(a0w.1 hc).1;have wR:i<xs.length:=by rw[<-h.len];exact hi
 exact⟨xs[i],by simp[wR],h.at_ i c _ hc (by simp[wR])⟩
def JJ:Lc->Lc->Prop
 |.cells ls,.cells qA=>∀p∈ls,∃q∈qA,q.c=p.c/\q.base=p.base/\p.ext<=q.ext/\q.tot=p.tot
 |.obj r o,.obj r' o'=>r=r'/\o <+: o'
 |_,_=>False
def tY{α:Type}(M M':α->Option Lc):Prop:=∀k l,M k=some l->∃l',M' k=some l'/\JJ l l'
theorem JJ.refl(l):JJ l l:=by
 cases l with
 |cells ls=>exact fun p hp=>⟨p,hp,rfl,rfl,a1p _,rfl⟩
 |obj r o=>exact⟨rfl,ah0 o⟩
theorem JJ.trans{a b c}(h:JJ a b)(h':JJ b c):JJ a c:=by
 cases a<;>cases b<;>cases c<;>simp only[JJ]at *
 .intro p hp;obtain⟨q,hq,h1,h2,h3,h4⟩:=h p hp;obtain⟨r,hr,g1,g2,g3,g4⟩:=h' q hq;exact⟨r,hr,g1.trans h1,g2.trans h2,a5W h3 g3,g4.trans h4⟩
 exact⟨h.1.trans h'.1,h.2.trans h'.2⟩
theorem tY.refl{α}(M:α->Option Lc):tY M M:=fun _ l h=>⟨l,h,.refl l⟩
theorem tY.trans{α}{a b c:α->Option Lc}(h:tY a b)(h':tY b c):tY a c:=fun k l hl=>
 let ⟨l',h1,h2⟩:=h k l hl
 let ⟨l'',g1,g2⟩:=h' k l' h1
 ⟨l'',g1,h2.trans g2⟩
theorem tY.h{M M':Mp}(hm:tY M M'):tY M.h M'.h:=fun b l hl=>hm (.h b) l hl
theorem VR.mono{M M':Np}(hm:tY M M'){v x}(h:VR M v x):VR M' v x:=by
 induction h with
 |bool b=>exact .bool b
 |int k n=>exact .int k n
 |str s=>exact .str s
 |a3D=>exact .a3D
 |UW=>exact .UW
 |ZF=>exact .ZF
 |nfn=>exact .nfn
 |a3E=>exact .a3E
 |ptr hb hp h ht=>
  obtain⟨l',h1,h2⟩:=hm _ _ hb;cases l' with
  |obj r _=>exact h2.elim
  |cells qA=>
   obtain⟨q,hq,e1,e2,e3,e4⟩:=h2 _ hp;rw[<-e1,<-e2];exact .ptr h1 hq (a5W h e3) (by rw[e2,e4];exact ht)
 |aO hb hp h hl hc hx ha hk=>
  obtain⟨l',h1,h2⟩:=hm _ _ hb;cases l' with
  |obj r _=>exact h2.elim
  |cells qA=>
   rcases hp with hp|hp
   .exact .aO h1 (.inl hp) h hl hc hx (.inl hp) hk
   obtain⟨q,hq,e1,e2,e3,e4⟩:=h2 _ hp;exact .aO h1 (.inr hq) (a5W h e3) hl hc hx (by rw[e1,e2,e4];exact ha) hk
 |map h=>
  obtain⟨l',h1,h2⟩:=hm _ _ h;cases l' with
  |obj r _=>cases h2.1;exact .map h1
  |cells qA=>exact h2.elim
 |l9 h=>
  obtain⟨l',h1,h2⟩:=hm _ _ h;cases l' with
  |obj r _=>cases h2.1;exact .l9 h1
  |cells qA=>exact h2.elim
 |iter h=>
  obtain⟨l',h1,h2⟩:=hm _ _ h;cases l' with
  |obj r _=>cases h2.1;exact .iter h1
  |cells qA=>exact h2.elim
 |fn h1 _ h3 _ ih2 ih4=>exact .fn h1 ih2 h3 ih4
 |agg h1 _ ih=>exact .agg h1 ih
 |dK h1 _ ih=>exact .dK h1 ih
theorem bZ.mono{M M':Np}(hm:tY M M'){az xs}(h:bZ M az xs):bZ M' az xs:=
 ⟨h.len,fun i c v h1 h2=>(h.at_ i c v h1 h2).mono hm⟩
theorem a6d{M v x y}(h:v.toC=some x)(hy:VR M v y):y=x:=by cases hy<;>simp[TV.toC]at h<;>first|exact h|exact h.symm|skip
theorem a1q{M}:∀{az} {xs ys},TV.UL az=some xs->bZ M az ys->ys=xs
 | [],xs,ys,h,hy=>by simp[TV.UL]at h;subst h;exact hy.pG
 |c::az,xs,ys,h,hy=>by
  simp only[TV.UL]at h;split at h
  .rename_i v vs h1 h2;simp at h;subst h;obtain⟨w,ws,rfl,hw,ZG⟩:=hy.iE;rw[a6d h1 hw,a1q h2 ZG]
  simp at h
theorem xk{M v x y}(h:v.zk=some x)(hy:VR M v y):y=x:=by
 unfold TV.zk at h;split at h
 .simp only[a0z]at h;obtain⟨vs,h1,rfl⟩:=h;cases hy with
  |agg g1 g2=>rw[a1q h1 ⟨g1,g2⟩]
 exact a6d h hy
theorem VR.a6e{M v x}(h:TV.ofC x=some v):VR M v x:=by unfold TV.ofC at h;split at h<;>simp at h<;>subst h<;>constructor
theorem bZ.a1r{M}:∀{xs} {az},TV.Dh xs=some az->bZ M az xs
 | [],az,h=>by simp[TV.Dh]at h;subst h;exact .nil
 |x::xs,az,h=>by
  simp only[TV.Dh]at h;split at h
  .rename_i v vs h1 h2;simp at h;subst h;exact .cons (.a6e h1) (bZ.a1r h2)
  simp at h
theorem VR.zn{M v x}(h:TV.X4 x=some v):VR M v x:=by
 unfold TV.X4 at h;split at h
 .rename_i cs;simp only[a0z]at h;obtain⟨vs,h1,rfl⟩:=h;have:=VR.agg' (bZ.a1r (M:=M) h1);simpa using this
 exact .a6e h
theorem VR.cells{M v x}(h:VR M v x):bZ M v.cells x.cells.toList:=by
 cases h with
 |agg h1 h2=>exact⟨by simpa[TV.cells,Value.cells]using h1,by simpa[TV.cells,Value.cells]using h2⟩
 |_=>exact .cons (by first|assumption|constructor<;>assumption) .nil
theorem jq{α P}:∀{s:Sem α} {a},aC P s=some a->∀w,s.run P w=.ok a w
 |.pure b,a,h,w=>by simp[aC]at h;simp[Sem.run,h]
 |.program k,a,h,w=>by simp only[aC]at h;simp only[Sem.run];exact jq h w
 |.mark _ k,a,h,w=>by simp only[aC]at h;simp only[Sem.run];exact jq h w
 |.load ..,a,h,w=>by simp[aC]at h
 |.store ..,a,h,w=>by simp[aC]at h
 |.new ..,a,h,w=>by simp[aC]at h
 |.shape ..,a,h,w=>by simp[aC]at h
 |.freeze ..,a,h,w=>by simp[aC]at h
 |.frozen ..,a,h,w=>by simp[aC]at h
 |.getObj ..,a,h,w=>by simp[aC]at h
 |.setObj ..,a,h,w=>by simp[aC]at h
 |.choose ..,a,h,w=>by simp[aC]at h
 |.sys ..,a,h,w=>by simp[aC]at h
 |.halt ..,a,h,w=>by simp[aC]at h
def wr:HB->Bool
 |.cells .ro _=>false
 |.mark=>false
 |_=>true
def aI:Lc->List Nat
 |.cells ls=>ls.map (·.c)
 |.obj r _=>[r]
structure JK(N:Np)(w:LI4)(k:BK)(cs:List TV)(p:Pl):Prop where
 row:∃(arr:Array LI3) (ty:LI2) (fz:Nat×Nat),w.heap[p.c]? = some (.cells arr ty fz)/\arr.size=p.tot/\(k≠.ro->fz=(0,0)) /\
  ((k=.last->p.ext=cs.length)->∀(i:Nat) (c:TV) (v:LI3),i<p.ext->cs[i]? = some c->arr[p.base+i]? = some v->VR N c v)
 fit:p.base+p.ext<=p.tot
 ext:p.ext<=cs.length
 base:k≠.ro->p.base=0
inductive ER(M:Mp):EV->LI3->Prop
 |val {v:TV} {x:LI3} (h:VR M.h v x):ER M (.val v) x
 |loc {k off:Nat} {p:Pl} (h:M (.l k)=some (.cells [p])) (hb:p.base=0):ER M (.loc k off) (.pointer (some ⟨p.c,off,none⟩))
 |undef:ER M .undef Go.undef
 |ent {r j:Nat} {v:TV} {r1 i:Nat} {o:List Nat} {x:LI3} (h:M (.h r)=some (.obj r1 o)) (hi:o[i]? = some j) (hv:VR M.h v x):ER M (.ent r j v) (.tuple #[x,Go.goInt i])
 |Fj {r j r1 i:Nat} {o:List Nat} (h:M (.h r)=some (.obj r1 o)) (hi:o[i]? = some j):ER M (.Fj r j) (Go.goInt i)
theorem ER.uT{M v x}(h:ER M (.val v) x):VR M.h v x:=by cases h;assumption
def kG(M:Mp)(env:List (Nat×EV))(tmps:Array LI3):Prop:=∀t e,dQ t env=some e->ER M e (tmps.getD t Go.undef)
structure aap(N:Np)(rd:Bool)(f nt:Nat)(env:List (Nat×EV))(ps:List Nat)(a b:Code)(jU:Option Code)(lp:Loop):Prop where
 ps:lp.params.toList=ps
 vU:lp.assign=a
 body:lp.body=b
 size:nt<=lp.tmps.size
 Na:∀t v,dQ t env=some (.val v)->VR N v (lp.tmps.getD t Go.undef)
 UY:∀t,dQ t env=some .undef->lp.tmps.getD t Go.undef=Go.undef
 nol:∀t e,dQ t env=some e->isVal (t,e)=true
 ready:rd=true->lp.state=.ready/\lp.pending=none
 busy:rd=false->jU=none->lp.state=.busy
 done:rd=false->∀j,jU=some j->j≠.skip->lp.state=.done/\lp.pending=some j
structure xq(N:Np)(o:List Nat)(es:List (TV×TV))(xs:Array MapEntry):Prop where
 len:es.length=xs.size
 ord:o.length=xs.size
 nod:o.Nodup
 sur:∀j,j<es.length->j∈o
 at_:∀(i:Nat) (x:MapEntry),xs[i]? = some x->x.born=i/\∃j e,o[i]? = some j/\es[j]? = some e/\VR N e.1 x.key/\VR N e.2 x.val
def aj8(N:Np)(w:LI4)(es:List (TV×TV))(r:Nat)(o:List Nat):Prop:=
 ∃xs:Array MapEntry,w.heap[r]? = some (.map xs xs.size)/\xq N o es xs
theorem xq.mono{N N':Np}{o es xs}(hm:tY N N')(h:xq N o es xs):xq N' o es xs:=
 ⟨h.len,h.ord,h.nod,h.sur,fun i x hx=>let ⟨b,j,e,h1,h2,h3,h4⟩:=h.at_ i x hx;⟨b,j,e,h1,h2,h3.mono hm,h4.mono hm⟩⟩
def nI(N:Np)(w:LI4)(k:BK)(cs:List TV)(ls:List Pl):Prop:=
 (∀c∈cs,iM c=true)/\(∀p∈ls,JK N w k cs p)/\(k=.own->∃p,ls=[p]/\p.ext=cs.length) /\
   ((k=.grow\/k=.last)->(ls.map (·.c)).Nodup/\∀p∈ls,∀q∈ls,p.ext=cs.length->q.ext=cs.length->p=q)
def qh(N:Np)(w:LI4):HB->Lc->Prop
 |.cells k cs,.cells ls=>nI N w k cs ls
 |.nT cs,.cells ls=>∃cs',cs'.Perm cs/\nI N w .last cs' ls
 |.map es,.obj r o=>aj8 N w es r o
 |.mark,.obj r _=>r<w.heap.size
 |.dh m n seen,.obj r _=>∃(b:Nat) (o:List Nat) (sa:Array Nat),N m=some (.obj b o)/\w.heap[r]? = some (.mapIter (some b) n sa n)/\n<=o.length/\sa.toList.map (fun i=>o[i]?)=seen.reverse.map some
 |.loop rd f nt env ps a b jU,.obj r _=>∃lp,w.heap[r]? = some (.loop lp)/\aap N rd f nt env ps a b jU lp
 |_,_=>False
theorem JK.mono{N N':Np}{w w' k cs p}(hm:tY N N')(hw:w'.heap[p.c]? = w.heap[p.c]?)(h:JK N w k cs p):JK N' w' k cs p:=
 ⟨let ⟨arr,ty,fz,h1,h2,h3,h4⟩:=h.row;⟨arr,ty,fz,hw.trans h1,h2,h3,fun z i c v a b d=>(h4 z i c v a b d).mono hm⟩,h.fit,h.ext,h.base⟩
theorem aap.mono{N N':Np}{rd f nt env ps a b jU lp}(hm:tY N N')(h:aap N rd f nt env ps a b jU lp):aap N' rd f nt env ps a b jU lp:=
 { h with Na:=fun t v e=>(h.Na t v e).mono hm }
theorem nI.mono{N N':Np}{w w' k cs ls}(hm:tY N N')(hw:∀p∈ls,w'.heap[p.c]? = w.heap[p.c]?)(h:nI N w k cs ls):nI N' w' k cs ls:=
 ⟨h.1,fun p hp=>(h.2.1 p hp).mono hm (hw p hp),h.2.2⟩
theorem qh.mono{N N':Np}{w w' b l}(hm:tY N N')(hw:∀c∈aI l,w'.heap[c]? = w.heap[c]?)(h:qh N w b l):qh N' w' b l:=by
 cases b with
 |cells k cs=>
  cases l with
  |obj r _=>exact h.elim
  |cells ls=>exact nI.mono hm (fun p hp=>hw p.c (a1z.2 ⟨p,hp,rfl⟩)) h
 |nT cs=>
  cases l with
  |obj r _=>exact h.elim
  |cells ls=>
   obtain⟨cs',h1,h2⟩:=h;exact⟨cs',h1,h2.mono hm fun p hp=>hw p.c (a1z.2 ⟨p,hp,rfl⟩)⟩
 |map es=>
  cases l with
  |cells ls=>exact h.elim
  |obj r _=>
   obtain⟨xs,h1,h2⟩:=h;exact⟨xs,(hw r (by simp[aI])).trans h1,h2.mono hm⟩
 |mark=>
  cases l with
  |cells ls=>exact h.elim
  |obj r _=>
   have h':r<w.heap.size:=h;have:=hw r (by simp[aI]);rw[a4v h']at this;exact(a3l.1 this).1
 |dh m n seen=>
  cases l with
  |cells ls=>exact h.elim
  |obj r _=>
   obtain⟨b,o,sa,h1,h2,h3,h4⟩:=h;obtain⟨l',g1,g2⟩:=hm _ _ h1;cases l' with
   |cells qA=>exact g2.elim
   |obj b' o'=>
    obtain⟨rfl,g3⟩:=g2;refine⟨b,o',sa,g1,(hw r (by simp[aI])).trans h2,a5W h3 g3.length_le,?_⟩;rw[<-h4];refine a5H fun i hi=>?_;have:o[i]?∈sa.toList.map (fun i=>o[i]?):=a1z.2 ⟨i,hi,rfl⟩;rw[h4]at this;obtain⟨j,_,hj⟩:=a1z.1 this;have aQ:=(a0w.1 hj.symm).1;obtain⟨t,rfl⟩:=g3;rw[a0Q aQ]
 |loop rd f nt env ps a b jU=>
  cases l with
  |cells ls=>exact h.elim
  |obj r _=>
   obtain⟨lp,h1,h2⟩:=h;exact⟨lp,(hw r (by simp[aI])).trans h1,h2.mono hm⟩
theorem qh.inb{N w b l}(h:qh N w b l):∀c∈aI l,c<w.heap.size:=by
 intro c hc;cases b with
 |cells k cs=>
  cases l with
  |obj r _=>exact h.elim
  |cells ls=>
   obtain⟨p,hp,rfl⟩:=a1z.1 hc;obtain⟨arr,ty,fz,h1,_⟩:=(h.2.1 p hp).row;exact(a3l.1 h1).1
 |nT cs=>
  cases l with
  |obj r _=>exact h.elim
  |cells ls=>
   obtain⟨p,hp,rfl⟩:=a1z.1 hc;obtain⟨cs',_,h⟩:=h;obtain⟨arr,ty,fz,h1,_⟩:=(h.2.1 p hp).row;exact(a3l.1 h1).1
 |map es=>
  cases l with
  |cells ls=>exact h.elim
  |obj r _=>
   obtain⟨xs,h1,_⟩:=h;simp[aI]at hc;subst hc;exact(a3l.1 h1).1
 |mark=>
  cases l with
  |cells ls=>exact h.elim
  |obj r _=>
   simp[aI]at hc;subst hc;exact h
 |dh m n seen=>
  cases l with
  |cells ls=>exact h.elim
  |obj r _=>
   obtain⟨b,o,sa,_,h1,_⟩:=h;simp[aI]at hc;subst hc;exact(a3l.1 h1).1
 |loop rd f nt env ps a b jU=>
  cases l with
  |cells ls=>exact h.elim
  |obj r _=>
   obtain⟨lp,h1,_⟩:=h;simp[aI]at hc;subst hc;exact(a3l.1 h1).1
abbrev Ct:=Key->Option HB
structure Valid(M:Mp)(D:Key->Prop)(C:Ct)(w:LI4):Prop where
 ok:∀k l,M k=some l->D k->∃b,C k=some b/\qh M.h w b l
 own:∀k k' l l' b,k≠k'->M k=some l->M k'=some l'->D k->C k=some b->wr b=true->∀c∈aI l,c∉aI l'
 inb:∀k l,M k=some l->∀c∈aI l,c<w.heap.size
def rV:Key->Prop:=fun _=>True
theorem Valid.has{M C w}(h:Valid M rV C w){k l}(hk:M k=some l):(C k).isSome=true:=
 let ⟨_,h1,_⟩:=h.ok k l hk trivial;by simp[h1]
theorem Valid.of_heap{M D C w w'}(h:Valid M D C w)(hw:w'.heap=w.heap):Valid M D C w':=
 ⟨fun k l hk hd=>let ⟨b,h1,h2⟩:=h.ok k l hk hd;⟨b,h1,h2.mono (.refl _) (fun c _=>by rw[hw])⟩,h.own,by rw[hw];exact h.inb⟩
def dM(M:Mp)(k:Key)(l:Lc):Mp:=fun j=>if j=k then some l else M j
def ni(C:Ct)(k:Key)(b:HB):Ct:=fun j=>if j=k then some b else C j
theorem lJ{M:Mp}{k l}(h:∀l0,M k=some l0->JJ l0 l):tY M (dM M k l):=by
 intro j l0 hj;by_cases hjk:j=k
 .subst hjk;exact⟨l,by simp[dM],h l0 hj⟩
 exact⟨l0,by simp[dM,hjk,hj],.refl _⟩
theorem Valid.upd{M D D' C w w'}(h:Valid M D C w)(k b l)(hD:∀j,D' j->D j\/j=k)(hold:∀l0,M k=some l0->D k/\JJ l0 l/\∀b0,C k=some b0->wr b0=true)(fK:∀c,c<w.heap.size->c∉aI l->w'.heap[c]? = w.heap[c]?)(fQ:∀c∈aI l,(∃l0,M k=some l0/\c∈aI l0)\/w.heap.size<=c)(FV:w.heap.size<=w'.heap.size)(Ru:qh (dM M k l).h w' b l):Valid (dM M k l) D' (ni C k b) w':=by
 have hle:tY M (dM M k l):=lJ fun l0 h0=>(hold l0 h0).2.1;refine⟨?_,?_,?_⟩
 .intro j l0 hj hd;by_cases hjk:j=k
  .subst hjk;simp only[dM,a2r,a08]at hj;subst hj;exact⟨b,by simp[ni],Ru⟩
  .simp only[dM,hjk,a3V]at hj;obtain⟨b0,h1,h2⟩:=h.ok j l0 hj ((hD j hd).resolve_right hjk);refine⟨b0,by simp[ni,hjk,h1],h2.mono hle.h fun c hc=>?_⟩;have aQ:=h.inb j l0 hj c hc;refine fK c aQ fun nV=>?_;rcases fQ c nV with⟨l1,SI,hc1⟩|CS
   .obtain⟨hDk,_,hw⟩:=hold l1 SI;obtain⟨b1,CU,_⟩:=h.ok k l1 SI hDk;exact h.own k j l1 l0 b1 (fun e=>hjk e.symm) SI hj hDk CU (hw b1 CU) c hc1 hc
   .omega
 .intro j j' l0 l0' b0 iI hj EC hd hb hw c hc X5;by_cases hjk:j=k
  .subst hjk;have aaq:j'≠j:=fun e=>iI e.symm;simp only[dM,a2r,a08]at hj;subst hj;simp only[dM,aaq,a3V]at EC;have aQ:=h.inb j' l0' EC c X5;rcases fQ c hc with⟨l1,SI,hc1⟩|CS
   .obtain⟨hDk,_,hw⟩:=hold l1 SI;obtain⟨b1,CU,_⟩:=h.ok j l1 SI hDk;exact h.own j j' l1 l0' b1 iI SI EC hDk CU (hw b1 CU) c hc1 X5
   .omega
  .simp only[dM,hjk,a3V]at hj;simp only[ni,hjk,a3V]at hb;have hdj:=(hD j hd).resolve_right hjk;have aQ:=h.inb j l0 hj c hc;by_cases aaq:j'=k
   .subst aaq;simp only[dM,a2r,a08]at EC;subst EC;rcases fQ c X5 with⟨l1,SI,hc1⟩|CS
    .exact h.own j j' l0 l1 b0 iI hj SI hdj hb hw c hc hc1
    .omega
   .simp only[dM,aaq,a3V]at EC;exact h.own j j' l0 l0' b0 iI hj EC hdj hb hw c hc X5
 .intro j l0 hj c hc;by_cases hjk:j=k
  .subst hjk;simp only[dM,a2r,a08]at hj;subst hj;exact Ru.inb c hc
  .simp only[dM,hjk,a3V]at hj;exact aal (h.inb j l0 hj c hc) FV
structure Ext(M0:Mp)(C0:Ct)(w0:LI4)(M:Mp)(C:Ct)(w:LI4)(ws:List Key):Prop where
 JE:tY M0 M
 frame:∀c,c<w0.heap.size->(∀k∈ws,∀l,M0 k=some l->c∉aI l)->w.heap[c]? = w0.heap[c]?
 o9:∀k,(C0 k).isSome=true->k∉ws->C k=C0 k
 kP:∀k,((C0 k).isSome=true\/C k=none)->k∉ws->M k=M0 k
 fresh:∀k l,M k=some l->∀c∈aI l,c<w0.heap.size->∃l0,M0 k=some l0/\c∈aI l0
 size:w0.heap.size<=w.heap.size
 has:∀k,(C0 k).isSome=true->(C k).isSome=true
 wsub:∀k∈ws,(C0 k).isSome=true
 wrote:∀k∈ws,(M0 k).isSome=true/\∀b,C0 k=some b->wr b=true
 os:w.os=w0.os
 output:w.output=w0.output
 tape:w.tape=w0.tape
theorem Ext.refl(M C w):Ext M C w M C w []:=
 ⟨.refl _,fun _ _ _=>rfl,fun _ _ _=>rfl,fun _ _ _=>rfl,fun _ l h c hc _=>⟨l,h,hc⟩,a1p _,fun _ h=>h,(by simp),(by simp),rfl,rfl,rfl⟩
theorem Ext.drew{M0 C0 w0 M C w w' ws}(h:Ext M0 C0 w0 M C w ws)(hh:w'.heap=w.heap) (ho:w'.os=w.os) (hu:w'.output=w.output) (ht:w'.tape=w.tape):Ext M0 C0 w0 M C w' ws:=
 { h with frame:=(by rw[hh];exact h.frame),size:=(by rw[hh];exact h.size),os:=ho.trans h.os,output:=hu.trans h.output,tape:=ht.trans h.tape }
theorem Ext.trans{M0 M M':Mp}{C0 C C':Ct}{w0 w w':LI4}{ws Xe afl:List Key}(h:Ext M0 C0 w0 M C w ws)(h':Ext M C w M' C' w' Xe)(hd:∀k l,M0 k=some l->(C0 k).isSome=true) (hs:∀k,(C0 k).isSome=true->(k∈ws\/k∈Xe)->k∈afl) (hb:∀k∈afl,(C0 k).isSome=true/\(k∈ws\/k∈Xe)) :Ext M0 C0 w0 M' C' w' afl where
 JE:=h.JE.trans h'.JE
 frame:=by intro c hc hf;have h1:w.heap[c]? = w0.heap[c]?:=h.frame c hc fun k hk l hl=>hf k (hs k (h.wsub k hk) (.inl hk)) l hl;rw[<-h1];refine h'.frame c (aal hc h.size) fun k hk l hl nV=>?_;obtain⟨l0,h2,h3⟩:=h.fresh k l hl c nV hc;exact hf k (hs k (hd k l0 h2) (.inr hk)) l0 h2 h3
 o9:=fun k hk hn=>by have hn1:k∉ws:=fun e=>hn (hs k hk (.inl e));have ED:k∉Xe:=fun e=>hn (hs k hk (.inr e));rw[h'.o9 k (h.has k hk) ED,h.o9 k hk hn1]
 kP:=fun k hk hn=>by
  rcases hk with hk|hk
  .have hn1:k∉ws:=fun e=>hn (hs k hk (.inl e));have ED:k∉Xe:=fun e=>hn (hs k hk (.inr e));rw[h'.kP k (.inl (h.has k hk)) ED,h.kP k (.inl hk) hn1]
  .have hC:C k=none:=by
    cases hc:C k with
    |none=>rfl
    |some b=>have:=h'.has k (by simp[hc]);simp[hk]at this
   have ED:k∉Xe:=fun e=>by have:=h'.wsub k e;simp[hC]at this
   have hn1:k∉ws:=fun e=>by have:=h.has k (h.wsub k e);simp[hC]at this
   rw[h'.kP k (.inr hk) ED,h.kP k (.inr hC) hn1]
 fresh:=fun k l hl c hc aQ=>by obtain⟨l1,h1,h2⟩:=h'.fresh k l hl c hc (aal aQ h.size);exact h.fresh k l1 h1 c h2 aQ
 size:=a5W h.size h'.size
 has:=fun k hk=>h'.has k (h.has k hk)
 wsub:=fun k hk=>(hb k hk).1
 wrote:=fun k hk=>by
  by_cases h1:k∈ws
  .exact h.wrote k h1
  .have h2:=h'.wrote k ((hb k hk).2.resolve_left h1);rw[h.kP k (.inl (hb k hk).1) h1,h.o9 k (hb k hk).1 h1]at h2;exact h2
 os:=h'.os.trans h.os
 output:=h'.output.trans h.output
 tape:=h'.tape.trans h.tape
theorem Ext.upd{M:Mp}{C:Ct}{w w':LI4}(k:Key)(b:HB)(l:Lc)(ws:List Key)(ZG:((C k).isSome=true/\ws=[k]/\(M k).isSome=true/\∀b,C k=some b->wr b=true)\/(C k=none/\M k=none/\ws=[]))(hle:tY M (dM M k l))(fK:∀c,c<w.heap.size->c∉aI l->w'.heap[c]? = w.heap[c]?)(fQ:∀c∈aI l,(∃l0,M k=some l0/\c∈aI l0)\/w.heap.size<=c)(FV:w.heap.size<=w'.heap.size) (ho:w'.os=w.os) (hou:w'.output=w.output) (ht:w'.tape=w.tape) :Ext M C w (dM M k l) (ni C k b) w' ws where
 JE:=hle
 frame:=by
  intro c hc hf;refine fK c hc fun nV=>?_;rcases fQ c nV with⟨l0,h1,h2⟩|CS
  .rcases ZG with⟨_,rfl,_⟩|⟨_,hn,_⟩
   .exact hf k (by simp) l0 h1 h2
   .rw[hn]at h1;cases h1
  .omega
 o9:=fun j hj hn=>by
  have:j≠k:=by
   rintro rfl;rcases ZG with⟨_,rfl,_⟩|⟨h1,_⟩
   .simp at hn
   .simp[h1]at hj
  simp[ni,this]
 kP:=fun j hj hn=>by
  have:j≠k:=by
   rintro rfl;rcases ZG with⟨_,rfl,_⟩|⟨h1,_⟩
   .simp at hn
   .rcases hj with hj|hj
    .simp[h1]at hj
    .simp[ni]at hj
  simp[dM,this]
 fresh:=fun j l0 hj c hc aQ=>by
  by_cases hjk:j=k
  .subst hjk;simp only[dM,a2r,a08]at hj;subst hj;rcases fQ c hc with h1|CS
   .exact h1
   .omega
  .simp only[dM,hjk,a3V]at hj;exact⟨l0,hj,hc⟩
 size:=FV
 has:=fun j hj=>by
  by_cases hjk:j=k
  .simp[ni,hjk]
  .simpa[ni,hjk]using hj
 wsub:=by
  rcases ZG with⟨h1,rfl,_⟩|⟨_,_,rfl⟩
  .intro j hj;simp at hj;subst hj;exact h1
  .simp
 wrote:=by
  rcases ZG with⟨_,rfl,h1⟩|⟨_,_,rfl⟩
  .intro j hj;simp at hj;subst hj;exact h1
  .simp
 os:=ho
 output:=hou
 tape:=ht
theorem ER.mono{M M':Mp}(hm:tY M M')(hl:∀k l,M (.l k)=some l->M' (.l k)=some l){e x}(h:ER M e x):ER M' e x:=by
 cases h with
 |val h=>exact .val (h.mono hm.h)
 |loc h hb=>exact .loc (hl _ _ h) hb
 |undef=>exact .undef
 |ent h hi hv=>
  obtain⟨l',h1,h2⟩:=hm _ _ h;cases l' with
  |cells _=>exact h2.elim
  |obj r1 o'=>
   obtain⟨rfl,t,rfl⟩:=h2;exact .ent h1 (by rw[a0Q (a0w.1 hi).1];exact hi) (hv.mono hm.h)
 |Fj h hi=>
  obtain⟨l',h1,h2⟩:=hm _ _ h;cases l' with
  |cells _=>exact h2.elim
  |obj r1 o'=>
   obtain⟨rfl,t,rfl⟩:=h2;exact .Fj h1 (by rw[a0Q (a0w.1 hi).1];exact hi)
structure OC(M:Mp)(D:Key->Prop)(C:Ct)(w:LI4)(v:EV)(C1:Ct)(ws:List Key)(x:LI3)(w':LI4)(M':Mp):Prop where
 val:Valid M' (fun k=>D k\/(C k=none/\(C1 k).isSome=true)) C1 w'
 ext:Ext M C w M' C1 w' ws
 er:ER M' v x
 loc:∀k l,M (.l k)=some l->M' (.l k)=some l
theorem OC.same{M D C w v x}(h:Valid M D C w)(he:ER M v x):OC M D C w v C [] x w M:=
 ⟨⟨fun k l hk hd=>h.ok k l hk (hd.elim id fun⟨a,b⟩=>by simp[a]at b),fun k k' l l' b a1 a2 a3 hd=>h.own k k' l l' b a1 a2 a3 (hd.elim id fun⟨a,b⟩=>by simp[a]at b),h.inb⟩,.refl M C w,he,fun _ _ h=>h⟩
theorem vC(w:LI4)(o i)(h:i<w.heap.size):(w.alloc o).heap[i]? = w.heap[i]?:=by show(w.heap.push o)[i]? = w.heap[i]?;rw[Array.getElem?_push,a0U (Nat.ne_of_lt h)]
section
variable{P:LI1}{w:LI4}
theorem jk{t i}(h:P.info? t=some i):(typeInfo t).run P w=.ok i w:=by simp[typeInfo,h]
theorem Gq{t n}(h:dH P t=some n):∃i,P.info? t=some i/\i.size=n:=by simpa[dH]using h
theorem cZ{t n}(h:dH P t=some n):(Go.sizeOf t).run P w=.ok n w:=by obtain⟨i,h1,h2⟩:=Gq h;simp[Go.sizeOf,jk h1,h2]
theorem AP{t b}(h:xg P t=some b):(isAgg t).run P w=.ok b w:=by
 unfold xg at h;split at h<;>simp at h<;>subst h
 .simp[isAgg,run_underlying ‹_›]
 .simp[isAgg,run_underlying ‹_›]
 rename_i d _ _ hu;simp only[isAgg,Sem.run_bind,run_underlying hu,Result.andThen_ok];cases d<;>simp_all
theorem vG(c o n):(⟨c,o,none⟩:Addr).add n=⟨c,o+n,none⟩:=by unfold Addr.add;split<;>simp_all
theorem EF{N c v}(h:VR N c v)(ho:iM c=true):v.oneCell'=true:=by cases h<;>first|rfl|simp[iM]at ho
theorem oC{cs off n r}(h:sub cs off n=some r):off+n<=cs.length/\r=(cs.drop off).take n/\r.length=n:=by
 unfold sub at h;split at h
 .rename_i hl;simp at h;subst h;exact⟨hl,rfl,by simp;omega⟩
 simp at h
theorem wS{cs off new r}(h:wZ cs off new=some r) :off+new.length<=cs.length/\r=cs.take off++new++cs.drop (off+new.length)/\r.length=cs.length:=by
 unfold wZ at h;split at h
 .rename_i hl;simp at h;subst h;exact⟨hl,by simp,by simp;omega⟩
 .simp at h
theorem JK.slice{N k cs p}(h:JK N w k cs p){off n r}(hr:sub cs off n=some r)(he:off+n<=p.ext)(hz:k=.last->p.ext=cs.length) :∃xs,bZ N r xs/\∀(j) (v),xs[j]? = some v->w.cell? ⟨p.c,p.base+off+j,none⟩=some v:=by
 obtain⟨arr,ty,fz,h1,h2,_,h4⟩:=h.row;obtain⟨s1,s2,s3⟩:=oC hr;have hf:=h.fit;refine⟨(arr.toList.drop (p.base+off)).take n,⟨by rw[s3];simp;omega,fun i c v a b=>?_⟩,fun j v hj=>?_⟩
 .rw[s2,a5G]at a;rw[a5G]at b;split at a
  .rename_i hi;rw[a18 hi,a5z]at b;rw[a5z]at a;exact h4 hz (off+i) c v (by omega) a (by simpa[aar]using b)
  .simp at a
 .rw[a5G]at hj;split at hj
  .rw[a5z]at hj;simp only[World.cell?,h1];simpa using hj
  .simp at hj
theorem zo{N k cs p}(h:JK N w k cs p){off n r}(hr:sub cs off n=some r)(he:off+n<=p.ext)(hz:k=.last->p.ext=cs.length) :∃xs,bZ N r xs/\∀w',w'.heap=w.heap->(loadCells ⟨p.c,p.base+off,none⟩ n).run P w'=.ok xs.toArray w':=by
 obtain⟨xs,h1,h2⟩:=h.slice hr he hz;refine⟨xs,h1,fun w' hw'=>?_⟩;have hl:xs.length=n:=by rw[<-h1.len];exact(oC hr).2.2
 have:=run_loadCells_list (P:=P) w' ⟨p.c,p.base+off,none⟩ xs (fun j v hj=>by rw[vG];have e:=h2 j v hj;simp only[World.cell?,hw']at e ⊢;exact e)
 rwa [hl]at this
theorem LU{N k cs p}(h:JK N w k cs p){t off n v}(hs:dH P t=some n)(hv:vk P t cs off=some v) (he:off+n<=p.ext) (hz:k=.last->p.ext=cs.length) :∃x,VR N v x/\(loadVar t ⟨p.c,p.base+off,none⟩).run P w=.ok x w:=by
 unfold vk at hv;rw[hs]at hv;cases ha:xg P t with
 |none=>simp[ha]at hv
 |some b=>
  cases b with
  |true=>
   simp only[ha,a0z]at hv;obtain⟨r,hr,rfl⟩:=hv;obtain⟨xs,g1,g2⟩:=zo (P:=P) h hr he hz;exact⟨_,.agg' g1,by simp[loadVar,AP ha,cZ hs,g2 w rfl]⟩
  |false=>
   simp only[ha]at hv;split at hv
   case isFalse=>simp at hv
   rename_i hn1;have he1:off+1<=p.ext:=(by omega);have aQ:=(a0w.1 hv).1;have hr:sub cs off 1=some [v]:=by unfold sub;rw[a18 (by omega)];congr 1;rw[a6u aQ];have:=(a0w.1 hv).2;simp[this]
   obtain⟨xs,g1,g2⟩:=h.slice hr he1 hz;obtain⟨x,xs',rfl,gx,_⟩:=g1.iE;have:=g2 0 x rfl;simp only[adh]at this;exact⟨x,gx,by simp[loadVar,AP ha,this]⟩
end
theorem JL{M k l}(h:M k=some l):dM M k l=M:=by
 funext j;unfold dM;split
 .rename_i e;rw[e,h]
 rfl
theorem kQ(s:St)(b e ws):St.get { s with heap:=s.heap++[b],env:=e,ws:=ws }=ni s.get (.h s.heap.length) b:=by
 funext k
 cases k with
 |h j=>
  simp only[St.get,ni,Key.h.injEq];split
  .rename_i e;subst e;simp
  rename_i e;by_cases hj:j<s.heap.length
  .rw[a0Q hj]
  rw[a4U (by simp;omega),a4U (by omega)]
 |l j=>simp[St.get,ni]
theorem jl(s:St)(i b)(h:i<s.heap.length)(e ws):St.get { s with heap:=s.heap.set i b,env:=e,ws:=ws }=ni s.get (.h i) b:=by
 funext k
 cases k with
 |h j=>
  simp only[St.get,ni,Key.h.injEq];rw[aay];by_cases hj:i=j
  .subst hj;simp[h]
  rw[a0U hj,a0U (fun e=>hj e.symm)]
 |l j=>simp[St.get,ni]
theorem SK(s:St)(cs e ws):St.get { s with loc:=s.loc++[cs],env:=e,ws:=ws }=ni s.get (.l s.loc.length) (.cells .own cs):=by
 funext k
 cases k with
 |l j=>
  simp only[St.get,ni,Key.l.injEq];split
  .rename_i e;subst e;simp
  rename_i e;by_cases hj:j<s.loc.length
  .rw[a0Q hj]
  rw[a4U (by simp;omega),a4U (by omega)]
 |h j=>simp[St.get,ni]
theorem OD(s:St)(i cs)(h:i<s.loc.length)(e ws):St.get { s with loc:=s.loc.set i cs,env:=e,ws:=ws }=ni s.get (.l i) (.cells .own cs):=by
 funext k
 cases k with
 |l j=>
  simp only[St.get,ni,Key.l.injEq];rw[aay];by_cases hj:i=j
  .subst hj;simp[h]
  rw[a0U hj,a0U (fun e=>hj e.symm)]
 |h j=>simp[St.get,ni]
theorem yK{h b lim cs}(e:nG h b lim=some cs):∃k,h[b]? = some (.cells k cs)/\(k=.last->lim=cs.length):=by
 unfold nG at e;split at e
 .rename_i k cs' hb;split at e
  .cases e
  rename_i hn;simp at e;subst e;exact⟨k,hb,fun hk=>Decidable.not_not.1 fun hl=>hn ⟨hk,hl⟩⟩
 simp at e
theorem LV{k k' b}(e:AL k b=some k'):(k=.own/\k'=.own)\/((k=.grow\/k=.last)/\k'=.last/\b=true):=by unfold AL at e;split at e<;>simp_all
theorem JM{h h' b off lim new}(e:UN h b off lim new=some h') :∃k k' cs cs',h[b]? = some (.cells k cs)/\((k=.own/\k'=.own)\/((k=.grow\/k=.last)/\k'=.last/\lim=cs.length))/\wZ cs off new=some cs'/\h'=h.set b (.cells k' cs'):=by
 unfold UN at e;split at e
 .rename_i k cs hb;split at e
  .rename_i k' hk;simp only[a0z]at e;obtain⟨cs',h1,h2⟩:=e;refine⟨k,k',cs,cs',hb,?_,h1,h2.symm⟩;rcases LV hk with h|⟨a,b,c⟩
   .exact .inl h
   .exact .inr ⟨a,b,by simpa using c⟩
  .cases e
 .simp at e
theorem zJ{arr:Array LI3}{off xs}(i)(h:off+xs.length<=arr.size) :(arr.toList.take off++xs++arr.toList.drop (off+xs.length)).toArray[i]? = if i<off then arr[i]? else if i<off+xs.length then xs[i-off]? else arr[i]?:=by
 have hl:(arr.toList.take off).length=off:=by simp;omega
 simp only[aeS];by_cases h1:i<off
 .rw[a18 h1,a6j,a0Q (by omega),a5G,a18 h1];simp
 .rw[a0U h1];by_cases h2:i<off+xs.length
  .rw[a18 h2,a6j,a1y (by omega),hl,a0Q (by omega)]
  .rw[a0U h2,a1y (by simp;omega),a5z];have:off+xs.length+(i-(List.take off arr.toList++xs).length)=i:=by simp;omega
   rw[this];simp
theorem a3G{cs new r off}(h:wZ cs off new=some r)(i) :r[i]? = if i<off then cs[i]? else if i<off+new.length then new[i-off]? else cs[i]?:=by
 obtain⟨h1,h2,_⟩:=wS h;have hl:(cs.take off).length=off:=by simp;omega
 rw[h2];by_cases h1:i<off
 .rw[a18 h1,a6j,a0Q (by omega),a5G,a18 h1]
 .rw[a0U h1];by_cases h2:i<off+new.length
  .rw[a18 h2,a6j,a1y (by omega),hl,a0Q (by omega)]
  .rw[a0U h2,a1y (by simp;omega),a5z];congr 1;simp;omega
theorem Xf{cs new r off}(h:wZ cs off new=some r)(hc:∀c∈cs,iM c=true)(hn:∀c∈new,iM c=true):∀c∈r,iM c=true:=by
 obtain⟨_,h2,_⟩:=wS h;intro c hcr;rw[h2]at hcr;simp only[a3N]at hcr;rcases hcr with(h|h)|h
 .exact hc c (aa8 h)
 .exact hn c h
 exact hc c (a5X h)
theorem nJ(w:LI4)(g arr c)(h:c≠g):(w.setRow g arr).heap[c]? = w.heap[c]?:=by simp only[World.setRow,abR];rw[a0U (fun e=>h e.symm)]
theorem uw(w:LI4)(g arr cur ty fz)(h:w.heap[g]? = some (.cells cur ty fz)):(w.setRow g arr).heap[g]? = some (.cells arr ty fz):=by simp[World.setRow,abR,h]
theorem Valid.widen{M D}{C C1:Ct}{w'}(h:Valid M D C1 w')(hn:∀k,C k=none->C1 k=none):Valid M (fun j=>D j\/(C j=none/\(C1 j).isSome=true)) C1 w':=
 have aux:∀j,(D j\/(C j=none/\(C1 j).isSome=true))->D j:=fun j hj=>hj.elim id fun⟨a,b⟩=>by rw[hn j a]at b;cases b
 ⟨fun k l hk hd=>h.ok k l hk (aux k hd),fun k k' l l' b a1 a2 a3 hd=>h.own k k' l l' b a1 a2 a3 (aux k hd),h.inb⟩
theorem EG{C k b}(hk:(C k).isSome=true):∀j,C j=none->ni C k b j=none:=by
 intro j hj;unfold ni;split
 .rename_i e;subst e;rw[hj]at hk;cases hk
 exact hj
theorem Valid.wrB{M D C w}(h:Valid M D C w){k ls p cs}{kk Ce:BK}(hk:M k=some (.cells ls))(hd:D k)(hc:C k=some (.cells kk cs)) (hp:p∈ls) (yL:(kk=.own/\Ce=.own)\/((kk=.grow\/kk=.last)/\Ce=.last/\p.ext=cs.length)) :p.base=0/\p.ext=cs.length/\(∀c∈cs,iM c=true)/\(∀q∈ls,JK M.h w kk cs q)/\(ls.map (·.c)).Nodup/\(∀q∈ls,q.ext=cs.length->q=p) /\∃(arr:Array LI3) (ty:LI2),w.heap[p.c]? = some (.cells arr ty (0,0))/\arr.size=p.tot/\cs.length<=p.tot /\∀(i:Nat) (c) (v),cs[i]? = some c->arr[i]? = some v->VR M.h c v:=by
 obtain⟨b,h1,h2⟩:=h.ok k _ hk hd;rw[hc]at h1;cases h1;obtain⟨g1,g2,g3,g4⟩:=h2;have iI:kk≠.ro:=by rcases yL with⟨e,_⟩|⟨e|e,_⟩<;>rw[e]<;>simp
 have AQ:=g2 p hp;have hb:=AQ.base iI;have hx:p.ext=cs.length/\(ls.map (·.c)).Nodup/\∀q∈ls,q.ext=cs.length->q=p:=by
  rcases yL with⟨e,_⟩|⟨e,_,he⟩
  .obtain⟨q,rfl,hq⟩:=g3 e;simp at hp;subst hp;exact⟨hq,by simp,fun q' hq' _=>by simpa using hq'⟩
  .obtain⟨n1,n2⟩:=g4 e;exact⟨he,n1,fun q hq hqe=>n2 q hq p hp hqe he⟩
 obtain⟨arr,ty,fz,r1,r2,r3,r4⟩:=AQ.row;have:=r3 iI;subst this;have hf:=AQ.fit;refine⟨hb,hx.1,g1,g2,hx.2.1,hx.2.2,arr,ty,r1,r2,by omega,fun i c v a b=>?_⟩;have hi:=(a0w.1 a).1;exact r4 (fun _=>hx.1) i c v (by omega) a (by simpa[hb]using b)
theorem Valid.ZH{M D C w}(h:Valid M D C w){k ls p cs}{kk Ce:BK}{lim}(hk:M k=some (.cells ls))(hd:D k)(hc:C k=some (.cells kk cs)) (hp:p∈ls) (hl:lim<=p.ext) (yL:(kk=.own/\Ce=.own)\/((kk=.grow\/kk=.last)/\Ce=.last/\lim=cs.length)) :(kk=.own/\Ce=.own)\/((kk=.grow\/kk=.last)/\Ce=.last/\p.ext=cs.length):=by
 rcases yL with e|⟨e1,e2,e3⟩
 .exact .inl e
 .obtain⟨b,h1,h2⟩:=h.ok k _ hk hd;rw[hc]at h1;cases h1;have:=(h2.2.1 p hp).ext;exact .inr ⟨e1,e2,by omega⟩
theorem I7:∀{ls:List Pl},(ls.map (·.c)).Nodup->∀{p q},p∈ls->q∈ls->q.c=p.c->q=p
 | [],_,p,q,hp,_,_=>by simp at hp
 |a::ls,h,p,q,hp,hq,e=>by
  simp only[a4W,a5I]at h;rcases a1G.1 hp with h1|h1<;>rcases a1G.1 hq with h2|h2
  .rw[h1,h2]
  .exact(h.1 (a1z.2 ⟨q,h2,by rw[e,h1]⟩)).elim
  .exact(h.1 (a1z.2 ⟨p,h1,by rw[<-e,h2]⟩)).elim
  exact I7 h.2 h1 h2 e
theorem zK{P M D C w}(h:Valid M D C w){k ls p cs cs' new off xs kk Ce}(hk:M k=some (.cells ls)) (hd:D k) (hc:C k=some (.cells kk cs)) (hp:p∈ls) (yL:(kk=.own/\Ce=.own)\/((kk=.grow\/kk=.last)/\Ce=.last/\p.ext=cs.length))(ho:wZ cs off new=some cs') (hx:bZ M.h new xs) (hn:∀c∈new,iM c=true) :∃w',(storeCells ⟨p.c,p.base+off,none⟩ xs).run P w=.ok () w'/\Valid M D (ni C k (.cells Ce cs')) w'/\Ext M C w M (ni C k (.cells Ce cs')) w' [k]:=by
 obtain⟨hb,he,h1,AQ,jG,huq,arr,ty,hr,hs,hle,hv⟩:=h.wrB hk hd hc hp yL;obtain⟨o1,o2,o3⟩:=wS ho;have hlen:=hx.len;have iI:kk≠.ro:=by rcases yL with⟨e,_⟩|⟨e|e,_⟩<;>rw[e]<;>simp
 have aja:Ce≠.ro:=by rcases yL with⟨_,e⟩|⟨_,e,_⟩<;>rw[e]<;>simp
 have UZ:∀b0,C k=some b0->wr b0=true:=fun b0 yu=>by rw[hc]at yu;cases yu;cases kk<;>simp_all [wr]
 have vV:∀v∈xs,v.oneCell'=true:=by
  intro v hv;obtain⟨i,hi,rfl⟩:=a5Q.1 hv;have wR:i<new.length:=by omega
  exact EF (hx.at_ i new[i] xs[i] (by simp[wR]) (by simp[hi])) (hn _ (a5K wR))
 have uy:=run_storeCells_at (P:=P) p.c (p.base+off) ty xs 0 arr w hr (by omega) vV;simp only[adh,hb,a3O]at uy
 let w':LI4:=w.setRow p.c (arr.toList.take off++xs++arr.toList.drop (off+xs.length)).toArray
 have qW:dM M k (.cells ls)=M:=JL hk;have fK:∀c,c<w.heap.size->c∉aI (.cells ls)->w'.heap[c]? = w.heap[c]?:=fun c _ hc=>nJ w p.c _ c (fun e=>hc (by rw[e];exact a1z.2 ⟨p,hp,rfl⟩));have fQ:∀c∈aI (.cells ls),(∃l0,M k=some l0/\c∈aI l0)\/w.heap.size<=c:=fun c hc=>.inl ⟨_,hk,hc⟩;have qX:w.heap.size<=w'.heap.size:=by simp[w']
 have Fv:tY M (dM M k (.cells ls)):=by rw[qW];exact .refl _
 refine⟨w',by rw[hb,a3O];exact uy,?_,?_⟩
 .have:=h.upd (D':=D) (w':=w') k (.cells Ce cs') (.cells ls) (fun j hj=>.inl hj) (fun l0 h0=>by
   rw[hk]at h0;cases h0;exact⟨hd,.refl _,UZ⟩) fK fQ qX (by
   rw[qW];refine⟨Xf ho h1 hn,fun q hq=>?_,fun e=>?_,fun e=>⟨jG,fun q1 Du q2 Gs e1 e2=>by rw[huq q1 Du (by omega),huq q2 Gs (by omega)]⟩⟩
   .have ZI:=AQ q hq;by_cases Zt:q.c=p.c
    .have:=I7 jG hp hq Zt;subst this;refine⟨⟨_,ty,(0,0),uw w q.c _ arr ty (0,0) hr,by simp;omega,fun _=>rfl,fun _ i c v hi a b=>?_⟩,by omega,by omega,fun _=>hb⟩;rw[hb,a3O,zJ i (by omega)]at b;rw[a3G ho i,hlen]at a;split at a
     .rename_i hi1;rw[a18 hi1]at b;exact hv i c v a b
     .rename_i hi1;rw[a0U hi1]at b;split at a
      .rename_i LW;rw[a18 LW]at b;exact hx.at_ _ c v a b
      .rename_i LW;rw[a0U LW]at b;exact hv i c v a b
    .obtain⟨uz,ty',fz',t1,t2,t3,t4⟩:=ZI.row;refine⟨⟨uz,ty',fz',(nJ w p.c _ q.c Zt).trans t1,t2,fun _=>t3 iI,fun hz i c v hi a b=>?_⟩,ZI.fit,by have:=ZI.ext;omega,fun _=>ZI.base iI⟩;exfalso;apply Zt;rcases yL with⟨e,_⟩|⟨_,e,_⟩
     .obtain⟨b',g1,g2⟩:=h.ok k _ hk hd;rw[hc]at g1;cases g1;obtain⟨q',g3,_⟩:=g2.2.2.1 e;rw[g3]at hq hp;simp at hq hp;rw[hq,hp]
     .rw[huq q hq (by rw[hz e];omega)]
   .rcases yL with⟨e0,_⟩|⟨_,e1,_⟩
    .obtain⟨b',g1,g2⟩:=h.ok k _ hk hd;rw[hc]at g1;cases g1;obtain⟨q',g3,g4⟩:=g2.2.2.1 e0;exact⟨q',g3,by omega⟩
    .rw[e1]at e;cases e)
  rwa [qW]at this
 .have:=Ext.upd (M:=M) (C:=C) (w:=w) (w':=w') k (.cells Ce cs') (.cells ls) [k] (.inl ⟨by simp[hc],rfl,by simp[hk],UZ⟩) Fv fK fQ qX rfl rfl rfl
  rwa [qW]at this
theorem OE{M D C w}(h:Valid M D C w){k cs arr}(ty)(hk:M k=none) (hc:C k=none) (hl:cs.length<=arr.size) (hx:∀(i:Nat) (c) (v),cs[i]? = some c->arr[i]? = some v->VR M.h c v) (hn:∀c∈cs,iM c=true) :Valid (dM M k (.cells [⟨w.heap.size,0,cs.length,arr.size⟩])) (fun j=>D j\/(C j=none/\(ni C k (.cells .own cs) j).isSome=true)) (ni C k (.cells .own cs)) (w.alloc (.cells arr ty)) /\Ext M C w (dM M k (.cells [⟨w.heap.size,0,cs.length,arr.size⟩])) (ni C k (.cells .own cs)) (w.alloc (.cells arr ty)) []:=by
 have hle:tY M (dM M k (.cells [⟨w.heap.size,0,cs.length,arr.size⟩])):=lJ fun l0 h0=>by rw[hk]at h0;cases h0
 have fK:∀c,c<w.heap.size->c∉aI (.cells [⟨w.heap.size,0,cs.length,arr.size⟩])->(w.alloc (.cells arr ty)).heap[c]? = w.heap[c]?:=fun c hc _=>vC w _ c hc;have fQ:∀c∈aI (.cells [⟨w.heap.size,0,cs.length,arr.size⟩]),(∃l0,M k=some l0/\c∈aI l0)\/w.heap.size<=c:=fun c hc=>.inr (by simp[aI]at hc;omega);refine⟨h.upd k _ _ (fun j hj=>?_) (fun l0 h0=>by rw[hk]at h0;cases h0) fK fQ (by simp) ?_,Ext.upd k _ _ [] (.inr ⟨hc,hk,rfl⟩) hle fK fQ (by simp) rfl rfl rfl⟩
 .rcases hj with hj|⟨a,b⟩
  .exact .inl hj
  .right;unfold ni at b;split at b
   .assumption
   .simp[a]at b
 .refine⟨hn,fun q hq=>?_,fun _=>⟨_,rfl,rfl⟩,by simp⟩;simp at hq;subst hq;exact⟨⟨arr,ty,(0,0),heap_alloc_new w _,rfl,fun _=>rfl,fun _ i c v _ a b=>(hx i c v a (by simpa using b)).mono hle.h⟩,by simpa using hl,a1p _,fun _=>rfl⟩
theorem a6f{M env}{a:Act}(hE:kG M env a.tmps){x e}(h:JD env x=some e):ER M e (a.eval x):=by
 cases x with
 |tmp t=>exact hE t e h
 |const v=>
  simp only[JD,a0z]at h;obtain⟨t,h1,rfl⟩:=h;exact .val (.zn h1)
 |func f=>
  simp only[JD,a08]at h;subst h;exact .val (VR.fn (xs:=[]) (ys:=[]) rfl (by simp) rfl (by simp))
 |global g=>simp[JD]at h
theorem ZJ{M env}{a:Act}(hE:kG M env a.tmps){x v}(h:rM env x=some v):VR M.h v (a.eval x):=by
 unfold rM at h;split at h
 .rename_i v' he;simp at h;subst h;exact(a6f hE he).uT
 simp at h
structure PR(N:Np)(ps:List (Nat×TV))(qs:List (Nat×LI3)):Prop where
 len:ps.length=qs.length
 at_:∀(i:Nat) (p:Nat×TV) (q:Nat×LI3),ps[i]? = some p->qs[i]? = some q->p.1=q.1/\VR N p.2 q.2
theorem PR.nil{N}:PR N [] []:=⟨rfl,by simp⟩
theorem PR.cons{N i v x ps qs}(h:VR N v x)(hs:PR N ps qs):PR N ((i,v)::ps) ((i,x)::qs):=
 ⟨by simp[hs.len],fun j p q a b=>by
  cases j with
  |zero=>simp at a b;subst a;subst b;exact⟨rfl,h⟩
  |succ j=>simp at a b;exact hs.at_ j p q a b⟩
theorem PR.iE{N i v ps qs}(h:PR N ((i,v)::ps) qs):∃x qs',qs=(i,x)::qs'/\VR N v x/\PR N ps qs':=by
 cases qs with
 |nil=>have:=h.len;simp at this
 |cons q qs'=>
  have h0:=h.at_ 0 (i,v) q rfl rfl;obtain⟨j,x⟩:=q;obtain⟨h1,h2⟩:=h0;simp only at h1;subst h1;exact⟨x,qs',rfl,h2,⟨by have:=h.len;simpa using this,fun j p q a b=>h.at_ (j+1) p q (by simpa using a) (by simpa using b)⟩⟩
theorem PR.pG{N qs}(h:PR N [] qs):qs=[]:=by have:=h.len;simp at this;exact a4D this.symm
def ajc(P:LI1)(c:Sem Next)(w:LI4)(x:LI3)(w':LI4):Prop:=
 c.run P w=.ok (.value x) w'\/(x=Go.undef/\c.run P w=.ok .skip w')
def I8(P:LI1)(M:Mp)(D:Key->Prop)(C:Ct)(w:LI4)(c:Sem Next)(v:EV)(C1:Ct)(ws:List Key):Prop:=
 ∃x w' M',ajc P c w x w'/\OC M D C w v C1 ws x w' M'
section
variable{P:LI1}{M:Mp}{D:Key->Prop}{w:LI4}{s:St}
theorem I8.same{C c v x}(hV:Valid M D C w)(hr:c.run P w=.ok (.value x) w)(he:ER M v x):I8 P M D C w c v C []:=
 ⟨x,w,M,.inl hr,.same hV he⟩
theorem rW{k l}(hk:M k=none):∀j l',M (.l j)=some l'->dM M k l (.l j)=some l':=by intro j l' h;unfold dM;rw[a0U (fun e=>by rw[<-e,h]at hk;cases hk)];exact h
theorem a6g(hV:Valid M D s.get w)(zL:M (.h s.heap.length)=none)(hnl:M (.l s.loc.length)=none)(site){cs xs}(ty)(hx:bZ M.h cs xs.toList) (hn:∀c∈cs,iM c=true) {v s1} (h:rO site s cs=(v,s1)) :∃M',OC M D s.get w v s1.get [] (.pointer (some ⟨w.heap.size,0,none⟩)) (w.alloc (.cells xs ty)) M':=by
 have hlen:cs.length<=xs.size:=by have:=hx.len;simpa using ahK this
 have JF:∀(i:Nat) (c:TV) (v:LI3),cs[i]? = some c->xs[i]? = some v->VR M.h c v:=fun i c v a b=>hx.at_ i c v a (by simpa using b);unfold rO at h;cases site with
 |true=>
  simp only[a2r,a1n]at h;obtain⟨rfl,rfl⟩:=h;have hc:s.get (.h s.heap.length)=none:=by simp[St.get]
  have:=OE hV ty zL hc hlen JF hn;refine⟨dM M (.h s.heap.length) (.cells [⟨w.heap.size,0,cs.length,xs.size⟩]),⟨?_,?_,?_,rW zL⟩⟩
  .rw[kQ];exact this.1
  .rw[kQ];exact this.2
  .exact .val (VR.ptr (p:=⟨w.heap.size,0,cs.length,xs.size⟩) (ls:=[⟨w.heap.size,0,cs.length,xs.size⟩]) (by simp[Mp.h,dM]) (by simp) (a1p _) (by simpa using hlen))
 |false=>
  simp only[a3F,a3V,a1n]at h;obtain⟨rfl,rfl⟩:=h;have hc:s.get (.l s.loc.length)=none:=by simp[St.get]
  have:=OE hV ty hnl hc hlen JF hn;refine⟨dM M (.l s.loc.length) (.cells [⟨w.heap.size,0,cs.length,xs.size⟩]),⟨?_,?_,?_,rW hnl⟩⟩
  .rw[SK];exact this.1
  .rw[SK];exact this.2
  .exact ER.loc (p:=⟨w.heap.size,0,cs.length,xs.size⟩) (by simp[dM]) rfl
theorem a1s{x c}(h:TV.ofC x=some c):iM c=true:=by unfold TV.ofC at h;split at h<;>simp at h<;>subst h<;>rfl
theorem Xg:∀{xs} {cs},TV.Dh xs=some cs->∀c∈cs,iM c=true
 | [],cs,h=>by simp[TV.Dh]at h;subst h;simp
 |x::xs,cs,h=>by
  simp only[TV.Dh]at h;split at h
  .rename_i v vs h1 h2;simp at h;subst h;intro c hc;rcases a1G.1 hc with rfl|hc
   .exact a1s h1
   exact Xg h2 c hc
  simp at h
theorem a3I{x v}(h:TV.X4 x=some v):∀c∈v.cells,iM c=true:=by
 unfold TV.X4 at h;split at h
 .simp only[a0z]at h;obtain⟨vs,h1,rfl⟩:=h;exact Xg h1
 have h1:=a1s h;cases v<;>simp[iM]at h1<;>simp[TV.cells,iM]
theorem xu{t z}(h:LM P t=some z):∃i x v,P.info? t=some i/\i.zero=some x/\TV.X4 x=some v/\z=v.cells/\(∀c∈z,iM c=true) /\(∀N,bZ N z x.cells.toList)/\∀w,(zeroValue t).run P w=.ok x w:=by
 unfold LM at h;split at h
 .rename_i i hi;split at h
  .rename_i x hx;simp only[a0z]at h;obtain⟨v,h1,rfl⟩:=h;exact⟨i,x,v,hi,hx,h1,rfl,a3I h1,fun N=>(VR.zn h1).cells,fun w=>by simp[zeroValue,jk hi,hx]⟩
  .simp at h
 .simp at h
theorem ZK(vs:List LI3):∀(k off) (arr),off+k+vs.length<=arr.size ->((vs.zipIdx k).foldl (fun(cs:Array LI3) (c:LI3×Nat)=>cs.setIfInBounds (off+c.2) c.1) arr).toList=arr.toList.take (off+k)++vs++arr.toList.drop (off+k+vs.length):=by
 induction vs with
 |nil=>intro k off arr h;simp
 |cons v vs ih=>
  intro k off arr h;simp only[a4T]at h;simp only[List.zipIdx_cons,aey];rw[ih (k+1) off _ (by simp;omega)];have e:=list_seg_step arr.toList (off+k) v vs (by simp;omega);simpa[Array.toList_setIfInBounds,aar]using e
theorem Nz{N place place'}(hp:∀i x,place i=some x->place' i=some x):∀{ps} {qs:List (Nat×LI3)} {cs r:List TV} {arr:Array LI3},ug place cs ps=some r->PR N ps qs ->bZ N cs arr.toList->∃uz,Instr.fill place' arr qs=some uz/\bZ N r uz.toList
 | [],qs,cs,r,arr,h,hq,hc=>by have:=hq.pG;subst this;simp[ug]at h;subst h;exact⟨arr,rfl,hc⟩
 |(i,v)::ps,qs,cs,r,arr,h,hq,hc=>by
  obtain⟨x,qs',rfl,hx,hq'⟩:=hq.iE;simp only[ug]at h;split at h
  .rename_i off size AQ;split at h
   .rename_i qX;split at h
    .rename_i cs' ho;obtain⟨o1,o2,o3⟩:=wS ho;have hxc:=hx.cells;have hl1:=hxc.len;have SL:=hc.len;simp only[a8Q]at hl1 SL;have e:(x.cells.zipIdx.foldl (fun(cs:Array LI3) (c:LI3×Nat)=>cs.setIfInBounds (off+c.2) c.1) arr).toList=arr.toList.take off++x.cells.toList++arr.toList.drop (off+x.cells.toList.length):=by rw[<-Array.foldl_toList,Array.toList_zipIdx];have:=ZK x.cells.toList 0 off arr (by simp;omega);simpa using this
     have X5:bZ N cs' (x.cells.zipIdx.foldl (fun(cs:Array LI3) (c:LI3×Nat)=>cs.setIfInBounds (off+c.2) c.1) arr).toList:=by have hlx:x.cells.toList.length=v.cells.length:=(by simp[hl1]);rw[e,o2,hlx];exact((hc.take off).append hxc).append (hc.drop _)
     obtain⟨uz,g1,g2⟩:=Nz hp h hq' X5;refine⟨uz,?_,g2⟩;simp only[Instr.fill,hp i _ AQ];rw[a0U (by simp;omega)];exact g1
    .simp at h
   .simp at h
  .simp at h
theorem OG{w}:∀(fs),Di P fs=true->(fs.mapM (fun f=>Functor.map (Prod.mk f.offset) (Go.sizeOf f.type):Field->Sem (Nat×Nat))).run P w=.ok (fs.map fun f=>(f.offset,(dH P f.type).getD 0)) w
 | [],_=>by simp
 |f::fs,h=>by simp only[Di,aco,a2K]at h;obtain⟨n,hn⟩:=a6c.1 h.1;have ih:=OG (w:=w) fs (by simpa[Di]using h.2);simp only[List.mapM_cons,Sem.run_bind,Sem.run_map,cZ hn,Result.andThen_ok,Sem.run_pure,ih,a4W,hn,a6b]
theorem a6i{N t ps qs v}(h:Ot P t ps=some v)(hq:PR N ps qs) :∃x,VR N v x/\∀w,(Instr.build t qs.toArray).run P w=.ok x w:=by
 unfold Ot at h;split at h
 .rename_i z fs hz hu;split at h
  .rename_i ha;simp only[a0z]at h;obtain⟨r,hr,rfl⟩:=h;obtain⟨i,x,v,_,_,_,_,_,hvr,hzr⟩:=xu hz;obtain⟨uz,g1,g2⟩:=Nz (place':=fun i=>(fs.map fun f=>(f.offset,(dH P f.type).getD 0))[i]?) (fun i x hx=>by
    unfold UO at hx;split at hx
    .rename_i f hf;simp only[a0z]at hx;obtain⟨n,hn,rfl⟩:=hx;simp[hf,hn]
    .simp at hx) hr hq (hvr N)
   refine⟨_,.agg' g2,fun w=>?_⟩;have hm:(fs.mapM (fun f=>Functor.map (Prod.mk f.offset) (Go.sizeOf f.type):Field->Sem (Nat×Nat))).run P w=.ok (fs.map fun f=>(f.offset,(dH P f.type).getD 0)) w:=by rw[Array.mapM_eq_mapM_toList,Sem.run_map,OG fs.toList ha];simp only[Result.andThen_ok];congr 1;apply aeW;simp
   simp only[Array.getElem?_map]at g1;simp[Instr.build,hzr w,run_underlying hu,hm,g1]
  .simp at h
 .rename_i z n e hz hu;split at h
  .rename_i n hn;simp only[a0z]at h;obtain⟨r,hr,rfl⟩:=h;obtain⟨i,x,v,_,_,_,_,_,hvr,hzr⟩:=xu hz;obtain⟨uz,g1,g2⟩:=Nz (place':=fun i=>some (i*n,n)) (fun i x hx=>hx) hr hq (hvr N);exact⟨_,.agg' g2,fun w=>by simp[Instr.build,hzr w,run_underlying hu,cZ hn,g1]⟩
  .simp at h
 .simp at h
theorem Xh{t cs off v}(h:vk P t cs off=some v):∃n,dH P t=some n/\off+n<=cs.length:=by
 unfold vk at h;split at h
 .rename_i n _ hn;simp only[a0z]at h;obtain⟨r,hr,_⟩:=h;exact⟨n,hn,(oC hr).1⟩
 .rename_i n _ hn;split at h
  .rename_i h1;subst h1;exact⟨1,hn,(a0w.1 h).1⟩
  simp at h
 simp at h
theorem a1u{N t cs off v xs}(h:vk P t cs off=some v)(hx:bZ N cs xs) :∃x,VR N v x/\(Go.part t xs.toArray off).run P w=.ok x w:=by
 unfold vk at h;split at h
 .rename_i n ha hn;simp only[a0z]at h;obtain⟨r,hr,rfl⟩:=h;obtain⟨s1,s2,s3⟩:=oC hr;have hl:=hx.len;refine⟨.agg ((xs.drop off).take n).toArray,.agg' (by rw[s2];exact(hx.drop off).take n),?_⟩;simp[Go.part,AP ha,cZ hn]
 .rename_i n ha hn;split at h
  .obtain⟨x,h1,h2⟩:=hx.get h;exact⟨x,h2,by simp[Go.part,AP ha,h1]⟩
  .simp at h
 .simp at h
theorem I9{t e v i x}(hV:Valid M D s.get w)(h:loadT P t s e=some (v,i))(hx:ER M e x)(hD:∀k∈i.ts,D k) :i.ws=[]/\∃y,VR M.h v y/\(Instr.loadAt t x).run P w=.ok y w:=by
 unfold loadT at h;split at h
 .rename_i k off;split at h
  .rename_i cs hk;simp only[a0z,a1n]at h;obtain⟨v',hv,rfl,rfl⟩:=h;cases hx with
   |loc hm hb=>
    rename_i p;have hg:s.get (.l k)=some (.cells .own cs):=(by simp[St.get,hk]);have hd:=hD (.l k) (by simp[yx]);obtain⟨b,h1,h2⟩:=hV.ok _ _ hm hd;rw[hg]at h1;cases h1;obtain⟨_,h3,h4,_⟩:=h2;obtain⟨q,hq,he⟩:=h4 rfl;simp at hq;subst hq;obtain⟨n,hn,hle⟩:=Xh hv;obtain⟨y,g1,g2⟩:=LU (P:=P) (h3 p (by simp)) hn hv (by omega) (fun e=>by cases e);rw[hb,a3O]at g2;exact⟨rfl,y,g1,by simp[Instr.loadAt,Instr.sureAddr,g2]⟩
  .simp at h
 .rename_i b off lim;split at h
  .rename_i cs n hb hn;split at h
   .rename_i Nb;simp only[a0z,a1n]at h;obtain⟨v',hv,rfl,rfl⟩:=h;cases hx with
    |val hx=>
     cases hx with
     |ptr hm hp hl ht=>
      rename_i ls p;obtain⟨k,hk,Xi⟩:=yK hb;have hd:=hD (.h b) (by simp[yx]);obtain⟨gJ,h1,h2⟩:=hV.ok _ _ hm hd;simp only[St.get,hk,a08]at h1;subst h1;obtain⟨_,h3,_⟩:=h2;obtain⟨y,g1,g2⟩:=LU (P:=P) (h3 p hp) hn hv (by omega) (fun e=>by have:=Xi e;have:=(h3 p hp).ext;omega);exact⟨rfl,y,g1,by simp[Instr.loadAt,Instr.sureAddr,g2]⟩
   .simp at h
  .simp at h
 .simp at h
theorem NC{l:List TV}(h:l.all iM=true):∀c∈l,iM c=true:=by simpa using h
theorem ZL{t e v i x y s1}(hV:Valid M D s.get w)(h:storeT P t s e v=some (s1,i))(hx:ER M e x)(hy:VR M.h v y)(hD:∀k∈i.ts,D k) :s1.env=s.env/\∃w',(Instr.storeAt t x y).run P w=.ok () w'/\Valid M D s1.get w'/\Ext M s.get w M s1.get w' i.ws/\∀k,s.get k=none->s1.get k=none:=by
 unfold storeT at h;split at h
 case h_2=>simp at h
 rename_i n hn;split at h
 case isFalse=>simp at h
 rename_i hc;obtain⟨hlen,vV⟩:=hc;have hyc:=hy.cells;have hyl:y.cells.size=n:=by have:=hyc.len;simp at this;omega
 split at h
 .rename_i k off;split at h
  .rename_i cs hk;simp only[a0z,a1n]at h;obtain⟨cs',ho,rfl,rfl⟩:=h;cases hx with
   |loc hm hb=>
    rename_i p;have hg:s.get (.l k)=some (.cells .own cs):=(by simp[St.get,hk]);obtain⟨w',r1,r2,r3⟩:=zK (P:=P) hV hm (hD _ (by simp[qm])) hg (a2p.2 rfl) (.inl ⟨rfl,rfl⟩) ho hyc (NC vV);have LX:=(a0w.1 hk).1;refine⟨rfl,w',?_,?_,?_,?_⟩
    .rw[hb,a3O]at r1;simp[Instr.storeAt,Instr.sureAddr,storeVar,cZ hn,hyl,r1]
    .rw[OD s k cs' LX];exact r2
    .rw[OD s k cs' LX];exact r3
    .rw[OD s k cs' LX];exact EG (by simp[hg])
  .simp at h
 .rename_i b off lim;split at h
  .rename_i Nb;simp only[a0z,a1n]at h;obtain⟨h',hs,rfl,rfl⟩:=h;cases hx with
   |val hx=>
    cases hx with
    |ptr hm hp hl ht=>
     rename_i ls p;obtain⟨kk,Ce,cs,cs',hb,yL,ho,rfl⟩:=JM hs;have hg:s.get (.h b)=some (.cells kk cs):=(by simp[St.get,hb]);obtain⟨w',r1,r2,r3⟩:=zK (P:=P) hV hm (hD _ (by simp[qm])) hg hp (hV.ZH hm (hD _ (by simp[qm])) hg hp hl yL) ho hyc (NC vV);have LX:=(a0w.1 hb).1;refine⟨rfl,w',?_,?_,?_,?_⟩
     .simp[Instr.storeAt,Instr.sureAddr,storeVar,cZ hn,hyl,r1]
     .rw[jl s b _ LX];exact r2
     .rw[jl s b _ LX];exact r3
     .rw[jl s b _ LX];exact EG (by simp[hg])
  .simp at h
 .simp at h
theorem Ia{n v j N x}(h:idx n v=some j)(hx:VR N v x):∃k i,x=.int k i/\0<=i/\i<n/\j=i.toNat/\j<n:=by
 unfold idx at h;split at h
 .rename_i k i;split at h
  .rename_i hc;simp at h;subst h;cases hx;exact⟨k,i,rfl,hc.1,hc.2,rfl,by omega⟩
  simp at h
 simp at h
theorem OH{o e e' x}(h:RD o e=some e')(hx:ER M e x):∃a,x=.pointer (some a)/\ER M e' (.pointer (some (a.add o))):=by
 unfold RD at h;split at h
 .simp at h;subst h;cases hx with
  |loc hm hb=>exact⟨_,rfl,by rw[vG];exact .loc hm hb⟩
 .rename_i b off lim;split at h
  .rename_i hl;simp at h;subst h;cases hx with
   |val hx=>
    cases hx with
    |ptr hm hp hl ht=>exact⟨_,rfl,by rw[vG,aar];exact .val (.ptr hm hp hl ht)⟩
  simp at h
 simp at h
theorem V3{t f n e e' x}(h1:HY P t f=some n)(h:RD n e=some e')(hx:ER M e x) :∃y,ER M e' y/\(Instr.fieldAt t x f).run P w=.ok y w:=by
 obtain⟨a,rfl,he⟩:=OH h hx;unfold HY at h1;split at h1
 .rename_i fs hu;split at h1
  .rename_i fd hf;split at h1
   .rename_i m hm;split at h1
    .simp at h1
    .rename_i hz;simp at h1;subst h1;refine⟨_,he,?_⟩;simp[Instr.fieldAt,run_underlying hu,hf,Instr.sureAddr,fieldPlace,cZ hm,hz]
   .simp at h1
  .simp at h1
 .simp at h1
theorem OI{N t f v v' x}(h:Ou P t v f=some v')(hx:VR N v x) :∃y,VR N v' y/\(Instr.field t x f).run P w=.ok y w:=by
 unfold Ou at h;split at h
 .rename_i fs cs hu;split at h
  .rename_i fd hf;cases hx with
   |agg g1 g2=>
    obtain⟨y,r1,r2⟩:=a1u (P:=P) (w:=w) h ⟨g1,g2⟩;exact⟨y,r1,by simp[Instr.field,run_underlying hu,hf,asAgg,r2]⟩
  .simp at h
 .simp at h
theorem AU{t e e' v x y}(h:nH P t e v=some e')(hx:ER M e x)(hy:VR M.h v y) :∃z,ER M e' z/\(Instr.indexAt t x y).run P w=.ok z w:=by
 unfold nH at h;split at h
 .rename_i el hu;split at h
  .rename_i n b off len cap sz ex hn;split at h
   .rename_i qX;simp only[a0z]at h;obtain⟨j,hj,rfl⟩:=h;subst qX;obtain⟨k,i,rfl,h0,h1,rfl,h2⟩:=Ia hj hy;cases hx with
    |val hx=>
     cases hx with
     |aO hb hp hl hle hc hex ha hk=>
      rename_i ls p a cap';rcases ha with ha|⟨rfl,ha⟩
      .omega
      .have hmul:i.toNat*n+n<=len*n:=by
        have:=a3X n (show i.toNat+1<=len by omega)
        rwa [a4p,abm]at this
       have ada:cap*n<=cap'*n:=a3X n (by omega);have hp:=hp.resolve_left (by omega);refine⟨_,.val (.ptr hb hp (lim:=off+cap*n) (off:=off+i.toNat*n) (by omega) (by omega)),?_⟩;simp[Instr.indexAt,asIntOf,run_underlying hu,h0,h1,cZ hn,vG,aar]
   .simp at h
  .simp at h
 .rename_i len el hu;split at h
  .rename_i n hn;split at h
   .rename_i j hj;obtain⟨k,i,rfl,h0,h1,rfl,h2⟩:=Ia hj hy;obtain⟨a,rfl,he⟩:=OH h hx;refine⟨_,he,?_⟩;simp[Instr.indexAt,asIntOf,run_underlying hu,Instr.sureAddr,h0,h1,cZ hn]
   .simp at h
  .simp at h
 .simp at h
theorem OJ{N t v u r x y}(h:JH P t v u=some r)(hx:VR N v x)(hy:VR N u y) :∃z,VR N r z/\(Instr.index t x y).run P w=.ok z w:=by
 unfold JH at h;split at h
 .rename_i len el cs hu;split at h
  .rename_i n j hn hj;obtain⟨k,i,rfl,h0,h1,rfl,h2⟩:=Ia hj hy;cases hx with
   |agg g1 g2=>
    obtain⟨z,r1,r2⟩:=a1u (P:=P) (w:=w) h ⟨g1,g2⟩;exact⟨z,r1,by simp[Instr.index,asIntOf,run_underlying hu,h0,h1,cZ hn,r2]⟩
  .simp at h
 .rename_i bs hu;split at h
  .rename_i j hj;obtain⟨k,i,rfl,h0,h1,rfl,h2⟩:=Ia hj hy;simp only[a0z]at h;obtain⟨b,hb,rfl⟩:=h;cases hx;exact⟨_,.int _ _,by simp[Instr.index,asIntOf,run_underlying hu,h0,hb]⟩
  .simp at h
 .simp at h
theorem a1v{N}:∀{az} {xs ys},CQ az=some xs->bZ N az ys->ys=xs
 | [],xs,ys,h,hy=>by simp[CQ]at h;subst h;exact hy.pG
 |c::az,xs,ys,h,hy=>by
  simp only[CQ]at h;split at h
  .rename_i v vs h1 h2;simp at h;subst h;obtain⟨u,us,rfl,hu,hus⟩:=hy.iE;rw[xk h1 hu,a1v h2 hus]
  simp at h
def Ib:NK->LI3->Prop
 |.ptr,x=>x=.pointer none
 |.aO,x=>x=.slice none 0 0
 |.map,x=>x=.map none
 |.fn,x=>x=.nilFunc
 |.ifc,x=>x=.nilIface
def zq:NK->LI3->Prop
 |.ptr,x=>∃a,x=.pointer (some a)
 |.aO,x=>∃a l c,x=.slice (some a) l c
 |.map,x=>∃r,x=.map (some r)
 |.fn,x=>∃f a c,x=.func f a c
 |.ifc,_=>False
theorem a1w{N v k x}(h:ZE v=some k)(hx:VR N v x):Ib k x:=by cases hx<;>simp[ZE]at h<;>subst h<;>rfl
theorem Xj{N v k x}(h:LP v=some k)(hx:VR N v x):zq k x:=by cases hx<;>simp[LP]at h<;>subst h<;>simp[zq]
theorem a6k{t:LI2}{k:NK}(h:LQ P t=some k):match k with
  |.ptr=>∃e,P.underlying t=some (.pointer e)
  |.aO=>∃e,P.underlying t=some (.slice e)
  |.map=>∃e f,P.underlying t=some (.map e f)
  |.fn=>∃e f g,P.underlying t=some (.func e f g)
  |.ifc=>False:=by
 unfold LQ at h;split at h<;>simp at h<;>subst h<;>simp_all
theorem a3K{t k x y}(h:LQ P t=some k)(hxy:(Ib k x/\zq k y)\/(zq k x/\Ib k y))(d) :(Op.equalIn (d+1) t x y).run P w=.ok false w:=by
 have hk:=a6k h;cases k with
 |ptr=>
  obtain⟨e,hu⟩:=hk;rcases hxy with⟨hx,a,rfl⟩|⟨⟨a,rfl⟩,hy⟩
  .cases hx;simp[Op.equalIn,run_underlying hu]
  .cases hy;simp[Op.equalIn,run_underlying hu]
 |aO=>
  obtain⟨e,hu⟩:=hk;rcases hxy with⟨hx,a,l,c,rfl⟩|⟨⟨a,l,c,rfl⟩,hy⟩
  .cases hx;simp[Op.equalIn,run_underlying hu]
  .cases hy;simp[Op.equalIn,run_underlying hu]
 |map=>
  obtain⟨e,f,hu⟩:=hk;rcases hxy with⟨hx,a,rfl⟩|⟨⟨a,rfl⟩,hy⟩
  .cases hx;simp[Op.equalIn,run_underlying hu]
  .cases hy;simp[Op.equalIn,run_underlying hu]
 |fn=>
  obtain⟨e,f,g,hu⟩:=hk;rcases hxy with⟨hx,a,b,c,rfl⟩|⟨⟨a,b,c,rfl⟩,hy⟩
  .cases hx;simp[Op.equalIn,run_underlying hu]
  .cases hy;simp[Op.equalIn,run_underlying hu]
 |ifc=>exact hk.elim
theorem a1x{t k ox oy x y}(h:LQ P t=some k)(hxy:(Ib k x/\zq k y)\/(zq k x/\Ib k y))(b op)(hb:(op=.eql/\b=false)\/(op=.neq/\b=true)) :
  (do eqGuard op t ox oy x y;binOp op t x y:Sem LI3).run P w=.ok (.bool b) w:=by
 have he:(Op.equal t x y).run P w=.ok false w:=a3K h hxy 9999;have hg:(eqGuard op t ox oy x y).run P w=.ok () w:=by
  cases k<;>rcases hxy with⟨hx,hy⟩|⟨hx,hy⟩<;>simp only[Ib,zq]at hx hy <;>
   (first|(exact hy.elim)|(exact hx.elim)|skip)<;>(try obtain⟨_,rfl⟩:=hx)<;>(try obtain⟨_,rfl⟩:=hy)<;>(try obtain⟨_,_,rfl⟩:=hx)<;>(try obtain⟨_,_,rfl⟩:=hy)<;>(try subst hx)<;>(try subst hy) <;>
   (try obtain⟨_,_,_,rfl⟩:=hx)<;>(try obtain⟨_,_,_,rfl⟩:=hy)<;>rcases hb with⟨rfl,rfl⟩|⟨rfl,rfl⟩<;>simp[eqGuard]
 have RI:(binOp op t x y).run P w=.ok (.bool b) w:=by
  cases k<;>rcases hxy with⟨hx,hy⟩|⟨hx,hy⟩<;>simp only[Ib,zq]at hx hy <;>
   (first|(exact hy.elim)|(exact hx.elim)|skip)<;>(try obtain⟨_,rfl⟩:=hx)<;>(try obtain⟨_,rfl⟩:=hy)<;>(try obtain⟨_,_,rfl⟩:=hx)<;>(try obtain⟨_,_,rfl⟩:=hy)<;>(try subst hx)<;>(try subst hy) <;>
   (try obtain⟨_,_,_,rfl⟩:=hx)<;>(try obtain⟨_,_,_,rfl⟩:=hy)<;>rcases hb with⟨rfl,rfl⟩|⟨rfl,rfl⟩<;>simp only[binOp,Sem.run_bind,he,Result.andThen_ok,Sem.run_pure,abh]
 simp only[Sem.run_bind,hg,Result.andThen_ok,RI]
theorem ZM{N op t ox oy a b r x y}(h:uj P op t ox oy a b=some r)(hx:VR N a x)(hy:VR N b y) :
  ∃z,VR N r z/\(do eqGuard op t ox oy x y;binOp op t x y:Sem LI3).run P w=.ok z w:=by
 unfold uj at h;split at h
 .rename_i u v hu hv;split at h
  .rename_i z hz;have e1:=xk hu hx;have e2:=xk hv hy;subst e1;subst e2;exact⟨z,.zn h,jq hz w⟩
  .simp at h
 .split at h
  .rename_i hn;unfold Dj at hn;split at hn
   case h_2=>simp at hn
   rename_i k hk;have hxy:(Ib k x/\zq k y)\/(zq k x/\Ib k y):=by
    simp only[aag,a2K,a6E]at hn;rcases hn with⟨h1,h2⟩|⟨h1,h2⟩
    .exact .inl ⟨a1w h1 hx,Xj h2 hy⟩
    .exact .inr ⟨Xj h1 hx,a1w h2 hy⟩
   split at h
   .simp at h;subst h;exact⟨_,.bool false,a1x hk hxy false _ (.inl ⟨rfl,rfl⟩)⟩
   .simp at h;subst h;exact⟨_,.bool true,a1x hk hxy true _ (.inr ⟨rfl,rfl⟩)⟩
   .simp at h
  .simp at h
theorem ji{N op a r x}(h:unT P op a=some r)(hx:VR N a x):∃z,VR N r z/\(Op.unary op x).run P w=.ok z w:=by
 unfold unT at h;split at h
 .rename_i u hu;split at h
  .rename_i z hz;have e1:=xk hu hx;subst e1;exact⟨z,.zn h,jq hz w⟩
  simp at h
 simp at h
theorem V4{N t u a r x}(h:SE P t u a=some r)(hx:VR N a x):∃z,VR N r z/\(convert t u x).run P w=.ok z w:=by
 unfold SE at h;split at h
 .rename_i u hu;split at h
  .rename_i z hz;have e1:=xk hu hx;subst e1;exact⟨z,.zn h,jq hz w⟩
  simp at h
 simp at h
theorem zM{N mx at_ t az r xs}(h:Ez P mx at_ t az=some r)(hx:bZ N az xs) :∃z,VR N r z/\(if mx then Builtin.max_ at_ t xs.toArray else Builtin.min_ at_ t xs.toArray).run P w=.ok z w:=by
 unfold Ez at h;split at h
 .rename_i us hu;split at h
  .rename_i z hz;have e1:=a1v hu hx;subst e1;exact⟨z,.zn h,jq hz w⟩
  .simp at h
 .simp at h
theorem lS{n j v}(h:rP n v=some j):j<=n:=by
 unfold rP at h;split at h
 .split at h
  .simp at h;omega
  simp at h
 simp at h
theorem uD{N n j m v x code}(h:rP n v=some j)(hx:VR N v x)(hm:j<=m) :(Instr.sliceBound x m code).run P w=.ok j w:=by
 unfold rP at h;split at h
 .rename_i k i;split at h
  .rename_i hc;simp at h;subst h;cases hx;have:i<=(m:Int):=(by omega);simp[Instr.sliceBound,asIntOf,hc.1,this]
  .simp at h
 .simp at h
inductive OR(N:Np):Option TV->Option LI3->Prop
 |none:OR N none none
 |some {v:TV} {x:LI3} (h:VR N v x):OR N (some v) (some x)
theorem yM{N is len cap' n l0 hg lo hi ZN wR}(hl:OR N lo ZN)(hh:OR N hi wR)(h1:jM n len hi=some hg) (h2:jM hg 0 lo=some l0) (h3:hg<=cap'):(Instr.sliceBounds is len cap' ZN wR none).run P w=.ok (l0,hg,cap') w:=by
 cases hh with
 |none=>
  simp only[jM,a08]at h1;subst h1;cases hl with
  |none=>simp only[jM,a08]at h2;subst h2;simp[Instr.sliceBounds]
  |some hv=>simp only[jM]at h2;simp[Instr.sliceBounds,uD (P:=P) (w:=w) h2 hv (lS h2)]
 |some hv'=>
  simp only[jM]at h1;cases hl with
  |none=>simp only[jM,a08]at h2;subst h2;simp[Instr.sliceBounds,uD (P:=P) (w:=w) h1 hv' h3]
  |some hv=>simp only[jM]at h2;simp[Instr.sliceBounds,uD (P:=P) (w:=w) h1 hv' h3,uD (P:=P) (w:=w) h2 hv (lS h2)]
theorem Gt{N is len cap' n k l0 hg m lo hi mx ZN wR mx'}(hl:OR N lo ZN)(hh:VR N hi wR)(hm:VR N mx mx')(h0:rP k mx=some m) (h1:rP n hi=some hg) (h2:jM hg 0 lo=some l0) (h3:hg<=m) (h4:m<=cap'):(Instr.sliceBounds is len cap' ZN (some wR) (some mx')).run P w=.ok (l0,hg,m) w:=by
 have r1:=fun code=>uD (P:=P) (w:=w) (code:=code) h0 hm h4;have r2:=fun code=>uD (P:=P) (w:=w) (code:=code) h1 hh h3;cases hl with
 |none=>simp only[jM,a08]at h2;subst h2;simp[Instr.sliceBounds,r1,r2]
 |some hv=>simp only[jM]at h2;simp[Instr.sliceBounds,r1,r2,uD (P:=P) (w:=w) h2 hv (lS h2)]
theorem OL{N t v r lo hi mx x ZN wR mx'}(h:rQ P t v lo hi mx=some r)(hx:VR N v x)(hl:OR N lo ZN) (hh:OR N hi wR) (hm:OR N mx mx'):∃z,VR N r z/\(Instr.sliceAt t x ZN wR mx').run P w=.ok z w:=by
 unfold rQ at h;split at h
 .
  rename_i bs hu;split at h
  .simp at h
  .cases hm;split at h
   .rename_i h0 iC;split at h
    .rename_i l0 qY;simp at h;subst h;cases hx;refine⟨_,.str _,?_⟩;have hle:h0<=bs.size:=by
      cases hi with
      |none=>simp only[jM,a08]at iC;omega
      |some v=>simp only[jM]at iC;exact lS iC
     have e1:=yM (P:=P) (w:=w) (is:=false) (cap':=bs.size) hl hh iC qY hle;simp[Instr.sliceAt,Instr.slice,run_underlying hu,e1]
    .simp at h
   .simp at h
 .
  rename_i e b off len cap sz ex hu;split at h
  .rename_i n hn;split at h
   case isFalse=>simp at h
   rename_i qX;subst qX;cases hx with
   |aO hb hp yB hle tZ hex ha hk=>
    rename_i ls p a cap';have fin:∀(l hgh m:Nat) (ex':Bool),l<=hgh->hgh<=len->hgh<=m->m<=cap'->(m':Nat)->m'<=m->m'<=cap->hgh<=m'->(ex'=true->m=m') ->
      VR N (.aO b (off+l*n) (hgh-l) (m'-l) n ex') (.slice (if m=l then some a else(some a).map (·.add (l*n))) (hgh-l) (m-l)):=by
     intro l hgh m ex' h1 h2 h3 h4 m' h5 h5' h6 h7;have hmul:l*n+(hgh-l)*n=hgh*n:=by rw[<-a4p];congr 1;omega
     have ada:m'*n<=cap*n:=a3X n h5';have atC:l*n+(m'-l)*n=m'*n:=by rw[<-a4p];congr 1;omega
     have Ci:(if m=l then some a else(some a).map (·.add (l*n)))=some (if m=l then a else a.add (l*n)):=by split<;>rfl
     rw[Ci];refine .aO hb (hp.imp (fun e=>by omega) id) (by omega) (by omega) (by omega) (fun e=>by have:=h7 e;omega) ?_ (by omega);by_cases hml:m=l
     .left;omega
     .right;rcases ha with ha|⟨rfl,ha⟩
      .omega
      .rw[a0U hml,vG];have atD:l*n+(m-l)*n=m*n:=by rw[<-a4p];congr 1;omega
       have atE:m*n<=cap'*n:=a3X n h4;exact⟨by rw[aar],by omega⟩
    split at h
    .rename_i m0;cases hm with
     |some RJ=>
      split at h
      .rename_i m h0 hm1;split at h
       .rename_i hg yC;split at h
        .rename_i l0 qY;simp at h;subst h;cases hh with
         |some hhv=>
          have b1:=lS hm1;have b2:=lS yC;have b3:l0<=hg:=by
           cases lo with
           |none=>simp only[jM,a08]at qY;omega
           |some v=>simp only[jM]at qY;exact lS qY
          have e1:=Gt (P:=P) (w:=w) (is:=true) (len:=len) (cap':=cap') hl hhv RJ hm1 yC qY (by omega) (by omega);exact⟨_,fin l0 hg m true b3 (by omega) (by omega) (by omega) m (by omega) (by omega) (by omega) (fun _=>rfl),by simp[Instr.sliceAt,Instr.slice,run_underlying hu,e1,cZ hn]⟩
        .simp at h
       .simp at h
      .simp at h
    .cases hm;split at h
     .rename_i hg iC;split at h
      .rename_i l0 qY;simp at h;subst h;have hgl:hg<=len:=by
        cases hi with
        |none=>simp only[jM,a08]at iC;omega
        |some v=>simp only[jM]at iC;exact lS iC
       have hlg:l0<=hg:=by
        cases lo with
        |none=>simp only[jM,a08]at qY;omega
        |some v=>simp only[jM]at qY;exact lS qY
       refine⟨_,fin l0 hg cap' ex hlg hgl (by omega) (by omega) cap tZ (by omega) (by omega) hex,?_⟩;have e1:=yM (P:=P) (w:=w) (is:=true) (cap':=cap') hl hh iC qY (by omega);simp[Instr.sliceAt,Instr.slice,run_underlying hu,e1,cZ hn]
      .simp at h
     .simp at h
  .simp at h
 .
  rename_i e hu;split at h
  .rename_i x0 x1 x2 x3 hn SN iC qY;split at h
   .simp at h
   .rename_i hg;simp at h;subst h;cases hx;refine⟨_,.UW,?_⟩;have z1:∀{o:Option TV} {k:Nat},jM 0 0 o=some k->k=0:=fun{o k} e=>by
     cases o with
     |none=>simp only[jM,a08]at e;omega
     |some v=>simp only[jM]at e;have:=lS e;omega
    have e2:=z1 iC;subst e2;have e3:=z1 qY;subst e3;have e1:(Instr.sliceBounds true 0 0 ZN wR mx').run P w=.ok (0,0,0) w:=by
     cases hm with
     |none=>exact yM hl hh iC qY (by omega)
     |some RJ=>
      have e4:=z1 SN;subst e4;cases hh with
      |none=>simp at hg
      |some hhv=>exact Gt hl hhv RJ SN iC qY (by omega) (by omega)
    simp[Instr.sliceAt,Instr.slice,run_underlying hu,e1,cZ hn]
  .simp at h
 .simp at h
theorem Dv{t e r lo hi mx x ZN wR mx'}(h:qU P t e lo hi mx=some r)(hx:ER M e x)(hl:OR M.h lo ZN) (hh:OR M.h hi wR) (hm:OR M.h mx mx'):∃z,VR M.h r z/\(Instr.sliceAt t x ZN wR mx').run P w=.ok z w:=by
 unfold qU at h;split at h
 .rename_i n el b off lim hu;split at h
  .rename_i size hn;split at h
   .simp at h
   .rename_i hc;cases hx with
    |val hx=>
    cases hx with
    |ptr hb hp yB apk=>
    rename_i ls p;split at h
    .rename_i m SN;split at h
     .rename_i hg iC;split at h
      .rename_i l0 qY;split at h
       .simp at h
       .rename_i hs;simp at h;subst h;have hmn:m<=n:=by
         cases mx with
         |none=>simp only[jM,a08]at SN;omega
         |some v=>simp only[jM]at SN;exact lS SN
        have hgm:hg<=m:=by
         cases hi with
         |none=>
          cases mx with
          |some v=>simp at hs
          |none=>simp only[jM,a08]at iC SN;omega
         |some v=>simp only[jM]at iC;exact lS iC
        have hlg:l0<=hg:=by
         cases lo with
         |none=>simp only[jM,a08]at qY;omega
         |some v=>simp only[jM]at qY;exact lS qY
        have e1:(Instr.sliceBounds false n n ZN wR mx').run P w=.ok (l0,hg,m) w:=by
         cases hm with
         |none=>
          simp only[jM,a08]at SN;subst SN;exact yM hl hh iC qY (by omega)
         |some RJ=>
          cases hh with
          |none=>simp at hs
          |some hhv=>
           simp only[jM]at SN iC;exact Gt hl hhv RJ SN iC qY (by omega) hmn
        have m1:l0*size+(hg-l0)*size=hg*size:=by rw[<-a4p];congr 1;omega
        have m2:l0*size+(m-l0)*size=m*size:=by rw[<-a4p];congr 1;omega
        have m3:hg*size<=n*size:=a3X size (by omega);have m4:m*size<=n*size:=a3X size (by omega);refine⟨.slice (some (if m=l0 then(⟨p.c,p.base+off,none⟩:Addr)else(⟨p.c,p.base+off,none⟩:Addr).add (l0*size))) (hg-l0) (m-l0),?_,?_⟩
        .refine .aO hb (.inr hp) (by omega) (by omega) (by omega) (fun _=>rfl) ?_ (by omega);by_cases hml:m=l0
         .left;omega
         .right;rw[a0U hml,vG];exact⟨by rw[aar],by omega⟩
        .simp[Instr.sliceAt,run_underlying hu,Instr.sureAddr,e1,cZ hn]
      .simp at h
     .simp at h
    .simp at h
  .simp at h
 .simp at h
theorem pI(z):∀n,(times z n).length=n*z.length
 | 0=>by simp[times]
 |n+1=>by simp[times,pI z n,a4p,Nat.add_comm]
theorem SQ(z)(hz:0<z.length):∀(n i),i<n*z.length->(times z n)[i]? = z[i%z.length]?
 | 0,i,h=>by simp at h
 |n+1,i,h=>by
  simp only[times];by_cases hi:i<z.length
  .rw[a0Q hi,Nat.mod_eq_of_lt hi]
  rw[a1y (by omega),SQ z hz n (i-z.length) (by rw[a4p]at h;omega)];congr 1;rw[Nat.mod_eq_sub_mod (a:=i) (by omega)]
theorem JO{z}(h:∀c∈z,iM c=true):∀n,∀c∈times z n,iM c=true
 | 0=>by simp[times]
 |n+1=>by
  intro c hc;simp only[times,a3N]at hc;rcases hc with hc|hc
  .exact h c hc
  exact JO h n c hc
theorem Xk{N z}{x:Array LI3}(h:bZ N z x.toList)(n m)(hm:m=n*z.length) :bZ N (times z n) ((Array.range m).map (x[·%x.size]!)).toList:=by
 have hl:=h.len;simp only[a8Q]at hl;refine⟨by simp[pI,hm],fun i c v a b=>?_⟩;have hi:i<n*z.length:=by have:=(a0w.1 a).1;rwa [pI]at this
 have hz:0<z.length:=by
  rcases abL z.length with e|e
  .rw[e]at hi;simp at hi
  .exact e
 rw[SQ z hz n i hi]at a;have ajf:i%x.size<x.size:=Nat.mod_lt _ (by omega);have hb:v=x[i%x.size]:=by rw[aeV,Array.getElem?_map]at b;simp only[Array.getElem?_range]at b;rw[a18 (by omega)]at b;simp only[a1t,a08]at b;rw[<-b,getElem!_pos x _ ajf]
 rw[hl]at a;exact h.at_ (i%x.size) c v a (by simp[hb,ajf])
theorem rX{t e n}(h:jT P t=some (e,n)):P.underlying t=some (.slice e)/\dH P e=some n/\0<n:=by
 unfold jT at h;split at h
 .rename_i e' hu;split at h
  .rename_i n' hn;split at h
   .simp at h
   simp at h;obtain⟨rfl,rfl⟩:=h;exact⟨hu,hn,by omega⟩
  simp at h
 simp at h
theorem SS{place}:∀{ps} {cs r:List TV},ug place cs ps=some r->r.length=cs.length
 | [],cs,r,h=>by simp[ug]at h;rw[h]
 |(i,v)::ps,cs,r,h=>by
  simp only[ug]at h;split at h
  .split at h
   .split at h
    .rename_i cs' ho;rw[SS h,(wS ho).2.2]
    simp at h
   simp at h
  simp at h
theorem SV{place}:∀{ps} {cs r:List TV},ug place cs ps=some r->(∀c∈cs,iM c=true) ->(∀p∈ps,∀c∈p.2.cells,iM c=true)->∀c∈r,iM c=true
 | [],cs,r,h,h1,_=>by simp[ug]at h;subst h;exact h1
 |(i,v)::ps,cs,r,h,h1,h2=>by
  simp only[ug]at h;split at h
  .split at h
   .split at h
    .rename_i cs' ho;exact SV h (Xf ho h1 (h2 (i,v) (by simp))) (fun p hp=>h2 p (by simp[hp]))
    .simp at h
   .simp at h
  .simp at h
theorem uU{t len ps qs r s1}(hV:Valid M D s.get w)(zL:M (.h s.heap.length)=none)(h:qV P t len s ps=some (r,s1)) (hq:PR M.h ps qs) :s1.env=s.env/\∃x w' M',(Instr.buildSlice t len qs.toArray).run P w=.ok x w'/\OC M D s.get w (.val r) s1.get [] x w' M':=by
 unfold qV at h;split at h
 case h_2=>simp at h
 rename_i e n zu;obtain⟨hu,hn,Xl⟩:=rX zu;split at h
 case isFalse=>simp at h
 rename_i hc;obtain⟨hc1,LY⟩:=hc;split at h
 case h_2=>simp at h
 rename_i z hz;split at h
 case isFalse=>simp at h
 rename_i Xm;split at h
 case h_2=>simp at h
 rename_i cs hf;simp at h;obtain⟨rfl,rfl⟩:=h;obtain⟨i,x,v,_,_,_,_,hz1,hvr,hzr⟩:=xu hz;have hx0:=(hvr M.h).len;simp only[a8Q]at hx0;have ht:=Xk (hvr M.h) len (len*n) (by rw[Xm]);obtain⟨uz,g1,g2⟩:=Nz (place':=fun i=>some (i*n,n)) (fun i x hx=>hx) hf hq ht;have vV:∀c∈cs,iM c=true:=SV hf (JO hz1 len) (fun p hp=>by have:=a5L.1 LY p hp;exact NC this)
 have hlen:cs.length=uz.size:=by have:=g2.len;simpa using this
 have nV:cs.length=len*n:=by rw[SS hf,pI,Xm]
 have zy:s.get (.h s.heap.length)=none:=by simp[St.get]
 have JF:∀(i:Nat) (c:TV) (v:LI3),cs[i]? = some c->uz[i]? = some v->VR M.h c v:=fun i c v a b=>g2.at_ i c v a (by simpa using b);have fQ:=OE hV e zL zy (ahK hlen) JF vV;refine⟨rfl,.slice (some ⟨w.heap.size,0,none⟩) len len,w.alloc (.cells uz e),dM M (.h s.heap.length) (.cells [⟨w.heap.size,0,cs.length,uz.size⟩]),?_,⟨?_,?_,?_,rW zL⟩⟩
 .have hle:¬(len*n>2^24):=by omega
  by_cases h0:len*n=0
  .have apm:cs=[]:=a4D (by omega);have g1':Instr.fill (fun i=>some (i*n,n)) ((Array.range (len*n)).map ((#[]:Array LI3)[·%(#[]:Array LI3).size]!)) qs=some uz:=by rw[h0]at g1 ⊢;have e0:Array.range 0=#[]:=rfl;rw[e0]at g1 ⊢;simpa using g1
   simp only[Instr.buildSlice,Sem.run_bind,run_underlying hu,Result.andThen_ok,cZ hn];rw[a0U hle,a18 h0];simp only[Sem.run_pure,Sem.run_bind,Result.andThen_ok,g1',newRow,run_newObj,World.alloc]
  .simp only[Instr.buildSlice,Sem.run_bind,run_underlying hu,Result.andThen_ok,cZ hn];rw[a0U hle,a0U h0];simp only[Sem.run_pure,Sem.run_bind,Result.andThen_ok,hzr w,g1,newRow,run_newObj,World.alloc]
 .rw[kQ];exact fQ.1
 .rw[kQ];exact fQ.2
 .have hlb:len<2^63:=by have:=Nat.le_mul_of_pos_right len (show 0<n by omega);omega
  refine .val (.aO (ls:=[⟨w.heap.size,0,cs.length,uz.size⟩]) (p:=⟨w.heap.size,0,cs.length,uz.size⟩) (by simp[Mp.h,dM]) (by simp) (by simp[nV]) (a1p _) (a1p _) (fun _=>rfl) (.inr ⟨by simp,by simp;omega⟩) hlb)
theorem a1B{i}(h0:0<=i)(h1:i<=2^40):i64.wrap i=i:=by have h2:i%(2^64:Int)=i:=a9b h0 (by omega);simp only[IntKind.wrap,IntKind.bits,IntKind.signed,h2];rw[a0U];simp only[aei,a1F,ge_iff_le];omega
theorem SX{N v n x}(h:a3C v=some n)(hx:VR N v x):∃k i,x=.int k i/\0<=i/\i<=2^40/\n=i.toNat:=by
 unfold a3C at h;split at h
 .split at h
  .rename_i k i hc;simp at h;subst h;cases hx;exact⟨k,i,rfl,hc.1,hc.2,rfl⟩
  simp at h
 simp at h
theorem AV{e n}(h:uS P e n=true):∃i x,P.info? e=some i/\i.zero=some x/\x.cells.size=i.size/\n*i.bytes<=2^40/\n<=2^40/\i.bytes<=2^20/\0<i.bytes:=by
 unfold uS at h;split at h
 .rename_i i hi;simp only[a2K,a1F]at h;obtain⟨⟨⟨⟨h1,h2⟩,h3⟩,h4⟩,h5⟩:=h;unfold a5Z at h5;split at h5
  .rename_i x hx;exact⟨i,x,hi,hx,by simpa using h5,h1,h2,h3,h4⟩
  simp at h5
 simp at h
theorem AX{t a b r x y s1}(hV:Valid M D s.get w)(zL:M (.h s.heap.length)=none)(h:um P t s a b=some (r,s1)) (hx:VR M.h a x) (hy:VR M.h b y) :s1.env=s.env/\∃z w' M',(Instr.makeSlice t x y).run P w=.ok z w'/\OC M D s.get w (.val r) s1.get [] z w' M':=by
 unfold um at h;split at h
 case h_2=>simp at h
 rename_i e n l c zu hl hc;obtain⟨hu,hn,Xl⟩:=rX zu;obtain⟨_,li,rfl,l0,l1,rfl⟩:=SX hl hx;obtain⟨_,ci,rfl,c0,c1,rfl⟩:=SX hc hy;split at h
 case isFalse=>simp at h
 rename_i FW;obtain⟨ZO,xC⟩:=FW;obtain⟨i,zx,hi,hzx,hzs,CU,yN,hb3,hb4⟩:=AV xC;split at h
 case h_2=>simp at h
 rename_i z hz;split at h
 case isFalse=>simp at h
 rename_i Xm;simp at h;obtain⟨rfl,rfl⟩:=h;obtain⟨i',x,v,wR,Gu,_,_,hz1,hvr,hzr⟩:=xu hz;rw[hi]at wR;cases wR;have ht:=Xk (hvr M.h) ci.toNat (ci.toNat*n) (by rw[Xm])
 let arr:Array LI3:=(Array.range (ci.toNat*n)).map (x.cells[·%x.cells.size]!)
 have hlen:(times z ci.toNat).length=arr.size:=by have:=ht.len;simpa[arr]using this
 have nV:(times z ci.toNat).length=ci.toNat*n:=by rw[pI,Xm]
 have zy:s.get (.h s.heap.length)=none:=by simp[St.get]
 have JF:∀(i:Nat) (c:TV) (v:LI3),(times z ci.toNat)[i]? = some c->arr[i]? = some v->VR M.h c v:=fun i c v a b=>ht.at_ i c v a (by rw[aeV];exact b);have fQ:=OE hV e zL zy (ahK hlen) JF (JO hz1 _);have hmul:(li.toNat)*n<=ci.toNat*n:=a3X n ZO;refine⟨rfl,.slice (some ⟨w.heap.size,0,none⟩) li.toNat ci.toNat,w.alloc (.cells arr e),dM M (.h s.heap.length) (.cells [⟨w.heap.size,0,(times z ci.toNat).length,arr.size⟩]),?_,⟨?_,?_,?_,rW zL⟩⟩
 .have hwl:=a1B l0 l1;have hwc:=a1B c0 c1;have Fz:¬((i.bytes:Int)*ci>2^48):=by
   have e1:(ci.toNat*i.bytes:Nat)<=2^40:=CU;have e2:((i.bytes:Int)*ci)=((ci.toNat*i.bytes:Nat):Int):=by rw[Nat.mul_comm,afi,ait c0]
   omega
  simp only[Instr.makeSlice,Sem.run_bind,run_underlying hu,Result.andThen_ok,asInt,asIntOf,Sem.run_pure,jk hi,hwl,hwc];rw[a0U (by simp;exact⟨⟨⟨c0,by omega⟩,l0⟩,by omega⟩)];simp only[Sem.run_bind,run_askRoom,Result.andThen_ok,cZ hn];by_cases h0:ci.toNat*n=0
  .rw[a18 h0];have e0:arr=#[]:=Array.eq_empty_of_size_eq_zero (by omega);have e1:(Array.range (ci.toNat*n)).map ((#[]:Array LI3)[·%(#[]:Array LI3).size]!)=#[]:=by rw[h0];have e0:Array.range 0=#[]:=rfl;rw[e0];simp
   simp only[Sem.run_pure,Result.andThen_ok,e1,newRow,Sem.run_bind,run_newObj,World.alloc,e0]
  .rw[a0U h0];simp only[Sem.run_bind,hzr w,Sem.run_pure,Result.andThen_ok,newRow,run_newObj,World.alloc,arr]
 .rw[kQ];exact fQ.1
 .rw[kQ];exact fQ.2
 .refine .val (.aO (ls:=[⟨w.heap.size,0,(times z ci.toNat).length,arr.size⟩]) (p:=⟨w.heap.size,0,(times z ci.toNat).length,arr.size⟩) (by simp[Mp.h,dM]) (by simp) (by simp[nV]) ZO (a1p _) (fun _=>rfl) (.inr ⟨by simp,by simp;omega⟩) (by omega))
theorem ZP{at_ t v r i x}(hV:Valid M D s.get w)(h:ZC P at_ s.heap v=some (r,i))(hx:VR M.h v x)(hD:∀k∈i.ts,D k) :i.ws=[]/\∃z,VR M.h r z/\(Builtin.len_ at_ t #[x]).run P w=.ok z w:=by
 unfold ZC at h;split at h
 case h_2=>simp at h
 rename_i t0 ht0;split at h
 .rename_i b hu;simp at h;obtain⟨rfl,rfl⟩:=h;cases hx;exact⟨rfl,_,.int _ _,by simp[Builtin.len_,ht0,run_underlying hu,goInt]⟩
 .rename_i n el _ hu;simp at h;obtain⟨rfl,rfl⟩:=h;exact⟨rfl,_,.int _ _,by simp[Builtin.len_,ht0,run_underlying hu,goInt]⟩
 .rename_i el b off len cap sz ex hu;simp at h;obtain⟨rfl,rfl⟩:=h;cases hx;exact⟨rfl,_,.int _ _,by simp[Builtin.len_,ht0,run_underlying hu,goInt]⟩
 .rename_i el hu;simp at h;obtain⟨rfl,rfl⟩:=h;cases hx;exact⟨rfl,_,.int _ _,by simp[Builtin.len_,ht0,run_underlying hu,goInt]⟩
 .rename_i k el hu;simp at h;obtain⟨rfl,rfl⟩:=h;cases hx;exact⟨rfl,_,.int _ _,by simp[Builtin.len_,ht0,run_underlying hu,goInt]⟩
 .rename_i k el r0 hu;split at h
  .rename_i es he;simp at h;obtain⟨rfl,rfl⟩:=h;cases hx with
   |map hm=>
    obtain⟨gJ,h1,h2⟩:=hV.ok _ _ hm (hD _ (by simp[yx]));simp only[St.get,he,a08]at h1;subst h1;obtain⟨xs,g1,g2⟩:=h2;have g2:=g2.len;refine⟨rfl,_,.int _ _,?_⟩;simp[Builtin.len_,ht0,run_underlying hu,goInt,getObj,Sem.run,g1,g2]
  .simp at h
 .simp at h
theorem Dw{C size n v l x h}(hh:∀b,C (.h b)=h[b]?)(hV:Valid M D C w)(hs:dZ size h v=some (n,l))(hx:VR M.h v x)(hD:∀k∈dn v,D k) :(Builtin.lenOf x).run P w=.ok n w/\(∀c∈l,iM c=true)/\∃arr,(∀w',w'.heap=w.heap->(Builtin.firstCells size n x).run P w'=.ok arr w')/\bZ M.h l arr.toList:=by
 unfold dZ at hs;split at hs
 .simp at hs;obtain⟨rfl,rfl⟩:=hs;cases hx;exact⟨by simp[Builtin.lenOf],by simp,#[],fun w' _=>by simp[Builtin.firstCells],.nil⟩
 .rename_i b off len cap sz ex;split at hs
  .rename_i qX;subst qX;split at hs
   .rename_i hz;subst hz;simp at hs;obtain⟨rfl,rfl⟩:=hs;cases hx with
    |aO hm hp yB hle tZ hex ha hk=>
     exact⟨by simp[Builtin.lenOf],by simp,#[],fun w' _=>by simp[Builtin.firstCells,loadCells,loadCellsFrom],.nil⟩
   split at hs
   .rename_i cs hb;simp only[a0z,a1n]at hs;obtain⟨r,hr,rfl,rfl⟩:=hs;cases hx with
    |aO hm hp yB hle tZ hex ha hk=>
     rename_i ls p a cap';obtain⟨k,hk,Xi⟩:=yK hb;obtain⟨gJ,h1,h2⟩:=hV.ok _ _ hm (hD _ (by simp[dn]));rw[hh,hk]at h1;cases h1;obtain⟨g1,g2,_⟩:=h2;obtain⟨s1,s2,s3⟩:=oC hr;refine⟨by simp[Builtin.lenOf],fun c hc=>g1 c (by rw[s2]at hc;exact a5X (aa8 hc)),?_⟩;by_cases h0:cap'=0
     .have qY:len=0:=(by omega);subst qY;have:r=[]:=a4D (by rw[s3];simp);subst this;exact⟨#[],fun w' _=>by simp[Builtin.firstCells,loadCells,loadCellsFrom],.nil⟩
     .rcases ha with ha|⟨rfl,ha⟩
      .exact absurd ha h0
      .obtain⟨xs,x1,x2⟩:=zo (P:=P) (g2 p (hp.resolve_left h0)) hr (by have:=a3X sz hle;omega) (fun e=>by have:=Xi e;have:=(g2 p (hp.resolve_left h0)).ext;omega);exact⟨xs.toArray,fun w' hw'=>by simp[Builtin.firstCells,x2 w' hw'],x1⟩
   .simp at hs
  .simp at hs
 .rename_i bs;split at hs
  .rename_i qX;simp at hs;obtain⟨rfl,rfl⟩:=hs;cases hx;refine⟨by simp[Builtin.lenOf],by simp[iM],(bs.extract 0 bs.size).data.map fun b=>.int .u8 b.toNat,fun w' _=>rfl,?_⟩;refine⟨by simp,fun i c v a b=>?_⟩;simp only[a5F,a0z]at a;obtain⟨y,hy,rfl⟩:=a;rw[show bs.extract 0 bs.size=bs from by simp]at b;simp only[Array.toList_map,a5F,hy,a1t,a08]at b;rw[<-b];exact .int _ _
  .simp at hs
 .simp at hs
theorem V5{size n b off len cap sz ex l h}(hs:dZ size h (.aO b off len cap sz ex)=some (n,l)):sz=size/\n=len/\l.length=len*size:=by
 simp only[dZ]at hs;split at hs
 .rename_i hz;split at hs
  .rename_i h0;cases hs;exact⟨hz,h0.symm,by simp[h0]⟩
  split at hs
  .simp only[a0z,a1n]at hs;obtain⟨r,hr,rfl,rfl⟩:=hs;exact⟨hz,rfl,(oC hr).2.2⟩
  cases hs
 cases hs
theorem SY(N):∀(r c),c<=2*N+192->Builtin.growBy N r c<=2*N+192
 | 0,c,h=>by simpa[Builtin.growBy]using h
 |r+1,c,h=>by
  simp only[Builtin.growBy];split
  .exact h
  exact SY N r _ (by omega)
theorem ZQ{need c}(h:c<need):Builtin.nextslicecap need c<=2*need+192:=by
 unfold Builtin.nextslicecap;split
 .omega
 split
 .omega
 exact SY need 4 c (by omega)
theorem aas{need c b}(h:c<need)(h1:need*b<=2^40)(h2:b<=2^20):¬(Builtin.nextslicecap need c*b>2^48):=by
 have e1:=ZQ h;have e2:Builtin.nextslicecap need c*b<=(2*need+192)*b:=a3X b e1;have e3:(2*need+192)*b=2*(need*b)+192*b:=by rw[a4p,Nat.mul_assoc]
 omega
theorem xE(z n):(Builtin.zeroCells z n).size=n*z.size:=by simp[Builtin.zeroCells]
def xG:TypeDesc->Bool
 |.int _=>true
 |_=>false
theorem ZR{t}(h:¬(UQ P t||(P.underlying t).isNone)=true):∃d,P.underlying t=some d/\xG d=false:=by
 simp only[aag,adk,af6]at h;obtain⟨h1,h2⟩:=h;cases hu:P.underlying t with
 |none=>simp[hu]at h2
 |some d=>
  refine⟨d,rfl,?_⟩;unfold UQ at h1;rw[hu]at h1;cases d<;>simp_all [xG]
theorem Gv{at_ st xt e size n sLen sCap i z sv xv base d old new ty}(h0:at_[0]? = some st) (h1:at_[1]? = some xt) (hu:P.underlying st=some (.slice e)) (hn:dH P e=some size) (Ic:P.underlying xt=some d) (hd:xG d=false)(hi:P.info? e=some i) (hz:i.zero=some z) (hsv:sv=.slice base sLen sCap)(hl:(Builtin.lenOf xv).run P w=.ok n w) (tZ:sCap<sLen+n) (CU:(sLen+n)*i.bytes<=2^40) (yN:sLen+n<=2^40) (hb3:i.bytes<=2^20)(hold:∀w',w'.heap=w.heap->(Builtin.firstCells size sLen sv).run P w'=.ok old w') (fQ:∀w',w'.heap=w.heap->(Builtin.firstCells size n xv).run P w'=.ok new w') :∃lu,sLen+n<=lu/\lu<2^63/\(Builtin.append_ at_ ty #[sv,xv]).run P w=.ok (.slice (some ⟨w.heap.size,0,none⟩) (sLen+n) lu) (w.drew.alloc (.cells (old++new++Builtin.zeroCells z.cells (lu-(sLen+n))) e)):=by
 subst hsv;refine⟨(Question.appendCap (sLen+n) sCap e).cut (w.tape w.drawn (.appendCap (sLen+n) sCap e)),by simp[Question.cut],?_,?_⟩
 .have:=Nat.mod_lt (w.tape w.drawn (.appendCap (sLen+n) sCap e)) (show 0<2^63-(sLen+n) by omega);simp only[Question.cut];omega
 have hz':∀w,(zeroValue e).run P w=.ok z w:=fun w=>by simp[zeroValue,jk hi,hz]
 have hq:(Question.appendCap (sLen+n) sCap e).forced=false:=rfl;have hle:¬(sLen+n<=sCap):=by omega
 have Fz:¬(((sLen+n:Nat):Int)>i64.max):=by have:i64.max=2^63-1:=rfl;rw[this];omega
 have xC:=aas tZ CU hb3;have e1:=hold w.drew rfl;have e2:=fQ w.drew rfl;unfold Builtin.append_;simp only[aeS,a3H,aax,h0,h1];simp only[Sem.run_bind,run_underlying hu,Result.andThen_ok,cZ hn,run_underlying Ic,Sem.run_pure];rw[a0U (by cases d<;>simp_all [xG])];simp only[Sem.run_bind,hl,Result.andThen_ok];rw[a0U hle];simp only[Sem.run_bind,jk hi,Result.andThen_ok];rw[a0U (fun h=>Fz h.1)];simp only[Sem.run_bind,jk hi,Result.andThen_ok];rw[a0U xC];simp only[Sem.run_bind,Sem.run_pure,run_choose,hq,a3F,a3V,Result.andThen_ok,jk hi,run_askRoom,World.drew_eq,e1];rw[a18 (by cases d<;>simp_all [xG])];simp only[Sem.run_bind,Sem.run_pure,Result.andThen_ok,e2,hz',newRow,run_newObj,World.size_drew,World.alloc_eq]
theorem Tc{at_ st xt e size n sLen sCap a sv xv d new ty w'}(h0:at_[0]? = some st) (h1:at_[1]? = some xt) (hu:P.underlying st=some (.slice e)) (hn:dH P e=some size) (Ic:P.underlying xt=some d) (hd:xG d=false)(hsv:sv=.slice (some a) sLen sCap) (hl:(Builtin.lenOf xv).run P w=.ok n w) (tZ:sLen+n<=sCap)(fQ:(Builtin.firstCells size n xv).run P w=.ok new w) (vH:(storeCells (a.add (sLen*size)) new.toList).run P w=.ok () w') :(Builtin.append_ at_ ty #[sv,xv]).run P w=.ok (.slice (some a) (sLen+n) sCap) w':=by
 subst hsv;unfold Builtin.append_;simp only[aeS,a3H,aax,h0,h1];simp only[Sem.run_bind,run_underlying hu,Result.andThen_ok,cZ hn,run_underlying Ic,Sem.run_pure];rw[a0U (by cases d<;>simp_all [xG])];simp only[Sem.run_bind,hl,Result.andThen_ok];rw[a18 tZ];rw[a18 (by cases d<;>simp_all [xG])];simp only[Sem.run_bind,fQ,Result.andThen_ok,vH,Sem.run_pure]
theorem Xn{at_ st xt e size sLen sCap base sv xv d new ty}(h0:at_[0]? = some st) (h1:at_[1]? = some xt) (hu:P.underlying st=some (.slice e)) (hn:dH P e=some size) (Ic:P.underlying xt=some d) (hd:xG d=false)(hsv:sv=.slice base sLen sCap) (hl:(Builtin.lenOf xv).run P w=.ok 0 w) (tZ:sLen<=sCap)(fQ:(Builtin.firstCells size 0 xv).run P w=.ok new w) (iI:new.toList=[]) :(Builtin.append_ at_ ty #[sv,xv]).run P w=.ok sv w:=by
 subst hsv;unfold Builtin.append_;simp only[aeS,a3H,aax,h0,h1];simp only[Sem.run_bind,run_underlying hu,Result.andThen_ok,cZ hn,run_underlying Ic,Sem.run_pure];rw[a0U (by cases d<;>simp_all [xG])];simp only[Sem.run_bind,hl,Result.andThen_ok];rw[a18 (by omega)];rw[a18 (by cases d<;>simp_all [xG])];simp only[Sem.run_bind,fQ,Result.andThen_ok];cases base<;>simp[iI,storeCells]
def BOk(P:LI1)(M:Mp)(D:Key->Prop)(C:Ct)(w:LI4)(c:Sem LI3)(v:TV)(C1:Ct)(ws:List Key):Prop:=
 ∃x w' M',c.run P w=.ok x w'/\OC M D C w (.val v) C1 ws x w' M'
theorem Ext.drew'{M0 C0 w0 M C w ws}(h:Ext M0 C0 w0.drew M C w ws):Ext M0 C0 w0 M C w ws:=
 ⟨h.JE,h.frame,h.o9,h.kP,h.fresh,h.size,h.has,h.wsub,h.wrote,h.os,h.output,h.tape⟩
theorem bZ.V6{N l}{arr:Array LI3}(h:bZ N l arr.toList){i:Nat}{c v}(a:l[i]? = some c)(b:arr[i]? = some v):VR N c v:=
 h.at_ i c v a (by rw[aeV];exact b)
theorem OM(hV:Valid M D s.get w)(zL:M (.h s.heap.length)=none){cs pre rest e}(hx:bZ M.h cs pre.toList)(hn:∀c∈cs,iM c=true){len lu size} (JQ:cs.length=len*size) (hle:len<=lu) (hk:lu<2^63) (OO:rest.size=(lu-len)*size) :∃M',OC M D s.get w (.val (.aO s.heap.length 0 len len size false)) (St.get { s with heap:=s.heap++[.cells .own cs] }) [] (.slice (some ⟨w.heap.size,0,none⟩) len lu) (w.drew.alloc (.cells (pre++rest) e)) M':=by
 have zy:s.get (.h s.heap.length)=none:=by simp[St.get]
 have AQ:pre.size=cs.length:=by have:=hx.len;simp at this;omega
 have apk:(pre++rest).size=lu*size:=by
  have:len*size+(lu-len)*size=lu*size:=by rw[<-a4p];congr 1;omega
  simp;omega
 have hmul:len*size<=lu*size:=a3X size hle;have ZT:Valid M D s.get w.drew:=hV.of_heap rfl;have fQ:=OE ZT (cs:=cs) (arr:=pre++rest) e zL zy (by omega) (fun i c v a b=>by have hi:=(a0w.1 a).1;rw[aaS (by omega)]at b;exact hx.V6 a b) hn
 refine⟨dM M (.h s.heap.length) (.cells [⟨w.heap.size,0,cs.length,(pre++rest).size⟩]),⟨?_,?_,?_,rW zL⟩⟩
 .rw[kQ];exact fQ.1
 .rw[kQ];exact fQ.2.drew'
 .exact .val (.aO (ls:=[⟨w.heap.size,0,cs.length,(pre++rest).size⟩]) (p:=⟨w.heap.size,0,cs.length,(pre++rest).size⟩) (by simp[Mp.h,dM]) (by simp) (by simp[JQ]) (a1p _) hle (fun h=>by simp at h) (.inr ⟨by simp,by simp only[a3O];omega⟩) hk)
theorem FX:∀{ls:List Pl},(ls.map (·.c)).Nodup->∀{p q},p∈ls->q∈ls->q.c=p.c->q=p
 | [],_,p,q,hp,_,_=>by simp at hp
 |a::ls,h,p,q,hp,hq,e=>by
  simp only[a4W,a5I]at h;rcases a1G.1 hp with h1|h1<;>rcases a1G.1 hq with h2|h2
  .rw[h1,h2]
  .exact(h.1 (a1z.2 ⟨q,h2,by rw[e,h1]⟩)).elim
  .exact(h.1 (a1z.2 ⟨p,h1,by rw[<-e,h2]⟩)).elim
  exact FX h.2 h1 h2 e
theorem a1C(hV:Valid M D s.get w){b k cs new ls p x}(hm:M (.h b)=some (.cells ls))(hd:D (.h b))(hb:s.heap[b]? = some (.cells k cs))(hk:k≠.ro) (hp:p∈ls) (yB:cs.length<=p.ext) (hx:bZ M.h new x.toList) (hn:∀c∈new,iM c=true) (iI:new≠[]) {w'}(fl old rest ty0)(hw:(fl=true/\cs.length+new.length<=p.tot/\(storeCells ⟨p.c,cs.length,none⟩ x.toList).run P w=.ok () w') \/ (fl=false/\bZ M.h cs old.toList/\w'=w.drew.alloc (.cells (old++x++rest) ty0))) :∃M' q,Valid M' D (St.get { s with heap:=s.heap.set b (.cells k.more (cs++new)) }) w'/\Ext M s.get w M' (St.get { s with heap:=s.heap.set b (.cells k.more (cs++new)) }) w' [.h b] /\(∀j l,M (.l j)=some l->M' (.l j)=some l)/\(∃qA,M' (.h b)=some (.cells qA)/\q∈qA)/\cs.length+new.length<=q.ext/\q.base=0 /\((fl=true/\q.c=p.c/\q.tot=p.tot)\/(fl=false/\q.c=w.heap.size/\q.tot=(old++x++rest).size)):=by
 have hg:s.get (.h b)=some (.cells k cs):=by simp[St.get,hb]
 have yO:=(a0w.1 hb).1;obtain⟨gJ,h1,h2⟩:=hV.ok _ _ hm hd;rw[hg]at h1;cases h1;obtain⟨ho,AQ,aat,OQ⟩:=h2;have hxl:=hx.len;simp only[a8Q]at hxl;have jG:(ls.map (·.c)).Nodup:=by
  cases k with
  |ro=>exact absurd rfl hk
  |own=>obtain⟨q,rfl,_⟩:=aat rfl;simp
  |grow=>exact(OQ (.inl rfl)).1
  |last=>exact(OQ (.inr rfl)).1
 have atJ:∀q∈ls,q.ext=cs.length->q=p:=by
  intro q hq he;cases k with
  |ro=>exact absurd rfl hk
  |own=>
   obtain⟨q',e',_⟩:=aat rfl;rw[e']at hp hq;simp at hp hq;rw[hq,hp]
  |grow=>
   have:=(AQ p hp).ext;exact(OQ (.inl rfl)).2 q hq p hp he (by omega)
  |last=>
   have:=(AQ p hp).ext;exact(OQ (.inr rfl)).2 q hq p hp he (by omega)
 have hpe:p.ext=cs.length:=by have:=(AQ p hp).ext;omega
 have hpb:p.base=0:=(AQ p hp).base hk;have hmr:k.more≠.own:=by cases k<;>simp[BK.more]
 have hml:k.more=.last->k=.last:=by cases k<;>simp[BK.more]
 have vV:∀c∈cs++new,iM c=true:=by
  intro c hc;rcases a3N.1 hc with h|h
  .exact ho c h
  .exact hn c h
 rcases hw with⟨hfl,xC,vH⟩|⟨hfl,hold,rfl⟩
 .
  let p':Pl:={ p with ext:=cs.length+new.length }
  let qA:List Pl:=ls.map fun q=>if q.c=p.c then p' else q
  have hqp:∀q∈ls,q.c=p.c->q=p:=by intro q hq he;exact FX jG hp hq he
  have hp':p'∈qA:=a1z.2 ⟨p,hp,by simp⟩;have a6n:qA.map (·.c)=ls.map (·.c):=by
   simp only[qA,a8l];apply a5H;intro q hq;simp only[Function.comp];split
   .rename_i he;exact he.symm
   .rfl
  have ZO:JJ (.cells ls) (.cells qA):=by
   intro q hq;by_cases he:q.c=p.c
   .have:=hqp q hq he;subst this;exact⟨p',hp',rfl,rfl,by simp[p'];omega,rfl⟩
   .exact⟨q,a1z.2 ⟨q,hq,by simp[he]⟩,rfl,rfl,a1p _,rfl⟩
  obtain⟨arr,ty,fz,r1,r2,r3,r4⟩:=(AQ p hp).row;have:=r3 hk;subst this;have aji:∀v∈x.toList,v.oneCell'=true:=by
   intro v hv;obtain⟨i,hi,rfl⟩:=a5Q.1 hv;have wR:i<new.length:=by simp at hi;omega
   exact EF (hx.at_ i new[i] x.toList[i] (by simp[wR]) (by simp)) (hn _ (a5K wR))
  have uy:=run_storeCells_at (P:=P) p.c cs.length ty x.toList 0 arr w r1 (by simp;omega) aji;simp only[adh,a8Q]at uy;rw[uy]at vH;have apr:=Result.ok.inj vH;obtain⟨_,rfl⟩:=apr
  let w':LI4:=w.setRow p.c (arr.toList.take cs.length++x.toList++arr.toList.drop (cs.length+x.size)).toArray
  have fK:∀c,c<w.heap.size->c∉aI (.cells qA)->w'.heap[c]? = w.heap[c]?:=fun c _ hc=>nJ w p.c _ c (fun e=>hc (by rw[e];exact a1z.2 ⟨p',hp',rfl⟩));have fQ:∀c∈aI (.cells qA),(∃l0,M (.h b)=some l0/\c∈aI l0)\/w.heap.size<=c:=fun c hc=>.inl ⟨_,hm,by simp only[aI]at hc ⊢;rwa [a6n]at hc⟩;have Fv:tY M (dM M (.h b) (.cells qA)):=lJ fun l0 h0=>by rw[hm]at h0;cases h0;exact ZO
  have Xo:∀i,(arr.toList.take cs.length++x.toList++arr.toList.drop (cs.length+x.size)).toArray[i]? = if i<cs.length then arr[i]? else if i<cs.length+x.size then x[i-cs.length]? else arr[i]?:=by intro i;have:=zJ (arr:=arr) (off:=cs.length) (xs:=x.toList) i (by simp;omega);simpa using this
  have Ru:qh (dM M (.h b) (.cells qA)).h w' (.cells k.more (cs++new)) (.cells qA):=by
   refine⟨vV,fun q hq=>?_,fun e=>absurd e hmr,fun _=>⟨by rw[a6n];exact jG,fun q1 Du q2 Gs e1 e2=>?_⟩⟩
   .obtain⟨q0,ZI,rfl⟩:=a1z.1 hq;by_cases he:q0.c=p.c
    .simp only[he,a2r];refine⟨⟨_,ty,(0,0),uw w p.c _ arr ty (0,0) r1,by simp[p'];omega,fun _=>rfl,fun _ i c v hi a b=>?_⟩,by simp[p',hpb];omega,by simp[p'],fun _=>hpb⟩;simp only[p',hpb,a3O]at b hi;rw[Xo i]at b;by_cases h1:i<cs.length
     .rw[a18 h1]at b;rw[a0Q h1]at a;exact(r4 (fun _=>hpe) i c v (by omega) a (by simpa[hpb]using b)).mono Fv.h
     .rw[a0U h1,a18 (by omega)]at b;rw[a1y (by omega)]at a;exact(hx.V6 a b).mono Fv.h
    .simp only[he,a3V];have Du:=AQ q0 ZI;obtain⟨uz,ty',fz',t1,t2,t3,t4⟩:=Du.row;refine⟨⟨uz,ty',fz',(nJ w p.c _ q0.c he).trans t1,t2,fun _=>t3 hk,fun hz i c v hi a b=>?_⟩,Du.fit,by have:=Du.ext;simp;omega,fun _=>Du.base hk⟩;have:=Du.ext;rw[a0Q (by omega)]at a;exact(t4 (fun e=>by have:=hz (by rw[e];rfl);have:0<new.length:=ab3.2 iI;simp at *;omega) i c v hi a b).mono Fv.h
   .have aux:∀q∈qA,q.ext=(cs++new).length->new≠[]->q=p':=by
     intro q hq e iI;obtain⟨q0,ZI,rfl⟩:=a1z.1 hq;by_cases he:q0.c=p.c
     .simp[he]
     .simp only[he,a3V]at e;have:=(AQ q0 ZI).ext;have:0<new.length:=ab3.2 iI;simp at e;omega
    rw[aux q1 Du e1 iI,aux q2 Gs e2 iI]
  refine⟨dM M (.h b) (.cells qA),p',?_,?_,?_,⟨qA,by simp[dM],hp'⟩,a1p _,hpb,.inl ⟨hfl,rfl,rfl⟩⟩
  .rw[jl s b _ yO];exact hV.upd (.h b) _ _ (fun j hj=>.inl hj) (fun l0 h0=>by rw[hm]at h0;cases h0;exact⟨hd,ZO,fun b0 yu=>by rw[hg]at yu;cases yu;cases k<;>simp_all [wr]⟩) fK fQ (by simp) Ru
  .rw[jl s b _ yO];exact Ext.upd (.h b) _ _ [.h b] (.inl ⟨by simp[hg],rfl,by simp[hm],fun b0 yu=>by rw[hg]at yu;cases yu;cases k<;>simp_all [wr]⟩) Fv fK fQ (by simp) rfl rfl rfl
  .intro j l hj;simp[dM,hj]
 .
  let p':Pl:=⟨w.heap.size,0,cs.length+new.length,(old++x++rest).size⟩
  let qA:List Pl:=p'::ls
  let w':LI4:=w.drew.alloc (.cells (old++x++rest) ty0)
  have RN:=hold.len;simp only[a8Q]at RN;have aQ:∀q∈ls,q.c<w.heap.size:=fun q hq=>hV.inb _ _ hm q.c (a1z.2 ⟨q,hq,rfl⟩);have ZO:JJ (.cells ls) (.cells qA):=fun q hq=>⟨q,a3J _ hq,rfl,rfl,a1p _,rfl⟩;have fK:∀c,c<w.heap.size->c∉aI (.cells qA)->w'.heap[c]? = w.heap[c]?:=fun c hc _=>vC w.drew _ c hc;have fQ:∀c∈aI (.cells qA),(∃l0,M (.h b)=some l0/\c∈aI l0)\/w.heap.size<=c:=by
   intro c hc;simp only[aI,qA,a4W,a1G]at hc;rcases hc with rfl|hc
   .exact .inr (a1p _)
   .exact .inl ⟨_,hm,hc⟩
  have Fv:tY M (dM M (.h b) (.cells qA)):=lJ fun l0 h0=>by rw[hm]at h0;cases h0;exact ZO
  have Ru:qh (dM M (.h b) (.cells qA)).h w' (.cells k.more (cs++new)) (.cells qA):=by
   refine⟨vV,fun q hq=>?_,fun e=>absurd e hmr,fun _=>⟨?_,fun q1 Du q2 Gs e1 e2=>?_⟩⟩
   .rcases a1G.1 hq with rfl|hq
    .refine⟨⟨_,ty0,(0,0),heap_alloc_new w.drew _,rfl,fun _=>rfl,fun _ i c v hi a b=>?_⟩,by simp[p'];omega,by simp[p'],fun _=>rfl⟩;simp only[p',a3O]at b hi;by_cases h1:i<cs.length
     .rw[a0Q h1]at a;rw[Array.append_assoc,aaS (by omega)]at b;exact(hold.V6 a b).mono Fv.h
     .rw[a1y (by omega)]at a;rw[Array.append_assoc,Array.getElem?_append_right (by omega),aaS (by omega),<-RN]at b;exact(hx.V6 a b).mono Fv.h
    .have Du:=AQ q hq;obtain⟨uz,ty',fz',t1,t2,t3,t4⟩:=Du.row;refine⟨⟨uz,ty',fz',(vC w.drew _ q.c (aQ q hq)).trans t1,t2,fun _=>t3 hk,fun hz i c v hi a b=>?_⟩,Du.fit,by have:=Du.ext;simp;omega,fun _=>Du.base hk⟩;have:=Du.ext;rw[a0Q (by omega)]at a;exact(t4 (fun e=>by have:=hz (by rw[e];rfl);have:0<new.length:=ab3.2 iI;simp at *;omega) i c v hi a b).mono Fv.h
   .simp only[qA,a4W,a5I];refine⟨fun JR=>?_,jG⟩;obtain⟨q,hq,he⟩:=a1z.1 JR;have:=aQ q hq;simp only[p']at he;omega
   .have ajj:0<new.length:=ab3.2 iI;have aux:∀q∈qA,q.ext=(cs++new).length->q=p':=by
     intro q hq e;rcases a1G.1 hq with rfl|hq
     .rfl
     .have:=(AQ q hq).ext;simp at e;omega
    rw[aux q1 Du e1,aux q2 Gs e2]
  refine⟨dM M (.h b) (.cells qA),p',?_,?_,?_,⟨qA,by simp[dM],a3M⟩,a1p _,rfl,.inr ⟨hfl,rfl,rfl⟩⟩
  .rw[jl s b _ yO];exact hV.upd (.h b) _ _ (fun j hj=>.inl hj) (fun l0 h0=>by rw[hm]at h0;cases h0;exact⟨hd,ZO,fun b0 yu=>by rw[hg]at yu;cases yu;cases k<;>simp_all [wr]⟩) fK fQ (by simp) Ru
  .rw[jl s b _ yO];exact Ext.upd (.h b) _ _ [.h b] (.inl ⟨by simp[hg],rfl,by simp[hm],fun b0 yu=>by rw[hg]at yu;cases yu;cases k<;>simp_all [wr]⟩) Fv fK fQ (by simp) rfl rfl rfl
  .intro j l hj;simp[dM,hj]
theorem JU{at_ ty d x r s1 i dv xv}(hV:Valid M D s.get w)(zL:M (.h s.heap.length)=none)(h:jy P at_ s d x=some (r,s1,i)) (hd:VR M.h d dv) (hx:VR M.h x xv) (hD:∀k∈i.ts,D k) :s1.env=s.env/\BOk P M D s.get w (Builtin.append_ at_ ty #[dv,xv]) r s1.get i.ws:=by
 unfold jy at h;split at h
 case h_2=>simp at h
 rename_i st xt h0 h1;split at h
 .simp at h
 rename_i hint;obtain⟨dd,Ic,hdd⟩:=ZR hint;split at h
 case h_2=>simp at h
 rename_i e size zu;obtain⟨hu,hn,Xl⟩:=rX zu;split at h
 case h_2=>simp at h
 rename_i n new lC;split at h
 .
  rename_i hz;subst hz;have key:∀(base:Option Addr) (l c:Nat),dv=.slice base l c->l<=c->(∀k∈dn x,D k)->(Builtin.append_ at_ ty #[dv,xv]).run P w=.ok dv w:=by
   intro base l c e ZO hDk;obtain⟨s1',s2',arr,V7,s4'⟩:=Dw (P:=P) (fun b=>rfl) hV lC hx hDk;refine Xn h0 h1 hu hn Ic hdd e s1' ZO (V7 w rfl) ?_;have a6o:new=[]:=by
    unfold dZ at lC;split at lC
    .simp at lC;exact lC
    .split at lC
     .split at lC
      .simpa using lC
      split at lC
      .simp only[a0z,a1n]at lC;obtain⟨r',hr',e1,e2⟩:=lC;subst e2;exact a4D (by rw[(oC hr').2.2,e1];simp)
      .simp at lC
     .simp at lC
    .split at lC
     .simp at lC;obtain⟨e1,e2⟩:=lC;rw[<-e2];rename_i bs _;have:bs.data.toList=[]:=a4D (by simpa using e1);simp[this]
     .simp at lC
    .simp at lC
   rw[a6o]at s4';exact s4'.pG
  split at h
  .simp at h;obtain⟨rfl,rfl,rfl⟩:=h;have ZU:=hd;cases hd;exact⟨rfl,_,w,M,key none 0 0 rfl (a1p _) hD,.same hV (.val ZU)⟩
  .split at h
   .simp at h;obtain⟨rfl,rfl,rfl⟩:=h;have ZU:=hd;cases hd with
    |aO hb hp yB hle tZ hex ha hk=>
     exact⟨rfl,_,w,M,key _ _ _ rfl (by omega) hD,.same hV (.val ZU)⟩
   .simp at h
  .simp at h
 rename_i hz;split at h
 case isFalse=>simp at h
 rename_i hlen;have adb:new≠[]:=by intro e;have:0<n*size:=Nat.mul_pos (by omega) Xl;rw[e]at hlen;simp only[a5V]at hlen;omega
 split at h
 .
  split at h
  case isFalse=>simp at h
  rename_i xC;simp at h;obtain⟨rfl,rfl,rfl⟩:=h;obtain⟨inf,z,hi,hiz,hzs,CU,yN,hb3,hb4⟩:=AV xC;obtain⟨s1',s2',arr,V7,s4'⟩:=Dw (P:=P) (fun b=>rfl) hV lC hx hD;have qX:inf.size=size:=by obtain⟨i',e1,e2⟩:=Gq hn;rw[hi]at e1;cases e1;exact e2
  cases hd;obtain⟨lu,c1,c1',c2⟩:=Gv (P:=P) (w:=w) (ty:=ty) (base:=none) (sLen:=0) (sCap:=0) (old:=#[]) (new:=arr) h0 h1 hu hn Ic hdd hi hiz rfl s1' (by omega) (by simpa using CU) (by omega) hb3
   (fun w' hw'=>by simp[Builtin.firstCells]) V7
  simp only[a3O]at c1 c2;obtain⟨M',hp⟩:=OM (size:=size) (len:=n) (rest:=Builtin.zeroCells z.cells (lu-n)) (e:=e) (pre:=#[]++arr) hV zL (by simpa using s4') s2' hlen c1 c1' (by rw[xE,hzs,qX]);exact⟨rfl,_,_,M',c2,hp⟩
 .
  rename_i b off len cap sz ex;split at h
  case isFalse=>simp at h
  rename_i afq;subst afq;have hd0:=hd;cases hd with
  |aO hb hp yB hle tZ hex ha hk=>
  rename_i ls p a cap';split at h
  .
   rename_i afr;simp only[a0z,a1n]at h;obtain⟨hp',Gw,rfl,rfl,rfl⟩:=h;obtain⟨kk,Ce,cs,cs',hbc,yL,ho,rfl⟩:=JM Gw;have hDs:∀k∈dn x,D k:=fun k hk=>hD k (a3J _ hk);obtain⟨s1',s2',arr,V7,s4'⟩:=Dw (P:=P) (fun b=>rfl) hV lC hx hDs;have hg:s.get (.h b)=some (.cells kk cs):=(by simp[St.get,hbc]);have yO:=(a0w.1 hbc).1;rcases ha with ha|⟨rfl,ha⟩
   .omega
   have hDb:=hD (.h b) (by simp);have hp:=hp.resolve_left (by omega);obtain⟨w',r1,r2,r3⟩:=zK (P:=P) hV hb hDb hg hp (hV.ZH hb hDb hg hp yB yL) ho s4' s2';obtain⟨o1,o2,o3⟩:=wS ho;have hmul:len*sz+n*sz=(len+n)*sz:=(by rw[a4p]);refine⟨rfl,_,w',M,Tc (P:=P) (w:=w) (ty:=ty) (a:=⟨p.c,p.base+off,none⟩) h0 h1 hu hn Ic hdd rfl s1' (by omega) (V7 w rfl) (by rw[vG,aar];exact r1),⟨?_,?_,?_,fun _ _ h=>h⟩⟩
   .rw[jl s b _ yO];exact⟨fun k l hk hd=>r2.ok k l hk (hd.elim id fun⟨x1,x2⟩=>by
      simp only[ni]at x2;split at x2
      .rename_i e;subst e;rw[hg]at x1;cases x1
      .simp[x1]at x2),fun k k' l l' b' a1 a2 a3 hd=>r2.own k k' l l' b' a1 a2 a3 (hd.elim id fun⟨x1,x2⟩=>by
      simp only[ni]at x2;split at x2
      .rename_i e;subst e;rw[hg]at x1;cases x1
      .simp[x1]at x2),r2.inb⟩
   .rw[jl s b _ yO];exact r3
   .exact .val (.aO hb (.inr hp) (by omega) (by omega) tZ hex (.inr ⟨rfl,ha⟩) hk)
  .rename_i afr;split at h
   case isFalse=>simp at h
   rename_i xC;obtain⟨inf,z,hi,hiz,hzs,CU,yN,hb3,hb4⟩:=AV xC;have qX:inf.size=sz:=by obtain⟨i',e1,e2⟩:=Gq hn;rw[hi]at e1;cases e1;exact e2
   have hmul:len*sz+n*sz=(len+n)*sz:=(by rw[a4p]);split at h
   .
    rename_i ajl;have OU:=hex ajl;simp only[a0z,a1n]at h;obtain⟨⟨l0,old⟩,qW,rfl,rfl,rfl⟩:=h;obtain⟨_,qY,hold⟩:=V5 qW;rw[qY]at qW;have hDs:∀k∈dn x,D k:=fun k hk=>hD k (a3J _ hk);obtain⟨s1',s2',arr,V7,s4'⟩:=Dw (P:=P) (fun b=>rfl) hV lC hx hDs;obtain⟨t1',t2',a6p,t3',t4'⟩:=Dw (P:=P) (fun b=>rfl) hV qW hd0 (fun k hk=>hD k (by simp[dn]at hk;simp[hk,fO]));obtain⟨lu,c1,c1',c2⟩:=Gv (P:=P) (w:=w) (ty:=ty) (base:=some a) (sLen:=len) (sCap:=cap') (old:=a6p) (new:=arr) h0 h1 hu hn Ic hdd hi hiz rfl s1' (by omega) CU yN hb3 t3' V7;obtain⟨M',ajm⟩:=OM (size:=sz) (len:=len+n) (rest:=Builtin.zeroCells z.cells (lu-(len+n))) (e:=e) (pre:=a6p++arr) hV zL (by simpa using t4'.append s4') (fun c hc=>(a3N.1 hc).elim (t2' c) (s2' c)) (by simp[hold,hlen,hmul]) c1 c1' (by rw[xE,hzs,qX]);exact⟨rfl,_,_,M',c2,ajm⟩
   .
    split at h
    case h_2=>simp at h
    rename_i ajl _ k cs hbc;split at h
    .simp at h
    .rename_i FW;simp only[adk,ne_eq,Decidable.not_not]at FW;have hkc:=hk;obtain⟨hk,rfl,rfl,nV,qY⟩:=FW;have hp:=hp.resolve_left (by omega);simp only[a08,a1n]at h;obtain⟨rfl,rfl,rfl⟩:=h;have hDs:∀k∈dn x,D k:=fun k hk=>hD k (a3J _ hk);have hDb:=hD (.h b) (by simp);obtain⟨s1',s2',arr,V7,s4'⟩:=Dw (P:=P) (fun b=>rfl) hV lC hx hDs;have hg:s.get (.h b)=some (.cells k cs):=(by simp[St.get,hbc]);have hnb:∀(M':Mp) (w':LI4),Valid M' D (St.get { s with heap:=s.heap.set b (.cells k.more (cs++new)) }) w' ->
       Valid M' (fun j=>D j\/(s.get j=none/\(St.get { s with heap:=s.heap.set b (.cells k.more (cs++new)) } j).isSome=true)) (St.get { s with heap:=s.heap.set b (.cells k.more (cs++new)) }) w':=by
      intro M' w' hv;have aux:∀j,(D j\/(s.get j=none/\(St.get { s with heap:=s.heap.set b (.cells k.more (cs++new)) } j).isSome=true))->D j:=by
       intro j hj;rcases hj with hj|⟨x1,x2⟩
       .exact hj
       .rw[jl s b _ (a0w.1 hbc).1]at x2;simp only[ni]at x2;split at x2
        .rename_i e;subst e;exact hDb
        .simp[x1]at x2
      exact⟨fun k l hk hd=>hv.ok k l hk (aux k hd),fun k k' l l' b' a1 a2 a3 hd=>hv.own k k' l l' b' a1 a2 a3 (aux k hd),hv.inb⟩
     have atM:arr.size=n*sz:=by have:=s4'.len;simp at this;omega
     have ajn:p.base=0/\p.ext<=cs.length:=by obtain⟨gJ,q1,q2⟩:=hV.ok _ _ hb hDb;rw[hg]at q1;cases q1;exact⟨(q2.2.1 p hp).base hk,(q2.2.1 p hp).ext⟩
     by_cases FY:len+n<=cap'
     .
      rcases ha with ha|⟨rfl,ha⟩
      .omega
      have ada:(len+n)*sz<=cap'*sz:=a3X sz FY;have vV:∀v∈arr.toList,v.oneCell'=true:=by
       intro v hv;obtain⟨i,hi,rfl⟩:=a5Q.1 hv;have wR:i<new.length:=by simp at hi;omega
       exact EF (s4'.at_ i new[i] arr.toList[i] (by simp[wR]) (by simp)) (s2' _ (a5K wR))
      obtain⟨gJ,q1,q2⟩:=hV.ok _ _ hb hDb;rw[hg]at q1;cases q1;obtain⟨row,rty,rfz,z1,z2,z3,z4⟩:=(q2.2.1 p hp).row;have:=z3 hk;subst this;have uy:=run_storeCells_at (P:=P) p.c cs.length rty arr.toList 0 row w z1 (by simp;omega) vV;obtain⟨M',q,v1,v2,v3,⟨qA,v4,v5⟩,v6,v7,v8⟩:=a1C (P:=P) hV hb hDb hbc hk hp (by omega) s4' s2' adb true #[] #[] 0 (.inl ⟨rfl,by omega,uy⟩);rcases v8 with⟨_,v9,v10⟩|⟨v9,_⟩
      .refine⟨rfl,_,_,M',Tc (P:=P) (w:=w) (ty:=ty) (a:=⟨p.c,p.base+0,none⟩) h0 h1 hu hn Ic hdd rfl s1' FY (V7 w rfl) (by rw[vG,ajn.1];simp only[a3O,adh];rw[<-nV];exact uy),⟨hnb _ _ v1,v2,?_,v3⟩⟩;refine .val (.aO v4 (.inr v5) (by omega) (a1p _) FY (fun h=>by simp at h) (.inr ⟨by rw[v9,v7,ajn.1],by rw[v7,v10];omega⟩) hkc)
      .cases v9
     .
      have qW:dZ sz s.heap (.aO b 0 len len sz ex)=some (len,cs):=by
       have:sub cs 0 (len*sz)=some cs:=by unfold sub;rw[a18 (by omega)];simp[<-nV]
       simp[dZ,nG,hbc,this,nV,qY]
      obtain⟨t1',t2',a6p,t3',t4'⟩:=Dw (P:=P) (fun b=>rfl) hV qW hd0 (fun k hk=>by simp[dn]at hk;rw[hk];exact hDb);obtain⟨lu,c1,c1',c2⟩:=Gv (P:=P) (w:=w) (ty:=ty) (base:=some a) (sLen:=len) (sCap:=cap') (old:=a6p) (new:=arr) h0 h1 hu hn Ic hdd hi hiz rfl s1' (by omega) CU yN hb3 t3' V7;obtain⟨M',q,v1,v2,v3,⟨qA,v4,v5⟩,v6,v7,v8⟩:=a1C (P:=P) hV hb hDb hbc hk hp (by omega) s4' s2' adb false a6p (Builtin.zeroCells z.cells (lu-(len+n))) e (.inr ⟨rfl,t4',rfl⟩);rcases v8 with⟨v9,_⟩|⟨_,v10,v11⟩
      .cases v9
      .refine⟨rfl,_,_,M',c2,⟨hnb _ _ v1,v2,?_,v3⟩⟩;refine .val (.aO v4 (.inr v5) (by omega) (a1p _) c1 (fun h=>by simp at h) (.inr ⟨by rw[v10,v7],?_⟩) c1');rw[v11,v7];have RN:=t4'.len;simp only[a8Q]at RN;have hm3:(len+n)*sz+(lu-(len+n))*sz=lu*sz:=by rw[<-a4p];congr 1;omega
       simp only[Array.size_append,xE,hzs,qX];omega
 .simp at h
theorem a6r{cs l off n m}(h:sub cs off n=some l)(hm:m<=n):sub cs off m=some (l.take m):=by obtain⟨h1,h2,h3⟩:=oC h;unfold sub;rw[a18 (by omega),h2,afC,a7x hm]
theorem V8{at_ ty d x r s1 i dv xv}(hV:Valid M D s.get w)(h:I4 P at_ s d x=some (r,s1,i)) (hd:VR M.h d dv) (hx:VR M.h x xv) (hD:∀k∈i.ts,D k) :s1.env=s.env/\BOk P M D s.get w (Builtin.copy_ at_ ty #[dv,xv]) r s1.get i.ws:=by
 unfold I4 at h;split at h
 case h_2=>simp at h
 rename_i st h0;split at h
 case h_2=>simp at h
 rename_i e size zu;obtain⟨hu,hn,Xl⟩:=rX zu;split at h
 case h_2=>simp at h
 rename_i n new lC;split at h
 case isFalse=>simp at h
 rename_i hlen;obtain⟨hlen,OV⟩:=hlen;have first:∀(m:Nat),m<=n->(∀k∈dn x,D k)->(Builtin.lenOf xv).run P w=.ok n w/\(∀c∈new.take (m*size),iM c=true) /\
   ∃arr,(Builtin.firstCells size m xv).run P w=.ok arr w/\bZ M.h (new.take (m*size)) arr.toList:=by
  intro m hm hDs;obtain⟨s1',s2',arr,V7,s4'⟩:=Dw (P:=P) (fun b=>rfl) hV lC hx hDs;refine⟨s1',fun c hc=>s2' c (aa8 hc),?_⟩;have hmul:m*size<=n*size:=a3X size hm;cases hx with
  |UW=>
   unfold dZ at lC;simp at lC;obtain⟨rfl,rfl⟩:=lC;exact⟨#[],by simp[Builtin.firstCells],by simpa using bZ.nil⟩
  |aO hb hp yB hle tZ hex ha hk=>
   rename_i b off len cap sz ex ls p a cap';unfold dZ at lC;simp only at lC;split at lC
   case isFalse=>simp at lC
   rename_i qX;subst qX;split at lC
   .rename_i hz;simp at lC;obtain⟨rfl,rfl⟩:=lC;have:m=0:=(by omega);subst this;exact⟨#[],by simp[Builtin.firstCells,loadCells,loadCellsFrom],by simpa using bZ.nil⟩
   split at lC
   case h_2=>simp at lC
   rename_i cs hbc;simp only[a0z,a1n]at lC;obtain⟨r',hr,rfl,rfl⟩:=lC;obtain⟨k,hk,Xi⟩:=yK hbc;obtain⟨gJ,h1,h2⟩:=hV.ok _ _ hb (hDs _ (by simp[dn]));simp only[St.get,hk,a08]at h1;subst h1;by_cases h00:cap'=0
   .have qY:len=0:=(by omega);subst qY;have:m=0:=(by omega);subst this;exact⟨#[],by simp[Builtin.firstCells,loadCells,loadCellsFrom],by simpa using bZ.nil⟩
   .rcases ha with ha|⟨rfl,ha⟩
    .exact absurd ha h00
    .obtain⟨xs,x1,x2⟩:=zo (P:=P) (h2.2.1 p (hp.resolve_left h00)) (a6r hr hmul) (by have:=a3X sz hle;omega) (fun e=>by have:=Xi e;have:=(h2.2.1 p (hp.resolve_left h00)).ext;omega);exact⟨xs.toArray,by simp[Builtin.firstCells,x2 w rfl],x1⟩
  |str bs=>simp[isStr]at OV
  |_=>simp[dZ]at lC
 split at h
 .simp at h;obtain⟨rfl,rfl,rfl⟩:=h;cases hd;obtain⟨f1,f2,arr,f3,f4⟩:=first 0 (a5S _) hD
  have f5:=f4.len;simp at f5;exact⟨rfl,.int .i64 0,w,M,by simp[Builtin.copy_,h0,run_underlying hu,f1,cZ hn,f3,goInt],.same hV (.val (.int _ _))⟩
 .rename_i b off len cap sz ex;split at h
  case isFalse=>simp at h
  rename_i qX;subst qX;have hd0:=hd;cases hd with
  |aO hb hp yB hle tZ hex ha hk=>
  rename_i ls p a cap';split at h
  .rename_i hm;simp at h;obtain⟨rfl,rfl,rfl⟩:=h;obtain⟨f1,f2,arr,f3,f4⟩:=first 0 (a5S _) hD
   have f5:arr.toList=[]:=by have:=f4.len;simp only[adl,List.take_zero,a5V]at this;exact a4D this.symm
   refine⟨rfl,.int .i64 0,w,M,?_,.same hV (.val (.int _ _))⟩;have e1:Nat.min n len=0:=hm;simp[Builtin.copy_,h0,run_underlying hu,f1,cZ hn,e1,f3,goInt,f5,storeCells]
  .rename_i hm;simp only[a0z,a1n]at h;obtain⟨hp',Gw,rfl,rfl,rfl⟩:=h;obtain⟨kk,Ce,cs,cs',hbc,yL,ho,rfl⟩:=JM Gw;obtain⟨f1,f2,arr,f3,f4⟩:=first (min n len) (Nat.min_le_left _ _) (fun k hk=>hD k (a3J _ hk))
   have hg:s.get (.h b)=some (.cells kk cs):=(by simp[St.get,hbc]);have yO:=(a0w.1 hbc).1;rcases ha with ha|⟨rfl,ha⟩
   .omega
   obtain⟨w',r1,r2,r3⟩:=zK (P:=P) hV hb (hD (.h b) (by simp)) hg (hp.resolve_left (by omega)) (hV.ZH hb (hD (.h b) (by simp)) hg (hp.resolve_left (by omega)) yB yL) ho f4 f2;refine⟨rfl,.int .i64 (min n len:Nat),w',M,?_,⟨?_,?_,.val (.int _ _),fun _ _ h=>h⟩⟩
   .have e1:Nat.min n len=min n len:=rfl;simp[Builtin.copy_,h0,run_underlying hu,f1,cZ hn,e1,f3,goInt,r1]
   .rw[jl s b _ yO];exact r2.widen (EG (by simp[hg]))
   .rw[jl s b _ yO];exact r3
 .simp at h
end
section
variable{P:LI1}{M:Mp}{D:Key->Prop}{w:LI4}{s:St}{N:Np}
theorem bK{α β}(x)(f:α->Sem β):aC P (x >>= f)=(aC P x).bind fun a=>aC P (f a):=by
 show aC P (x.bind f)=_
 induction x with
 |pure a=>rfl
 |program k ih=>exact ih P
 |mark m k ih=>exact ih
 |_=>rfl
def JV(b:Nat->Bool)(L:List MapEntry)(i0:Nat):Option (Nat×LI3)->Prop
 |none=>∀i,i<L.length->b i=false
 |some (i,v)=>i0<=i/\b (i-i0)=true/\∃x,L[i-i0]? = some x/\v=x.val
theorem JV.succ{b e L i0 r}(hb:b 0=false)(h:JV (fun i=>b (i+1)) L (i0+1) r):JV b (e::L) i0 r:=by
 cases r with
 |none=>
  intro i hi;cases i with
  |zero=>exact hb
  |succ i=>exact h i (by simpa using hi)
 |some r=>
  obtain⟨h1,h2,x,h3,h4⟩:=h;have e1:r.1-i0=(r.1-(i0+1))+1:=by omega
  refine⟨by omega,by rw[e1];exact h2,x,by rw[e1];simpa using h3,h4⟩
theorem LZ(kind k):∀(L) (i0) (b),(∀i x,L[i]? = some x->Instr.sameNow kind k x.key=some (b i)) ->∃r,Instr.findNow kind k L i0=some r/\JV b L i0 r
 | [],i0,b,_=>⟨none,rfl,fun i hi=>absurd hi (by simp)⟩
 |e::L,i0,b,h=>by
  have h0:=h 0 e rfl;obtain⟨r,g1,g2⟩:=LZ kind k L (i0+1) (fun i=>b (i+1)) fun i x hx=>h (i+1) x (by simpa using hx);simp only[Instr.findNow,h0];cases hb:b 0 with
  |true=>exact⟨_,rfl,a1p _,by simpa using hb,e,by simp,rfl⟩
  |false=>exact⟨r,g1,g2.succ hb⟩
theorem Dx(kt k):∀(L) (i0) (b),(∀i x,L[i]? = some x->aC P (Op.equal kt k x.key)=some (b i)) ->∃r,(∀w,(Instr.findAsking kt k L i0).run P w=.ok r w)/\JV b L i0 r
 | [],i0,b,_=>⟨none,fun w=>rfl,fun i hi=>absurd hi (by simp)⟩
 |e::L,i0,b,h=>by
  have h0:=fun w=>jq (h 0 e rfl) w;obtain⟨r,g1,g2⟩:=Dx kt k L (i0+1) (fun i=>b (i+1)) fun i x hx=>h (i+1) x (by simpa using hx);cases hb:b 0 with
  |true=>exact⟨some (i0,e.val),fun w=>by simp[Instr.findAsking,h0 w,hb],a1p _,by simpa using hb,e,by simp,rfl⟩
  |false=>exact⟨r,fun w=>by simp[Instr.findAsking,h0 w,hb,g1 w],g2.succ hb⟩
theorem a1E:∀{l} {vs},CQ l=some vs->∀(i:Nat) (c),l[i]? = some c->∃v,vs[i]? = some v/\c.zk=some v
 | [],vs,h,i,c,hc=>by simp at hc
 |a::l,vs,h,i,c,hc=>by
  simp only[CQ]at h;split at h
  .rename_i v ws h1 h2;cases h;cases i with
   |zero=>simp at hc;subst hc;exact⟨v,rfl,h1⟩
   |succ i=>simpa using a1E h2 i c (by simpa using hc)
  cases h
def FR(N:Np)(o:List Nat)(es:List (TV×TV))(xs:Array MapEntry):Option Nat->Option (Nat×LI3)->Prop
 |none,none=>True
 |some j,some (i,v)=>o[i]? = some j/\∃e x,es[j]? = some e/\xs[i]? = some x/\v=x.val/\VR N e.1 x.key/\VR N e.2 x.val
 |_,_=>False
theorem Ie{o kt k es r xs}(h:FT P kt k es=some r)(hx:xq N o es xs) :(∀w,(Instr.checkKey xs.isEmpty 10000 kt k).run P w=.ok () w)/\∃r',(∀w,(Instr.findKey kt k xs.toList).run P w=.ok r' w) /\FR N o es xs r r':=by
 unfold FT at h;split at h
 case h_2=>simp at h
 rename_i ks FZ;split at h
 case h_2=>simp at h
 rename_i r0 hr;split at h
 case isFalse=>simp at h
 rename_i Td;cases h;generalize r0.map (·.1)=r at Td ⊢;have hl:es.isEmpty=xs.isEmpty:=by rw[a5R];simp[List.isEmpty_iff,<-a6t,hx.len]
 have LX:ks.length=es.length:=by
  have:∀{l:List TV} {vs:List LI3},CQ l=some vs->vs.length=l.length:=by
   intro l
   induction l with
   |nil=>intro vs h;simp[CQ]at h;subst h;rfl
   |cons a l ih=>
    intro vs h;simp only[CQ]at h;split at h
    .rename_i v ws h1 h2;cases h;simp[ih h2]
    .cases h
  simpa using this FZ
 rw[bK]at hr;cases hc:aC P (Instr.checkKey es.isEmpty 10000 kt k)with
 |none=>simp[hc]at hr
 |some u=>
  refine⟨fun w=>by rw[<-hl];exact jq hc w,?_⟩;unfold Xc at Td;split at Td
  case h_2=>simp at Td
  rename_i kind hd;have hdr:=fun w=>jq hd w;simp only[a2K]at Td;obtain⟨hj,hs⟩:=Td;have aav:∀(i:Nat) (x:MapEntry),xs.toList[i]? = some x->∃(j:Nat) (e:TV×TV),o[i]? = some j/\es[j]? = some e/\VR N e.1 x.key/\VR N e.2 x.val/\ks[j]? = some x.key:=by intro i x hi;obtain⟨_,j,e,h1,h2,h3,h4⟩:=hx.at_ i x (by simpa using hi);obtain⟨v,g1,g2⟩:=a1E FZ j e.1 (by simp[h2]);exact⟨j,e,h1,h2,h3,h4,by rw[g1,xk g2 h3]⟩
  let b:Nat->Bool:=fun i=>o[i]? == r
  have hb:∀i j,o[i]? = some j->b i=(some j==r):=fun i j h=>by simp only[b,h]
  have fin:∀r',JV b xs.toList 0 r'->FR N o es xs r r':=by
   intro r' hf;cases r' with
   |none=>
    cases r with
    |none=>trivial
    |some j=>
     simp only[a1F]at hj;obtain⟨i,hi⟩:=a9S.1 (hx.sur j (by omega));have h1:=hf i (by have:=(a0w.1 hi).1;have:=hx.ord;simp;omega);rw[hb i j hi]at h1;simp at h1
   |some q=>
    obtain⟨i,v⟩:=q;obtain⟨_,h1,x,h2,h3⟩:=hf;simp only[Nat.sub_zero]at h1 h2;obtain⟨j,e,g1,g2,g3,g4,_⟩:=aav i x h2;rw[hb i j g1]at h1;simp only[a6E]at h1;subst h1;exact⟨g1,e,x,g2,by simpa using h2,h3,g3,g4⟩
  have Gx:∀{p:LI3×Nat->Bool},ks.zipIdx.all p=true->∀j x,ks[j]? = some x->p (x,j)=true:=by intro p hp j x hjx;exact a5L.1 hp (x,j) (aau.2 (by simpa using hjx))
  unfold Instr.findKey;rcases aag _ _▸hs with hs|hs
  .obtain⟨r',g1,g2⟩:=LZ kind k xs.toList 0 b fun i x hi=>by obtain⟨j,e,h1,_,_,_,h5⟩:=aav i x hi;have:=Gx hs j _ h5;simp only[a6E]at this;rw[this,hb i j h1]
   exact⟨r',fun w=>by simp[hdr w,g1],fin r' g2⟩
  .by_cases h0:xs.toList=[]
   .refine⟨none,fun w=>by simp[hdr w,h0,Instr.findNow],fin none (by rw[h0];intro i hi;simp at hi)⟩
   .have Zu:Instr.findNow kind k xs.toList 0=none:=by
     cases hL:xs.toList with
     |nil=>exact absurd hL h0
     |cons x L=>
      obtain⟨j,e,h1,_,_,_,h5⟩:=aav 0 x (by rw[hL];rfl);have:=Gx hs j _ h5;simp only[a2K,a6E]at this;simp only[Instr.findNow,this.1]
    obtain⟨r',g1,g2⟩:=Dx (P:=P) kt k xs.toList 0 b fun i x hi=>by obtain⟨j,e,h1,_,_,_,h5⟩:=aav i x hi;have:=Gx hs j _ h5;simp only[a2K,a6E]at this;rw[this.2,hb i j h1]
    exact⟨r',fun w=>by simp[hdr w,Zu,g1 w],fin r' g2⟩
theorem EH{t:LI2}{m k r:TV}{ok:Bool}{mv kv:LI3}(hV:Valid M D s.get w)(h:iG P t s.heap m k ok=some r)(hm:VR M.h m mv)(hk:VR M.h k kv)
  (hD:∀j∈(match m with|.map r=>[Key.h r] |_=>[]),D j):∃z,VR M.h r z/\(Instr.lookup t mv kv ok).run P w=.ok z w:=by
 unfold iG at h;split at h
 case h_2=>simp at h
 rename_i kt e kx hu hkx;have:=xk hkx hk;subst this;simp only at h;have main:∀(o:List Nat) (es:List (TV×TV)) (xs:Array MapEntry),xq M.h o es xs->((mv=.map none/\xs=#[])\/∃r1 ck,mv=.map (some r1)/\w.heap[r1]? = some (.map xs ck)) ->
   (match FT P kt kv es with
   |some (some i)=>match es[i]? with
    |some (_,v)=>some (if ok then .dK [v,.bool true]else v)
    |none=>none
   |some none=>match P.info? e with
    |some i=>match i.zero with
     |some z=>(TV.X4 z).map fun z=>if ok then .dK [z,.bool false]else z
     |none=>none
    |none=>none
   |none=>none)=some r->∃z,VR M.h r z/\(Instr.lookup t mv kv ok).run P w=.ok z w:=by
  intro o es xs hx uy h;cases hf:FT P kt kv es with
  |none=>simp[hf]at h
  |some r0=>
   rw[hf]at h;obtain⟨c1,r',c2,c3⟩:=Ie hf hx;cases r0 with
   |some j=>
    cases r' with
    |none=>exact c3.elim
    |some jv=>
     obtain⟨j',v⟩:=jv;obtain⟨_,e',x',e1,e2,rfl,_,hv⟩:=c3;simp only[e1,a08]at h;subst h;refine⟨if ok then .tuple #[x'.val,.bool true]else x'.val,?_,?_⟩
     .cases ok
      .exact hv
      .exact .RG (.cons hv (.cons (.bool true) .nil))
     .rcases uy with⟨rfl,rfl⟩|⟨r1,ck,rfl,hmp⟩
      .simp only[Instr.lookup,Sem.run_bind,run_underlying hu,Result.andThen_ok,c1 w,c2 w,Sem.run_pure]
      .simp only[Instr.lookup,Sem.run_bind,run_underlying hu,Result.andThen_ok,getObj,Sem.run,hmp,c1 w,c2 w,Sem.run_pure]
   |none=>
    cases r' with
    |some jv=>exact c3.elim
    |none=>
     simp only at h;split at h
     case h_2=>simp at h
     rename_i inf hi;split at h
     case h_2=>simp at h
     rename_i z hz;simp only[a0z]at h;obtain⟨zt,hzt,rfl⟩:=h;have hv:VR M.h zt z:=.zn hzt;refine⟨if ok then .tuple #[z,.bool false]else z,?_,?_⟩
     .cases ok
      .exact hv
      .exact .RG (.cons hv (.cons (.bool false) .nil))
     .have hzr:(zeroValue e).run P w=.ok z w:=(by simp[zeroValue,jk hi,hz]);rcases uy with⟨rfl,rfl⟩|⟨r1,ck,rfl,hmp⟩
      .simp only[Instr.lookup,Sem.run_bind,run_underlying hu,Result.andThen_ok,c1 w,c2 w,Sem.run_pure,hzr]
      .simp only[Instr.lookup,Sem.run_bind,run_underlying hu,Result.andThen_ok,getObj,Sem.run,hmp,c1 w,c2 w,Sem.run_pure,hzr]
 cases hm with
 |ZF=>exact main [] [] #[] ⟨rfl,rfl,.nil,by simp,by simp⟩ (.inl ⟨rfl,rfl⟩) h
 |map hmm=>
  rename_i r0 r1 o1;obtain⟨gJ,b1,b2⟩:=hV.ok _ _ hmm (hD _ (by simp));simp only[St.get]at b1;simp only[b1]at h;cases gJ with
  |map es=>
   obtain⟨xs,g1,g2⟩:=b2;exact main o1 es xs g2 (.inr ⟨r1,xs.size,rfl,g1⟩) h
  |cells k cs=>exact b2.elim
  |loop=>simp at h
  |mark=>simp at h
  |nT=>simp at h
  |dh=>simp at h
 |_=>simp at h
end
section
variable{P:LI1}{M:Mp}{D:Key->Prop}{w:LI4}{s:St}
theorem zN(hV:Valid M D s.get w){r r1 o o' es gQ xs xs'}(hm:M (.h r)=some (.obj r1 o))(hd:D (.h r))(hb:s.heap[r]? = some (.map es))(hr:w.heap[r1]? = some (.map xs xs.size)) (ho:o <+: o') (hx:xq (dM M (.h r) (.obj r1 o')).h o' gQ xs') :Valid (dM M (.h r) (.obj r1 o')) (fun j=>D j\/(s.get j=none/\(St.get { s with heap:=s.heap.set r (.map gQ) } j).isSome=true)) (St.get { s with heap:=s.heap.set r (.map gQ) }) { w with heap:=w.heap.setIfInBounds r1 (.map xs' xs'.size) } /\Ext M s.get w (dM M (.h r) (.obj r1 o')) (St.get { s with heap:=s.heap.set r (.map gQ) }) { w with heap:=w.heap.setIfInBounds r1 (.map xs' xs'.size) } [.h r]:=by
 have hg:s.get (.h r)=some (.map es):=by simp[St.get,hb]
 have yO:=(a0w.1 hb).1;have hle:tY M (dM M (.h r) (.obj r1 o')):=lJ fun l0 h0=>by rw[hm]at h0;cases h0;exact⟨rfl,ho⟩
 have aQ:r1<w.heap.size:=(a3l.1 hr).1;have fK:∀c,c<w.heap.size->c∉aI (.obj r1 o')->(w.heap.setIfInBounds r1 (Obj.map xs' xs'.size))[c]? = w.heap[c]?:=fun c _ hc=>by rw[aa1,a0U (by simp[aI]at hc;omega)]
 have fQ:∀c∈aI (.obj r1 o'),(∃l0,M (.h r)=some l0/\c∈aI l0)\/w.heap.size<=c:=fun c hc=>.inl ⟨_,hm,hc⟩;constructor
 .rw[jl s r _ yO];refine Valid.widen ?_ (EG (by simp[hg]));exact hV.upd (D':=D) (w':={ w with heap:=w.heap.setIfInBounds r1 (.map xs' xs'.size) }) (.h r) (.map gQ) (.obj r1 o') (fun j hj=>.inl hj) (fun l0 h0=>by rw[hm]at h0;cases h0;exact⟨hd,⟨rfl,ho⟩,fun b0 yu=>by rw[hg]at yu;cases yu;rfl⟩) fK fQ (by simp) ⟨xs',by simp[aQ],hx⟩
 .rw[jl s r _ yO];exact Ext.upd (M:=M) (C:=s.get) (w:=w) (w':={ w with heap:=w.heap.setIfInBounds r1 (.map xs' xs'.size) }) (.h r) (.map gQ) (.obj r1 o') [.h r] (.inl ⟨by simp[hg],rfl,by simp[hm],fun b0 yu=>by rw[hg]at yu;cases yu;rfl⟩) hle fK fQ (by simp) rfl rfl rfl
theorem xq.lt{N o es xs}(g2:xq N o es xs):∀j∈o,j<es.length:=fun j hj=>by
 obtain⟨i,hi⟩:=a9S.1 hj;have:i<xs.size:=by rw[<-g2.ord];exact(a0w.1 hi).1
 obtain⟨_,j',e,z1,z2,_⟩:=g2.at_ i _ (a4v this);rw[hi]at z1;cases z1;exact(a0w.1 z2).1
theorem xq.upd{N N':Np}{o es xs}(g2:xq N o es xs)(hle:tY N N'){i j x' f k v}(q1:o[i]? = some j) (e2:xs[i]? = some x') (hb:(f x').born=x'.born) (hk:VR N' k (f x').key) (hv:VR N' v (f x').val):xq N' o (es.set j (k,v)) (xs.modify i f):=by
 have g3:=g2.mono hle;refine⟨by simp[g2.len],by simp[g2.ord],g2.nod,fun j' EC=>g2.sur j' (by simpa using EC),fun a x h2=>?_⟩;rw[abR]at h2;by_cases ha:i=a
 .subst ha;rw[a18 rfl,e2]at h2;simp only[a1t,a08]at h2;subst h2;obtain⟨z1,j2,e2',z2,z3,_⟩:=g2.at_ i x' e2;rw[q1]at z2;cases z2;exact⟨hb.trans z1,j,(k,v),q1,by rw[aay];simp[(a0w.1 z3).1],hk,hv⟩
 .rw[a0U ha]at h2;obtain⟨z1,j2,e2',z2,z3,z4,z5⟩:=g3.at_ a x h2;refine⟨z1,j2,e2',z2,?_,z4,z5⟩;have iI:j≠j2:=fun e=>by subst e;have i1:=a0w.1 q1;have i2:=a0w.1 z2;exact ha ((aaT g2.nod (h₀:=i1.1) (h₁:=i2.1)).1 (i1.2.trans i2.2.symm))
  rw[aay,a0U iI];exact z3
theorem xq.push{N N':Np}{o es xs}(g2:xq N o es xs)(hle:tY N N'){k v kv vv}(hk:VR N' k kv) (hv:VR N' v vv):xq N' (o++[es.length]) (es++[(k,v)]) (xs.push { key:=kv,val:=vv,born:=xs.size }):=by
 have aQ:=g2.lt;have g3:=g2.mono hle;refine⟨by simp[g2.len],by simp[g2.ord],?_,fun j hj=>?_,fun a x h2=>?_⟩
 .rw[a9M];exact⟨g2.nod,by simp,fun x hx y hy=>by simp at hy;subst hy;have:=aQ x hx;omega⟩
 .simp only[a1D,a4T,a5V]at hj;rcases a5l j es.length with h1|h1
  .exact a6h _ (g2.sur j h1)
  .exact ach _ (by simp;omega)
 .rw[Array.getElem?_push]at h2;by_cases ha:a=xs.size
  .rw[a18 ha]at h2;simp only[a08]at h2;subst h2;exact⟨ha.symm,es.length,(k,v),by rw[a1y (by rw[g2.ord];omega),g2.ord,ha];simp,by simp,hk,hv⟩
  .rw[a0U ha]at h2;obtain⟨z1,j2,e2',z2,z3,z4,z5⟩:=g3.at_ a x h2;exact⟨z1,j2,e2',by rw[a0Q (a0w.1 z2).1];exact z2,by rw[a0Q (a0w.1 z3).1];exact z3,z4,z5⟩
theorem Tf{t m k v s1 i mv kv vv}(hV:Valid M D s.get w)(h:yI P t s m k v=some (s1,i))(hm:VR M.h m mv)(hk:VR M.h k kv)(hv:VR M.h v vv)(hD:∀j∈i.ts,D j):s1.env=s.env/\∃w' M',(Instr.mapUpdate t mv kv vv).run P w=.ok () w' /\Valid M' (fun j=>D j\/(s.get j=none/\(s1.get j).isSome=true)) s1.get w'/\Ext M s.get w M' s1.get w' i.ws/\(∀k l,M (.l k)=some l->M' (.l k)=some l):=by
 unfold yI at h;split at h
 case h_2=>simp at h
 rename_i kt et kx r hu hkx;have:=xk hkx hk;subst this;split at h
 case h_2=>simp at h
 rename_i es ND hck;have c0:=jq hck w;cases hm with
 |map hmm=>
 rename_i r1 o1;have vI:∀o',∀k l,M (.l k)=some l->dM M (.h r) (.obj r1 o') (.l k)=some l:=fun o' k l h=>by simp[dM,h]
 have go:D (.h r)->∃xs,w.heap[r1]? = some (.map xs xs.size)/\xq M.h o1 es xs:=by intro hd;obtain⟨gJ,b1,b2⟩:=hV.ok _ _ hmm hd;simp only[St.get,ND,a08]at b1;subst b1;exact b2
 split at h
 .
  rename_i j hf;split at h
  case h_2=>simp at h
  rename_i old ov0 hj;split at h
  case h_2=>simp at h
  rename_i ov hov;split at h
  case isFalse=>simp at h
  rename_i Xp;simp only[a08,a1n]at h;obtain⟨rfl,rfl⟩:=h;have hd:=hD (.h r) (by simp[qm]);obtain⟨xs,g1,g2⟩:=go hd;obtain⟨c1,r',c2,c3⟩:=Ie hf g2;cases r' with
  |none=>exact c3.elim
  |some jv=>
   obtain⟨i,v'⟩:=jv;obtain⟨q1,e',x',e1,e2,rfl,q2,_⟩:=c3;rw[hj]at e1;cases e1;have hold:x'.key=ov:=xk hov q2;have hle:tY M (dM M (.h r) (.obj r1 o1)):=lJ fun l0 h0=>by have h0':M (.h r)=some l0:=h0;have RP:M (.h r)=some (.obj r1 o1):=hmm;rw[RP]at h0';cases h0';exact .refl _
   have Gu:=g2.upd (f:=fun e=>{ e with key:=kv,val:=vv }) hle.h q1 e2 rfl (hk.mono hle.h) (hv.mono hle.h);obtain⟨v1,v2⟩:=zN hV hmm hd ND g1 (ah0 _) Gu;refine⟨rfl,_,_,?_,v1,v2,vI _⟩;simp only[Instr.mapUpdate,Sem.run_bind,run_underlying hu,Result.andThen_ok,getObj,Sem.run,g1];simp only[c0,c2 w,Result.andThen_ok,e2,a1t,a6b,Instr.keyThatStays,hold,Xp,a2r,setObj];simp only[Sem.run_bind,Sem.run_pure,Result.andThen_ok,Sem.run,g1,Array.size_modify]
 .
  rename_i hf;simp only[a08,a1n]at h;obtain⟨rfl,rfl⟩:=h;have hd:=hD (.h r) (by simp[qm]);obtain⟨xs,g1,g2⟩:=go hd;obtain⟨c1,r',c2,c3⟩:=Ie hf g2;cases r' with
  |some jv=>exact c3.elim
  |none=>
   have FB:o1 <+: o1++[es.length]:=⟨_,rfl⟩;have hle:tY M (dM M (.h r) (.obj r1 (o1++[es.length]))):=lJ fun l0 h0=>by have h0':M (.h r)=some l0:=h0;have RP:M (.h r)=some (.obj r1 o1):=hmm;rw[RP]at h0';cases h0';exact⟨rfl,FB⟩
   have Gu:=g2.push hle.h (hk.mono hle.h) (hv.mono hle.h);obtain⟨v1,v2⟩:=zN hV hmm hd ND g1 FB Gu;refine⟨rfl,_,_,?_,v1,v2,vI _⟩;simp only[Instr.mapUpdate,Sem.run_bind,run_underlying hu,Result.andThen_ok,getObj,Sem.run,g1];simp only[c0,c2 w,Result.andThen_ok,setObj,Sem.run,g1,Array.size_push]
 .simp at h
theorem a3P{t m k e s1 i mv kv}(hV:Valid M D s.get w)(h:AO P t s m k=some (e,s1,i))(hm:VR M.h m mv)(hk:VR M.h k kv)(hD:∀j∈i.ts,D j):s1.env=s.env/\∃x w' M',(Instr.mapEntry t mv kv).run P w=.ok x w'/\ER M' e x /\Valid M' (fun j=>D j\/(s.get j=none/\(s1.get j).isSome=true)) s1.get w'/\Ext M s.get w M' s1.get w' i.ws/\(∀k l,M (.l k)=some l->M' (.l k)=some l):=by
 unfold AO at h;split at h
 case h_2=>simp at h
 rename_i kt et kx r hu hkx;have:=xk hkx hk;subst this;split at h
 case h_2=>simp at h
 rename_i es ND hck;have c0:=jq hck w;cases hm with
 |map hmm=>
 rename_i r1 o1;have vI:∀o',∀k l,M (.l k)=some l->dM M (.h r) (.obj r1 o') (.l k)=some l:=fun o' k l h=>by simp[dM,h]
 have go:D (.h r)->∃xs,w.heap[r1]? = some (.map xs xs.size)/\xq M.h o1 es xs:=by intro hd;obtain⟨gJ,b1,b2⟩:=hV.ok _ _ hmm hd;simp only[St.get,ND,a08]at b1;subst b1;exact b2
 have G5:∀o',dM M (.h r) (.obj r1 o') (.h r)=some (.obj r1 o'):=fun o'=>by simp[dM]
 split at h
 .rename_i j hf;split at h
  case h_2=>simp at h
  rename_i old v0 hj;split at h
  case h_2=>simp at h
  rename_i ov hov;split at h
  case isFalse=>simp at h
  rename_i Xp;simp only[a08,a1n]at h;obtain⟨rfl,rfl,rfl⟩:=h;have hd:=hD (.h r) (by simp[qm]);obtain⟨xs,g1,g2⟩:=go hd;obtain⟨c1,r',c2,c3⟩:=Ie hf g2;cases r' with
  |none=>exact c3.elim
  |some jv=>
   obtain⟨i,v'⟩:=jv;obtain⟨q1,e',x',e1,e2,rfl,q2,q3⟩:=c3;rw[hj]at e1;cases e1;have hold:x'.key=ov:=xk hov q2;have hle:tY M (dM M (.h r) (.obj r1 o1)):=lJ fun l0 h0=>by have h0':M (.h r)=some l0:=h0;have RP:M (.h r)=some (.obj r1 o1):=hmm;rw[RP]at h0';cases h0';exact .refl _
   have Gu:=g2.upd (f:=fun e=>{ e with key:=kv }) hle.h q1 e2 rfl (hk.mono hle.h) (q3.mono hle.h);obtain⟨v1,v2⟩:=zN hV hmm hd ND g1 (ah0 _) Gu;refine⟨rfl,.tuple #[x'.val,Go.goInt i],_,_,?_,.ent (G5 _) q1 (q3.mono hle.h),v1,v2,vI _⟩;simp only[Instr.mapEntry,Sem.run_bind,run_underlying hu,Result.andThen_ok,getObj,Sem.run,g1];simp only[c0,c2 w,Result.andThen_ok,e2,a1t,a6b,Instr.keyThatStays,hold,Xp,a2r,setObj,(g2.at_ i x' e2).1];simp only[Sem.run_bind,Sem.run_pure,Result.andThen_ok,Sem.run,g1,Array.size_modify]
 .rename_i hf;split at h
  case h_2=>simp at h
  rename_i inf hi;split at h
  case h_2=>simp at h
  rename_i z hz;split at h
  case h_2=>simp at h
  rename_i zt hzt;simp only[a08,a1n]at h;obtain⟨rfl,rfl,rfl⟩:=h;have hd:=hD (.h r) (by simp[qm]);obtain⟨xs,g1,g2⟩:=go hd;obtain⟨c1,r',c2,c3⟩:=Ie hf g2;have hzr:(zeroValue et).run P w=.ok z w:=by simp[zeroValue,jk hi,hz]
  cases r' with
  |some jv=>exact c3.elim
  |none=>
   have FB:o1 <+: o1++[es.length]:=⟨_,rfl⟩;have hle:tY M (dM M (.h r) (.obj r1 (o1++[es.length]))):=lJ fun l0 h0=>by have h0':M (.h r)=some l0:=h0;have RP:M (.h r)=some (.obj r1 o1):=hmm;rw[RP]at h0';cases h0';exact⟨rfl,FB⟩
   have Gu:=g2.push hle.h (hk.mono hle.h) (.zn hzt);obtain⟨v1,v2⟩:=zN hV hmm hd ND g1 FB Gu;refine⟨rfl,.tuple #[z,Go.goInt xs.size],_,_,?_,.ent (G5 _) (by rw[a1y (by rw[g2.ord];omega),g2.ord];simp) (.zn hzt),v1,v2,vI _⟩;simp only[Instr.mapEntry,Sem.run_bind,run_underlying hu,Result.andThen_ok,getObj,Sem.run,g1];simp only[c0,c2 w,hzr,Result.andThen_ok,setObj,Sem.run,g1,Array.size_push,Sem.run_bind,Sem.run_pure]
 .simp at h
theorem a6s{t m k e s1 i mv kv}(hV:Valid M D s.get w)(h:Dk P t s m k=some (e,s1,i))(hm:VR M.h m mv)(hk:VR M.h k kv)(hD:∀j∈i.ts,D j):s1.env=s.env/\∃x w' M',(Instr.mapEntry t mv kv).run P w=.ok x w'/\ER M' e x /\Valid M' (fun j=>D j\/(s.get j=none/\(s1.get j).isSome=true)) s1.get w'/\Ext M s.get w M' s1.get w' i.ws/\(∀k l,M (.l k)=some l->M' (.l k)=some l):=by
 unfold Dk at h;split at h
 .rename_i h0;split at h
  .cases h;exact a3P hV h0 hm hk hD
  .cases h
 .cases h
theorem V9{xs:Array MapEntry}{i}(h:∀(a:Nat) (x),xs[a]? = some x->x.born=a)(hi:i<xs.size):xs.findIdx? (fun e=>(e.born:Int)==(i:Int))=some i:=by
 rw[Array.findIdx?_eq_some_iff_getElem];refine⟨hi,?_,fun j hj=>?_⟩
 .have:=h i _ (a4v hi);simp[this]
 have:=h j _ (a4v (Nat.lt_trans hj hi));simp[this];omega
theorem a3Q{t m v e s1 i mv ev vv}(hV:Valid M D s.get w)(h:I5 s m e v=some (s1,i))(hm:VR M.h m mv)(he:ER M e ev)(hv:VR M.h v vv)(hD:∀j∈i.ts,D j):s1.env=s.env/\∃w' M',(Instr.entryStore t mv ev vv).run P w=.ok () w' /\Valid M' (fun j=>D j\/(s.get j=none/\(s1.get j).isSome=true)) s1.get w'/\Ext M s.get w M' s1.get w' i.ws/\(∀k l,M (.l k)=some l->M' (.l k)=some l):=by
 unfold I5 at h;split at h
 case h_2=>simp at h
 rename_i r r' j;split at h
 case isFalse=>simp at h
 rename_i hrr;subst hrr;split at h
 case h_2=>simp at h
 rename_i es ND;split at h
 case h_2=>simp at h
 rename_i k v0 hj;simp only[a08,a1n]at h;obtain⟨rfl,rfl⟩:=h;cases hm with
 |map hmm=>
 rename_i r1 o1;cases he with
 |Fj h1 q1=>
 rename_i r2 i o2;have RP:M (.h r)=some (.obj r1 o1):=hmm;rw[RP]at h1;cases h1;have hd:=hD (.h r) (by simp[qm]);obtain⟨gJ,b1,b2⟩:=hV.ok _ _ hmm hd;simp only[St.get,ND,a08]at b1;subst b1;obtain⟨xs,g1,g2⟩:=b2;have aQ:i<xs.size:=by rw[<-g2.ord];exact(a0w.1 q1).1
 obtain⟨z1,j2,e2',z2,z3,z4,z5⟩:=g2.at_ i _ (a4v aQ);rw[q1]at z2;cases z2;rw[hj]at z3;cases z3;have hle:tY M (dM M (.h r) (.obj r1 o1)):=lJ fun l0 h0=>by have h0':M (.h r)=some l0:=h0;rw[RP]at h0';cases h0';exact .refl _
 have Gu:=g2.upd (f:=fun e=>{ e with val:=vv }) hle.h q1 (a4v aQ) rfl (z4.mono hle.h) (hv.mono hle.h);obtain⟨v1,v2⟩:=zN hV hmm hd ND g1 (ah0 _) Gu;refine⟨rfl,_,_,?_,v1,v2,fun k l h=>by simp[dM,h]⟩;have hf:=V9 (fun a x hx=>(g2.at_ a x hx).1) aQ;simp only[Instr.entryStore,Sem.run_bind,Result.andThen_ok,getObj,Sem.run,g1,asInt,asIntOf,Go.goInt,hf,setObj];simp only[Sem.run_bind,Sem.run_pure,Result.andThen_ok,Sem.run,hf,g1,Array.size_modify]
end
def Ig(M:Mp)(env:List (Nat×EV))(a:Act)(X:Array Operand):Prop:=∀x∈X,∀e,JD env x=some e->ER M e (a.eval x)
theorem kG.on{M env a}(hE:kG M env a.tmps)(X):Ig M env a X:=fun _ _ _ he=>a6f hE he
section
variable{M:Mp}{env:List (Nat×EV)}{a:Act}{X:Array Operand}
theorem qw(hE:Ig M env a X){x}(hx:x∈X){e}(h:JD env x=some e):ER M e (a.eval x):=hE x hx e h
theorem iH(hE:Ig M env a X){x}(hx:x∈X){v}(h:rM env x=some v):VR M.h v (a.eval x):=by
 unfold rM at h;split at h
 .rename_i v' he;simp at h;subst h;exact(qw hE hx he).uT
 simp at h
theorem Ih(hE:Ig M env a X):∀{xs} {vs},(∀x∈xs,x∈X)->UM env xs=some vs->bZ M.h vs (xs.map a.eval)
 | [],vs,_,h=>by simp[UM]at h;subst h;exact .nil
 |x::xs,vs,hx,h=>by
  simp only[UM]at h;split at h
  .rename_i v vs' h1 h2;simp at h;subst h;exact .cons (iH hE (hx x (by simp)) h1) (Ih hE (fun y hy=>hx y (by simp[hy])) h2)
  simp at h
theorem Va(hE:Ig M env a X):∀{xs:List (Nat×Operand)} {vs:List (Nat×TV)},(∀p∈xs,p.2∈X)->Xb env xs=some vs ->PR M.h vs (xs.map fun(i,x)=>(i,a.eval x))
 | [],vs,_,h=>by simp[Xb]at h;subst h;exact .nil
 |(i,x)::xs,vs,hx,h=>by
  simp only[Xb]at h;split at h
  .rename_i v vs' h1 h2;simp at h;subst h;exact .cons (iH hE (hx (i,x) (by simp)) h1) (Va hE (fun y hy=>hx y (by simp[hy])) h2)
  .simp at h
theorem Ii(hE:Ig M env a X){o}(hx:∀x,o=some x->x∈X){v}(h:Xd env o=some v):OR M.h v (o.map a.eval):=by
 unfold Xd at h;split at h
 .simp at h;subst h;exact .none
 rename_i x;split at h
 .rename_i v' hv;simp at h;subst h;exact .some (iH hE (hx x rfl) hv)
 simp at h
end
section
variable{P:LI1}{M:Mp}{D:Key->Prop}{w:LI4}{s:St}
def Ij:Op->Bool
 |.call { callee:=.value _,.. }=>true
 |_=>false
theorem I8.nK{C c v S}(hV:Valid M D C w)(hc:c=(do pure (.value (<-S))))(h:∃z,VR M.h v z/\S.run P w=.ok z w):I8 P M D C w c (.val v) C []:=by obtain⟨z,h1,h2⟩:=h;exact .same hV (by rw[hc];simp[h2]) (.val h1)
theorem I8.OW{C c v S}(hV:Valid M D C w)(hc:c=(do pure (.value (<-S))))(h:∃z,ER M v z/\S.run P w=.ok z w):I8 P M D C w c v C []:=by obtain⟨z,h1,h2⟩:=h;exact .same hV (by rw[hc];simp[h2]) h1
theorem I8.ajo{C c v S C1 ws}(hc:c=(do pure (.value (<-S))))(h:BOk P M D C w S v C1 ws):I8 P M D C w c (.val v) C1 ws:=by obtain⟨x,w',M',h1,h2⟩:=h;exact⟨x,w',M',.inl (by rw[hc];simp[h1]),h2⟩
theorem I8.aft{C c S C1 ws}(hc:c=(do S;pure .skip))(h:∃w' M',S.run P w=.ok () w'/\Valid M' (fun j=>D j\/(C j=none/\(C1 j).isSome=true)) C1 w'/\Ext M C w M' C1 w' ws/\(∀k l,M (.l k)=some l->M' (.l k)=some l)):I8 P M D C w c .undef C1 ws:=by obtain⟨w',M',h1,h2,h3,h4⟩:=h;exact⟨Go.undef,w',M',.inr ⟨rfl,by rw[hc];simp[h1]⟩,⟨h2,h3,.undef,h4⟩⟩
theorem I8.apy{C c S C1 ws}(hc:c=(do S;pure .skip))(h:∃w',S.run P w=.ok () w'/\Valid M (fun j=>D j\/(C j=none/\(C1 j).isSome=true)) C1 w'/\Ext M C w M C1 w' ws):I8 P M D C w c .undef C1 ws:=by obtain⟨w',h1,h2,h3⟩:=h;exact⟨Go.undef,w',M,.inr ⟨rfl,by rw[hc];simp[h1]⟩,⟨h2,h3,.undef,fun _ _ h=>h⟩⟩
theorem ZV{b at_ t cs az xs v s1 i}(hV:Valid M D s.get w)(zL:M (.h s.heap.length)=none)(h:rU P b at_ t s az=some (v,s1,i)) (hx:bZ M.h az xs) (hD:∀k∈i.ts,D k):s1.env=s.env/\I8 P M D s.get w (builtin b at_ t cs xs.toArray) (.val v) s1.get i.ws:=by
 unfold rU at h;split at h
 .simp only[a0z,a1n]at h;obtain⟨⟨v',i'⟩,h1,rfl,rfl,rfl⟩:=h;obtain⟨x,xs',rfl,hx1,hx2⟩:=hx.iE;have:=hx2.pG;subst this;obtain⟨e1,e2⟩:=ZP (t:=t) hV h1 hx1 hD;refine⟨rfl,?_⟩;simp only;rw[e1];exact .nK hV rfl e2
 .obtain⟨x,xs',rfl,hx1,hx2⟩:=hx.iE;obtain⟨y,ys',rfl,hy1,hy2⟩:=hx2.iE;have:=hy2.pG;subst this;obtain⟨e1,e2⟩:=JU (ty:=t) hV zL h hx1 hy1 hD;exact⟨e1,.ajo rfl e2⟩
 .obtain⟨x,xs',rfl,hx1,hx2⟩:=hx.iE;obtain⟨y,ys',rfl,hy1,hy2⟩:=hx2.iE;have:=hy2.pG;subst this;obtain⟨e1,e2⟩:=V8 (ty:=t) hV h hx1 hy1 hD;exact⟨e1,.ajo rfl e2⟩
 .simp only[a0z,a1n]at h;obtain⟨v',h1,rfl,rfl,rfl⟩:=h;exact⟨rfl,.nK hV rfl (zM h1 hx)⟩
 .simp only[a0z,a1n]at h;obtain⟨v',h1,rfl,rfl,rfl⟩:=h;exact⟨rfl,.nK hV rfl (zM h1 hx)⟩
 .simp at h
theorem ajp{call site o a v s1 i}(hV:Valid M D s.get w)(hE:Ig M s.env a o.op.operands)(zL:M (.h s.heap.length)=none)(hnl:M (.l s.loc.length)=none)(h:qo P call site s o=some (v,s1,i)) (hc:Ij o.op=false) (hD:∀k∈i.ts,D k):s1.env=s.env/\I8 P M D s.get w (execOp a.eval o) v s1.get i.ws:=by
 unfold qo at h;unfold execOp;split at h
 .
  rename_i x ho;rw[ho];simp only[a0z,a1n]at h;obtain⟨e,he,rfl,rfl,rfl⟩:=h;exact⟨rfl,.same hV rfl (qw hE (by simp[ho,Op.operands]) he)⟩
 .rename_i x ho;rw[ho];simp only[a0z,a1n]at h;obtain⟨e,he,rfl,rfl,rfl⟩:=h;exact⟨rfl,.same hV rfl (qw hE (by simp[ho,Op.operands]) he)⟩
 .
  rename_i c x y ho;rw[ho];split at h
  .rename_i t ht;simp only[a0z,a1n]at h;obtain⟨e,he,rfl,rfl,rfl⟩:=h;have hb:=iH hE (by simp[ho,Op.operands]) ht;have rC:a.eval c=.bool t:=by cases rC:a.eval c<;>rw[rC]at hb<;>cases hb;rfl
   have:=qw hE (by cases t<;>simp[ho,Op.operands]) he;refine⟨rfl,.same hV (x:=a.eval (if t then x else y)) ?_ this⟩;simp only[Sem.run_bind,rC,asBool,Sem.run_pure,Result.andThen_ok];cases t<;>rfl
  .simp at h
 .
  rename_i e ho;rw[ho];simp only[a0z]at h;obtain⟨z,hz,h⟩:=h;obtain⟨i',x,v',_,_,_,_,hz1,hvr,hzr⟩:=xu hz;simp only[a1n]at h;obtain⟨rfl,rfl,rfl⟩:=h;obtain⟨M',hp⟩:=a6g hV zL hnl (site (o.dst.getD 0)) e (hvr M.h) hz1 rfl;refine⟨by unfold rO;split<;>rfl,_,_,M',.inl ?_,hp⟩;simp[Instr.alloc,hzr w,newVar,newRow]
 .
  rename_i t x ho;rw[ho];split at h
  .rename_i v0 hv0;split at h
   .rename_i vV;simp only[a08,a1n]at h;obtain⟨rfl,rfl,rfl⟩:=h;obtain⟨M',hp⟩:=a6g hV zL hnl (site (o.dst.getD 0)) t (iH hE (by simp[ho,Op.operands]) hv0).cells (NC vV) rfl;refine⟨by unfold rO;split<;>rfl,_,_,M',.inl ?_,hp⟩;simp[Instr.box,newVar,newRow]
   .simp at h
  .simp at h
 .
  rename_i t ps ho;rw[ho];split at h
  .rename_i qs hq;simp only[a0z,a1n]at h;obtain⟨v0,hb,rfl,rfl,rfl⟩:=h;obtain⟨x,h1,h2⟩:=a6i hb (Va hE (fun p hp=>by simp[ho,Op.operands];exact⟨p.1,by simpa using hp⟩) hq);refine⟨rfl,.nK hV rfl ⟨x,h1,?_⟩⟩;have:=h2 w
   rwa [show(List.map (fun x=>(x.1,a.eval x.2)) ps.toList).toArray=ps.map (fun x=>(x.1,a.eval x.2))from by apply aeW;simp]at this
  .simp at h
 .
  rename_i t len ps ho;rw[ho];split at h
  .rename_i qs hq;simp only[a0z,a1n]at h;obtain⟨⟨v0,s0⟩,hb,rfl,rfl,rfl⟩:=h;obtain⟨e1,x,w',M',h1,h2⟩:=uU hV zL hb (Va hE (fun p hp=>by simp[ho,Op.operands];exact⟨p.1,by simpa using hp⟩) hq);refine⟨e1,x,w',M',.inl ?_,h2⟩;rw[show(List.map (fun x=>(x.1,a.eval x.2)) ps.toList).toArray=ps.map (fun x=>(x.1,a.eval x.2))from by apply aeW;simp]at h1;simp[h1]
  .simp at h
 .
  rename_i t x ho;rw[ho];split at h
  .rename_i e he;simp only[a0z,a1n]at h;obtain⟨⟨v0,i0⟩,hl,rfl,rfl,rfl⟩:=h;obtain⟨e1,e2⟩:=I9 hV hl (qw hE (by simp[ho,Op.operands]) he) hD;refine⟨rfl,?_⟩;simp only;rw[e1];exact .nK hV rfl e2
  .simp at h
 .
  rename_i t x y ho;rw[ho];split at h
  .rename_i e v0 he hv0;simp only[a0z,a1n]at h;obtain⟨⟨s0,i0⟩,hl,rfl,rfl,rfl⟩:=h;obtain⟨e1,w',e2,e3,e4,e5⟩:=ZL hV hl (qw hE (by simp[ho,Op.operands]) he) (iH hE (by simp[ho,Op.operands]) hv0) hD;exact⟨e1,.apy rfl ⟨w',e2,e3.widen e5,e4⟩⟩
  .simp at h
 .
  rename_i x ho;rw[ho];split at h
  .rename_i k off he;simp only[a08,a1n]at h;obtain⟨rfl,rfl,rfl⟩:=h;have hx:=qw hE (by simp[ho,Op.operands]) he;refine⟨rfl,.same hV (x:=a.eval x) ?_ hx⟩;cases hxe:a.eval x<;>rw[hxe]at hx<;>cases hx
   simp[hxe]
  .rename_i b off lim he;simp only[a08,a1n]at h;obtain⟨rfl,rfl,rfl⟩:=h;have hx:=qw hE (by simp[ho,Op.operands]) he;refine⟨rfl,.same hV (x:=a.eval x) ?_ hx⟩;have Gu:=hx.uT;cases hxe:a.eval x<;>rw[hxe]at Gu<;>cases Gu
   simp[hxe]
  .rename_i f b c he;simp only[a08,a1n]at h;obtain⟨rfl,rfl,rfl⟩:=h;have hx:=qw hE (by simp[ho,Op.operands]) he;refine⟨rfl,.same hV (x:=a.eval x) ?_ hx⟩;have Gu:=hx.uT;cases hxe:a.eval x<;>rw[hxe]at Gu<;>cases Gu
   simp[hxe]
  .rename_i l he;simp only[a08,a1n]at h;obtain⟨rfl,rfl,rfl⟩:=h;have hx:=qw hE (by simp[ho,Op.operands]) he;refine⟨rfl,.same hV (x:=a.eval x) ?_ hx⟩;have Gu:=hx.uT;cases hxe:a.eval x<;>rw[hxe]at Gu<;>cases Gu
   simp[hxe]
  .simp at h
 .
  rename_i op t x y t' ho;rw[ho];split at h
  .rename_i u v0 hu hv;simp only[a0z,a1n]at h;obtain⟨r,hb,rfl,rfl,rfl⟩:=h;exact⟨rfl,.nK hV rfl (ZM hb (iH hE (by simp[ho,Op.operands]) hu) (iH hE (by simp[ho,Op.operands]) hv))⟩
  .simp at h
 .
  rename_i op t x ho;rw[ho];split at h
  .rename_i u hu;simp only[a0z,a1n]at h;obtain⟨r,hb,rfl,rfl,rfl⟩:=h;exact⟨rfl,.nK hV rfl (ji hb (iH hE (by simp[ho,Op.operands]) hu))⟩
  .simp at h
 .
  rename_i t t' x ho;rw[ho];split at h
  .rename_i u hu;simp only[a0z,a1n]at h;obtain⟨r,hb,rfl,rfl,rfl⟩:=h;exact⟨rfl,.nK hV rfl (V4 hb (iH hE (by simp[ho,Op.operands]) hu))⟩
  .simp at h
 .
  rename_i f az bs ho;rw[ho];split at h
  .rename_i us vs hu hv;simp only[a08,a1n]at h;obtain⟨rfl,rfl,rfl⟩:=h;have h1:=Ih hE (fun x hx=>by simp[ho,Op.operands];exact .inl (by simpa using hx)) hu;have h2:=Ih hE (fun x hx=>by simp[ho,Op.operands];exact .inr (by simpa using hx)) hv;refine⟨rfl,.nK hV rfl ⟨.func (.func f) (az.map a.eval) (bs.map a.eval),?_,rfl⟩⟩;have:=VR.fn (f:=f) h1.len h1.at_ h2.len h2.at_
   rwa [show(List.map a.eval az.toList).toArray=az.map a.eval from by apply aeW;simp,show(List.map a.eval bs.toList).toArray=bs.map a.eval from by apply aeW;simp]at this
  .simp at h
 .
  rename_i t r ho;rw[ho];have zy:s.get (.h s.heap.length)=none:=by simp[St.get]
  have hle:tY M (dM M (.h s.heap.length) (.obj w.heap.size [])):=lJ fun l0 h0=>by rw[zL]at h0;cases h0
  have fK:∀c,c<w.heap.size->c∉aI (.obj w.heap.size [])->(w.alloc (.map #[] 0)).heap[c]? = w.heap[c]?:=fun c hc _=>vC w _ c hc;have fQ:∀c∈aI (.obj w.heap.size []),(∃l0,M (.h s.heap.length)=some l0/\c∈aI l0)\/w.heap.size<=c:=fun c hc=>.inr (by simp[aI]at hc;omega);have key:OC M D s.get w (.val (.map s.heap.length)) (St.get { s with heap:=s.heap++[.map []] }) [] (.map (some w.heap.size)) (w.alloc (.map #[] 0)) (dM M (.h s.heap.length) (.obj w.heap.size [])):=by
   refine⟨?_,?_,.val (.map (o:=[]) (by simp[Mp.h,dM])),rW zL⟩
   .rw[kQ];refine hV.upd _ _ _ (fun j hj=>?_) (fun l0 h0=>by rw[zL]at h0;cases h0) fK fQ (by simp) ⟨#[],heap_alloc_new w _,rfl,rfl,.nil,by simp,by simp⟩;rcases hj with hj|⟨x1,x2⟩
    .exact .inl hj
    .right;unfold ni at x2;split at x2
     .assumption
     .simp[x1]at x2
   .rw[kQ];exact Ext.upd _ _ _ [] (.inr ⟨zy,zL,rfl⟩) hle fK fQ (by simp) rfl rfl rfl
  split at h
  .rename_i _ hr;simp only[a08,a1n]at h;obtain⟨rfl,rfl,rfl⟩:=h;have:=Ii hE (fun x hx=>by simp[ho,Op.operands,hx]) hr;refine⟨rfl,_,_,_,.inl ?_,key⟩;cases hrr:r.map a.eval with
   |none=>simp[hrr,Instr.makeMap]
   |some y=>rw[hrr]at this;cases this
  .rename_i k n _ _ hr hu;simp only[a08,a1n]at h;obtain⟨rfl,rfl,rfl⟩:=h;have:=Ii hE (fun x hx=>by simp[ho,Op.operands,hx]) hr;refine⟨rfl,_,_,_,.inl ?_,key⟩;cases hrr:r.map a.eval with
   |none=>rw[hrr]at this;cases this
   |some y=>
    rw[hrr]at this;cases this with
    |some hy=>
     cases hy;simp[hrr,Instr.makeMap,run_underlying hu,asInt,asIntOf]
  .simp at h
 .
  rename_i t l c ho;rw[ho];split at h
  .rename_i u v0 hu hv;simp only[a0z,a1n]at h;obtain⟨⟨r,s0⟩,hb,rfl,rfl,rfl⟩:=h;obtain⟨e1,z,w',M',e2,e3⟩:=AX hV zL hb (iH hE (by simp[ho,Op.operands]) hu) (iH hE (by simp[ho,Op.operands]) hv);exact⟨e1,z,w',M',.inl (by simp[e2]),e3⟩
  .simp at h
 .
  rename_i t x lo hi mx ho;rw[ho];split at h
  .rename_i e ZN wR mx' he Ik hhi hmx;have h1:=Ii hE (fun x hx=>by simp[ho,Op.operands,hx]) Ik;have h2:=Ii hE (fun x hx=>by simp[ho,Op.operands,hx]) hhi;have h3:=Ii hE (fun x hx=>by simp[ho,Op.operands,hx]) hmx;split at h
   .simp only[a0z,a1n]at h;obtain⟨r,hb,rfl,rfl,rfl⟩:=h;exact⟨rfl,.nK hV rfl (Dv hb (qw hE (by simp[ho,Op.operands]) he) h1 h2 h3)⟩
   .simp only[a0z,a1n]at h;obtain⟨r,hb,rfl,rfl,rfl⟩:=h;exact⟨rfl,.nK hV rfl (OL hb (qw hE (by simp[ho,Op.operands]) he).uT h1 h2 h3)⟩
   .simp at h
  .simp at h
 .
  rename_i t x f ho;rw[ho];split at h
  .rename_i e n he hn;simp only[a0z,a1n]at h;obtain⟨r,hb,rfl,rfl,rfl⟩:=h;exact⟨rfl,.OW hV rfl (V3 hn hb (qw hE (by simp[ho,Op.operands]) he))⟩
  .simp at h
 .
  rename_i t x f ho;rw[ho];split at h
  .rename_i u hu;simp only[a0z,a1n]at h;obtain⟨r,hb,rfl,rfl,rfl⟩:=h;exact⟨rfl,.nK hV rfl (OI hb (iH hE (by simp[ho,Op.operands]) hu))⟩
  .simp at h
 .
  rename_i t x y ho;rw[ho];split at h
  .rename_i e u he hu;simp only[a0z,a1n]at h;obtain⟨r,hb,rfl,rfl,rfl⟩:=h;exact⟨rfl,.OW hV rfl (AU hb (qw hE (by simp[ho,Op.operands]) he) (iH hE (by simp[ho,Op.operands]) hu))⟩
  .simp at h
 .
  rename_i t x y ho;rw[ho];split at h
  .rename_i u v0 hu hv;simp only[a0z,a1n]at h;obtain⟨r,hb,rfl,rfl,rfl⟩:=h;exact⟨rfl,.nK hV rfl (OJ hb (iH hE (by simp[ho,Op.operands]) hu) (iH hE (by simp[ho,Op.operands]) hv))⟩
  .simp at h
 .
  rename_i t m k ok ho;rw[ho];split at h
  .rename_i u v0 hu hv;simp only[a0z,a1n]at h;obtain⟨r,hb,rfl,rfl,rfl⟩:=h;exact⟨rfl,.nK hV rfl (EH hV hb (iH hE (by simp[ho,Op.operands]) hu) (iH hE (by simp[ho,Op.operands]) hv) hD)⟩
  .simp at h
 .
  rename_i t m k x ho;rw[ho];split at h
  .rename_i u v0 y hu hv hy;simp only[a0z,a1n]at h;obtain⟨⟨s0,i0⟩,hb,rfl,rfl,rfl⟩:=h;obtain⟨e1,e2⟩:=Tf hV hb (iH hE (by simp[ho,Op.operands]) hu) (iH hE (by simp[ho,Op.operands]) hv) (iH hE (by simp[ho,Op.operands]) hy) hD;exact⟨e1,.aft rfl e2⟩
  .simp at h
 .
  rename_i t m k x ho;rw[ho];split at h
  .rename_i u v0 y hu hv hy;simp only[a0z,a1n]at h;obtain⟨⟨s0,i0⟩,hb,rfl,rfl,rfl⟩:=h;obtain⟨e1,e2⟩:=Tf hV hb (iH hE (by simp[ho,Op.operands]) hu) (iH hE (by simp[ho,Op.operands]) hv) (iH hE (by simp[ho,Op.operands]) hy) hD;exact⟨e1,.aft rfl e2⟩
  .simp at h
 .
  rename_i t m k ho;rw[ho];split at h
  .rename_i u v0 hu hv;obtain⟨e1,z,w',M',h1,h2,h3,h4,h5⟩:=a6s hV h (iH hE (by simp[ho,Op.operands]) hu) (iH hE (by simp[ho,Op.operands]) hv) hD;exact⟨e1,z,w',M',.inl (by show(do pure (.value (<-Instr.mapEntry t _ _)):Sem Next).run P w=_;simp[h1]),h3,h4,h2,h5⟩
  .simp at h
 .
  rename_i t m k x ho;rw[ho];split at h
  .rename_i u v0 y hu hv hy;simp only[a0z,a1n]at h;obtain⟨⟨s0,i0⟩,hb,rfl,rfl,rfl⟩:=h;obtain⟨e1,e2⟩:=a3Q (t:=t) hV hb (iH hE (by simp[ho,Op.operands]) hu) (qw hE (by simp[ho,Op.operands]) hv) (iH hE (by simp[ho,Op.operands]) hy) hD;exact⟨e1,.aft rfl e2⟩
  .simp at h
 .
  rename_i x n ho;rw[ho];split at h
  .rename_i e he;simp only[a0z,a1n]at h;obtain⟨r,hb,rfl,rfl,rfl⟩:=h;have hx:=qw hE (by simp[ho,Op.operands]) he;refine⟨rfl,.OW hV rfl ?_⟩;generalize a.eval x=xv at hx;unfold zI at hb;split at hb
   .simp only[a0z]at hb;obtain⟨y0,hb,rfl⟩:=hb;cases hx with
    |val hx=>
     cases hx with
     |dK g1 g2=>
      obtain⟨y,y1,y2⟩:=(bZ.mk g1 g2).get hb;exact⟨y,.val y2,by simp[Instr.extract,y1]⟩
   .cases hx with
    |ent q1 q2 q3=>
     split at hb<;>cases hb
     .exact⟨_,.val q3,by simp[Instr.extract]⟩
     .exact⟨_,.Fj q1 q2,by simp[Instr.extract]⟩
   .cases hb
  .simp at h
 .
  rename_i c ho;rw[ho]at hc ⊢;unfold Ov at h;split at h
  .rename_i b az hb has;simp only[a0z,a1n]at h;obtain⟨⟨v0,s0,i0⟩,rC,rfl,rfl,rfl⟩:=h;obtain⟨e1,e2⟩:=ZV (cs:=c.args.map fun|.const _=>true|_=>false) hV zL rC (Ih hE (fun x hx=>by simp[ho,Op.operands,Call.operands,hb];simpa using hx) has) hD;refine⟨e1,?_⟩;obtain⟨x,w',M',r1,r2⟩:=e2;refine⟨x,w',M',?_,r2⟩;rw[show(List.map a.eval c.args.toList).toArray=c.args.map a.eval from by apply aeW;simp]at r1;unfold ajc at r1 ⊢;simp only[resolve,hb,Sem.run_bind,Sem.run_pure,Result.andThen_ok,invoke];exact r1
  .rename_i f az hf has;obtain⟨callee,args,ats⟩:=c;simp only at hf;subst hf;simp[Ij]at hc
  .simp at h
 .
  rename_i t x ho;rw[ho];split at h
  .rename_i r k el hv hu;split at h
   .rename_i es ND;simp only[a08,a1n]at h;obtain⟨rfl,rfl,rfl⟩:=h;have hx:=iH hE (by simp[ho,Op.operands]) hv;refine⟨rfl,?_⟩;generalize hxv:a.eval x=xv at hx;cases hx with
    |map hm=>
    rename_i r1 o1;obtain⟨gJ,b1,b2⟩:=hV.ok _ _ hm (hD (.h r) (by simp[yx]));simp only[St.get,ND,a08]at b1;subst b1;obtain⟨xs,g1,g2⟩:=b2;have zy:s.get (.h s.heap.length)=none:=(by simp[St.get]);have hrl:r<s.heap.length:=(a0w.1 ND).1;have hle:tY M (dM M (.h s.heap.length) (.obj w.heap.size [])):=lJ fun l0 h0=>by rw[zL]at h0;cases h0
    have fK:∀c,c<w.heap.size->c∉aI (.obj w.heap.size [])->(w.alloc (.mapIter (some r1) xs.size #[] xs.size)).heap[c]? = w.heap[c]?:=fun c hc _=>vC w _ c hc;have fQ:∀c∈aI (.obj w.heap.size []),(∃l0,M (.h s.heap.length)=some l0/\c∈aI l0)\/w.heap.size<=c:=fun c hc=>.inr (by simp[aI]at hc;omega);refine⟨.pointer (some ⟨w.heap.size,0,none⟩),w.alloc (.mapIter (some r1) xs.size #[] xs.size),dM M (.h s.heap.length) (.obj w.heap.size []),.inl ?_,?_,?_,.val (.iter (o:=[]) (by simp[Mp.h,dM])),rW zL⟩
    .simp[hxv,Instr.range,run_underlying hu,getObj,Sem.run,g1,newObj]
    .rw[kQ];refine hV.upd _ _ _ (fun j hj=>?_) (fun l0 h0=>by rw[zL]at h0;cases h0) fK fQ (by simp) ⟨r1,o1,#[],?_,?_,?_,rfl⟩
     .rcases hj with hj|⟨x1,x2⟩
      .exact .inl hj
      .right;unfold ni at x2;split at x2
       .assumption
       .simp[x1]at x2
     .have:(Key.h r)≠.h s.heap.length:=fun e=>by cases e;omega
      simp only[Mp.h,dM,a0U this];exact hm
     .rw[g2.len];exact heap_alloc_new w _
     .rw[g2.len,g2.ord];exact a1p _
    .rw[kQ];exact Ext.upd _ _ _ [] (.inr ⟨zy,zL,rfl⟩) hle fK fQ (by simp) rfl rfl rfl
   .simp at h
  .simp at h
 .
  rename_i x ho;rw[ho];split at h
  .rename_i b hv;split at h
   .rename_i r n i seen hb;split at h
    .rename_i es ND;split at h
     case isFalse=>simp at h
     rename_i hn;simp only[a0z,a1n]at h;obtain⟨e,he,rfl,rfl,rfl⟩:=h;have hx:=iH hE (by simp[ho,Op.operands]) hv;refine⟨rfl,.nK hV rfl ?_⟩;generalize a.eval x=xv at hx;cases hx with
     |iter hm=>
     rename_i b1 o1;obtain⟨gJ,c1,c2⟩:=hV.ok _ _ hm (hD (.h b) (by simp[fO]));simp only[St.get,hb,a08]at c1;subst c1;obtain⟨r1,o,sa,d1,d2,d3,d4⟩:=c2;obtain⟨gJ,c1,c2⟩:=hV.ok (.h r) _ d1 (hD (.h r) (by simp[fO]));simp only[St.get,ND,a08]at c1;subst c1;obtain⟨xs,g1,g2⟩:=c2;have iI:sa.toList≠[]:=fun e=>by rw[e]at d4;simp at d4
     obtain⟨k,hk⟩:∃k,sa.back? = some k/\o[k]? = some i:=by
      have h1:(sa.toList.map fun i=>o[i]?).getLast? = some (some i):=by rw[d4];simp
      rw[List.getLast?_map]at h1;simp only[a0z]at h1;obtain⟨k,h2,h3⟩:=h1;exact⟨k,by rw[<-Array.getLast?_toList];exact h2,h3⟩
     have lK:k<xs.size:=by rw[<-g2.ord];exact(a0w.1 hk.2).1
     obtain⟨q1,j,e',q2,q3,q4,q5⟩:=g2.at_ k _ (a4v lK);rw[hk.2]at q2;cases q2;rw[he]at q3;cases q3;refine⟨.tuple #[xs[k].key,xs[k].val],.RG (.cons q4 (.cons q5 .nil)),?_⟩;have hf:xs.find? (·.born==k)=some xs[k]:=by rw[<-Array.find?_toList];have:xs[k].born==k:=(by simpa using q1);rw[List.find?_eq_some_iff_getElem];refine⟨this,k,by simpa using lK,by simp,fun j hj=>?_⟩;have tX:j<xs.size:=(by omega);have:=(g2.at_ j _ (a4v tX)).1;simp only[Array.getElem_toList];rw[this];simp;omega
     have hc:xs.size=n:=by rw[<-g2.len];exact hn
     simp only[Instr.entry,getObj,Sem.run_bind,Sem.run,d2,g1,Result.andThen_ok,hk.1,hc,bne_self_eq_false,a3F,a3V,hf];rfl
    .simp at h
   .simp at h
  .simp at h
 .simp at h
end
abbrev lq(h:List HB):Ct:=St.get ⟨[],[],h,[]⟩
def Mp.only(M:Mp):Mp
 |.h b=>M (.h b)
 |.l _=>none
abbrev oD(r:Option Nat):Fence:={ Fence.wide with round:=r }
def JW(R:LI3->LI4->Prop):Ending->LI4->Prop
 |.returned v,w=>R v w
 |_,_=>False
def jA(M:Mp)(h:List HB)(w:LI4)(v:TV)(h':List HB)(ws:List Nat)(y:LI3)(w':LI4):Prop:=
 ∃M',Valid M' rV (lq h') w'/\(∀k,M' (.l k)=none)/\Ext M (lq h) w M' (lq h') w' (ws.map .h)/\VR M'.h v y
def EI(P:LI1)(d:Deferred)(w:LI4)(R:LI3->LI4->Prop):Prop:=
 ∃f az,(invoke d.target d.args).run P w=.ok (.enter f az) w/\∀n,CallsIn Fence.wide n P f az w (JW R)
def Il(P:LI1)(d:Deferred)(w:LI4)(R:LI3->LI4->Prop):Prop:=
 ∃l f tmps vU body,(invoke d.target d.args).run P w=.ok (.round l f tmps vU body) w/\∀n,RoundIn Fence.wide n P l f tmps vU body w (JW R)
def iK(P:LI1)(call:dN):Prop:=
 ∀fv args h v h' ws,call fv args h=some (v,h',ws)->∀(M:Mp) (w:LI4) (x:LI3) (xs:List LI3),Valid M rV (lq h) w->(∀k,M (.l k)=none)->VR M.h fv x->bZ M.h args xs ->
  ∃d,(∀w,(Deferred.ofValue x xs.toArray).run P w=.ok d w)/\((EI P d w (jA M h w v h' ws)/\∃f a b,fv=.fn f a b)\/(Il P d w (jA M h w v h' ws)/\∃l,fv=.l9 l))
theorem CallsIn.ex{n P f az w R}(h:CallsIn Fence.wide n P f az w (JW R)):∃y w',R y w':=by
 obtain⟨e,w',fr,hR,_⟩:=h.2 [] (room_wide _);cases e with
 |returned v=>exact⟨v,w',hR⟩
 |panicked c=>exact hR.elim
 |outgrown=>exact hR.elim
theorem RoundIn.ex{n P l f tmps vU body w R}(h:RoundIn Fence.wide n P l f tmps vU body w (JW R)):∃y w',R y w':=by
 obtain⟨e,w',hR,_⟩:=h.2 default [] (room_wide _);cases e with
 |returned v=>exact⟨v,w',hR⟩
 |panicked c=>exact hR.elim
 |outgrown=>exact hR.elim
section
variable{P:LI1}{call:dN}
theorem iK.ex(hC:iK P call){fv args h v h' ws}(hc:call fv args h=some (v,h',ws)){M w x xs}(hV:Valid M rV (lq h) w) (hl:∀k,M (.l k)=none) (hx:VR M.h fv x) (Gy:bZ M.h args xs):∃y w',jA M h w v h' ws y w':=by
 obtain⟨d,_,h1|h1⟩:=hC _ _ _ _ _ _ hc M w x xs hV hl hx Gy
 .obtain⟨⟨f,az,_,h2⟩,_⟩:=h1;exact CallsIn.ex (h2 0)
 .obtain⟨⟨l,f,tmps,vU,body,_,h2⟩,_⟩:=h1;exact RoundIn.ex (h2 0)
def adg(M' M:Mp):Mp
 |.h b=>M' (.h b)
 |.l j=>M (.l j)
theorem Gz{M D}{s:St}{w}(hV:Valid M D s.get w)(hh:∀b l,M (.h b)=some l->D (.h b)):Valid M.only rV (lq s.heap) w:=by
 refine⟨?_,?_,?_⟩
 .intro k l hk _;cases k with
  |l j=>cases hk
  |h b=>exact hV.ok (.h b) l hk (hh b l hk)
 .intro k k' l l' b iI hk pJ _ hc hw;cases k with
  |l j=>cases hk
  |h b=>
   cases k' with
   |l j=>cases pJ
   |h b'=>exact hV.own _ _ _ _ _ iI hk pJ (hh b l hk) hc hw
 intro k l hk;cases k with
 |l j=>cases hk
 |h b=>exact hV.inb _ _ hk
theorem Ti{M D}{s:St}{w}(hV:Valid M D s.get w)(vI:∀j l,M (.l j)=some l->∀k' l',Key.l j≠k'->M k'=some l'->∀c∈aI l,c∉aI l'){v h' ws y w'} (hr:jA M.only s.heap w v h' ws y w') :∃M',OC M D s.get w (.val v) (St.get { s with heap:=h' }) (ws.map .h) y w' M':=by
 obtain⟨M',ZT,hl',hX,hy⟩:=hr;have nV:∀(b j:Nat) (l l':Lc),M' (.h b)=some l->M (.l j)=some l'->∀c∈aI l,c∉aI l':=by intro b j l l' hb hj c hc X5;have aQ:=hV.inb _ _ hj c X5;obtain⟨l0,h1,h2⟩:=hX.fresh _ _ hb c hc aQ;exact vI j l' hj (.h b) l0 (by simp) h1 c X5 h2
 refine⟨adg M' M,⟨⟨?_,?_,?_⟩,?_,.val hy,fun _ _ h=>h⟩⟩
 .intro k l hk hd;cases k with
  |h b=>exact ZT.ok (.h b) l hk trivial
  |l j=>
   rcases hd with hd|⟨h1,h2⟩
   .obtain⟨b0,h1,h2⟩:=hV.ok (.l j) l hk hd;refine⟨b0,h1,h2.mono (N:=M.h) (N':=(adg M' M).h) (hX.JE.h) fun c hc=>?_⟩;refine hX.frame c (hV.inb _ _ hk c hc) fun k' pJ l' hl' apB=>?_;obtain⟨b',_,rfl⟩:=a1z.1 pJ;exact vI j l hk (.h b') l' (by simp) hl' c hc apB
   .simp only[St.get]at h1 h2;rw[h1]at h2;cases h2
 .intro k k' l l' b0 iI hk pJ hd hc hw;cases k with
  |h b=>
   cases k' with
   |h b'=>exact ZT.own (.h b) (.h b') l l' b0 iI hk pJ trivial hc hw
   |l j=>exact nV b j l l' hk pJ
  |l j=>
   cases k' with
   |h b'=>exact fun c hc X5=>nV b' j l' l pJ hk c X5 hc
   |l j'=>exact vI j l hk (.l j') l' iI pJ
 .intro k l hk c hc;cases k with
  |h b=>exact ZT.inb (.h b) l hk c hc
  |l j=>exact aal (hV.inb (.l j) l hk c hc) hX.size
 .exact
  {JE:=by
    intro k l hk;cases k with
    |h b=>exact hX.JE (.h b) l hk
    |l j=>exact⟨l,hk,.refl l⟩
   frame:=fun c hc hf=>hX.frame c hc fun k hk l hl=>by obtain⟨b',_,rfl⟩:=a1z.1 hk;exact hf _ hk l hl
   o9:=fun k hk hn=>by
    cases k with
    |h b=>exact hX.o9 (.h b) hk hn
    |l j=>rfl
   kP:=fun k hk hn=>by
    cases k with
    |h b=>exact hX.kP (.h b) hk hn
    |l j=>rfl
   fresh:=fun k l hk c hc aQ=>by
    cases k with
    |h b=>exact hX.fresh (.h b) l hk c hc aQ
    |l j=>exact⟨l,hk,hc⟩
   size:=hX.size
   has:=fun k hk=>by
    cases k with
    |h b=>exact hX.has (.h b) hk
    |l j=>exact hk
   wsub:=fun k hk=>by obtain⟨b',_,rfl⟩:=a1z.1 hk;exact hX.wsub _ hk
   wrote:=fun k hk=>by obtain⟨b',_,rfl⟩:=a1z.1 hk;exact hX.wrote _ hk
   os:=hX.os
   output:=hX.output
   tape:=hX.tape }
theorem getEnv(s:St)(env ws):St.get { s with env:=env,ws:=ws }=s.get:=by funext k;cases k<;>rfl
theorem ZW(s:St)(d v):St.get (s.put d v)=s.get:=by funext k;cases d<;>cases k<;>rfl
theorem Valid.sub{M D D' C w}(hV:Valid M D C w)(h:∀k,D' k->D k):Valid M D' C w:=
 ⟨fun k l hk hd=>hV.ok k l hk (h k hd),fun k k' l l' b a1 a2 a3 hd=>hV.own k k' l l' b a1 a2 a3 (h k hd),hV.inb⟩
theorem a3R{site s o c}(h:o.op=.defer c):qo P call site s o=none:=by simp[qo,h]
def vJ(P:LI1)(call:dN)(site:Nat->Bool)(fl nt:Nat)(ops:Array Oper)(o:Oper)(s:St)(i:zl)(s':St):Prop:=
 Ox nt o=true/\((Dl ops s.env o=some true/\∃v s1,qo P call site s o=some (v,s1,i)/\s'=St.put { s1 with ws:=kH fl i.ws s.ws } o.dst v) \/
  (Dl ops s.env o=some false/\i=cO/\s'=s.put o.dst .undef))
def pK(i:zl)(k:Key):Prop:=k∈i.ts\/k∈i.ws\/(i.all=true/\k.isH=true)
def NG(M:Mp)(env:List (Nat×EV))(tmps:Array LI3)(ops:Array Oper)(o:Oper):Prop:=
 ∀j want d,o.guard=some (j,want)->(ops[j]?).bind (·.dst)=some d->∀e,dQ d env=some e->ER M e (tmps.getD d Go.undef)
theorem NH{M env tmps ops o b}(hG:NG M env tmps ops o)(h:Dl ops env o=some b):Region.wanted o (yielded ops tmps)=b:=by
 unfold Dl at h;unfold Region.wanted;split at h
 .rename_i hg;rw[hg];simpa using h
 rename_i j want hg;rw[hg];simp only;split at h
 rotate_left
 .simp at h
 rename_i d hd;split at h
 .rename_i b0 he;have h3:=(hG j want d hg hd _ he).uT;have hb:tmps.getD d Go.undef=.bool b0:=by generalize tmps.getD d Go.undef=z at h3;cases h3;rfl
  have:tmps[d]? = some (.bool b0):=by
   by_cases h1:d<tmps.size
   .simp only[Array.getD,h1,dite_true]at hb;rw[a4v h1];exact congrArg some hb
   simp[Array.getD,h1,Go.undef]at hb
  simp only[yielded,hd,a5J,this];simpa using h
 .rename_i he;have h2:=hG j want d hg hd _ he;have hb:tmps.getD d Go.undef=Go.undef:=by generalize tmps.getD d Go.undef=z at h2;cases h2;rfl
  have:tmps[d]? = some Go.undef\/tmps[d]? = none:=by
   by_cases h1:d<tmps.size
   .simp only[Array.getD,h1,dite_true]at hb;rw[a4v h1];exact .inl (congrArg some hb)
   right;simpa using h1
  simp at h;subst h;rcases this with this|this<;>simp only[yielded,hd,a5J,this]<;>rfl
 simp at h
def Mc(M:Mp)(D:Key->Prop)(s:St)(w:LI4)(o:Oper)(i:zl)(s':St)(x:LI3)(w':LI4):Prop:=
 ∃v M',s'=St.put { s' with env:=s.env } o.dst v/\OC M D s.get w v s'.get i.ws x w' M'
theorem Vb(s:St)(env d v)(h:s.env=env):s.put d v=St.put { s.put d v with env:=env } d v:=by subst h;cases d<;>rfl
theorem a1H(hC:iK P call){site fl nt ops o s s' i M D w a}(hS:vJ P call site fl nt ops o s i s') (hV:Valid M D s.get w) (zL:M (.h s.heap.length)=none) (hnl:M (.l s.loc.length)=none)(vI:∀j l,M (.l j)=some l->∀k' l',Key.l j≠k'->M k'=some l'->∀c∈aI l,c∉aI l')(hE:Ig M s.env a o.op.operands) (hG:NG M s.env a.tmps ops o) (hD:∀k,pK i k->(M k).isSome=true->D k) :(∃x w',Mc M D s w o i s' x w') /\∀(r) (n) (Q) (idx) (K),ops[idx]? = some o ->(∀x w',Mc M D s w o i s' x w'->K (a.put o.dst x) w')->wpOpIn (oD r) n P ops Q idx K a w:=by
 obtain⟨_,⟨hw,v,s1,jr,rfl⟩|⟨hw,rfl,rfl⟩⟩:=hS
 .have a1I:=NH hG hw;by_cases hc:Ij o.op=true
  .
   have:∃f args ats,o.op=.call { callee:=.value f,args:=args,argTypes:=ats }:=by
    unfold Ij at hc;split at hc
    .rename_i f args ats ho;exact⟨_,_,_,ho⟩
    .cases hc
   obtain⟨f,args,ats,ho⟩:=this;simp only[qo,ho,Ov]at jr;split at jr
   .rename_i b az hb has;cases hb
   .rename_i f' az hf has;injection hf with hf;subst hf;split at jr
    .rename_i fv hfv;split at jr
     .rename_i v0 h' ws yP;simp only[a08,a1n]at jr;obtain⟨rfl,rfl,rfl⟩:=jr;have hh:∀b l,M (.h b)=some l->D (.h b):=fun b l hb=>hD _ (.inr (.inr ⟨rfl,rfl⟩)) (by simp[hb]);have hVo:=Gz hV hh;have hfx:VR M.only.h fv (a.eval f):=iH hE (by simp[ho,Op.operands,Call.operands]) hfv;have hax:bZ M.only.h az (args.toList.map a.eval):=Ih hE (fun x hx=>by simp[ho,Op.operands,Call.operands];exact .inr (by simpa using hx)) has;have conv:∀y w',jA M.only s.heap w v0 h' ws y w'->Mc M D s w o ⟨true,[],ws.map .h⟩ (St.put { s with heap:=h',ws:=kH fl (ws.map .h) s.ws } o.dst (.val v0)) y w':=by intro y w' hr;obtain⟨M',hp⟩:=Ti hV vI hr;refine⟨.val v0,M',Vb _ _ _ _ rfl,?_⟩;rw[ZW];exact hp
      obtain⟨d,hd,wB⟩:=hC _ _ _ _ _ _ yP M.only w (a.eval f) (args.toList.map a.eval) hVo (fun _=>rfl) hfx hax;refine⟨?_,?_⟩
      .obtain⟨y,w',hr⟩:=iK.ex hC yP hVo (fun _=>rfl) hfx hax;exact⟨y,w',conv y w' hr⟩
      .intro r n Q idx K Vd hK;unfold wpOpIn;simp only[Vd,a1I,a2r];refine⟨fun _ _=>trivial,?_⟩;have a6v:∀nx,(invoke d.target d.args).run P w=.ok nx w->(o.semAt (oD r).round a.eval).run P w=.ok nx w:=by intro nx hnx;rw[Oper.semAt_eq _ _ _ (fun c=>by rw[ho];simp)];unfold execOp;rw[ho];have:=hd w;rw[show(List.map a.eval args.toList).toArray=args.map a.eval from by apply aeW;simp]at this;simp[resolve,this,hnx]
       rcases wB with⟨⟨f1,as1,hinv,nV⟩,_⟩|⟨⟨l1,f1,tm1,ag1,bd1,hinv,hrd⟩,_⟩
       .rw[a6v _ hinv];refine⟨fun h=>by simp[Fence.wide]at h,CallsIn.mono (F:=oD r) (nV (n-1)) fun e w' he=>?_⟩;cases e with
        |returned y=>exact hK y w' (conv y w' he)
        |panicked c=>exact he.elim
        |outgrown=>exact he.elim
       .rw[a6v _ hinv];refine⟨fun h=>by simp[Fence.wide]at h,RoundIn.mono (F:=oD r) (hrd (n-1)) fun e w' he=>?_⟩;cases e with
        |returned y=>exact hK y w' (conv y w' he)
        |panicked c=>exact he.elim
        |outgrown=>exact he.elim
     .simp at jr
    .simp at jr
   .simp at jr
  .
   have X5:Ij o.op=false:=(by simpa using hc);have ZT:Valid M (fun k=>D k\/M k=none) s.get w:=⟨fun k l hk hd=>hV.ok k l hk (hd.resolve_right (by simp[hk])),fun k k' l l' b a1 a2 a3 hd=>hV.own k k' l l' b a1 a2 a3 (hd.resolve_right (by simp[a2])),hV.inb⟩;obtain⟨he,x,w',M',hr,hp⟩:=ajp ZT hE zL hnl jr X5 (fun k hk=>by
    cases hm:M k with
    |none=>exact .inr rfl
    |some l=>exact .inl (hD k (.inl hk) (by simp[hm])))
   have vH:Mc M D s w o i (St.put { s1 with ws:=kH fl i.ws s.ws } o.dst v) x w':=by refine⟨v,M',Vb _ _ _ _ he,?_⟩;have hg:St.get { s1 with ws:=kH fl i.ws s.ws }=s1.get:=getEnv s1 s1.env _;rw[ZW,hg];exact⟨hp.val.sub fun k hk=>hk.imp .inl id,hp.ext,hp.er,hp.loc⟩
   refine⟨⟨x,w',vH⟩,fun r n Q idx K Vd hK=>?_⟩;unfold wpOpIn;simp only[Vd,a1I,a2r];refine⟨fun _ _=>trivial,?_⟩;rw[Oper.semAt_eq _ _ _ (fun c ho=>by rw[a3R ho]at jr;cases jr)];rcases hr with hr|⟨rfl,hr⟩
   .rw[hr];exact hK x w' vH
   .rw[hr];exact hK _ w' vH
 .have a1I:=NH hG hw;have vH:Mc M D s w o cO (s.put o.dst .undef) Go.undef w:=by refine⟨.undef,M,Vb _ _ _ _ rfl,?_⟩;rw[ZW];exact .same hV .undef
  refine⟨⟨_,_,vH⟩,fun r n Q idx K Vd hK=>?_⟩;unfold wpOpIn;simp only[Vd,a1I,a3F,a3V];exact⟨fun _ _=>trivial,hK _ _ vH⟩
end
structure xH(M0:Mp)(h0:List HB)(w0:LI4):Prop where
 val:Valid M0 rV (lq h0) w0
 loc:∀k,M0 (.l k)=none
structure Rel(M0:Mp)(h0:List HB)(w0:LI4)(nt:Nat)(M:Mp)(s:St)(a:Act)(w:LI4):Prop where
 val:Valid M rV s.get w
 ext:Ext M0 (lq h0) w0 M s.get w (s.ws.map .h)
 env:kG M s.env a.tmps
 size:nt<=a.tmps.size
 marks:∀d∈a.defers,∃k r,d=⟨.collected r,#[]⟩/\lq h0 (.h k)=none/\(∃o,M (.h k)=some (.obj r o))/\s.get (.h k)=some .mark/\w.heap[r]? = some (.deferred (some []))
 apart:a.defers.Pairwise (·≠·)
theorem a6x{fl b c ws}:c∈Fq fl b ws↔c∈ws\/(c=b/\b<fl):=by
 unfold Fq;split
 .rename_i h;split
  .rename_i hc;have hc:b∈ws:=(by simpa using hc);constructor
   .exact .inl
   rintro (h1|⟨rfl,_⟩)
   .exact h1
   exact hc
  simp only[a1G];constructor
  .rintro (rfl|h1)
   .exact .inr ⟨rfl,h⟩
   exact .inl h1
  rintro (h1|⟨rfl,_⟩)
  .exact .inr h1
  exact .inl rfl
 rename_i h;constructor
 .exact .inl
 rintro (h1|⟨_,h1⟩)
 .exact h1
 exact absurd h1 h
theorem pO{fl c}:∀{ks} {ws},c∈kH fl ks ws↔c∈ws\/(Key.h c∈ks/\c<fl)
 | [],ws=>by simp[kH]
 |.h b::ks,ws=>by
  rw[kH,pO,a6x];simp only[a1G,Key.h.injEq];constructor
  .rintro ((h|⟨rfl,h⟩)|⟨h1,h2⟩)
   .exact .inl h
   .exact .inr ⟨.inl rfl,h⟩
   exact .inr ⟨.inr h1,h2⟩
  rintro (h|⟨rfl|h1,h2⟩)
  .exact .inl (.inl h)
  .exact .inl (.inr ⟨rfl,h2⟩)
  exact .inr ⟨h1,h2⟩
 |.l b::ks,ws=>by rw[kH,pO];simp
theorem zO{t}{s:St}{d v}:dQ t (s.put d v).env=if d=some t then some v else dQ t s.env:=by
 cases d with
 |none=>simp[St.put]
 |some d=>simp[St.put,dQ]
theorem zQ{a:Act}{d:Option Nat}{x t}:(a.put d x).tmps.getD t Go.undef=if d=some t/\t<a.tmps.size then x else a.tmps.getD t Go.undef:=by
 cases d with
 |none=>simp[Act.put]
 |some d=>
  simp only[Act.put,a08];simp only[<-aeV,a8V,aa1];by_cases h:d=t
  .subst h;by_cases h1:d<a.tmps.size
   .simp[h1]
   simp[h1]
  simp[h]
theorem Io{a:Act}{d:Option Nat}{x}:(a.put d x).tmps.size=a.tmps.size:=by cases d<;>simp[Act.put]
theorem jV{a:Act}{d:Option Nat}{x}:(a.put d x).defers=a.defers:=by cases d<;>rfl
section
variable{P:LI1}{call:dN}{site:Nat->Bool}{fl nt:Nat}{ops:Array Oper}{o:Oper}{s s':St}{i:zl}
theorem vJ.a1J(h:vJ P call site fl nt ops o s i s'):s'.ws=kH fl i.ws s.ws:=by
 obtain⟨_,⟨_,v,s1,_,rfl⟩|⟨_,rfl,rfl⟩⟩:=h
 .cases o.dst<;>rfl
 cases o.dst<;>rfl
theorem vJ.dst(h:vJ P call site fl nt ops o s i s'){d:Nat}(hd:o.dst=some d):d<nt:=by have:=h.1;simp only[Ox,hd]at this;simpa using this
variable{M0:Mp}{h0:List HB}{w0:LI4}{M:Mp}{a:Act}{w:LI4}
theorem Rel.loc(hR:Rel M0 h0 w0 nt M s a w):∀j l,M (.l j)=some l->∀k' l',Key.l j≠k'->M k'=some l'->∀c∈aI l,c∉aI l':=by intro j l hj k' l' iI pJ;obtain⟨b,h1,_⟩:=hR.val.ok _ _ hj trivial;refine hR.val.own _ _ _ _ b iI hj pJ trivial h1 ?_;simp only[St.get,a0z]at h1;obtain⟨_,_,rfl⟩:=h1;rfl
theorem Rel.nh(hR:Rel M0 h0 w0 nt M s a w):M (.h s.heap.length)=none:=by
 cases h:M (.h s.heap.length)with
 |none=>rfl
 |some l=>have:=hR.val.has h;simp[St.get]at this
theorem Rel.nl(hR:Rel M0 h0 w0 nt M s a w):M (.l s.loc.length)=none:=by
 cases h:M (.l s.loc.length)with
 |none=>rfl
 |some l=>have:=hR.val.has h;simp[St.get]at this
theorem Dy{h k}(hk:(lq h k).isSome=true):∃b,k=.h b/\b<h.length:=by
 cases k with
 |h b=>exact⟨b,rfl,by simpa[lq,St.get]using hk⟩
 |l j=>simp[lq,St.get]at hk
theorem ZX{h b}(hb:b<h.length):(lq h (.h b)).isSome=true:=by simp[lq,St.get,hb]
theorem Tj(hR:Rel M0 h0 w0 nt M s a w){M' C' w' ws}(hX:Ext M s.get w M' C' w' ws) :∀d∈a.defers,∃k r,d=⟨.collected r,#[]⟩/\lq h0 (.h k)=none/\(∃o,M' (.h k)=some (.obj r o))/\C' (.h k)=some .mark/\w'.heap[r]? = some (.deferred (some [])):=by
 intro d hd;obtain⟨k,r,h1,h2,⟨o,h3⟩,h4,h5⟩:=hR.marks d hd;have hn:Key.h k∉ws:=fun FY=>by have:=(hX.wrote _ FY).2 _ h4;cases this
 obtain⟨l',g1,g2⟩:=hX.JE _ _ h3;obtain⟨o',hl⟩:∃o',l'=.obj r o':=by
  cases l' with
  |cells ls=>exact g2.elim
  |obj r' o'=>cases g2.1;exact⟨o',rfl⟩
 refine⟨k,r,h1,h2,⟨o',by rw[g1,hl]⟩,by rw[hX.o9 _ (by simp[h4]) hn,h4],?_⟩;rw[hX.frame r (a3l.1 h5).1 fun k' pJ l0 qY hc=>?_,h5];obtain⟨b,hb,_⟩:=hR.val.ok _ _ qY trivial;exact hR.val.own k' (.h k) l0 (.obj r o) b (fun e=>hn (e▸pJ)) qY h3 trivial hb ((hX.wrote _ pJ).2 b hb) r hc (by simp[aI])
theorem OX(hB:xH M0 h0 w0)(hR:Rel M0 h0 w0 nt M s a w)(hS:vJ P call site h0.length nt ops o s i s'){x w'}(vH:Mc M rV s w o i s' x w') :∃M',Rel M0 h0 w0 nt M' s' (a.put o.dst x) w':=by
 obtain⟨v,M',he,hp⟩:=vH;refine⟨M',hp.val.sub fun k _=>.inl trivial,?_,?_,by rw[Io];exact hR.size,by rw[jV];exact Tj hR hp.ext,by rw[jV];exact hR.apart⟩
 .refine hR.ext.trans hp.ext (fun k l hk=>hB.val.has hk) (fun k hk FY=>?_) (fun k hk=>?_)
  .obtain⟨b,rfl,hb⟩:=Dy hk;rw[hS.a1J];refine a1z.2 ⟨b,pO.2 ?_,rfl⟩;rcases FY with h1|h1
   .obtain⟨b',h2,h3⟩:=a1z.1 h1;cases h3;exact .inl h2
   .exact .inr ⟨h1,hb⟩
  .rw[hS.a1J]at hk;obtain⟨b,hb,rfl⟩:=a1z.1 hk;rcases pO.1 hb with h1|⟨h1,h2⟩
   .have:Key.h b∈s.ws.map .h:=a1z.2 ⟨b,h1,rfl⟩;exact⟨hR.ext.wsub _ this,.inl this⟩
   .exact⟨ZX h2,.inr h1⟩
 .intro t e hl;rw[he,zO]at hl;rw[zQ];by_cases hd:o.dst=some t
  .rw[a18 hd]at hl;have:=hS.dst hd;have:=hR.size;rw[a18 ⟨hd,by omega⟩];cases hl;exact hp.er
  .rw[a0U hd]at hl;rw[a0U (fun h=>hd h.1)];exact(hR.env t e hl).mono hp.ext.JE hp.loc
theorem Rel.guard(hR:Rel M0 h0 w0 nt M s a w):NG M s.env a.tmps ops o:=fun _ _ d _ _ e he=>hR.env d e he
theorem Ip(hC:iK P call)(hR:Rel M0 h0 w0 nt M s a w)(hS:vJ P call site h0.length nt ops o s i s') :(∃x w',Mc M rV s w o i s' x w') /\∀(r) (n) (Q) (idx) (K),ops[idx]? = some o ->(∀x w',Mc M rV s w o i s' x w'->K (a.put o.dst x) w')->wpOpIn (oD r) n P ops Q idx K a w:=
 a1H hC hS hR.val hR.nh hR.nl hR.loc (hR.env.on _) hR.guard fun _ _ _=>trivial
theorem Dz{o os s s' is}(h:lQ P call site fl nt ops (o::os) s=some (s',is)) :∃i s1 is',vJ P call site fl nt ops o s i s1/\lQ P call site fl nt ops os s1=some (s',is')/\is=i::is':=by
 simp only[lQ]at h;split at h
 .simp at h
 .rename_i hd;have hd:Ox nt o=true:=by simpa using hd
  split at h
  .rename_i hw;split at h
   .rename_i v s1 i jr;split at h
    .rename_i s2 is2 hr;simp only[a08,a1n]at h;obtain⟨rfl,rfl⟩:=h;exact⟨i,_,_,⟨hd,.inl ⟨hw,v,s1,jr,rfl⟩⟩,hr,rfl⟩
    .simp at h
   .simp at h
  .rename_i hw;split at h
   .rename_i s2 is2 hr;simp only[a08,a1n]at h;obtain⟨rfl,rfl⟩:=h;exact⟨_,_,_,⟨hd,.inr ⟨hw,rfl,rfl⟩⟩,hr,rfl⟩
   .simp at h
  .simp at h
theorem a6y(hC:iK P call)(hB:xH M0 h0 w0){r n Q}:∀(os) (k) (s s') (is) (M) (a) (w),ops.toList.drop k=os ->lQ P call site h0.length nt ops os s=some (s',is)->Rel M0 h0 w0 nt M s a w ->(∀M' a' w',Rel M0 h0 w0 nt M' s' a' w'->a'.defers=a.defers->Q .normal a' w')->wpOpsIn (oD r) n P ops Q (List.range' k os.length) a w
 | [],k,s,s',is,M,a,w,_,h,hR,hQ=>by simp only[lQ,a08,a1n]at h;obtain⟨rfl,rfl⟩:=h;exact hQ M a w hR rfl
 |o::os,k,s,s',is,M,a,w,hd,h,hR,hQ=>by
  obtain⟨i,s1,is',hS,hr,rfl⟩:=Dz h;have ho:ops[k]? = some o:=by have:=congrArg (fun l=>l[0]?) hd;simpa using this
  have ZU:ops.toList.drop (k+1)=os:=by rw[<-afF,hd];rfl
  simp only[a4T,List.range'_succ];rw[wpOpsIn_cons];refine(Ip hC hR hS).2 r n Q k _ ho fun x w' vH=>?_;obtain⟨M',GH⟩:=OX hB hR hS vH;exact a6y hC hB os (k+1) s1 s' is' M' _ w' ZU hr GH fun M2 a2 w2 h2 hdf=>hQ M2 a2 w2 h2 (hdf.trans jV)
theorem a3S(hC:iK P call)(hB:xH M0 h0 w0){r n Q id s s' is M a w}(h:lQ P call site h0.length nt ops ops.toList s=some (s',is)) (hR:Rel M0 h0 w0 nt M s a w)(hQ:∀M' a' w',Rel M0 h0 w0 nt M' s' a' w'->a'.defers=a.defers->Q .normal a' w'):(Code.region id ops false).wpIn (oD r) n P Q a w:=by
 refine wpIn_region ?_;have:=a6y (r:=r) (n:=n) (Q:=Q) hC hB ops.toList 0 s s' is M a w rfl h hR hQ;simpa[List.range_eq_range']using this
end
theorem OY{i}:∀{xs l},i∈Oy xs l->i∈xs\/i∈l
 | [],l,h=>.inr h
 |x::xs,l,h=>by
  simp only[Oy]at h;rcases OY h with h1|h1
  .exact .inl (a3J _ h1)
  split at h1
  .exact .inr h1
  rcases a1G.1 h1 with rfl|h2
  .exact .inl a3M
  exact .inr h2
theorem Iq{acc:List (List Nat)}{i}:∀{es:List Edge} {l},i∈es.foldl (fun l e=>if Region.binds .any e then Oy (e.on::acc.getD e.on []) l else l) l->i∈l\/∃e∈es,Region.binds .any e=true/\(i=e.on\/i∈acc.getD e.on [])
 | [],l,h=>.inl h
 |e::es,l,h=>by
  simp only[aey]at h;rcases Iq h with h1|⟨e',h2,h3⟩
  .split at h1
   .rename_i hb;rcases OY h1 with h2|h2
    .refine .inr ⟨e,a3M,hb,?_⟩;exact a1G.1 h2
    .exact .inl h2
   .exact .inl h1
  .exact .inr ⟨e',a3J _ h2,h3⟩
theorem ZY{acc o i}(h:i∈Gp acc o):∃e∈o.after,Region.binds .any e=true/\(i=e.on\/i∈acc.getD e.on []):=by
 rcases Iq h with h1|⟨e,h2,h3⟩
 .cases h1
 exact⟨e,by simpa using h2,h3⟩
theorem Ir:∀(os) (acc),∃t,FU os acc=acc++t
 | [],acc=>⟨[],by simp[FU]⟩
 |o::os,acc=>by obtain⟨t,ht⟩:=Ir os (acc++[Gp acc o]);exact⟨Gp acc o::t,by simp[FU,ht]⟩
theorem Tn:∀(os) (acc) (k:Nat) (o:Oper),os[k]? = some o ->(FU os acc)[acc.length+k]? = some (Gp ((FU os acc).take (acc.length+k)) o)
 | [],acc,k,o,h=>by simp at h
 |o'::os,acc,0,o,h=>by simp at h;subst h;obtain⟨t,ht⟩:=Ir os (acc++[Gp acc o']);simp[FU,ht]
 |o'::os,acc,k+1,o,h=>by
  have:=Tn os (acc++[Gp acc o']) k o (by simpa using h);simp only[FU];simp only[a1D,a4T,a5V]at this
  rwa [show acc.length+(0+1)+k=acc.length+(k+1) by omega]at this
def Xq(ops:List Oper)(j:Nat):List Nat:=(FU ops []).getD j []
theorem a6z{ops j i o}(hj:ops[j]? = some o)(h:i∈Xq ops j):∃e∈o.after,Region.binds .any e=true/\(i=e.on\/(e.on<j/\i∈Xq ops e.on)):=by
 have:=Tn ops [] j o hj;simp only[a5V,a3O]at this;unfold Xq at h;rw[a4h,this]at h;simp only[a6b]at h;obtain⟨e,h1,h2,h3⟩:=ZY h;refine⟨e,h1,h2,h3.imp id fun h4=>?_⟩;rw[a4h,a5G]at h4;split at h4
 .rename_i aQ;exact⟨aQ,by unfold Xq;rw[a4h];exact h4⟩
 simp at h4
def vK(D:Nat->Prop)(o:Oper):Prop:=∀e∈o.after,Region.binds .any e=true->D e.on
theorem Ve{ops D}(hc:∀j o,ops[j]? = some o->D j->vK D o):∀(j) (o),ops[j]? = some o->vK D o->∀i∈Xq ops j,D i:=by
 intro j
 induction j using Nat.strongRecOn with
 |_ j ih=>
  intro o ho hw i hi;obtain⟨e,h1,h2,h3⟩:=a6z ho hi;rcases h3 with rfl|⟨aQ,h4⟩
  .exact hw e h1 h2
  have hd:=hw e h1 h2;have hl:j<ops.length:=(a0w.1 ho).1;have hoe:ops[e.on]? = some ops[e.on]:=a0N (by omega);exact ih e.on aQ _ hoe (hc _ _ hoe hd) i h4
theorem zA{ops i j}(AY:i<j)(hj:j<ops.length)(hn:i∉Xq ops j):(i,j)∈pF ops:=by simp only[pF,af7,a5D,a1z,a7y];exact⟨j,hj,i,⟨AY,by simpa[Xq]using hn⟩,rfl⟩
theorem Xr{ops}(h:oq ops=true){i o}(ho:ops[i]? = some o){e}(he:e∈o.after)(hb:Region.binds .any e=true):e.on<i:=by
 simp only[oq,a2K,a5L]at h;have:=h.1 (o,i) (by rw[aau];simpa using ho)
 simp only[ads]at this;have:=this e he;simpa[hb]using this
theorem AZ{ops}(h:oq ops=true){i j a b}(hp:(i,j)∈pF ops)(ha:ops[i]? = some a)(hb:ops[j]? = some b):a.apart ops.toArray b=true/\b.apart ops.toArray a=true:=by simp only[oq,a2K,a5L]at h;have:=h.2 (i,j) hp;simpa[ha,hb]using this
theorem Tq{yA}:∀{ps},Cc yA ps=true->∀{i j} {a b},(i,j)∈ps->yA[i]? = some a->yA[j]? = some b->calm a b=true
 | [],_,i,j,a,b,h,_,_=>by cases h
 |(x,y)::r,hd,i,j,a,b,h,ha,hb=>by
  simp only[Cc,a2K]at hd;rcases a1G.1 h with h1|h1
  .cases h1;simpa[ha,hb]using hd.1
  exact Tq hd.2 h1 ha hb
section
variable{P:LI1}{call:dN}{site:Nat->Bool}{s s1:St}{o:Oper}{v:EV}{i:zl}
theorem a6A{t a r}(h:loadT P t s a=some r):r.2.ws=[]:=by
 unfold loadT at h;split at h
 .split at h
  .simp only[a0z]at h;obtain⟨_,_,rfl⟩:=h;rfl
  simp at h
 .split at h
  .split at h
   .simp only[a0z]at h;obtain⟨_,_,rfl⟩:=h;rfl
   simp at h
  simp at h
 simp at h
theorem aaz{at_ h0 x r}(h:ZC P at_ h0 x=some r):r.2.ws=[]:=by
 unfold ZC at h
 repeat' (split at h)
 all_goals first
  |(simp at h;done)
  |(simp only[a08]at h;subst h;rfl)
theorem ajq(h:qo P call site s o=some (v,s1,i))(hm:JI o.op=false):i.ws=[]:=by
 unfold qo at h;split at h
 all_goals first
  |(simp at h;done)
  |(rename_i ho;rw[ho]at hm;simp[JI]at hm;done)
  |(simp only[a0z,a1n]at h;obtain⟨_,_,_,_,rfl⟩:=h;rfl)
  |(split at h<;>first|(simp at h;done)|(simp only[a0z,a1n,a08]at h;first|(obtain⟨_,_,_,_,rfl⟩:=h;rfl)|(obtain⟨_,_,rfl⟩:=h;rfl)))
  |skip
 .split at h
  .split at h
   .simp only[a08,a1n]at h;obtain⟨_,_,rfl⟩:=h;rfl
   simp at h
  simp at h
 .split at h
  .simp only[a0z,a1n]at h;obtain⟨r,hr,_,_,rfl⟩:=h;exact a6A hr
  simp at h
 .split at h
  .split at h
   .simp only[a0z,a1n]at h;obtain⟨_,_,_,_,rfl⟩:=h;rfl
   .simp only[a0z,a1n]at h;obtain⟨_,_,_,_,rfl⟩:=h;rfl
   simp at h
  simp at h
 .rename_i c ho;rw[ho]at hm;obtain⟨callee,args,ats⟩:=c;unfold Ov at h;simp only at h;split at h
  .rename_i b az;simp only[a0z,a1n]at h;obtain⟨⟨v0,s0,i0⟩,hb,_,_,rfl⟩:=h;simp only[JI]at hm;unfold rU at hb;split at hb
   .simp only[a0z,a1n]at hb;obtain⟨r,hr,_,_,rfl⟩:=hb;exact aaz hr
   .simp at hm
   .simp at hm
   .simp only[a0z,a1n]at hb;obtain⟨r,hr,_,_,rfl⟩:=hb;rfl
   .simp only[a0z,a1n]at hb;obtain⟨r,hr,_,_,rfl⟩:=hb;rfl
   simp at hb
  .simp[JI]at hm
  simp at h
 .split at h
  .split at h
   .simp only[a08,a1n]at h;obtain⟨_,_,rfl⟩:=h;rfl
   simp at h
  simp at h
 split at h
 .split at h
  .split at h
   .split at h
    .simp only[a0z,a1n]at h;obtain⟨_,_,_,_,rfl⟩:=h;rfl
    simp at h
   simp at h
  simp at h
 simp at h
theorem ajr(h:qo P call site s o=some (v,s1,i))(hm:Oz o.op=false):i.ts=[]/\i.ws=[]/\i.all=false:=by
 unfold qo at h;split at h
 all_goals first
  |(simp at h;done)
  |(rename_i ho;rw[ho]at hm;simp[Oz]at hm;done)
  |(simp only[a0z,a1n]at h;obtain⟨_,_,_,_,rfl⟩:=h;exact⟨rfl,rfl,rfl⟩)
  |(split at h<;>first|(simp at h;done)|(simp only[a0z,a1n,a08]at h;first|(obtain⟨_,_,_,_,rfl⟩:=h;exact⟨rfl,rfl,rfl⟩)|(obtain⟨_,_,rfl⟩:=h;exact⟨rfl,rfl,rfl⟩)))
  |skip
 .split at h
  .split at h
   .simp only[a08,a1n]at h;obtain⟨_,_,rfl⟩:=h;exact⟨rfl,rfl,rfl⟩
   simp at h
  simp at h
 .split at h
  .split at h
   .simp only[a0z,a1n]at h;obtain⟨_,_,_,_,rfl⟩:=h;exact⟨rfl,rfl,rfl⟩
   .simp only[a0z,a1n]at h;obtain⟨_,_,_,_,rfl⟩:=h;exact⟨rfl,rfl,rfl⟩
   simp at h
  simp at h
 rename_i c ho;rw[ho]at hm;obtain⟨callee,args,ats⟩:=c;unfold Ov at h;simp only at h;split at h
 .rename_i b az;simp only[a0z,a1n]at h;obtain⟨⟨v0,s0,i0⟩,hb,_,_,rfl⟩:=h;simp only[Oz]at hm;unfold rU at hb;split at hb
  .simp at hm
  .simp at hm
  .simp at hm
  .simp only[a0z,a1n]at hb;obtain⟨r,hr,_,_,rfl⟩:=hb;exact⟨rfl,rfl,rfl⟩
  .simp only[a0z,a1n]at hb;obtain⟨r,hr,_,_,rfl⟩:=hb;exact⟨rfl,rfl,rfl⟩
  simp at hb
 .simp[Oz]at hm
 simp at h
variable{fl nt:Nat}{ops:Array Oper}{s':St}
theorem vJ.w(h:vJ P call site fl nt ops o s i s')(hm:JI o.op=false):i.ws=[]:=by
 obtain⟨_,⟨_,v,s1,h1,_⟩|⟨_,rfl,_⟩⟩:=h
 .exact ajq h1 hm
 rfl
theorem vJ.t(h:vJ P call site fl nt ops o s i s')(hm:Oz o.op=false):i.ts=[]/\i.ws=[]/\i.all=false:=by
 obtain⟨_,⟨_,v,s1,h1,_⟩|⟨_,rfl,_⟩⟩:=h
 .exact ajr h1 hm
 exact⟨rfl,rfl,rfl⟩
theorem OZ{ws b}(h:OA ws b=true){k}(hk:k∈ws):¬pK b k:=by
 simp only[OA,a5L]at h;have:=h k hk;simp only[a2K,a9c,ahp]at this;obtain⟨⟨h1,h2⟩,h3⟩:=this;rintro (h4|h4|⟨h4,h5⟩)
 .simp[h4]at h2
 .simp[h4]at h3
 simp[h4,h5]at h1
theorem a3T{yA ol}(hd:Cc yA (nO ol)=true){x y a b ia ib sa sa' sb sb'}(hp:(x,y)∈pF ol)(ha:ol[x]? = some a)(hb:ol[y]? = some b)(hia:yA[x]? = some ia) (hib:yA[y]? = some ib) (sta:vJ P call site fl nt ops a sa ia sa') (stb:vJ P call site fl nt ops b sb ib sb') :Cb a b=true\/((∀k∈ia.ws,¬pK ib k)/\(∀k∈ib.ws,¬pK ia k)):=by
 cases hsp:Cb a b
 case true=>exact .inl rfl
 right;by_cases hh:((JI a.op&&Oz b.op)||(Oz a.op&&JI b.op))=true
 .have hm:(x,y)∈nO ol:=by simp only[nO,a7y];refine⟨hp,?_⟩;simp only[ha,hb,hsp,abh,aiB];exact hh
  have:=Tq hd hm hia hib;simp only[calm,a2K]at this;exact⟨fun k hk=>OZ this.1 hk,fun k hk=>OZ this.2 hk⟩
 .simp only[aag,a2K,adk,not_and,af6]at hh;constructor
  .intro k hk ht;have h1:JI a.op=true:=by
    cases h2:JI a.op with
    |true=>rfl
    |false=>rw[sta.w h2]at hk;cases hk
   obtain⟨t1,t2,t3⟩:=stb.t (hh.1 h1);rcases ht with h|h|⟨h,_⟩
   .rw[t1]at h;cases h
   .rw[t2]at h;cases h
   .rw[t3]at h;cases h
  .intro k hk ht;have h1:JI b.op=true:=by
    cases h2:JI b.op with
    |true=>rfl
    |false=>rw[stb.w h2]at hk;cases hk
   have h2:Oz a.op=false:=by
    cases h3:Oz a.op with
    |false=>rfl
    |true=>have:=hh.2 h3;rw[h1]at this;cases this
   obtain⟨t1,t2,t3⟩:=sta.t h2;rcases ht with h|h|⟨h,_⟩
   .rw[t1]at h;cases h
   .rw[t2]at h;cases h
   .rw[t3]at h;cases h
end
end Tw
