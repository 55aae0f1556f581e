/- Part 1 of a proof: ApplyMeets -/
import Derived.RangeFuncLeaves
import Derived.OrdersIn
import Derived.Laws.CopyRow
import Derived.Laws.Rows
import Derived.Laws.Entries
set_option linter.unusedVariables false
set_option linter.unusedSimpArgs false
set_option linter.unusedSectionVars false
open Go.IntKind (i64)
noncomputable section
theorem aiC:false=false:=rfl
theorem aiD:(0:Int)<=0:=by decide
theorem aiE:(0:Int)<=1:=by decide
theorem aiF:(0:Int)<=2:=by decide
theorem aiG:(1:Int)=1:=rfl
theorem aiH:true=true:=rfl
theorem aiI:(0:Int)<=4:=by decide
theorem aiJ:(!true)=false:=rfl
theorem aiK:(!false)=true:=rfl
theorem aiL:(5:Int)<=5:=by decide
theorem aiM:(6:Int)<=6:=by decide
theorem aiN:(0:Int)=0:=rfl
theorem aiO:(1:Int)<=2:=by decide
theorem aiP:(1:Int)<=3:=by decide
theorem aiQ:(3:Int)<=3:=by decide
theorem aiR:(2:Int)<=3:=by decide
theorem aiS:(1:Int)<=4:=by decide
theorem aiT:(4:Int)<=4:=by decide
theorem aiU:(2:Int)<=4:=by decide
theorem aiV:(1:Int)<=5:=by decide
theorem aiW:(2:Int)<=5:=by decide
theorem aiX:(4:Int)<=5:=by decide
theorem aiY:(1:Int)<=6:=by decide
theorem aiZ:(2:Int)<=6:=by decide
theorem aj0:(4:Int)<=6:=by decide
theorem aj1:(0:Int)<=0/\(0:Int)<=6:=⟨by decide,by decide⟩
theorem aj2:(0:Int)<=1/\(1:Int)<=6:=⟨by decide,by decide⟩
theorem aj3:(2:Int)<=2:=by decide
theorem aj6:(0:Int)<=2/\(2:Int)<=6:=⟨by decide,by decide⟩
theorem aj7:(0:Int)<=3:=by decide
theorem aj8:(0:Int)<=3/\(3:Int)<=6:=⟨by decide,by decide⟩
theorem aj9:(0:Int)<=4/\(4:Int)<=6:=⟨by decide,by decide⟩
theorem aja:(0:Int)<=5:=by decide
theorem ajb:(0:Int)<=5/\(5:Int)<=6:=⟨by decide,by decide⟩
theorem ajc:(0:Int)<=6:=by decide
theorem ajd:(0:Int)<=6/\(6:Int)<=6:=⟨by decide,by decide⟩
abbrev LI0:=List Int
abbrev LI1:=Go.Program
abbrev LI2:=Go.TypeId
abbrev LI3:=Go.Value
abbrev LI4:=Go.World
abbrev a08:=@Option.some.injEq
abbrev a0u:=@List.getElem?_eq_some_iff
abbrev a0x:=@Option.map_eq_some_iff
abbrev a0A:=@List.getElem?_eq_getElem
abbrev a0P:=@List.getElem?_append_left
abbrev a0S:=@if_neg
abbrev a15:=@if_pos
abbrev a1d:=@Prod.mk.injEq
abbrev a1j:=@Nat.le_refl
abbrev a1l:=@Option.map_some
abbrev a1p:=@List.getElem?_append_right
abbrev a1u:=@List.mem_map
abbrev a1v:=@List.length_append
abbrev a1w:=@List.getElem?_set_ne
abbrev a1z:=@decide_eq_true_eq
abbrev a1B:=@List.mem_cons
abbrev a1C:=@List.getElem?_set_self
abbrev a2l:=@if_true
abbrev a2m:=@List.mem_singleton
abbrev a2o:=@Bool.and_eq_true
abbrev a2v:=@Array.getElem?_eq_some_iff
abbrev a2H:=@Bool.false_eq_true
abbrev a2I:=@List.getElem?_cons_zero
abbrev a2J:=@List.getD_eq_getElem?_getD
abbrev a3k:=@decide_eq_false_iff_not
abbrev a3A:=@List.mem_cons_of_mem
abbrev a3C:=@Nat.zero_add
abbrev a3E:=@List.mem_append
abbrev a3G:=@List.mem_cons_self
abbrev a3H:=@Nat.add_mul
abbrev a3I:=@Nat.mul_le_mul_right
abbrev a3J:=@List.length_singleton
abbrev a3Q:=@List.length_drop
abbrev a3S:=@if_false
abbrev a4c:=@List.length_take
abbrev a4j:=@Array.getElem?_eq_getElem
abbrev a4o:=@List.eq_nil_of_length_eq_zero
abbrev a4p:=@List.length_cons
abbrev a4w:=@List.getElem?_eq_none
abbrev a4M:=@List.map_append
abbrev a4N:=@List.map_cons
abbrev a4O:=@Nat.lt_or_ge
abbrev a4P:=@List.length_map
abbrev a5f:=@List.getElem?_take
abbrev a5u:=@List.getElem?_drop
abbrev a5v:=@List.getElem?_set_self'
abbrev a5w:=@List.getElem?_map
abbrev a5x:=@List.nodup_cons
abbrev a5y:=@List.mem_range
abbrev a5z:=@List.all_eq_true
abbrev a5A:=@List.length_set
abbrev a5B:=@List.getElem_mem
abbrev a5C:=@Option.bind_some
abbrev a5D:=@Nat.zero_le
abbrev a5E:=@List.mem_of_getElem?
abbrev a5F:=@List.prefix_rfl
abbrev a5G:=@Bool.eq_iff_iff
abbrev a5H:=@List.idxOf_lt_length_iff
abbrev a5I:=@List.mem_iff_getElem
abbrev a5J:=@List.map_congr_left
abbrev a5K:=@Option.getD_some
abbrev a5L:=@List.length_nil
abbrev a5M:=@Int.toNat_natCast
abbrev a5N:=@List.mem_of_mem_drop
abbrev a5O:=@Nat.le_trans
abbrev a5R:=@List.contains_eq_mem
abbrev a5S:=@not_false_eq_true
abbrev a5X:=@Option.isSome_iff_exists
abbrev a5Z:=@List.mem_append_left
abbrev a6b:=@List.take_succ_eq_append_getElem
abbrev a6c:=@List.length_replicate
abbrev a6g:=@List.nodup_nil
abbrev a6j:=@List.drop_eq_getElem_cons
abbrev a6k:=@List.append_nil
abbrev a6m:=@List.append_assoc
abbrev a6u:=@List.length_range
abbrev a6I:=@List.mem_filterMap
abbrev a7f:=@List.length_eq_zero_iff
abbrev a7j:=@of_decide_eq_true
abbrev a7k:=@List.idxOf_eq_length
abbrev a7l:=@beq_iff_eq
abbrev a7n:=@List.eq_nil_iff_forall_not_mem
abbrev a7o:=@List.perm_ext_iff_of_nodup
abbrev a7q:=@List.mem_of_mem_take
abbrev a8b:=@Nat.min_eq_left
abbrev a8f:=@List.mem_filter
abbrev a8G:=@List.map_map
abbrev a8N:=@not_true
abbrev a8Z:=@Array.length_toList
abbrev a90:=@List.getElem_of_mem
abbrev a9f:=@Array.getD_eq_getD_getElem?
abbrev a9u:=@Int.emod_eq_of_lt
abbrev a9y:=@Bool.not_eq_true'
abbrev a9z:=@List.getElem?_of_mem
abbrev a9B:=@List.getElem_idxOf
abbrev a9C:=@List.prefix_append
abbrev a9L:=@List.take_of_length_le
abbrev a9Q:=@Int.mul_le_mul_of_nonneg_left
abbrev a9S:=@List.nodup_append
abbrev a9X:=@List.mem_iff_getElem?
abbrev a9Y:=@Array.getElem?_setIfInBounds
abbrev a9Z:=@Nat.eq_of_beq_eq_true
abbrev aa0:=@Int.le_refl
abbrev aa1:=@List.getElem_map
abbrev aa2:=@Bool.not_true
abbrev aa3:=@List.filterMap_cons
abbrev aa4:=@Bool.or_eq_true
abbrev aa5:=@Option.some.inj
abbrev aa6:=@Classical.choose_spec
abbrev aa7:=@List.length_filter_le
abbrev aa8:=@Nat.lt_of_lt_of_le
abbrev aa9:=@Nat.le_of_lt
abbrev aac:=@List.ext_getElem
abbrev aad:=@Nat.add_assoc
abbrev aah:=@List.mem_zipIdx_iff_getElem?
abbrev aai:=@Bool.or_eq_false_iff
abbrev aal:=@List.getElem?_cons_succ
abbrev aan:=@List.getElem?_set
abbrev aao:=@List.ext_getElem?
abbrev aap:=@List.idxOf_append
abbrev aar:=@List.nil_append
abbrev aaw:=@Nat.one_mul
abbrev aaB:=@List.findIdx?_eq_some_iff_getElem
abbrev aaJ:=@Array.getElem?_append_left
abbrev aaK:=@forall_congr'
abbrev aaL:=@List.getElem_inj
abbrev aaO:=@List.drop_zero
abbrev aaS:=@List.length_mergeSort
abbrev aaX:=@Bool.not_eq_false'
abbrev ab5:=@Int.mul_le_mul_of_nonneg_right
abbrev ab7:=@List.length_pos_iff
abbrev ab9:=@List.getElem?_range
abbrev abD:=@Bool.not_false
abbrev abE:=@List.take_length
abbrev abG:=@Nat.eq_zero_or_pos
abbrev abI:=@List.map_nil
abbrev abL:=@Array.getElem?_modify
abbrev abW:=@List.mem_append_right
abbrev abX:=@List.range_succ
abbrev ac9:=@List.all_cons
abbrev acg:=@Int.add_mul_emod_self_left
abbrev acA:=@List.nodup_iff_pairwise_ne
abbrev acY:=@Classical.byContradiction
abbrev ad4:=@List.pairwise_iff_getElem
abbrev ad8:=@Int.mul_one
abbrev adb:=@Nat.add_zero
abbrev ade:=@not_or
abbrev adg:=@Nat.zero_mul
abbrev adi:=@Array.all_eq_true_iff_forall_mem
abbrev adk:=@Nat.le_of_not_lt
abbrev adr:=@and_self
abbrev ads:=@Prod.ext
abbrev adv:=@List.filter_cons_of_neg
abbrev adx:=@List.filter_cons_of_pos
abbrev ady:=@Bool.true_and
abbrev adz:=@List.any_cons
abbrev adE:=@List.foldl_cons
abbrev aef:=@List.idxOf_cons
abbrev aen:=@List.Nodup.length_le_of_subset
abbrev aev:=@Nat.le_mul_of_pos_left
abbrev aeB:=@List.size_toArray
abbrev aeG:=@List.getElem?_toArray
abbrev aeI:=@Array.getElem?_toList
abbrev aeJ:=@Int.mul_nonneg
abbrev aeO:=@Array.ext'
abbrev aeP:=@Bool.not_eq_true
abbrev aeS:=@List.mem_flatMap
abbrev aeT:=@List.getElem?_modify
abbrev af0:=@List.nodup_range
abbrev af2:=@List.replicate_succ
abbrev af4:=@List.mergeSort_perm
abbrev af6:=@List.length_zipWith
abbrev af8:=@Int.natCast_mul
abbrev afb:=@List.cons.injEq
abbrev afc:=@decide_eq_false
abbrev afd:=@List.forall_mem_singleton
abbrev afe:=@List.getElem_range
abbrev aff:=@Bool.true_eq_false
abbrev afh:=@Nat.sub_self
abbrev afi:=@Int.le_of_lt
abbrev afj:=@List.find?_eq_none
abbrev afk:=@List.take_take
abbrev afn:=@List.drop_drop
abbrev afp:=@Ne.symm
abbrev afv:=@Option.map_map
abbrev afy:=@List.getElem?_replicate
abbrev afB:=@List.pairwise_map
abbrev afN:=@Int.add_mul
abbrev afP:=@List.drop_of_length_le
abbrev afQ:=@Bool.false_or
abbrev agb:=@List.prefix_refl
abbrev agu:=@List.any_eq_true
abbrev agv:=@Bool.and_eq_false_iff
abbrev agV:=@Nat.le_of_ble_eq_true
abbrev agX:=@List.take_append_drop
abbrev aha:=@Nat.le_of_eq
abbrev ahm:=@Int.emod_nonneg
abbrev ahx:=@Int.ediv_nonneg
abbrev ahD:=@Int.add_comm
abbrev ahN:=@List.getElem?_mapIdx
abbrev ahY:=@List.find?_cons
abbrev ai1:=@Nat.not_lt_zero
abbrev aic:=@Int.toNat_of_nonneg
abbrev ais:=@Nat.succ_eq_add_one
abbrev ait:=@beq_eq_false_iff_ne
abbrev aiu:=@List.drop_take
abbrev aiv:=@Int.mul_le_mul
abbrev aiw:=@Nat.mul_le_mul
abbrev aix:=@Nat.mul_one
abbrev aiy:=@List.contains_cons
abbrev aiz:=@Bool.and_true
abbrev aiA:=@Int.mul_assoc
abbrev aiB:=@List.cons.inj
namespace Tw
open Go
inductive NK where
 |ptr|aP|map|fn|ifc
 deriving DecidableEq
inductive TV where
 |bool (b:Bool)
 |int (k:IntKind) (n:Int)
 |str (s:ByteArray)
 |nil (k:NK)
 |ptr (b off lim:Nat)
 |aP (b off len cap sz:Nat) (ex:Bool)
 |map (r:Nat)
 |fn (f:FuncId) (first cap:List TV)
 |lJ (l:Nat)
 |agg (cs:List TV)
 |dB (cs:List TV)
 |iter (b:Nat)
inductive EV where
 |val (v:TV)
 |loc (k off:Nat)
 |undef
 |ent (r j:Nat) (v:TV)
 |Fz (r j:Nat)
inductive BK where
 |ro|own|grow|last
 deriving DecidableEq
inductive HB where
 |cells (k:BK) (cs:List TV)
 |map (es:List (TV×TV))
 |nP (cs:List TV)
 |mark
 |dD (r n:Nat) (seen:List Nat)
 |loop (ready:Bool) (f:FuncId) (nt:Nat) (env:List (Nat×EV)) (ps:List Nat) (assign body:Code) (kC:Option Code)
structure St where
 env:List (Nat×EV)
 loc:List (List TV)
 heap:List HB
 ws:List Nat
inductive Key where
 |h (b:Nat)
 |l (k:Nat)
 deriving DecidableEq
def St.get(s:St):Key->Option HB
 |.h b=>s.heap[b]?
 |.l k=>(s.loc[k]?).map (.cells .own)
def TV.toC:TV->Option LI3
 |.bool b=>some (.bool b)
 |.int k n=>some (.int k n)
 |.str s=>some (.string s)
 |.nil .ptr=>some (.pointer none)
 |.nil .aP=>some (.slice none 0 0)
 |.nil .map=>some (.map none)
 |.nil .fn=>some .nilFunc
 |.nil .ifc=>some .nilIface
 |_=>none
def TV.UJ:List TV->Option (List LI3)
 | []=>some []
 |c::cs=>match c.toC,TV.UJ cs with
  |some v,some vs=>some (v::vs)
  |_,_=>none
def TV.zk:TV->Option LI3
 |.agg cs=>(TV.UJ cs).map fun vs=>.agg vs.toArray
 |v=>v.toC
def TV.ofC:LI3->Option TV
 |.bool b=>some (.bool b)
 |.int k n=>some (.int k n)
 |.string s=>some (.str s)
 |.pointer none=>some (.nil .ptr)
 |.slice none 0 0=>some (.nil .aP)
 |.map none=>some (.nil .map)
 |.nilFunc=>some (.nil .fn)
 |.nilIface=>some (.nil .ifc)
 |_=>none
def TV.Dl:List LI3->Option (List TV)
 | []=>some []
 |c::cs=>match TV.ofC c,TV.Dl cs with
  |some v,some vs=>some (v::vs)
  |_,_=>none
def TV.X4:LI3->Option TV
 |.agg cs=>(TV.Dl cs.toList).map .agg
 |v=>TV.ofC v
def TV.ad6:TV->Bool
 |.bool _|.int _ _|.str _|.nil _=>true
 |_=>false
def TV.ad7:TV->Bool
 |.agg cs=>cs.all TV.ad6
 |v=>v.ad6
def TV.flat:TV->Bool
 |.dB vs=>vs.all TV.ad7
 |v=>v.ad7
def TV.cells:TV->List TV
 |.agg cs=>cs
 |v=>[v]
def iR:TV->Bool
 |.agg _|.dB _=>false
 |_=>true
def aC{α}(P:LI1):Sem α->Option α
 |.pure a=>some a
 |.program k=>aC P (k P)
 |.mark _ k=>aC P k
 |_=>none
def dO(t:Nat):List (Nat×EV)->Option EV
 | []=>none
 |(k,v)::r=>if k=t then some v else dO t r
def St.put(s:St)(dst:Option Nat)(v:EV):St:=
 match dst with
 |some d=>{ s with env:=(d,v)::s.env }
 |none=>s
def pick(live:List Nat)(env:List (Nat×EV)):List (Nat×EV):=
 match live with
 | []=>[]
 |t::r=>match dO t env with
  |some v=>(t,v)::pick r env
  |none=>pick r env
def JD(env:List (Nat×EV)):Operand->Option EV
 |.tmp t=>dO t env
 |.const v=>(TV.X4 v).map .val
 |.func f=>some (.val (.fn f [] []))
 |.global _=>none
def rO(env:List (Nat×EV))(x:Operand):Option TV:=
 match JD env x with
 |some (.val v)=>some v
 |_=>none
def UK(env:List (Nat×EV)):List Operand->Option (List TV)
 | []=>some []
 |x::xs=>match rO env x,UK env xs with
  |some v,some vs=>some (v::vs)
  |_,_=>none
def Xa(env:List (Nat×EV)):List (Nat×Operand)->Option (List (Nat×TV))
 | []=>some []
 |(i,x)::xs=>match rO env x,Xa env xs with
  |some v,some vs=>some ((i,v)::vs)
  |_,_=>none
structure zl where
 all:Bool
 ts:List Key
 ws:List Key
def dh:zl:=⟨false,[],[]⟩
def yx(k:Key):zl:=⟨false,[k],[]⟩
def gu(k:List Key):zl:=⟨false,k,[]⟩
def qm(k:Key):zl:=⟨false,[k],[k]⟩
def sub(cs:List TV)(off n:Nat):Option (List TV):=
 if off+n<=cs.length then some ((cs.drop off).take n)else none
def wY(cs:List TV)(off:Nat)(new:List TV):Option (List TV):=
 if off+new.length<=cs.length then some (cs.take off++new++cs.drop (off+new.length))else none
def wZ(P:LI1)(t:LI2):Option Bool:=
 match P.underlying t with
 |some (.struct _)|some (.array _ _)=>some true
 |some _=>some false
 |none=>none
def dG(P:LI1)(t:LI2):Option Nat:=(P.info? t).map (·.size)
def vk(P:LI1)(t:LI2)(cs:List TV)(off:Nat):Option TV:=
 match wZ P t,dG P t with
 |some true,some n=>(sub cs off n).map .agg
 |some false,some n=>if n=1 then cs[off]? else none
 |_,_=>none
def LJ(P:LI1)(t:LI2):Option (List TV):=
 match P.info? t with
 |some i=>match i.zero with
  |some z=>(TV.X4 z).map TV.cells
  |none=>none
 |none=>none
def aU(h:List HB)(b:Nat):Option (List TV):=
 match h[b]? with
 |some (.cells _ cs)=>some cs
 |_=>none
def ni(h:List HB)(b lim:Nat):Option (List TV):=
 match h[b]? with
 |some (.cells k cs)=>if k=.last/\lim≠cs.length then none else some cs
 |_=>none
def FB(floor:Nat)(b:Nat)(ws:List Nat):List Nat:=
 if b<floor then(if ws.contains b then ws else b::ws)else ws
def kT(floor:Nat):List Key->List Nat->List Nat
 | [],ws=>ws
 |.h b::r,ws=>kT floor r (FB floor b ws)
 |.l _::r,ws=>kT floor r ws
def AY(k:BK)(whole:Bool):Option BK:=
 match k,whole with
 |.own,_=>some .own
 |.grow,true=>some .last
 |.last,true=>some .last
 |_,_=>none
def UL(h:List HB)(b off lim:Nat)(new:List TV):Option (List HB):=
 match h[b]? with
 |some (.cells k cs)=>match AY k (lim==cs.length)with
  |some k'=>(wY cs off new).map fun cs'=>h.set b (.cells k' cs')
  |none=>none
 |_=>none
def BK.more:BK->BK
 |.last=>.last
 |_=>.grow
def ug(place:Nat->Option (Nat×Nat)):List TV->List (Nat×TV)->Option (List TV)
 |cs,[]=>some cs
 |cs,(i,v)::r=>match place i with
  |some (off,size)=>if v.cells.length=size then(match wY cs off v.cells with|some cs'=>ug place cs' r|none=>none)else none
  |none=>none
def UM(P:LI1)(fs:Array Field)(i:Nat):Option (Nat×Nat):=
 match fs[i]? with
 |some f=>(dG P f.type).map fun n=>(f.offset,n)
 |none=>none
def Dn(P:LI1)(fs:List Field):Bool:=fs.all fun f=>(dG P f.type).isSome
def Om(P:LI1)(t:LI2)(parts:List (Nat×TV)):Option TV:=
 match LJ P t,P.underlying t with
 |some z,some (.struct fs)=>if Dn P fs.toList then(ug (UM P fs) z parts).map .agg else none
 |some z,some (.array _ e)=>match dG P e with
  |some n=>(ug (fun i=>some (i*n,n)) z parts).map .agg
  |none=>none
 |_,_=>none
def times(z:List TV):Nat->List TV
 | 0=>[]
 |n+1=>z++times z n
def jY(P:LI1)(t:LI2):Option (LI2×Nat):=
 match P.underlying t with
 |some (.slice e)=>match dG P e with
  |some n=>if n=0 then none else some (e,n)
  |none=>none
 |_=>none
def rP(site:Bool)(s:St)(cs:List TV):EV×St:=
 if site then(.val (.ptr s.heap.length 0 cs.length),{ s with heap:=s.heap++[.cells .own cs] })
 else(.loc s.loc.length 0,{ s with loc:=s.loc++[cs] })
def loadT(P:LI1)(t:LI2)(s:St):EV->Option (TV×zl)
 |.loc k off=>match s.loc[k]? with
  |some cs=>(vk P t cs off).map fun v=>(v,yx (.l k))
  |none=>none
 |.val (.ptr b off lim)=>match ni s.heap b lim,dG P t with
  |some cs,some n=>if off+n<=lim then(vk P t cs off).map fun v=>(v,yx (.h b))else none
  |_,_=>none
 |_=>none
def storeT(P:LI1)(t:LI2)(s:St)(a:EV)(v:TV):Option (St×zl):=
 match dG P t with
 |some n=>
  if v.cells.length=n/\v.cells.all iR=true then
   match a with
   |.loc k off=>match s.loc[k]? with
    |some cs=>(wY cs off v.cells).map fun cs'=>({ s with loc:=s.loc.set k cs' },qm (.l k))
    |none=>none
   |.val (.ptr b off lim)=>if off+n<=lim then(UL s.heap b off lim v.cells).map fun h=>({ s with heap:=h },qm (.h b))else none
   |_=>none
  else none
 |none=>none
def Ry(o:Nat):EV->Option EV
 |.loc k off=>some (.loc k (off+o))
 |.val (.ptr b off lim)=>if off+o<=lim then some (.val (.ptr b (off+o) lim))else none
 |_=>none
def I4(P:LI1)(t:LI2)(i:Nat):Option Nat:=
 match P.underlying t with
 |some (.struct fs)=>match fs[i]? with
  |some f=>match dG P f.type with
   |some n=>if n=0 then none else some f.offset
   |none=>none
  |none=>none
 |_=>none
def idx(n:Nat):TV->Option Nat
 |.int _ i=>if 0<=i/\i<n then some i.toNat else none
 |_=>none
def ny(P:LI1)(t:LI2)(x:EV)(i:TV):Option EV:=
 match P.underlying t with
 |some (.slice e)=>match dG P e,x with
  |some n,.val (.aP b off len cap sz _)=>if n=sz then(idx len i).map fun j=>.val (.ptr b (off+j*n) (off+cap*n))else none
  |_,_=>none
 |some (.array len e)=>match dG P e with
  |some n=>match idx len i with
   |some j=>Ry (j*n) x
   |none=>none
  |none=>none
 |_=>none
def JI(P:LI1)(t:LI2)(x i:TV):Option TV:=
 match P.underlying t,x with
 |some (.array len e),.agg cs=>match dG P e,idx len i with
  |some n,some j=>vk P e cs (j*n)
  |_,_=>none
 |some .string,.str s=>match idx s.size i with
  |some j=>(s[j]?).map fun b=>.int .u8 b.toNat
  |none=>none
 |_,_=>none
def rQ(n:Nat):TV->Option Nat
 |.int _ i=>if 0<=i/\i<=n then some i.toNat else none
 |_=>none
def jS(n d:Nat):Option TV->Option Nat
 |none=>some d
 |some v=>rQ n v
def rU(P:LI1)(t:LI2)(x:TV)(lo hi mx:Option TV):Option TV:=
 match P.underlying t,x with
 |some .string,.str s=>match mx with
  |some _=>none
  |none=>match jS s.size s.size hi with
   |some h=>match jS h 0 lo with
    |some l=>some (.str (s.extract l h))
    |none=>none
   |none=>none
 |some (.slice e),.aP b off len cap sz ex=>match dG P e with
  |some n=>
   if n=sz then
    match mx with
    |some m=>match rQ cap m,hi with
     |some m,some h=>match rQ (min m len) h with
      |some h=>match jS h 0 lo with
       |some l=>some (.aP b (off+l*n) (h-l) (m-l) sz true)
       |none=>none
      |none=>none
     |_,_=>none
    |none=>match jS len len hi with
     |some h=>match jS h 0 lo with
      |some l=>some (.aP b (off+l*n) (h-l) (cap-l) sz ex)
      |none=>none
     |none=>none
   else none
  |none=>none
 |some (.slice e),.nil .aP=>match dG P e,jS 0 0 mx,jS 0 0 hi,jS 0 0 lo with
  |some _,some _,some _,some _=>if mx.isSome&&hi.isNone then none else some (.nil .aP)
  |_,_,_,_=>none
 |_,_=>none
def qQ(P:LI1)(t:LI2)(x:EV)(lo hi mx:Option TV):Option TV:=
 match P.underlying t,x with
 |some (.array n e),.val (.ptr b off lim)=>match dG P e with
  |some size=>
   if size=0\/lim<off+n*size\/2^24<n then none else
   match jS n n mx with
   |some m=>match jS m n hi with
    |some h=>match jS h 0 lo with
     |some l=>if mx.isSome&&hi.isNone then none else some (.aP b (off+l*size) (h-l) (m-l) size true)
     |none=>none
    |none=>none
   |none=>none
  |none=>none
 |_,_=>none
def eF(size:Nat)(h:List HB):TV->Option (Nat×List TV)
 |.nil .aP=>some (0,[])
 |.aP b off len cap sz _=>if sz=size then(if len=0 then some (0,[])else match ni h b (off+cap*sz)with|some cs=>(sub cs off (len*size)).map fun l=>(len,l)|none=>none)else none
 |.str s=>if size=1 then some (s.size,s.data.toList.map fun b=>.int .u8 b.toNat)else none
 |_=>none
def dH:TV->List Key
 |.aP b _ _ _ _ _=>[.h b]
 |_=>[]
def UN(P:LI1)(t:LI2):Bool:=
 match P.underlying t with
 |some (.int _)=>true
 |_=>false
def a5P(i:TypeInfo):Bool:=
 match i.zero with
 |some z=>z.cells.size==i.size
 |none=>false
def uT(P:LI1)(e:LI2)(n:Nat):Bool:=
 match P.info? e with
 |some i=>decide (n*i.bytes<=2^40)&&decide (n<=2^40)&&decide (i.bytes<=2^20)&&decide (0<i.bytes)&&a5P i
 |none=>false
def jE(P:LI1)(at_:Array LI2)(s:St)(d x:TV):Option (TV×St×zl):=
 match at_[0]?,at_[1]? with
 |some st,some xt=>
  if UN P xt||(P.underlying xt).isNone then none else
  match jY P st with
  |some (e,size)=>match eF size s.heap x with
   |some (n,new)=>
    if n=0 then(match d with
     |.nil .aP=>some (d,s,gu (dH x))
     |.aP _ _ _ _ sz _=>if sz=size then some (d,s,gu (dH x))else none
     |_=>none)
    else if new.length=n*size then
     match d with
     |.nil .aP=>if uT P e n then some (.aP s.heap.length 0 n n size false,{ s with heap:=s.heap++[.cells .own new] },gu (dH x))else none
     |.aP b off len cap sz ex=>
      if sz=size then
       if len+n<=cap then
        (UL s.heap b (off+len*size) (off+cap*size) new).map fun h=>(.aP b off (len+n) cap sz ex,{ s with heap:=h },⟨false,.h b::dH x,[.h b]⟩)
       else if uT P e (len+n)then
        if ex then
         (eF size s.heap (.aP b off len cap sz ex)).map fun r=>(.aP s.heap.length 0 (len+n) (len+n) size false,{ s with heap:=s.heap++[.cells .own (r.2++new)] },gu (.h b::dH x))
        else match s.heap[b]? with
         |some (.cells k cs)=>
          if k=.ro\/off≠0\/len≠cap\/cs.length≠len*size\/len=0 then none
          else some (.aP b 0 (len+n) (len+n) size false,{ s with heap:=s.heap.set b (.cells k.more (cs++new))},⟨false,.h b::dH x,[.h b]⟩)
         |_=>none
       else none
      else none
     |_=>none
    else none
   |none=>none
  |none=>none
 |_,_=>none
def isStr:TV->Bool
 |.str _=>true
 |_=>false
def I5(P:LI1)(at_:Array LI2)(s:St)(d x:TV):Option (TV×St×zl):=
 match at_[0]? with
 |some st=>match jY P st with
  |some (_,size)=>match eF size s.heap x with
   |some (n,new)=>
    if new.length=n*size/\isStr x=false then
     match d with
     |.nil .aP=>some (.int .i64 0,s,gu (dH x))
     |.aP b off len cap sz _=>
      if sz=size then
       if min n len=0 then some (.int .i64 0,s,gu (dH x))
       else(UL s.heap b off (off+cap*size) (new.take (min n len*size))).map fun h=>(.int .i64 (min n len:Nat),{ s with heap:=h },⟨false,.h b::dH x,[.h b]⟩)
      else none
     |_=>none
    else none
   |none=>none
  |none=>none
 |none=>none
def ZE(P:LI1)(at_:Array LI2)(h:List HB)(x:TV):Option (TV×zl):=
 match at_[0]? with
 |some t=>match P.underlying t,x with
  |some .string,.str s=>some (.int .i64 s.size,dh)
  |some (.array n _),_=>some (.int .i64 n,dh)
  |some (.slice _),.aP _ _ len _ _ _=>some (.int .i64 len,dh)
  |some (.slice _),.nil .aP=>some (.int .i64 0,dh)
  |some (.map _ _),.nil .map=>some (.int .i64 0,dh)
  |some (.map _ _),.map r=>match h[r]? with
   |some (.map es)=>some (.int .i64 es.length,yx (.h r))
   |_=>none
  |_,_=>none
 |none=>none
def CX:List TV->Option (List LI3)
 | []=>some []
 |c::cs=>match c.zk,CX cs with
  |some v,some vs=>some (v::vs)
  |_,_=>none
def Xb(P:LI1)(kt:LI2)(k:LI3)(ks:List LI3)(r:Option Nat):Bool:=
 match aC P (underlying kt)with
 |some kind=>(match r with|some j=>decide (j<ks.length)|none=>true)&&((ks.zipIdx.all fun(x,i)=>Instr.sameNow kind k x==some (some i==r)) ||
   (ks.zipIdx.all fun(x,i)=>Instr.sameNow kind k x==none&&aC P (Op.equal kt k x)==some (some i==r)))
 |none=>false
def FU(P:LI1)(kt:LI2)(k:LI3)(es:List (TV×TV)):Option (Option Nat):=
 match CX (es.map (·.1))with
 |some ks=>match aC P (do Instr.checkKey es.isEmpty 10000 kt k;Instr.findKey kt k (ks.map fun x=>⟨x,.bool false,0⟩))with
  |some r=>if Xb P kt k ks (r.map (·.1))then some (r.map (·.1))else none
  |none=>none
 |none=>none
def LK:TV->Option NK
 |.ptr _ _ _=>some .ptr
 |.aP _ _ _ _ _ _=>some .aP
 |.map _=>some .map
 |.fn _ _ _|.lJ _=>some .fn
 |_=>none
def ZF:TV->Option NK
 |.nil k=>some k
 |_=>none
def LM(P:LI1)(t:LI2):Option NK:=
 match P.underlying t with
 |some (.pointer _)=>some .ptr
 |some (.slice _)=>some .aP
 |some (.map _ _)=>some .map
 |some (.func _ _ _)=>some .fn
 |_=>none
def Dq(P:LI1)(t:LI2)(x y:TV):Bool:=
 match LM P t with
 |some k=>(ZF x==some k&&LK y==some k)||(LK x==some k&&ZF y==some k)
 |none=>false
def uj(P:LI1)(op:BinOp)(t:LI2)(x y:Operand)(a b:TV):Option TV:=
 match a.zk,b.zk with
 |some u,some v=>match aC P (do eqGuard op t x y u v;binOp op t u v)with
  |some r=>TV.X4 r
  |none=>none
 |_,_=>if Dq P t a b then(match op with
  |.eql=>some (.bool false)
  |.neq=>some (.bool true)
  |_=>none)else none
def unT(P:LI1)(op:UnOp)(a:TV):Option TV:=
 match a.zk with
 |some u=>match aC P (Op.unary op u)with
  |some r=>TV.X4 r
  |none=>none
 |none=>none
def SB(P:LI1)(src dst:LI2)(a:TV):Option TV:=
 match a.zk with
 |some u=>match aC P (convert src dst u)with
  |some r=>TV.X4 r
  |none=>none
 |none=>none
def EF(P:LI1)(mx:Bool)(at_:Array LI2)(t:LI2)(az:List TV):Option TV:=
 match CX az with
 |some vs=>match aC P (if mx then Builtin.max_ at_ t vs.toArray else Builtin.min_ at_ t vs.toArray)with
  |some r=>TV.X4 r
  |none=>none
 |none=>none
def Oo(P:LI1)(t:LI2)(x:TV)(i:Nat):Option TV:=
 match P.underlying t,x with
 |some (.struct fs),.agg cs=>match fs[i]? with
  |some f=>vk P f.type cs f.offset
  |none=>none
 |_,_=>none
def qR(P:LI1)(t:LI2)(len:Nat)(s:St)(ps:List (Nat×TV)):Option (TV×St):=
 match jY P t with
 |some (e,n)=>if len*n<=2^24/\ps.all (fun p=>p.2.cells.all iR)=true then
   match LJ P e with
   |some z=>if z.length=n then
     match ug (fun i=>some (i*n,n)) (times z len) ps with
     |some cs=>some (.aP s.heap.length 0 len len n true,{ s with heap:=s.heap++[.cells .own cs] })
     |none=>none
    else none
   |none=>none
  else none
 |none=>none
def a3x:TV->Option Nat
 |.int _ i=>if 0<=i/\i<=2^40 then some i.toNat else none
 |_=>none
def um(P:LI1)(t:LI2)(s:St)(l c:TV):Option (TV×St):=
 match jY P t,a3x l,a3x c with
 |some (e,n),some l,some c=>
  if l<=c/\uT P e c then
   match LJ P e with
   |some z=>if z.length=n then some (.aP s.heap.length 0 l c n true,{ s with heap:=s.heap++[.cells .own (times z c)] })else none
   |none=>none
  else none
 |_,_,_=>none
def iH(P:LI1)(t:LI2)(h:List HB)(m k:TV)(ok:Bool):Option TV:=
 match P.underlying t,k.zk with
 |some (.map kt e),some kv=>
  let es:=match m with
   |.nil .map=>some []
   |.map r=>match h[r]? with
    |some (.map es)=>some es
    |_=>none
   |_=>none
  match es with
  |some es=>match FU P kt kv es with
   |some (some i)=>match es[i]? with
    |some (_,v)=>some (if ok then .dB [v,.bool true]else v)
    |none=>none
   |some none=>match P.info? e with
    |some i=>match i.zero with
     |some z=>(TV.X4 z).map fun z=>if ok then .dB [z,.bool false]else z
     |none=>none
    |none=>none
   |none=>none
  |none=>none
 |_,_=>none
def yH(P:LI1)(t:LI2)(s:St)(m k v:TV):Option (St×zl):=
 match P.underlying t,k.zk,m with
 |some (.map kt _),some kv,.map r=>match s.heap[r]?,aC P (Instr.checkKey false 10000 kt kv)with
  |some (.map es),some ()=>match FU P kt kv es with
   |some (some i)=>match es[i]? with
    |some (old,_)=>match old.zk with
     |some ov=>if Instr.sameBits 10000 ov kv then some ({ s with heap:=s.heap.set r (.map (es.set i (k,v))) },qm (.h r))else none
     |none=>none
    |none=>none
   |some none=>some ({ s with heap:=s.heap.set r (.map (es++[(k,v)])) },qm (.h r))
   |none=>none
  |_,_=>none
 |_,_,_=>none
def AZ(P:LI1)(t:LI2)(s:St)(m k:TV):Option (EV×St×zl):=
 match P.underlying t,k.zk,m with
 |some (.map kt e),some kv,.map r=>match s.heap[r]?,aC P (Instr.checkKey false 10000 kt kv)with
  |some (.map es),some ()=>match FU P kt kv es with
   |some (some i)=>match es[i]? with
    |some (old,v)=>match old.zk with
     |some ov=>if Instr.sameBits 10000 ov kv then some (.ent r i v,{ s with heap:=s.heap.set r (.map (es.set i (k,v))) },qm (.h r))else none
     |none=>none
    |none=>none
   |some none=>match P.info? e with
    |some i=>match i.zero with
     |some z=>match TV.X4 z with
      |some z=>some (.ent r es.length z,{ s with heap:=s.heap.set r (.map (es++[(k,z)])) },qm (.h r))
      |none=>none
     |none=>none
    |none=>none
   |none=>none
  |_,_=>none
 |_,_,_=>none
def a1k(P:LI1)(t:LI2)(h h':List HB)(m k:TV):Bool:=
 match iH P t h m k false,iH P t h' m k false with
 |some (.int a x),some (.int b y)=>decide (a=b)&&x==y
 |_,_=>false
def Du(P:LI1)(t:LI2)(s:St)(m k:TV):Option (EV×St×zl):=
 match AZ P t s m k with
 |some (e,s1,i)=>if a1k P t s.heap s1.heap m k then some (e,s1,i)else none
 |none=>none
def I7(s:St)(m:TV)(e:EV)(v:TV):Option (St×zl):=
 match m,e with
 |.map r,.Fz r' j=>if r=r' then match s.heap[r]? with
  |some (.map es)=>match es[j]? with
   |some (k,_)=>some ({ s with heap:=s.heap.set r (.map (es.set j (k,v))) },qm (.h r))
   |none=>none
  |_=>none
  else none
 |_,_=>none
def zH(e:EV)(i:Nat):Option EV:=
 match e with
 |.val (.dB vs)=>(vs[i]?).map .val
 |.ent r j v=>match i with
  | 0=>some (.val v)
  | 1=>some (.Fz r j)
  |_=>none
 |_=>none
abbrev dM:=TV->List TV->List HB->Option (TV×List HB×List Nat)
def rV(P:LI1)(b:Builtin)(at_:Array LI2)(t:LI2)(s:St)(az:List TV):Option (TV×St×zl):=
 match b,az with
 |.len,[x]=>(ZE P at_ s.heap x).map fun(v,i)=>(v,s,i)
 |.append,[d,x]=>jE P at_ s d x
 |.copy,[d,x]=>I5 P at_ s d x
 |.min,az=>(EF P false at_ t az).map fun v=>(v,s,dh)
 |.max,az=>(EF P true at_ t az).map fun v=>(v,s,dh)
 |_,_=>none
def Xc(env:List (Nat×EV)):Option Operand->Option (Option TV)
 |none=>some none
 |some x=>match rO env x with
  |some v=>some (some v)
  |none=>none
def Oq(P:LI1)(call:dM)(s:St)(c:Call)(t:LI2):Option (EV×St×zl):=
 match c.callee,UK s.env c.args.toList with
 |.builtin b,some az=>(rV P b c.argTypes t s az).map fun(v,s,i)=>(.val v,s,i)
 |.value f,some az=>match rO s.env f with
  |some fv=>match call fv az s.heap with
   |some (v,h,ws)=>some (.val v,{ s with heap:=h },⟨true,[],ws.map .h⟩)
   |none=>none
  |none=>none
 |_,_=>none
def qo(P:LI1)(call:dM)(site:Nat->Bool)(s:St)(o:Oper):Option (EV×St×zl):=
 match o.op with
 |.move x|.assign x=>(JD s.env x).map fun v=>(v,s,dh)
 |.pick c a b=>match rO s.env c with
  |some (.bool t)=>(JD s.env (if t then a else b)).map fun v=>(v,s,dh)
  |_=>none
 |.alloc e=>(LJ P e).map fun z=>let (v,s):=rP (site (o.dst.getD 0)) s z;(v,s,dh)
 |.box _ x=>match rO s.env x with
  |some v=>if v.cells.all iR then let (v,s):=rP (site (o.dst.getD 0)) s v.cells;some (v,s,dh)else none
  |none=>none
 |.build t ps=>match Xa s.env ps.toList with
  |some ps=>(Om P t ps).map fun v=>(.val v,s,dh)
  |none=>none
 |.buildSlice t len ps=>match Xa s.env ps.toList with
  |some ps=>(qR P t len s ps).map fun(v,s)=>(.val v,s,dh)
  |none=>none
 |.load t a=>match JD s.env a with
  |some a=>(loadT P t s a).map fun(v,i)=>(.val v,s,i)
  |none=>none
 |.store t a x=>match JD s.env a,rO s.env x with
  |some a,some v=>(storeT P t s a v).map fun(s,i)=>(.undef,s,i)
  |_,_=>none
 |.nilCheck x=>match JD s.env x with
  |some (.loc k o)=>some (.loc k o,s,dh)
  |some (.val (.ptr b o lim))=>some (.val (.ptr b o lim),s,dh)
  |some (.val (.fn f a b))=>some (.val (.fn f a b),s,dh)
  |some (.val (.lJ l))=>some (.val (.lJ l),s,dh)
  |_=>none
 |.binOp op t x y _=>match rO s.env x,rO s.env y with
  |some a,some b=>(uj P op t x y a b).map fun v=>(.val v,s,dh)
  |_,_=>none
 |.unOp op _ x=>match rO s.env x with
  |some a=>(unT P op a).map fun v=>(.val v,s,dh)
  |none=>none
 |.convert src dst x=>match rO s.env x with
  |some a=>(SB P src dst a).map fun v=>(.val v,s,dh)
  |none=>none
 |.makeFunc (.func f) first cap=>match UK s.env first.toList,UK s.env cap.toList with
  |some a,some b=>some (.val (.fn f a b),s,dh)
  |_,_=>none
 |.makeMap t r=>match Xc s.env r,P.underlying t with
  |some none,_=>some (.val (.map s.heap.length),{ s with heap:=s.heap++[.map []] },dh)
  |some (some (.int _ _)),some (.map _ _)=>some (.val (.map s.heap.length),{ s with heap:=s.heap++[.map []] },dh)
  |_,_=>none
 |.makeSlice t l c=>match rO s.env l,rO s.env c with
  |some l,some c=>(um P t s l c).map fun(v,s)=>(.val v,s,dh)
  |_,_=>none
 |.slice t x lo hi mx=>match JD s.env x,Xc s.env lo,Xc s.env hi,Xc s.env mx with
  |some x,some lo,some hi,some mx=>match P.underlying t,x with
   |some (.array _ _),x=>(qQ P t x lo hi mx).map fun v=>(.val v,s,dh)
   |_,.val x=>(rU P t x lo hi mx).map fun v=>(.val v,s,dh)
   |_,_=>none
  |_,_,_,_=>none
 |.fieldAddr t x f=>match JD s.env x,I4 P t f with
  |some a,some n=>(Ry n a).map fun v=>(v,s,dh)
  |_,_=>none
 |.field t x f=>match rO s.env x with
  |some a=>(Oo P t a f).map fun v=>(.val v,s,dh)
  |none=>none
 |.indexAddr t x i=>match JD s.env x,rO s.env i with
  |some a,some i=>(ny P t a i).map fun v=>(v,s,dh)
  |_,_=>none
 |.index t x i=>match rO s.env x,rO s.env i with
  |some a,some i=>(JI P t a i).map fun v=>(.val v,s,dh)
  |_,_=>none
 |.lookup t m k ok=>match rO s.env m,rO s.env k with
  |some m,some k=>(iH P t s.heap m k ok).map fun v=>(.val v,s,gu (match m with|.map r=>[.h r] |_=>[]))
  |_,_=>none
 |.mapUpdate t m k x|.insert t m k x=>match rO s.env m,rO s.env k,rO s.env x with
  |some m,some k,some v=>(yH P t s m k v).map fun(s,i)=>(.undef,s,i)
  |_,_,_=>none
 |.mapEntry t m k=>match rO s.env m,rO s.env k with
  |some m,some k=>Du P t s m k
  |_,_=>none
 |.entryStore _ m e x=>match rO s.env m,JD s.env e,rO s.env x with
  |some m,some e,some v=>(I7 s m e v).map fun(s,i)=>(.undef,s,i)
  |_,_,_=>none
 |.extract t i=>match JD s.env t with
  |some e=>(zH e i).map fun v=>(v,s,dh)
  |none=>none
 |.call c=>Oq P call s c o.type
 |.range t x=>match rO s.env x,P.underlying t with
  |some (.map r),some (.map _ _)=>match s.heap[r]? with
   |some (.map es)=>some (.val (.iter s.heap.length),{ s with heap:=s.heap++[.dD r es.length []] },yx (.h r))
   |_=>none
  |_,_=>none
 |.entry x=>match rO s.env x with
  |some (.iter b)=>match s.heap[b]? with
   |some (.dD r n (i::_))=>match s.heap[r]? with
    |some (.map es)=>if es.length=n then(es[i]?).map fun e=>(.val (.dB [e.1,e.2]),s,gu [.h b,.h r])else none
    |_=>none
   |_=>none
  |_=>none
 |_=>none
def Dv(ops:Array Oper)(env:List (Nat×EV))(o:Oper):Option Bool:=
 match o.guard with
 |none=>some true
 |some (j,want)=>match(ops[j]?).bind (·.dst)with
  |some d=>match dO d env with
   |some (.val (.bool b))=>some (b==want)
   |some .undef=>some false
   |_=>none
  |none=>none
def Ot(nt:Nat)(o:Oper):Bool:=
 match o.dst with
 |some d=>decide (d<nt)
 |none=>true
def lY(P:LI1)(call:dM)(site:Nat->Bool)(fl nt:Nat)(ops:Array Oper):List Oper->St->Option (St×List zl)
 | [],s=>some (s,[])
 |o::os,s=>if !Ot nt o then none else match Dv ops s.env o with
  |some true=>match qo P call site s o with
   |some (v,s1,i)=>match lY P call site fl nt ops os ({ s1 with ws:=kT fl i.ws s.ws }.put o.dst v)with
    |some (s,is)=>some (s,i::is)
    |none=>none
   |none=>none
  |some false=>match lY P call site fl nt ops os (s.put o.dst .undef)with
   |some (s,is)=>some (s,dh::is)
   |none=>none
  |none=>none
def Ou:List Nat->List Nat->List Nat
 | [],l=>l
 |x::xs,l=>Ou xs (if l.contains x then l else x::l)
def Gq(acc:List (List Nat))(o:Oper):List Nat:=
 o.after.toList.foldl (fun l e=>if Region.binds .any e then Ou (e.on::acc.getD e.on []) l else l) []
def FV:List Oper->List (List Nat)->List (List Nat)
 | [],acc=>acc
 |o::os,acc=>FV os (acc++[Gq acc o])
def JJ:Op->Bool
 |.store .. |.mapUpdate .. |.insert .. |.mapEntry .. |.entryStore ..=>true
 |.call { callee:=.builtin b,.. }=>match b with
  |.len|.min|.max=>false
  |_=>true
 |.call _=>true
 |_=>false
def Ov:Op->Bool
 |.store .. |.mapUpdate .. |.insert .. |.mapEntry .. |.entryStore .. |.load .. |.lookup .. |.range .. |.entry ..=>true
 |.call { callee:=.builtin b,.. }=>match b with
  |.min|.max=>false
  |_=>true
 |.call _=>true
 |_=>false
def oU(ops:List Oper):List (Nat×Nat):=
 let pr:=FV ops []
 (List.range ops.length).flatMap fun j=>((List.range j).filter fun i=>!(pr.getD j []).contains i).map fun i=>(i,j)
def oh(ops:List Oper):Bool:=
 (ops.zipIdx.all fun(o,i)=>o.after.all fun e=>!Region.binds .any e||decide (e.on<i)) &&
 (oU ops).all fun(i,j)=>match ops[i]?,ops[j]? with
  |some a,some b=>a.apart ops.toArray b&&b.apart ops.toArray a
  |_,_=>false
def Cm(a b:Oper):Bool:=match a.op,b.op,a.guard,b.guard with
 |.lookup t (.tmp m) (.tmp k) false,.mapEntry t' (.tmp m') (.tmp k'),none,none=>t==t'&&m==m'&&k==k'
 |_,_,_,_=>false
def nK(ops:List Oper):List (Nat×Nat):=
 (oU ops).filter fun(i,j)=>match ops[i]?,ops[j]? with
  |some a,some b=>((JJ a.op&&Ov b.op)||(Ov a.op&&JJ b.op))&&!Cm a b
  |_,_=>false
def Key.isH:Key->Bool
 |.h _=>true
 |.l _=>false
def Ox(ws:List Key)(b:zl):Bool:=
 ws.all fun k=>!(b.all&&k.isH)&&!b.ts.contains k&&!b.ws.contains k
def calm(a b:zl):Bool:=Ox a.ws b&&Ox b.ws a
def CB(yA:List zl):List (Nat×Nat)->Bool
 | []=>true
 |(i,j)::r=>(match yA[i]?,yA[j]? with
  |some a,some b=>calm a b
  |_,_=>false)&&CB yA r
inductive Ex where
 |norm|exit (id:Nat)|ret
structure FnT where
 nt:Nat
 body:Code
 results:List ResultVar
def UO(P:LI1)(f:Nat):Option FnT:=
 match P.funcs[f]? with
 | some fn => if fn.name == "runtime.NumGoroutine" then none else match fn.body with
  |some b=>some ⟨fn.ntmps,b,fn.results.toList⟩
  |none=>none
 |none=>none
structure vw where
 live:List (Nat×List (Nat×List Nat))
 head:List (Nat×List (Nat×List Nat))
 site:List (Nat×List Nat)
 exts:List Nat:=[]
 ext:TV->List TV->List HB->Option (TV×List HB×List Nat):=fun _ _ _=>none
 dem:List Nat:=[]
 din:List Nat:=[]
 aae:List Nat:=[]
def SC{α:Type}(k:Nat):List (Nat×List α)->List α
 | []=>[]
 |(j,l)::r=>if j=k then l else SC k r
def vw.iP(T:vw)(f id:Nat):List Nat:=SC id (SC f T.live)
def vw.fC(T:vw)(f id:Nat):List Nat:=SC id (SC f T.head)
def vw.UQ(T:vw)(f d:Nat):Bool:=(SC f T.site).contains d
def Dw:List (Nat×EV)->Nat
 | []=>0
 |(_,.loc k _)::r=>max (k+1) (Dw r)
 |_::r=>Dw r
def kY(live:List Nat)(s:St):St:=
 let env:=pick live s.env
 { s with env:=env,loc:=s.loc.take (Dw env) }
def eu:Code->Nat
 |.region id _ _=>id
 |.seq a _=>eu a
 |.block _ b=>eu b
 |.loop b=>eu b
 |.scope b=>eu b
 |_=>0
def iter(g:St->Option (Ex×St)):Nat->St->Option (Ex×St)
 | 0,_=>none
 |n+1,s=>match g s with
  |some (.norm,s)=>iter g n s
  |r=>r
def isVal:Nat×EV->Bool
 |(_,.loc _ _)|(_,.ent _ _ _)|(_,.Fz _ _)=>false
 |_=>true
def SE:Bool->Option Code->Option Ex
 |true,none=>some .norm
 |false,some .ret=>some .ret
 |false,some (.exit id)=>some (.exit id)
 |_,_=>none
def exec(P:LI1)(T:vw)(call:dM)(L:Nat)(f:Nat)(iG:Bool)(fl nt:Nat):Code->St->Option (Ex×St)
 |.skip,s=>some (.norm,s)
 |.label _,s=>some (.norm,s)
 |.region id ops draw,s=>match lY P call (fun d=>iG||T.UQ f d) fl nt ops ops.toList s with
  |some (s,yA)=>if !draw||(oh ops.toList&&CB yA (nK ops.toList))then some (.norm,{ s with env:=pick (T.iP f id) s.env })else none
  |none=>none
 |.seq a b,s=>match exec P T call L f iG fl nt a s with
  |some (.norm,s)=>exec P T call L f iG fl nt b s
  |r=>r
 |.cond c a b,s=>match rO s.env c with
  |some (.bool true)=>exec P T call L f iG fl nt a s
  |some (.bool false)=>exec P T call L f iG fl nt b s
  |_=>none
 |.block id b,s=>match exec P T call L f iG fl nt b s with
  |some (.exit i,s)=>some (if i=id then .norm else .exit i,s)
  |r=>r
 |.scope b,s=>exec P T call L f iG fl nt b s
 |.loop b,s=>iter (fun s=>exec P T call L f iG fl nt b (kY (T.fC f (eu b)) s)) L s
 |.exit id,s=>some (.exit id,s)
 |.ret,s=>some (.ret,s)
 |.rangeFunc g ps assign body,s=>match rO s.env g with
  |some (.fn f1 a1 b1)=>
   if s.env.all isVal&&!iG then
    match call (.fn f1 a1 b1) [.lJ (s.heap.length+1)] (s.heap++[.mark,.loop true f nt s.env ps.toList assign body none])with
    |some (_,h,ws)=>match h[s.heap.length+1]? with
     |some (.loop rd f2 Rz e2 Dx a2 b2 kC)=>match SE rd kC with
      |some e=>some (e,{ s with heap:=h.set (s.heap.length+1) (.loop false f2 Rz e2 Dx a2 b2 (some .skip)),ws:=kT fl (ws.map .h) s.ws })
      |none=>none
     |_=>none
    |none=>none
   else none
  |_=>none
 |_,_=>none
def a5Q(P:LI1)(s:St):ResultVar->Option TV
 |.tmp t=>match dO t s.env with
  |some (.val v)=>some v
  |_=>none
 |.cell a t=>match dO a s.env with
  |some a=>(loadT P t s a).map (·.1)
  |none=>none
def yI(P:LI1)(s:St):List ResultVar->Option (List TV)
 | []=>some []
 |r::rs=>match a5Q P s r,yI P s rs with
  |some v,some vs=>some (v::vs)
  |_,_=>none
def one:List TV->TV
 | [v]=>v
 |vs=>.dB vs
def oq:Nat->List TV->List (Nat×EV)
 |_,[]=>[]
 |k,v::vs=>(k,.val v)::oq (k+1) vs
def uo(env:List (Nat×EV)):List Nat->List TV->List (Nat×EV)
 |p::ps,v::vs=>uo ((p,.val v)::env) ps vs
 |_,_=>env
def apy(P:LI1)(T:vw)(call:dM)(L:Nat)(f:Nat)(args:List TV)(h:List HB):Option (TV×List HB×List Nat):=
 match UO P f with
 |some t=>match exec P T call L f false h.length t.nt t.body ⟨oq 0 args,[],h,[]⟩with
  |some (.norm,s)|some (.ret,s)=>match yI P s t.results with
   |some vs=>if s.ws.isEmpty&&(one vs).flat then some (one vs,h,[])else some (one vs,s.heap,s.ws)
   |none=>none
  |_=>none
 |none=>none
def uq:Ex->Option Code
 |.norm=>none
 |.ret=>some .ret
 |.exit id=>some (.exit id)
def qp:Ex->Bool
 |.norm=>true
 |_=>false
def Oy(P:LI1)(T:vw)(call:dM)(L:Nat)(l:Nat)(args:List TV)(h:List HB):Option (TV×List HB×List Nat):=
 match h[l]? with
 |some (.loop true f nt env ps assign body _)=>
  if args.length=ps.length/\ps.all (fun p=>decide (p<nt))then
   match exec P T call L f true h.length nt assign ⟨uo env ps args,[],h,[]⟩with
   |some (.norm,s)=>match s.heap[l]? with
    |some (.loop true f' nt' env' ps' a' b' _)=>
     match exec P T call L f true h.length nt body { s with heap:=s.heap.set l (.loop false f' nt' env' ps' a' b' none),ws:=FB h.length l s.ws }with
     |some (e,s)=>match s.heap[l]? with
      |some (.loop false f' nt' env' ps' a' b' none)=>some (.bool (qp e),s.heap.set l (.loop (qp e) f' nt' env' ps' a' b' (uq e)),FB h.length l s.ws)
      |_=>none
     |none=>none
    |_=>none
   |_=>none
  else none
 |_=>none
def ap(P:LI1)(T:vw)(L:Nat):Nat->dM
 | 0,_,_,_=>none
 |n+1,.fn f first cap,args,h=>apy P T (ap P T L n) L f (first++args++cap) h
 |n+1,.lJ l,args,h=>Oy P T (ap P T L n) L l args h
 |_,_,_,_=>none
def run(P:LI1)(T:vw)(L n f:Nat)(args:List TV)(h:List HB):Option (TV×List HB×List Nat):=ap P T L n (.fn f [] []) args h
structure Pl where
 c:Nat
 base:Nat
 ext:Nat
 tot:Nat
inductive Lc where
 |cells (ls:List Pl)
 |obj (r:Nat) (o:List Nat)
abbrev Mp:=Key->Option Lc
abbrev Np:=Nat->Option Lc
def Mp.h(M:Mp):Np:=fun b=>M (.h b)
inductive VR(M:Np):TV->LI3->Prop
 |bool (b:Bool):VR M (.bool b) (.bool b)
 |int (k:IntKind) (n:Int):VR M (.int k n) (.int k n)
 |str (s:ByteArray):VR M (.str s) (.string s)
 |a3y:VR M (.nil .ptr) (.pointer none)
 |UR:VR M (.nil .aP) (.slice none 0 0)
 |ZG:VR M (.nil .map) (.map none)
 |nfn:VR M (.nil .fn) .nilFunc
 |a3z:VR M (.nil .ifc) .nilIface
 |ptr {b off lim:Nat} {ls:List Pl} {p:Pl} (hb:M b=some (.cells ls)) (hp:p∈ls) (h:lim<=p.ext) (ht:p.base+lim<=p.tot) :
   VR M (.ptr b off lim) (.pointer (some ⟨p.c,p.base+off,none⟩))
 |aP {b off len cap sz:Nat} {ex:Bool} {ls:List Pl} {p:Pl} {a:Addr} {cap':Nat} (hb:M b=some (.cells ls)) (hp:cap'=0\/p∈ls)
   (h:off+cap*sz<=p.ext) (hl:len<=cap) (hc:cap<=cap') (hx:ex=true->cap'=cap)
   (ha:cap'=0\/(a=⟨p.c,p.base+off,none⟩/\p.base+off+cap'*sz<=p.tot)) (hk:cap'<2^63) :
   VR M (.aP b off len cap sz ex) (.slice (some a) len cap')
 |map {r r':Nat} {o:List Nat} (h:M r=some (.obj r' o)):VR M (.map r) (.map (some r'))
 |lJ {l l':Nat} {o:List Nat} (h:M l=some (.obj l' o)):VR M (.lJ l) (.func (.yield l') #[] #[])
 |iter {l l':Nat} {o:List Nat} (h:M l=some (.obj l' o)):VR M (.iter l) (.pointer (some ⟨l',0,none⟩))
 |fn {f:FuncId} {az bs:List TV} {xs ys:List LI3} (h1:az.length=xs.length) (h2:∀(i:Nat) (c:TV) (v:LI3),az[i]? = some c->xs[i]? = some v->VR M c v)
   (h3:bs.length=ys.length) (h4:∀(i:Nat) (c:TV) (v:LI3),bs[i]? = some c->ys[i]? = some v->VR M c v):VR M (.fn f az bs) (.func (.func f) xs.toArray ys.toArray)
 |agg {az:List TV} {xs:List LI3} (h1:az.length=xs.length) (h2:∀(i:Nat) (c:TV) (v:LI3),az[i]? = some c->xs[i]? = some v->VR M c v):VR M (.agg az) (.agg xs.toArray)
 |dB {az:List TV} {xs:List LI3} (h1:az.length=xs.length) (h2:∀(i:Nat) (c:TV) (v:LI3),az[i]? = some c->xs[i]? = some v->VR M c v):VR M (.dB az) (.tuple xs.toArray)
structure bZ(M:Np)(az:List TV)(xs:List LI3):Prop where
 len:az.length=xs.length
 at_:∀(i:Nat) (c:TV) (v:LI3),az[i]? = some c->xs[i]? = some v->VR M c v
theorem VR.agg'{M az xs}(h:bZ M az xs):VR M (.agg az) (.agg xs.toArray):=.agg h.len h.at_
theorem VR.RD{M az xs}(h:bZ M az xs):VR M (.dB az) (.tuple xs.toArray):=.dB h.len h.at_
theorem bZ.nil{M}:bZ M [] []:=⟨rfl,fun i c v h=>by simp at h⟩
theorem bZ.cons{M c v az xs}(h:VR M c v)(hs:bZ M az xs):bZ M (c::az) (v::xs):=
 ⟨by simp[hs.len],fun i c' v' h1 h2=>by
  cases i with
  |zero=>simp at h1 h2;subst h1;subst h2;exact h
  |succ i=>simp at h1 h2;exact hs.at_ i _ _ h1 h2⟩
theorem bZ.oV{M xs}(h:bZ M [] xs):xs=[]:=by have:=h.len;simp at this;exact a4o this.symm
theorem bZ.iE{M c az xs}(h:bZ M (c::az) xs):∃v vs,xs=v::vs/\VR M c v/\bZ M az vs:=by
 cases xs with
 |nil=>have:=h.len;simp at this
 |cons v vs=>exact⟨v,vs,rfl,h.at_ 0 c v rfl rfl,⟨by have:=h.len;simpa using this,fun i c' v' h1 h2=>h.at_ (i+1) c' v' (by simpa using h1) (by simpa using h2)⟩⟩
theorem bZ.append{M az bs xs ys}(h:bZ M az xs)(h':bZ M bs ys):bZ M (az++bs) (xs++ys):=by
 induction az generalizing xs with
 |nil=>have:=h.oV;subst this;simpa using h'
 |cons c az ih=>
  obtain⟨v,vs,rfl,hv,RF⟩:=h.iE;exact .cons hv (ih RF)
theorem bZ.take{M az xs}(h:bZ M az xs)(n):bZ M (az.take n) (xs.take n):=
 ⟨by simp[h.len],fun i c v h1 h2=>by
  rw[a5f]at h1 h2;split at h1
  .rename_i hi;rw[a15 hi]at h2;exact h.at_ i c v h1 h2
  .simp at h1⟩
theorem bZ.drop{M az xs}(h:bZ M az xs)(n):bZ M (az.drop n) (xs.drop n):=
 ⟨by simp[h.len],fun i c v h1 h2=>by rw[a5u]at h1 h2;exact h.at_ _ c v h1 h2⟩
theorem bZ.get{M az xs}(h:bZ M az xs){i:Nat}{c}(hc:az[i]? = some c):∃v,xs[i]? = some v/\VR M c v:=by
 have hi:i<az.length:=(a0u.1 hc).1;have wC:i<xs.length:=by rw[<-h.len];exact hi
 exact⟨xs[i],by simp[wC],h.at_ i c _ hc (by simp[wC])⟩
def JK:Lc->Lc->Prop
 |.cells ls,.cells qC=>∀p∈ls,∃q∈qC,q.c=p.c/\q.base=p.base/\p.ext<=q.ext/\q.tot=p.tot
 |.obj r o,.obj r' o'=>r=r'/\o <+: o'
 |_,_=>False
def tY{α:Type}(M M':α->Option Lc):Prop:=∀k l,M k=some l->∃l',M' k=some l'/\JK l l'
theorem JK.refl(l):JK l l:=by
 cases l with
 |cells ls=>exact fun p hp=>⟨p,hp,rfl,rfl,a1j _,rfl⟩
 |obj r o=>exact⟨rfl,agb o⟩
theorem JK.trans{a b c}(h:JK a b)(h':JK b c):JK a c:=by
 cases a<;>cases b<;>cases c<;>simp only[JK]at *
 .intro p hp;obtain⟨q,hq,h1,h2,h3,h4⟩:=h p hp;obtain⟨r,hr,g1,g2,g3,g4⟩:=h' q hq;exact⟨r,hr,g1.trans h1,g2.trans h2,a5O h3 g3,g4.trans h4⟩
 exact⟨h.1.trans h'.1,h.2.trans h'.2⟩
theorem tY.refl{α}(M:α->Option Lc):tY M M:=fun _ l h=>⟨l,h,.refl l⟩
theorem tY.trans{α}{a b c:α->Option Lc}(h:tY a b)(h':tY b c):tY a c:=fun k l hl=>
 let ⟨l',h1,h2⟩:=h k l hl
 let ⟨l'',g1,g2⟩:=h' k l' h1
 ⟨l'',g1,h2.trans g2⟩
theorem tY.h{M M':Mp}(hm:tY M M'):tY M.h M'.h:=fun b l hl=>hm (.h b) l hl
theorem VR.mono{M M':Np}(hm:tY M M'){v x}(h:VR M v x):VR M' v x:=by
 induction h with
 |bool b=>exact .bool b
 |int k n=>exact .int k n
 |str s=>exact .str s
 |a3y=>exact .a3y
 |UR=>exact .UR
 |ZG=>exact .ZG
 |nfn=>exact .nfn
 |a3z=>exact .a3z
 |ptr hb hp h ht=>
  obtain⟨l',h1,h2⟩:=hm _ _ hb;cases l' with
  |obj r _=>exact h2.elim
  |cells qC=>
   obtain⟨q,hq,e1,e2,e3,e4⟩:=h2 _ hp;rw[<-e1,<-e2];exact .ptr h1 hq (a5O h e3) (by rw[e2,e4];exact ht)
 |aP hb hp h hl hc hx ha hk=>
  obtain⟨l',h1,h2⟩:=hm _ _ hb;cases l' with
  |obj r _=>exact h2.elim
  |cells qC=>
   rcases hp with hp|hp
   .exact .aP h1 (.inl hp) h hl hc hx (.inl hp) hk
   obtain⟨q,hq,e1,e2,e3,e4⟩:=h2 _ hp;exact .aP h1 (.inr hq) (a5O h e3) hl hc hx (by rw[e1,e2,e4];exact ha) hk
 |map h=>
  obtain⟨l',h1,h2⟩:=hm _ _ h;cases l' with
  |obj r _=>cases h2.1;exact .map h1
  |cells qC=>exact h2.elim
 |lJ h=>
  obtain⟨l',h1,h2⟩:=hm _ _ h;cases l' with
  |obj r _=>cases h2.1;exact .lJ h1
  |cells qC=>exact h2.elim
 |iter h=>
  obtain⟨l',h1,h2⟩:=hm _ _ h;cases l' with
  |obj r _=>cases h2.1;exact .iter h1
  |cells qC=>exact h2.elim
 |fn h1 _ h3 _ ih2 ih4=>exact .fn h1 ih2 h3 ih4
 |agg h1 _ ih=>exact .agg h1 ih
 |dB h1 _ ih=>exact .dB h1 ih
theorem bZ.mono{M M':Np}(hm:tY M M'){az xs}(h:bZ M az xs):bZ M' az xs:=
 ⟨h.len,fun i c v h1 h2=>(h.at_ i c v h1 h2).mono hm⟩
theorem a5T{M v x y}(h:v.toC=some x)(hy:VR M v y):y=x:=by cases hy<;>simp[TV.toC]at h<;>first|exact h|exact h.symm|skip
theorem a1m{M}:∀{az} {xs ys},TV.UJ az=some xs->bZ M az ys->ys=xs
 | [],xs,ys,h,hy=>by simp[TV.UJ]at h;subst h;exact hy.oV
 |c::az,xs,ys,h,hy=>by
  simp only[TV.UJ]at h;split at h
  .rename_i v vs h1 h2;simp at h;subst h;obtain⟨w,ws,rfl,hw,ZH⟩:=hy.iE;rw[a5T h1 hw,a1m h2 ZH]
  simp at h
theorem xg{M v x y}(h:v.zk=some x)(hy:VR M v y):y=x:=by
 unfold TV.zk at h;split at h
 .simp only[a0x]at h;obtain⟨vs,h1,rfl⟩:=h;cases hy with
  |agg g1 g2=>rw[a1m h1 ⟨g1,g2⟩]
 exact a5T h hy
theorem VR.a5U{M v x}(h:TV.ofC x=some v):VR M v x:=by unfold TV.ofC at h;split at h<;>simp at h<;>subst h<;>constructor
theorem bZ.a1n{M}:∀{xs} {az},TV.Dl xs=some az->bZ M az xs
 | [],az,h=>by simp[TV.Dl]at h;subst h;exact .nil
 |x::xs,az,h=>by
  simp only[TV.Dl]at h;split at h
  .rename_i v vs h1 h2;simp at h;subst h;exact .cons (.a5U h1) (bZ.a1n h2)
  simp at h
theorem VR.zn{M v x}(h:TV.X4 x=some v):VR M v x:=by
 unfold TV.X4 at h;split at h
 .rename_i cs;simp only[a0x]at h;obtain⟨vs,h1,rfl⟩:=h;have:=VR.agg' (bZ.a1n (M:=M) h1);simpa using this
 exact .a5U h
theorem VR.cells{M v x}(h:VR M v x):bZ M v.cells x.cells.toList:=by
 cases h with
 |agg h1 h2=>exact⟨by simpa[TV.cells,Value.cells]using h1,by simpa[TV.cells,Value.cells]using h2⟩
 |_=>exact .cons (by first|assumption|constructor<;>assumption) .nil
theorem jA{α P}:∀{s:Sem α} {a},aC P s=some a->∀w,s.run P w=.ok a w
 |.pure b,a,h,w=>by simp[aC]at h;simp[Sem.run,h]
 |.program k,a,h,w=>by simp only[aC]at h;simp only[Sem.run];exact jA h w
 |.mark _ k,a,h,w=>by simp only[aC]at h;simp only[Sem.run];exact jA h w
 |.load ..,a,h,w=>by simp[aC]at h
 |.store ..,a,h,w=>by simp[aC]at h
 |.new ..,a,h,w=>by simp[aC]at h
 |.shape ..,a,h,w=>by simp[aC]at h
 |.freeze ..,a,h,w=>by simp[aC]at h
 |.frozen ..,a,h,w=>by simp[aC]at h
 |.getObj ..,a,h,w=>by simp[aC]at h
 |.setObj ..,a,h,w=>by simp[aC]at h
 |.choose ..,a,h,w=>by simp[aC]at h
 |.sys ..,a,h,w=>by simp[aC]at h
 |.halt ..,a,h,w=>by simp[aC]at h
def wr:HB->Bool
 |.cells .ro _=>false
 |.mark=>false
 |_=>true
def aJ:Lc->List Nat
 |.cells ls=>ls.map (·.c)
 |.obj r _=>[r]
structure JL(N:Np)(w:LI4)(k:BK)(cs:List TV)(p:Pl):Prop where
 row:∃(arr:Array LI3) (ty:LI2) (fz:Nat×Nat),w.heap[p.c]? = some (.cells arr ty fz)/\arr.size=p.tot/\(k≠.ro->fz=(0,0)) /\
  ((k=.last->p.ext=cs.length)->∀(i:Nat) (c:TV) (v:LI3),i<p.ext->cs[i]? = some c->arr[p.base+i]? = some v->VR N c v)
 fit:p.base+p.ext<=p.tot
 ext:p.ext<=cs.length
 base:k≠.ro->p.base=0
inductive ER(M:Mp):EV->LI3->Prop
 |val {v:TV} {x:LI3} (h:VR M.h v x):ER M (.val v) x
 |loc {k off:Nat} {p:Pl} (h:M (.l k)=some (.cells [p])) (hb:p.base=0):ER M (.loc k off) (.pointer (some ⟨p.c,off,none⟩))
 |undef:ER M .undef Go.undef
 |ent {r j:Nat} {v:TV} {r1 i:Nat} {o:List Nat} {x:LI3} (h:M (.h r)=some (.obj r1 o)) (hi:o[i]? = some j) (hv:VR M.h v x):ER M (.ent r j v) (.tuple #[x,Go.goInt i])
 |Fz {r j r1 i:Nat} {o:List Nat} (h:M (.h r)=some (.obj r1 o)) (hi:o[i]? = some j):ER M (.Fz r j) (Go.goInt i)
theorem ER.uU{M v x}(h:ER M (.val v) x):VR M.h v x:=by cases h;assumption
def kR(M:Mp)(env:List (Nat×EV))(tmps:Array LI3):Prop:=∀t e,dO t env=some e->ER M e (tmps.getD t Go.undef)
structure aaf(N:Np)(rd:Bool)(f nt:Nat)(env:List (Nat×EV))(ps:List Nat)(a b:Code)(kC:Option Code)(lp:Loop):Prop where
 ps:lp.params.toList=ps
 vV:lp.assign=a
 body:lp.body=b
 size:nt<=lp.tmps.size
 N8:∀t v,dO t env=some (.val v)->VR N v (lp.tmps.getD t Go.undef)
 UU:∀t,dO t env=some .undef->lp.tmps.getD t Go.undef=Go.undef
 nol:∀t e,dO t env=some e->isVal (t,e)=true
 ready:rd=true->lp.state=.ready/\lp.pending=none
 busy:rd=false->kC=none->lp.state=.busy
 done:rd=false->∀j,kC=some j->j≠.skip->lp.state=.done/\lp.pending=some j
structure xk(N:Np)(o:List Nat)(es:List (TV×TV))(xs:Array MapEntry):Prop where
 len:es.length=xs.size
 ord:o.length=xs.size
 nod:o.Nodup
 sur:∀j,j<es.length->j∈o
 at_:∀(i:Nat) (x:MapEntry),xs[i]? = some x->x.born=i/\∃j e,o[i]? = some j/\es[j]? = some e/\VR N e.1 x.key/\VR N e.2 x.val
def ajg(N:Np)(w:LI4)(es:List (TV×TV))(r:Nat)(o:List Nat):Prop:=
 ∃xs:Array MapEntry,w.heap[r]? = some (.map xs xs.size)/\xk N o es xs
theorem xk.mono{N N':Np}{o es xs}(hm:tY N N')(h:xk N o es xs):xk N' o es xs:=
 ⟨h.len,h.ord,h.nod,h.sur,fun i x hx=>let ⟨b,j,e,h1,h2,h3,h4⟩:=h.at_ i x hx;⟨b,j,e,h1,h2,h3.mono hm,h4.mono hm⟩⟩
def nC(N:Np)(w:LI4)(k:BK)(cs:List TV)(ls:List Pl):Prop:=
 (∀c∈cs,iR c=true)/\(∀p∈ls,JL N w k cs p)/\(k=.own->∃p,ls=[p]/\p.ext=cs.length) /\
   ((k=.grow\/k=.last)->(ls.map (·.c)).Nodup/\∀p∈ls,∀q∈ls,p.ext=cs.length->q.ext=cs.length->p=q)
def qh(N:Np)(w:LI4):HB->Lc->Prop
 |.cells k cs,.cells ls=>nC N w k cs ls
 |.nP cs,.cells ls=>∃cs',cs'.Perm cs/\nC N w .last cs' ls
 |.map es,.obj r o=>ajg N w es r o
 |.mark,.obj r _=>r<w.heap.size
 |.dD m n seen,.obj r _=>∃(b:Nat) (o:List Nat) (sa:Array Nat),N m=some (.obj b o)/\w.heap[r]? = some (.mapIter (some b) n sa n)/\n<=o.length/\sa.toList.map (fun i=>o[i]?)=seen.reverse.map some
 |.loop rd f nt env ps a b kC,.obj r _=>∃lp,w.heap[r]? = some (.loop lp)/\aaf N rd f nt env ps a b kC lp
 |_,_=>False
theorem JL.mono{N N':Np}{w w' k cs p}(hm:tY N N')(hw:w'.heap[p.c]? = w.heap[p.c]?)(h:JL N w k cs p):JL N' w' k cs p:=
 ⟨let ⟨arr,ty,fz,h1,h2,h3,h4⟩:=h.row;⟨arr,ty,fz,hw.trans h1,h2,h3,fun z i c v a b d=>(h4 z i c v a b d).mono hm⟩,h.fit,h.ext,h.base⟩
theorem aaf.mono{N N':Np}{rd f nt env ps a b kC lp}(hm:tY N N')(h:aaf N rd f nt env ps a b kC lp):aaf N' rd f nt env ps a b kC lp:=
 { h with N8:=fun t v e=>(h.N8 t v e).mono hm }
theorem nC.mono{N N':Np}{w w' k cs ls}(hm:tY N N')(hw:∀p∈ls,w'.heap[p.c]? = w.heap[p.c]?)(h:nC N w k cs ls):nC N' w' k cs ls:=
 ⟨h.1,fun p hp=>(h.2.1 p hp).mono hm (hw p hp),h.2.2⟩
theorem qh.mono{N N':Np}{w w' b l}(hm:tY N N')(hw:∀c∈aJ l,w'.heap[c]? = w.heap[c]?)(h:qh N w b l):qh N' w' b l:=by
 cases b with
 |cells k cs=>
  cases l with
  |obj r _=>exact h.elim
  |cells ls=>exact nC.mono hm (fun p hp=>hw p.c (a1u.2 ⟨p,hp,rfl⟩)) h
 |nP cs=>
  cases l with
  |obj r _=>exact h.elim
  |cells ls=>
   obtain⟨cs',h1,h2⟩:=h;exact⟨cs',h1,h2.mono hm fun p hp=>hw p.c (a1u.2 ⟨p,hp,rfl⟩)⟩
 |map es=>
  cases l with
  |cells ls=>exact h.elim
  |obj r _=>
   obtain⟨xs,h1,h2⟩:=h;exact⟨xs,(hw r (by simp[aJ])).trans h1,h2.mono hm⟩
 |mark=>
  cases l with
  |cells ls=>exact h.elim
  |obj r _=>
   have h':r<w.heap.size:=h;have:=hw r (by simp[aJ]);rw[a4j h']at this;exact(a2v.1 this).1
 |dD m n seen=>
  cases l with
  |cells ls=>exact h.elim
  |obj r _=>
   obtain⟨b,o,sa,h1,h2,h3,h4⟩:=h;obtain⟨l',g1,g2⟩:=hm _ _ h1;cases l' with
   |cells qC=>exact g2.elim
   |obj b' o'=>
    obtain⟨rfl,g3⟩:=g2;refine⟨b,o',sa,g1,(hw r (by simp[aJ])).trans h2,a5O h3 g3.length_le,?_⟩;rw[<-h4];refine a5J fun i hi=>?_;have:o[i]?∈sa.toList.map (fun i=>o[i]?):=a1u.2 ⟨i,hi,rfl⟩;rw[h4]at this;obtain⟨j,_,hj⟩:=a1u.1 this;have aS:=(a0u.1 hj.symm).1;obtain⟨t,rfl⟩:=g3;rw[a0P aS]
 |loop rd f nt env ps a b kC=>
  cases l with
  |cells ls=>exact h.elim
  |obj r _=>
   obtain⟨lp,h1,h2⟩:=h;exact⟨lp,(hw r (by simp[aJ])).trans h1,h2.mono hm⟩
theorem qh.inb{N w b l}(h:qh N w b l):∀c∈aJ l,c<w.heap.size:=by
 intro c hc;cases b with
 |cells k cs=>
  cases l with
  |obj r _=>exact h.elim
  |cells ls=>
   obtain⟨p,hp,rfl⟩:=a1u.1 hc;obtain⟨arr,ty,fz,h1,_⟩:=(h.2.1 p hp).row;exact(a2v.1 h1).1
 |nP cs=>
  cases l with
  |obj r _=>exact h.elim
  |cells ls=>
   obtain⟨p,hp,rfl⟩:=a1u.1 hc;obtain⟨cs',_,h⟩:=h;obtain⟨arr,ty,fz,h1,_⟩:=(h.2.1 p hp).row;exact(a2v.1 h1).1
 |map es=>
  cases l with
  |cells ls=>exact h.elim
  |obj r _=>
   obtain⟨xs,h1,_⟩:=h;simp[aJ]at hc;subst hc;exact(a2v.1 h1).1
 |mark=>
  cases l with
  |cells ls=>exact h.elim
  |obj r _=>
   simp[aJ]at hc;subst hc;exact h
 |dD m n seen=>
  cases l with
  |cells ls=>exact h.elim
  |obj r _=>
   obtain⟨b,o,sa,_,h1,_⟩:=h;simp[aJ]at hc;subst hc;exact(a2v.1 h1).1
 |loop rd f nt env ps a b kC=>
  cases l with
  |cells ls=>exact h.elim
  |obj r _=>
   obtain⟨lp,h1,_⟩:=h;simp[aJ]at hc;subst hc;exact(a2v.1 h1).1
abbrev Ct:=Key->Option HB
structure Valid(M:Mp)(D:Key->Prop)(C:Ct)(w:LI4):Prop where
 ok:∀k l,M k=some l->D k->∃b,C k=some b/\qh M.h w b l
 own:∀k k' l l' b,k≠k'->M k=some l->M k'=some l'->D k->C k=some b->wr b=true->∀c∈aJ l,c∉aJ l'
 inb:∀k l,M k=some l->∀c∈aJ l,c<w.heap.size
def rW:Key->Prop:=fun _=>True
theorem Valid.has{M C w}(h:Valid M rW C w){k l}(hk:M k=some l):(C k).isSome=true:=
 let ⟨_,h1,_⟩:=h.ok k l hk trivial;by simp[h1]
theorem Valid.of_heap{M D C w w'}(h:Valid M D C w)(hw:w'.heap=w.heap):Valid M D C w':=
 ⟨fun k l hk hd=>let ⟨b,h1,h2⟩:=h.ok k l hk hd;⟨b,h1,h2.mono (.refl _) (fun c _=>by rw[hw])⟩,h.own,by rw[hw];exact h.inb⟩
def dL(M:Mp)(k:Key)(l:Lc):Mp:=fun j=>if j=k then some l else M j
def mY(C:Ct)(k:Key)(b:HB):Ct:=fun j=>if j=k then some b else C j
theorem lW{M:Mp}{k l}(h:∀l0,M k=some l0->JK l0 l):tY M (dL M k l):=by
 intro j l0 hj;by_cases hjk:j=k
 .subst hjk;exact⟨l,by simp[dL],h l0 hj⟩
 exact⟨l0,by simp[dL,hjk,hj],.refl _⟩
theorem Valid.upd{M D D' C w w'}(h:Valid M D C w)(k b l)(hD:∀j,D' j->D j\/j=k)(hold:∀l0,M k=some l0->D k/\JK l0 l/\∀b0,C k=some b0->wr b0=true)(fV:∀c,c<w.heap.size->c∉aJ l->w'.heap[c]? = w.heap[c]?)(gJ:∀c∈aJ l,(∃l0,M k=some l0/\c∈aJ l0)\/w.heap.size<=c)(FW:w.heap.size<=w'.heap.size)(Ro:qh (dL M k l).h w' b l):Valid (dL M k l) D' (mY C k b) w':=by
 have hle:tY M (dL M k l):=lW fun l0 h0=>(hold l0 h0).2.1;refine⟨?_,?_,?_⟩
 .intro j l0 hj hd;by_cases hjk:j=k
  .subst hjk;simp only[dL,a2l,a08]at hj;subst hj;exact⟨b,by simp[mY],Ro⟩
  .simp only[dL,hjk,a3S]at hj;obtain⟨b0,h1,h2⟩:=h.ok j l0 hj ((hD j hd).resolve_right hjk);refine⟨b0,by simp[mY,hjk,h1],h2.mono hle.h fun c hc=>?_⟩;have aS:=h.inb j l0 hj c hc;refine fV c aS fun nR=>?_;rcases gJ c nR with⟨l1,SG,hc1⟩|CY
   .obtain⟨hDk,_,hw⟩:=hold l1 SG;obtain⟨b1,CZ,_⟩:=h.ok k l1 SG hDk;exact h.own k j l1 l0 b1 (fun e=>hjk e.symm) SG hj hDk CZ (hw b1 CZ) c hc1 hc
   .omega
 .intro j j' l0 l0' b0 iO hj EG hd hb hw c hc RG;by_cases hjk:j=k
  .subst hjk;have aag:j'≠j:=fun e=>iO e.symm;simp only[dL,a2l,a08]at hj;subst hj;simp only[dL,aag,a3S]at EG;have aS:=h.inb j' l0' EG c RG;rcases gJ c hc with⟨l1,SG,hc1⟩|CY
   .obtain⟨hDk,_,hw⟩:=hold l1 SG;obtain⟨b1,CZ,_⟩:=h.ok j l1 SG hDk;exact h.own j j' l1 l0' b1 iO SG EG hDk CZ (hw b1 CZ) c hc1 RG
   .omega
  .simp only[dL,hjk,a3S]at hj;simp only[mY,hjk,a3S]at hb;have hdj:=(hD j hd).resolve_right hjk;have aS:=h.inb j l0 hj c hc;by_cases aag:j'=k
   .subst aag;simp only[dL,a2l,a08]at EG;subst EG;rcases gJ c RG with⟨l1,SG,hc1⟩|CY
    .exact h.own j j' l0 l1 b0 iO hj SG hdj hb hw c hc hc1
    .omega
   .simp only[dL,aag,a3S]at EG;exact h.own j j' l0 l0' b0 iO hj EG hdj hb hw c hc RG
 .intro j l0 hj c hc;by_cases hjk:j=k
  .subst hjk;simp only[dL,a2l,a08]at hj;subst hj;exact Ro.inb c hc
  .simp only[dL,hjk,a3S]at hj;exact aa8 (h.inb j l0 hj c hc) FW
structure Ext(M0:Mp)(C0:Ct)(w0:LI4)(M:Mp)(C:Ct)(w:LI4)(ws:List Key):Prop where
 JE:tY M0 M
 frame:∀c,c<w0.heap.size->(∀k∈ws,∀l,M0 k=some l->c∉aJ l)->w.heap[c]? = w0.heap[c]?
 o8:∀k,(C0 k).isSome=true->k∉ws->C k=C0 k
 l7:∀k,((C0 k).isSome=true\/C k=none)->k∉ws->M k=M0 k
 fresh:∀k l,M k=some l->∀c∈aJ l,c<w0.heap.size->∃l0,M0 k=some l0/\c∈aJ l0
 size:w0.heap.size<=w.heap.size
 has:∀k,(C0 k).isSome=true->(C k).isSome=true
 wsub:∀k∈ws,(C0 k).isSome=true
 wrote:∀k∈ws,(M0 k).isSome=true/\∀b,C0 k=some b->wr b=true
 os:w.os=w0.os
 output:w.output=w0.output
 tape:w.tape=w0.tape
theorem Ext.refl(M C w):Ext M C w M C w []:=
 ⟨.refl _,fun _ _ _=>rfl,fun _ _ _=>rfl,fun _ _ _=>rfl,fun _ l h c hc _=>⟨l,h,hc⟩,a1j _,fun _ h=>h,(by simp),(by simp),rfl,rfl,rfl⟩
theorem Ext.drew{M0 C0 w0 M C w w' ws}(h:Ext M0 C0 w0 M C w ws)(hh:w'.heap=w.heap) (ho:w'.os=w.os) (hu:w'.output=w.output) (ht:w'.tape=w.tape):Ext M0 C0 w0 M C w' ws:=
 { h with frame:=(by rw[hh];exact h.frame),size:=(by rw[hh];exact h.size),os:=ho.trans h.os,output:=hu.trans h.output,tape:=ht.trans h.tape }
theorem Ext.trans{M0 M M':Mp}{C0 C C':Ct}{w0 w w':LI4}{ws Xd afg:List Key}(h:Ext M0 C0 w0 M C w ws)(h':Ext M C w M' C' w' Xd)(hd:∀k l,M0 k=some l->(C0 k).isSome=true) (hs:∀k,(C0 k).isSome=true->(k∈ws\/k∈Xd)->k∈afg) (hb:∀k∈afg,(C0 k).isSome=true/\(k∈ws\/k∈Xd)) :Ext M0 C0 w0 M' C' w' afg where
 JE:=h.JE.trans h'.JE
 frame:=by intro c hc hf;have h1:w.heap[c]? = w0.heap[c]?:=h.frame c hc fun k hk l hl=>hf k (hs k (h.wsub k hk) (.inl hk)) l hl;rw[<-h1];refine h'.frame c (aa8 hc h.size) fun k hk l hl nR=>?_;obtain⟨l0,h2,h3⟩:=h.fresh k l hl c nR hc;exact hf k (hs k (hd k l0 h2) (.inr hk)) l0 h2 h3
 o8:=fun k hk hn=>by have hn1:k∉ws:=fun e=>hn (hs k hk (.inl e));have EH:k∉Xd:=fun e=>hn (hs k hk (.inr e));rw[h'.o8 k (h.has k hk) EH,h.o8 k hk hn1]
 l7:=fun k hk hn=>by
  rcases hk with hk|hk
  .have hn1:k∉ws:=fun e=>hn (hs k hk (.inl e));have EH:k∉Xd:=fun e=>hn (hs k hk (.inr e));rw[h'.l7 k (.inl (h.has k hk)) EH,h.l7 k (.inl hk) hn1]
  .have hC:C k=none:=by
    cases hc:C k with
    |none=>rfl
    |some b=>have:=h'.has k (by simp[hc]);simp[hk]at this
   have EH:k∉Xd:=fun e=>by have:=h'.wsub k e;simp[hC]at this
   have hn1:k∉ws:=fun e=>by have:=h.has k (h.wsub k e);simp[hC]at this
   rw[h'.l7 k (.inr hk) EH,h.l7 k (.inr hC) hn1]
 fresh:=fun k l hl c hc aS=>by obtain⟨l1,h1,h2⟩:=h'.fresh k l hl c hc (aa8 aS h.size);exact h.fresh k l1 h1 c h2 aS
 size:=a5O h.size h'.size
 has:=fun k hk=>h'.has k (h.has k hk)
 wsub:=fun k hk=>(hb k hk).1
 wrote:=fun k hk=>by
  by_cases h1:k∈ws
  .exact h.wrote k h1
  .have h2:=h'.wrote k ((hb k hk).2.resolve_left h1);rw[h.l7 k (.inl (hb k hk).1) h1,h.o8 k (hb k hk).1 h1]at h2;exact h2
 os:=h'.os.trans h.os
 output:=h'.output.trans h.output
 tape:=h'.tape.trans h.tape
theorem Ext.upd{M:Mp}{C:Ct}{w w':LI4}(k:Key)(b:HB)(l:Lc)(ws:List Key)(ZH:((C k).isSome=true/\ws=[k]/\(M k).isSome=true/\∀b,C k=some b->wr b=true)\/(C k=none/\M k=none/\ws=[]))(hle:tY M (dL M k l))(fV:∀c,c<w.heap.size->c∉aJ l->w'.heap[c]? = w.heap[c]?)(gJ:∀c∈aJ l,(∃l0,M k=some l0/\c∈aJ l0)\/w.heap.size<=c)(FW:w.heap.size<=w'.heap.size) (ho:w'.os=w.os) (hou:w'.output=w.output) (ht:w'.tape=w.tape) :Ext M C w (dL M k l) (mY C k b) w' ws where
 JE:=hle
 frame:=by
  intro c hc hf;refine fV c hc fun nR=>?_;rcases gJ c nR with⟨l0,h1,h2⟩|CY
  .rcases ZH with⟨_,rfl,_⟩|⟨_,hn,_⟩
   .exact hf k (by simp) l0 h1 h2
   .rw[hn]at h1;cases h1
  .omega
 o8:=fun j hj hn=>by
  have:j≠k:=by
   rintro rfl;rcases ZH with⟨_,rfl,_⟩|⟨h1,_⟩
   .simp at hn
   .simp[h1]at hj
  simp[mY,this]
 l7:=fun j hj hn=>by
  have:j≠k:=by
   rintro rfl;rcases ZH with⟨_,rfl,_⟩|⟨h1,_⟩
   .simp at hn
   .rcases hj with hj|hj
    .simp[h1]at hj
    .simp[mY]at hj
  simp[dL,this]
 fresh:=fun j l0 hj c hc aS=>by
  by_cases hjk:j=k
  .subst hjk;simp only[dL,a2l,a08]at hj;subst hj;rcases gJ c hc with h1|CY
   .exact h1
   .omega
  .simp only[dL,hjk,a3S]at hj;exact⟨l0,hj,hc⟩
 size:=FW
 has:=fun j hj=>by
  by_cases hjk:j=k
  .simp[mY,hjk]
  .simpa[mY,hjk]using hj
 wsub:=by
  rcases ZH with⟨h1,rfl,_⟩|⟨_,_,rfl⟩
  .intro j hj;simp at hj;subst hj;exact h1
  .simp
 wrote:=by
  rcases ZH with⟨_,rfl,h1⟩|⟨_,_,rfl⟩
  .intro j hj;simp at hj;subst hj;exact h1
  .simp
 os:=ho
 output:=hou
 tape:=ht
theorem ER.mono{M M':Mp}(hm:tY M M')(hl:∀k l,M (.l k)=some l->M' (.l k)=some l){e x}(h:ER M e x):ER M' e x:=by
 cases h with
 |val h=>exact .val (h.mono hm.h)
 |loc h hb=>exact .loc (hl _ _ h) hb
 |undef=>exact .undef
 |ent h hi hv=>
  obtain⟨l',h1,h2⟩:=hm _ _ h;cases l' with
  |cells _=>exact h2.elim
  |obj r1 o'=>
   obtain⟨rfl,t,rfl⟩:=h2;exact .ent h1 (by rw[a0P (a0u.1 hi).1];exact hi) (hv.mono hm.h)
 |Fz h hi=>
  obtain⟨l',h1,h2⟩:=hm _ _ h;cases l' with
  |cells _=>exact h2.elim
  |obj r1 o'=>
   obtain⟨rfl,t,rfl⟩:=h2;exact .Fz h1 (by rw[a0P (a0u.1 hi).1];exact hi)
structure Oz(M:Mp)(D:Key->Prop)(C:Ct)(w:LI4)(v:EV)(C1:Ct)(ws:List Key)(x:LI3)(w':LI4)(M':Mp):Prop where
 val:Valid M' (fun k=>D k\/(C k=none/\(C1 k).isSome=true)) C1 w'
 ext:Ext M C w M' C1 w' ws
 er:ER M' v x
 loc:∀k l,M (.l k)=some l->M' (.l k)=some l
theorem Oz.same{M D C w v x}(h:Valid M D C w)(he:ER M v x):Oz M D C w v C [] x w M:=
 ⟨⟨fun k l hk hd=>h.ok k l hk (hd.elim id fun⟨a,b⟩=>by simp[a]at b),fun k k' l l' b a1 a2 a3 hd=>h.own k k' l l' b a1 a2 a3 (hd.elim id fun⟨a,b⟩=>by simp[a]at b),h.inb⟩,.refl M C w,he,fun _ _ h=>h⟩
theorem vC(w:LI4)(o i)(h:i<w.heap.size):(w.alloc o).heap[i]? = w.heap[i]?:=by show(w.heap.push o)[i]? = w.heap[i]?;rw[Array.getElem?_push,a0S (Nat.ne_of_lt h)]
section
variable{P:LI1}{w:LI4}
theorem jr{t i}(h:P.info? t=some i):(typeInfo t).run P w=.ok i w:=by simp[typeInfo,h]
theorem Gs{t n}(h:dG P t=some n):∃i,P.info? t=some i/\i.size=n:=by simpa[dG]using h
theorem dn{t n}(h:dG P t=some n):(Go.sizeOf t).run P w=.ok n w:=by obtain⟨i,h1,h2⟩:=Gs h;simp[Go.sizeOf,jr h1,h2]
theorem Ba{t b}(h:wZ P t=some b):(isAgg t).run P w=.ok b w:=by
 unfold wZ at h;split at h<;>simp at h<;>subst h
 .simp[isAgg,run_underlying ‹_›]
 .simp[isAgg,run_underlying ‹_›]
 rename_i d _ _ hu;simp only[isAgg,Sem.run_bind,run_underlying hu,Result.andThen_ok];cases d<;>simp_all
theorem vG(c o n):(⟨c,o,none⟩:Addr).add n=⟨c,o+n,none⟩:=by unfold Addr.add;split<;>simp_all
theorem EI{N c v}(h:VR N c v)(ho:iR c=true):v.oneCell'=true:=by cases h<;>first|rfl|simp[iR]at ho
theorem oz{cs off n r}(h:sub cs off n=some r):off+n<=cs.length/\r=(cs.drop off).take n/\r.length=n:=by
 unfold sub at h;split at h
 .rename_i hl;simp at h;subst h;exact⟨hl,rfl,by simp;omega⟩
 simp at h
theorem wS{cs off new r}(h:wY cs off new=some r) :off+new.length<=cs.length/\r=cs.take off++new++cs.drop (off+new.length)/\r.length=cs.length:=by
 unfold wY at h;split at h
 .rename_i hl;simp at h;subst h;exact⟨hl,by simp,by simp;omega⟩
 .simp at h
theorem JL.slice{N k cs p}(h:JL N w k cs p){off n r}(hr:sub cs off n=some r)(he:off+n<=p.ext)(hz:k=.last->p.ext=cs.length) :∃xs,bZ N r xs/\∀(j) (v),xs[j]? = some v->w.cell? ⟨p.c,p.base+off+j,none⟩=some v:=by
 obtain⟨arr,ty,fz,h1,h2,_,h4⟩:=h.row;obtain⟨s1,s2,s3⟩:=oz hr;have hf:=h.fit;refine⟨(arr.toList.drop (p.base+off)).take n,⟨by rw[s3];simp;omega,fun i c v a b=>?_⟩,fun j v hj=>?_⟩
 .rw[s2,a5f]at a;rw[a5f]at b;split at a
  .rename_i hi;rw[a15 hi,a5u]at b;rw[a5u]at a;exact h4 hz (off+i) c v (by omega) a (by simpa[aad]using b)
  .simp at a
 .rw[a5f]at hj;split at hj
  .rw[a5u]at hj;simp only[World.cell?,h1];simpa using hj
  .simp at hj
theorem zo{N k cs p}(h:JL N w k cs p){off n r}(hr:sub cs off n=some r)(he:off+n<=p.ext)(hz:k=.last->p.ext=cs.length) :∃xs,bZ N r xs/\∀w',w'.heap=w.heap->(loadCells ⟨p.c,p.base+off,none⟩ n).run P w'=.ok xs.toArray w':=by
 obtain⟨xs,h1,h2⟩:=h.slice hr he hz;refine⟨xs,h1,fun w' hw'=>?_⟩;have hl:xs.length=n:=by rw[<-h1.len];exact(oz hr).2.2
 have:=run_loadCells_list (P:=P) w' ⟨p.c,p.base+off,none⟩ xs (fun j v hj=>by rw[vG];have e:=h2 j v hj;simp only[World.cell?,hw']at e ⊢;exact e)
 rwa [hl]at this
theorem LP{N k cs p}(h:JL N w k cs p){t off n v}(hs:dG P t=some n)(hv:vk P t cs off=some v) (he:off+n<=p.ext) (hz:k=.last->p.ext=cs.length) :∃x,VR N v x/\(loadVar t ⟨p.c,p.base+off,none⟩).run P w=.ok x w:=by
 unfold vk at hv;rw[hs]at hv;cases ha:wZ P t with
 |none=>simp[ha]at hv
 |some b=>
  cases b with
  |true=>
   simp only[ha,a0x]at hv;obtain⟨r,hr,rfl⟩:=hv;obtain⟨xs,g1,g2⟩:=zo (P:=P) h hr he hz;exact⟨_,.agg' g1,by simp[loadVar,Ba ha,dn hs,g2 w rfl]⟩
  |false=>
   simp only[ha]at hv;split at hv
   case isFalse=>simp at hv
   rename_i hn1;have he1:off+1<=p.ext:=(by omega);have aS:=(a0u.1 hv).1;have hr:sub cs off 1=some [v]:=by unfold sub;rw[a15 (by omega)];congr 1;rw[a6j aS];have:=(a0u.1 hv).2;simp[this]
   obtain⟨xs,g1,g2⟩:=h.slice hr he1 hz;obtain⟨x,xs',rfl,gx,_⟩:=g1.iE;have:=g2 0 x rfl;simp only[adb]at this;exact⟨x,gx,by simp[loadVar,Ba ha,this]⟩
end
theorem JM{M k l}(h:M k=some l):dL M k l=M:=by
 funext j;unfold dL;split
 .rename_i e;rw[e,h]
 rfl
theorem l9(s:St)(b e ws):St.get { s with heap:=s.heap++[b],env:=e,ws:=ws }=mY s.get (.h s.heap.length) b:=by
 funext k
 cases k with
 |h j=>
  simp only[St.get,mY,Key.h.injEq];split
  .rename_i e;subst e;simp
  rename_i e;by_cases hj:j<s.heap.length
  .rw[a0P hj]
  rw[a4w (by simp;omega),a4w (by omega)]
 |l j=>simp[St.get,mY]
theorem jw(s:St)(i b)(h:i<s.heap.length)(e ws):St.get { s with heap:=s.heap.set i b,env:=e,ws:=ws }=mY s.get (.h i) b:=by
 funext k
 cases k with
 |h j=>
  simp only[St.get,mY,Key.h.injEq];rw[aan];by_cases hj:i=j
  .subst hj;simp[h]
  rw[a0S hj,a0S (fun e=>hj e.symm)]
 |l j=>simp[St.get,mY]
theorem SH(s:St)(cs e ws):St.get { s with loc:=s.loc++[cs],env:=e,ws:=ws }=mY s.get (.l s.loc.length) (.cells .own cs):=by
 funext k
 cases k with
 |l j=>
  simp only[St.get,mY,Key.l.injEq];split
  .rename_i e;subst e;simp
  rename_i e;by_cases hj:j<s.loc.length
  .rw[a0P hj]
  rw[a4w (by simp;omega),a4w (by omega)]
 |h j=>simp[St.get,mY]
theorem OA(s:St)(i cs)(h:i<s.loc.length)(e ws):St.get { s with loc:=s.loc.set i cs,env:=e,ws:=ws }=mY s.get (.l i) (.cells .own cs):=by
 funext k
 cases k with
 |l j=>
  simp only[St.get,mY,Key.l.injEq];rw[aan];by_cases hj:i=j
  .subst hj;simp[h]
  rw[a0S hj,a0S (fun e=>hj e.symm)]
 |h j=>simp[St.get,mY]
theorem yJ{h b lim cs}(e:ni h b lim=some cs):∃k,h[b]? = some (.cells k cs)/\(k=.last->lim=cs.length):=by
 unfold ni at e;split at e
 .rename_i k cs' hb;split at e
  .cases e
  rename_i hn;simp at e;subst e;exact⟨k,hb,fun hk=>Decidable.not_not.1 fun hl=>hn ⟨hk,hl⟩⟩
 simp at e
theorem LQ{k k' b}(e:AY k b=some k'):(k=.own/\k'=.own)\/((k=.grow\/k=.last)/\k'=.last/\b=true):=by unfold AY at e;split at e<;>simp_all
theorem JO{h h' b off lim new}(e:UL h b off lim new=some h') :∃k k' cs cs',h[b]? = some (.cells k cs)/\((k=.own/\k'=.own)\/((k=.grow\/k=.last)/\k'=.last/\lim=cs.length))/\wY cs off new=some cs'/\h'=h.set b (.cells k' cs'):=by
 unfold UL at e;split at e
 .rename_i k cs hb;split at e
  .rename_i k' hk;simp only[a0x]at e;obtain⟨cs',h1,h2⟩:=e;refine⟨k,k',cs,cs',hb,?_,h1,h2.symm⟩;rcases LQ hk with h|⟨a,b,c⟩
   .exact .inl h
   .exact .inr ⟨a,b,by simpa using c⟩
  .cases e
 .simp at e
theorem zI{arr:Array LI3}{off xs}(i)(h:off+xs.length<=arr.size) :(arr.toList.take off++xs++arr.toList.drop (off+xs.length)).toArray[i]? = if i<off then arr[i]? else if i<off+xs.length then xs[i-off]? else arr[i]?:=by
 have hl:(arr.toList.take off).length=off:=by simp;omega
 simp only[aeG];by_cases h1:i<off
 .rw[a15 h1,a6m,a0P (by omega),a5f,a15 h1];simp
 .rw[a0S h1];by_cases h2:i<off+xs.length
  .rw[a15 h2,a6m,a1p (by omega),hl,a0P (by omega)]
  .rw[a0S h2,a1p (by simp;omega),a5u];have:off+xs.length+(i-(List.take off arr.toList++xs).length)=i:=by simp;omega
   rw[this];simp
theorem a3B{cs new r off}(h:wY cs off new=some r)(i) :r[i]? = if i<off then cs[i]? else if i<off+new.length then new[i-off]? else cs[i]?:=by
 obtain⟨h1,h2,_⟩:=wS h;have hl:(cs.take off).length=off:=by simp;omega
 rw[h2];by_cases h1:i<off
 .rw[a15 h1,a6m,a0P (by omega),a5f,a15 h1]
 .rw[a0S h1];by_cases h2:i<off+new.length
  .rw[a15 h2,a6m,a1p (by omega),hl,a0P (by omega)]
  .rw[a0S h2,a1p (by simp;omega),a5u];congr 1;simp;omega
theorem Xe{cs new r off}(h:wY cs off new=some r)(hc:∀c∈cs,iR c=true)(hn:∀c∈new,iR c=true):∀c∈r,iR c=true:=by
 obtain⟨_,h2,_⟩:=wS h;intro c hcr;rw[h2]at hcr;simp only[a3E]at hcr;rcases hcr with(h|h)|h
 .exact hc c (a7q h)
 .exact hn c h
 exact hc c (a5N h)
theorem nD(w:LI4)(g arr c)(h:c≠g):(w.setRow g arr).heap[c]? = w.heap[c]?:=by simp only[World.setRow,abL];rw[a0S (fun e=>h e.symm)]
theorem uw(w:LI4)(g arr cur ty fz)(h:w.heap[g]? = some (.cells cur ty fz)):(w.setRow g arr).heap[g]? = some (.cells arr ty fz):=by simp[World.setRow,abL,h]
theorem Valid.widen{M D}{C C1:Ct}{w'}(h:Valid M D C1 w')(hn:∀k,C k=none->C1 k=none):Valid M (fun j=>D j\/(C j=none/\(C1 j).isSome=true)) C1 w':=
 have aux:∀j,(D j\/(C j=none/\(C1 j).isSome=true))->D j:=fun j hj=>hj.elim id fun⟨a,b⟩=>by rw[hn j a]at b;cases b
 ⟨fun k l hk hd=>h.ok k l hk (aux k hd),fun k k' l l' b a1 a2 a3 hd=>h.own k k' l l' b a1 a2 a3 (aux k hd),h.inb⟩
theorem EJ{C k b}(hk:(C k).isSome=true):∀j,C j=none->mY C k b j=none:=by
 intro j hj;unfold mY;split
 .rename_i e;subst e;rw[hj]at hk;cases hk
 exact hj
theorem Valid.wrB{M D C w}(h:Valid M D C w){k ls p cs}{kk CG:BK}(hk:M k=some (.cells ls))(hd:D k)(hc:C k=some (.cells kk cs)) (hp:p∈ls) (yK:(kk=.own/\CG=.own)\/((kk=.grow\/kk=.last)/\CG=.last/\p.ext=cs.length)) :p.base=0/\p.ext=cs.length/\(∀c∈cs,iR c=true)/\(∀q∈ls,JL M.h w kk cs q)/\(ls.map (·.c)).Nodup/\(∀q∈ls,q.ext=cs.length->q=p) /\∃(arr:Array LI3) (ty:LI2),w.heap[p.c]? = some (.cells arr ty (0,0))/\arr.size=p.tot/\cs.length<=p.tot /\∀(i:Nat) (c) (v),cs[i]? = some c->arr[i]? = some v->VR M.h c v:=by
 obtain⟨b,h1,h2⟩:=h.ok k _ hk hd;rw[hc]at h1;cases h1;obtain⟨g1,g2,g3,g4⟩:=h2;have iO:kk≠.ro:=by rcases yK with⟨e,_⟩|⟨e|e,_⟩<;>rw[e]<;>simp
 have zq:=g2 p hp;have hb:=zq.base iO;have hx:p.ext=cs.length/\(ls.map (·.c)).Nodup/\∀q∈ls,q.ext=cs.length->q=p:=by
  rcases yK with⟨e,_⟩|⟨e,_,he⟩
  .obtain⟨q,rfl,hq⟩:=g3 e;simp at hp;subst hp;exact⟨hq,by simp,fun q' hq' _=>by simpa using hq'⟩
  .obtain⟨n1,n2⟩:=g4 e;exact⟨he,n1,fun q hq hqe=>n2 q hq p hp hqe he⟩
 obtain⟨arr,ty,fz,r1,r2,r3,r4⟩:=zq.row;have:=r3 iO;subst this;have hf:=zq.fit;refine⟨hb,hx.1,g1,g2,hx.2.1,hx.2.2,arr,ty,r1,r2,by omega,fun i c v a b=>?_⟩;have hi:=(a0u.1 a).1;exact r4 (fun _=>hx.1) i c v (by omega) a (by simpa[hb]using b)
theorem Valid.ZI{M D C w}(h:Valid M D C w){k ls p cs}{kk CG:BK}{lim}(hk:M k=some (.cells ls))(hd:D k)(hc:C k=some (.cells kk cs)) (hp:p∈ls) (hl:lim<=p.ext) (yK:(kk=.own/\CG=.own)\/((kk=.grow\/kk=.last)/\CG=.last/\lim=cs.length)) :(kk=.own/\CG=.own)\/((kk=.grow\/kk=.last)/\CG=.last/\p.ext=cs.length):=by
 rcases yK with e|⟨e1,e2,e3⟩
 .exact .inl e
 .obtain⟨b,h1,h2⟩:=h.ok k _ hk hd;rw[hc]at h1;cases h1;have:=(h2.2.1 p hp).ext;exact .inr ⟨e1,e2,by omega⟩
theorem I8:∀{ls:List Pl},(ls.map (·.c)).Nodup->∀{p q},p∈ls->q∈ls->q.c=p.c->q=p
 | [],_,p,q,hp,_,_=>by simp at hp
 |a::ls,h,p,q,hp,hq,e=>by
  simp only[a4N,a5x]at h;rcases a1B.1 hp with h1|h1<;>rcases a1B.1 hq with h2|h2
  .rw[h1,h2]
  .exact(h.1 (a1u.2 ⟨q,h2,by rw[e,h1]⟩)).elim
  .exact(h.1 (a1u.2 ⟨p,h1,by rw[<-e,h2]⟩)).elim
  exact I8 h.2 h1 h2 e
theorem zJ{P M D C w}(h:Valid M D C w){k ls p cs cs' new off xs kk CG}(hk:M k=some (.cells ls)) (hd:D k) (hc:C k=some (.cells kk cs)) (hp:p∈ls) (yK:(kk=.own/\CG=.own)\/((kk=.grow\/kk=.last)/\CG=.last/\p.ext=cs.length))(ho:wY cs off new=some cs') (hx:bZ M.h new xs) (hn:∀c∈new,iR c=true) :∃w',(storeCells ⟨p.c,p.base+off,none⟩ xs).run P w=.ok () w'/\Valid M D (mY C k (.cells CG cs')) w'/\Ext M C w M (mY C k (.cells CG cs')) w' [k]:=by
 obtain⟨hb,he,h1,zq,jJ,huq,arr,ty,hr,hs,hle,hv⟩:=h.wrB hk hd hc hp yK;obtain⟨o1,o2,o3⟩:=wS ho;have hlen:=hx.len;have iO:kk≠.ro:=by rcases yK with⟨e,_⟩|⟨e|e,_⟩<;>rw[e]<;>simp
 have aji:CG≠.ro:=by rcases yK with⟨_,e⟩|⟨_,e,_⟩<;>rw[e]<;>simp
 have UW:∀b0,C k=some b0->wr b0=true:=fun b0 yu=>by rw[hc]at yu;cases yu;cases kk<;>simp_all [wr]
 have vW:∀v∈xs,v.oneCell'=true:=by
  intro v hv;obtain⟨i,hi,rfl⟩:=a5I.1 hv;have wC:i<new.length:=by omega
  exact EI (hx.at_ i new[i] xs[i] (by simp[wC]) (by simp[hi])) (hn _ (a5B wC))
 have uy:=run_storeCells_at (P:=P) p.c (p.base+off) ty xs 0 arr w hr (by omega) vW;simp only[adb,hb,a3C]at uy
 let w':LI4:=w.setRow p.c (arr.toList.take off++xs++arr.toList.drop (off+xs.length)).toArray
 have qU:dL M k (.cells ls)=M:=JM hk;have fV:∀c,c<w.heap.size->c∉aJ (.cells ls)->w'.heap[c]? = w.heap[c]?:=fun c _ hc=>nD w p.c _ c (fun e=>hc (by rw[e];exact a1u.2 ⟨p,hp,rfl⟩));have gJ:∀c∈aJ (.cells ls),(∃l0,M k=some l0/\c∈aJ l0)\/w.heap.size<=c:=fun c hc=>.inl ⟨_,hk,hc⟩;have qV:w.heap.size<=w'.heap.size:=by simp[w']
 have FC:tY M (dL M k (.cells ls)):=by rw[qU];exact .refl _
 refine⟨w',by rw[hb,a3C];exact uy,?_,?_⟩
 .have:=h.upd (D':=D) (w':=w') k (.cells CG cs') (.cells ls) (fun j hj=>.inl hj) (fun l0 h0=>by
   rw[hk]at h0;cases h0;exact⟨hd,.refl _,UW⟩) fV gJ qV (by
   rw[qU];refine⟨Xe ho h1 hn,fun q hq=>?_,fun e=>?_,fun e=>⟨jJ,fun q1 Dy q2 Gt e1 e2=>by rw[huq q1 Dy (by omega),huq q2 Gt (by omega)]⟩⟩
   .have ZJ:=zq q hq;by_cases Zt:q.c=p.c
    .have:=I8 jJ hp hq Zt;subst this;refine⟨⟨_,ty,(0,0),uw w q.c _ arr ty (0,0) hr,by simp;omega,fun _=>rfl,fun _ i c v hi a b=>?_⟩,by omega,by omega,fun _=>hb⟩;rw[hb,a3C,zI i (by omega)]at b;rw[a3B ho i,hlen]at a;split at a
     .rename_i hi1;rw[a15 hi1]at b;exact hv i c v a b
     .rename_i hi1;rw[a0S hi1]at b;split at a
      .rename_i LU;rw[a15 LU]at b;exact hx.at_ _ c v a b
      .rename_i LU;rw[a0S LU]at b;exact hv i c v a b
    .obtain⟨uz,ty',fz',t1,t2,t3,t4⟩:=ZJ.row;refine⟨⟨uz,ty',fz',(nD w p.c _ q.c Zt).trans t1,t2,fun _=>t3 iO,fun hz i c v hi a b=>?_⟩,ZJ.fit,by have:=ZJ.ext;omega,fun _=>ZJ.base iO⟩;exfalso;apply Zt;rcases yK with⟨e,_⟩|⟨_,e,_⟩
     .obtain⟨b',g1,g2⟩:=h.ok k _ hk hd;rw[hc]at g1;cases g1;obtain⟨q',g3,_⟩:=g2.2.2.1 e;rw[g3]at hq hp;simp at hq hp;rw[hq,hp]
     .rw[huq q hq (by rw[hz e];omega)]
   .rcases yK with⟨e0,_⟩|⟨_,e1,_⟩
    .obtain⟨b',g1,g2⟩:=h.ok k _ hk hd;rw[hc]at g1;cases g1;obtain⟨q',g3,g4⟩:=g2.2.2.1 e0;exact⟨q',g3,by omega⟩
    .rw[e1]at e;cases e)
  rwa [qU]at this
 .have:=Ext.upd (M:=M) (C:=C) (w:=w) (w':=w') k (.cells CG cs') (.cells ls) [k] (.inl ⟨by simp[hc],rfl,by simp[hk],UW⟩) FC fV gJ qV rfl rfl rfl
  rwa [qU]at this
theorem OB{M D C w}(h:Valid M D C w){k cs arr}(ty)(hk:M k=none) (hc:C k=none) (hl:cs.length<=arr.size) (hx:∀(i:Nat) (c) (v),cs[i]? = some c->arr[i]? = some v->VR M.h c v) (hn:∀c∈cs,iR c=true) :Valid (dL M k (.cells [⟨w.heap.size,0,cs.length,arr.size⟩])) (fun j=>D j\/(C j=none/\(mY C k (.cells .own cs) j).isSome=true)) (mY C k (.cells .own cs)) (w.alloc (.cells arr ty)) /\Ext M C w (dL M k (.cells [⟨w.heap.size,0,cs.length,arr.size⟩])) (mY C k (.cells .own cs)) (w.alloc (.cells arr ty)) []:=by
 have hle:tY M (dL M k (.cells [⟨w.heap.size,0,cs.length,arr.size⟩])):=lW fun l0 h0=>by rw[hk]at h0;cases h0
 have fV:∀c,c<w.heap.size->c∉aJ (.cells [⟨w.heap.size,0,cs.length,arr.size⟩])->(w.alloc (.cells arr ty)).heap[c]? = w.heap[c]?:=fun c hc _=>vC w _ c hc;have gJ:∀c∈aJ (.cells [⟨w.heap.size,0,cs.length,arr.size⟩]),(∃l0,M k=some l0/\c∈aJ l0)\/w.heap.size<=c:=fun c hc=>.inr (by simp[aJ]at hc;omega);refine⟨h.upd k _ _ (fun j hj=>?_) (fun l0 h0=>by rw[hk]at h0;cases h0) fV gJ (by simp) ?_,Ext.upd k _ _ [] (.inr ⟨hc,hk,rfl⟩) hle fV gJ (by simp) rfl rfl rfl⟩
 .rcases hj with hj|⟨a,b⟩
  .exact .inl hj
  .right;unfold mY at b;split at b
   .assumption
   .simp[a]at b
 .refine⟨hn,fun q hq=>?_,fun _=>⟨_,rfl,rfl⟩,by simp⟩;simp at hq;subst hq;exact⟨⟨arr,ty,(0,0),heap_alloc_new w _,rfl,fun _=>rfl,fun _ i c v _ a b=>(hx i c v a (by simpa using b)).mono hle.h⟩,by simpa using hl,a1j _,fun _=>rfl⟩
theorem a5V{M env}{a:Act}(hE:kR M env a.tmps){x e}(h:JD env x=some e):ER M e (a.eval x):=by
 cases x with
 |tmp t=>exact hE t e h
 |const v=>
  simp only[JD,a0x]at h;obtain⟨t,h1,rfl⟩:=h;exact .val (.zn h1)
 |func f=>
  simp only[JD,a08]at h;subst h;exact .val (VR.fn (xs:=[]) (ys:=[]) rfl (by simp) rfl (by simp))
 |global g=>simp[JD]at h
theorem ZK{M env}{a:Act}(hE:kR M env a.tmps){x v}(h:rO env x=some v):VR M.h v (a.eval x):=by
 unfold rO at h;split at h
 .rename_i v' he;simp at h;subst h;exact(a5V hE he).uU
 simp at h
structure PR(N:Np)(ps:List (Nat×TV))(qs:List (Nat×LI3)):Prop where
 len:ps.length=qs.length
 at_:∀(i:Nat) (p:Nat×TV) (q:Nat×LI3),ps[i]? = some p->qs[i]? = some q->p.1=q.1/\VR N p.2 q.2
theorem PR.nil{N}:PR N [] []:=⟨rfl,by simp⟩
theorem PR.cons{N i v x ps qs}(h:VR N v x)(hs:PR N ps qs):PR N ((i,v)::ps) ((i,x)::qs):=
 ⟨by simp[hs.len],fun j p q a b=>by
  cases j with
  |zero=>simp at a b;subst a;subst b;exact⟨rfl,h⟩
  |succ j=>simp at a b;exact hs.at_ j p q a b⟩
theorem PR.iE{N i v ps qs}(h:PR N ((i,v)::ps) qs):∃x qs',qs=(i,x)::qs'/\VR N v x/\PR N ps qs':=by
 cases qs with
 |nil=>have:=h.len;simp at this
 |cons q qs'=>
  have h0:=h.at_ 0 (i,v) q rfl rfl;obtain⟨j,x⟩:=q;obtain⟨h1,h2⟩:=h0;simp only at h1;subst h1;exact⟨x,qs',rfl,h2,⟨by have:=h.len;simpa using this,fun j p q a b=>h.at_ (j+1) p q (by simpa using a) (by simpa using b)⟩⟩
theorem PR.oV{N qs}(h:PR N [] qs):qs=[]:=by have:=h.len;simp at this;exact a4o this.symm
def ajk(P:LI1)(c:Sem Next)(w:LI4)(x:LI3)(w':LI4):Prop:=
 c.run P w=.ok (.value x) w'\/(x=Go.undef/\c.run P w=.ok .skip w')
def I9(P:LI1)(M:Mp)(D:Key->Prop)(C:Ct)(w:LI4)(c:Sem Next)(v:EV)(C1:Ct)(ws:List Key):Prop:=
 ∃x w' M',ajk P c w x w'/\Oz M D C w v C1 ws x w' M'
section
variable{P:LI1}{M:Mp}{D:Key->Prop}{w:LI4}{s:St}
theorem I9.same{C c v x}(hV:Valid M D C w)(hr:c.run P w=.ok (.value x) w)(he:ER M v x):I9 P M D C w c v C []:=
 ⟨x,w,M,.inl hr,.same hV he⟩
theorem rX{k l}(hk:M k=none):∀j l',M (.l j)=some l'->dL M k l (.l j)=some l':=by intro j l' h;unfold dL;rw[a0S (fun e=>by rw[<-e,h]at hk;cases hk)];exact h
theorem a5W(hV:Valid M D s.get w)(zK:M (.h s.heap.length)=none)(hnl:M (.l s.loc.length)=none)(site){cs xs}(ty)(hx:bZ M.h cs xs.toList) (hn:∀c∈cs,iR c=true) {v s1} (h:rP site s cs=(v,s1)) :∃M',Oz M D s.get w v s1.get [] (.pointer (some ⟨w.heap.size,0,none⟩)) (w.alloc (.cells xs ty)) M':=by
 have hlen:cs.length<=xs.size:=by have:=hx.len;simpa using aha this
 have JF:∀(i:Nat) (c:TV) (v:LI3),cs[i]? = some c->xs[i]? = some v->VR M.h c v:=fun i c v a b=>hx.at_ i c v a (by simpa using b);unfold rP at h;cases site with
 |true=>
  simp only[a2l,a1d]at h;obtain⟨rfl,rfl⟩:=h;have hc:s.get (.h s.heap.length)=none:=by simp[St.get]
  have:=OB hV ty zK hc hlen JF hn;refine⟨dL M (.h s.heap.length) (.cells [⟨w.heap.size,0,cs.length,xs.size⟩]),⟨?_,?_,?_,rX zK⟩⟩
  .rw[l9];exact this.1
  .rw[l9];exact this.2
  .exact .val (VR.ptr (p:=⟨w.heap.size,0,cs.length,xs.size⟩) (ls:=[⟨w.heap.size,0,cs.length,xs.size⟩]) (by simp[Mp.h,dL]) (by simp) (a1j _) (by simpa using hlen))
 |false=>
  simp only[a2H,a3S,a1d]at h;obtain⟨rfl,rfl⟩:=h;have hc:s.get (.l s.loc.length)=none:=by simp[St.get]
  have:=OB hV ty hnl hc hlen JF hn;refine⟨dL M (.l s.loc.length) (.cells [⟨w.heap.size,0,cs.length,xs.size⟩]),⟨?_,?_,?_,rX hnl⟩⟩
  .rw[SH];exact this.1
  .rw[SH];exact this.2
  .exact ER.loc (p:=⟨w.heap.size,0,cs.length,xs.size⟩) (by simp[dL]) rfl
theorem a1o{x c}(h:TV.ofC x=some c):iR c=true:=by unfold TV.ofC at h;split at h<;>simp at h<;>subst h<;>rfl
theorem Xf:∀{xs} {cs},TV.Dl xs=some cs->∀c∈cs,iR c=true
 | [],cs,h=>by simp[TV.Dl]at h;subst h;simp
 |x::xs,cs,h=>by
  simp only[TV.Dl]at h;split at h
  .rename_i v vs h1 h2;simp at h;subst h;intro c hc;rcases a1B.1 hc with rfl|hc
   .exact a1o h1
   exact Xf h2 c hc
  simp at h
theorem a3D{x v}(h:TV.X4 x=some v):∀c∈v.cells,iR c=true:=by
 unfold TV.X4 at h;split at h
 .simp only[a0x]at h;obtain⟨vs,h1,rfl⟩:=h;exact Xf h1
 have h1:=a1o h;cases v<;>simp[iR]at h1<;>simp[TV.cells,iR]
theorem xq{t z}(h:LJ P t=some z):∃i x v,P.info? t=some i/\i.zero=some x/\TV.X4 x=some v/\z=v.cells/\(∀c∈z,iR c=true) /\(∀N,bZ N z x.cells.toList)/\∀w,(zeroValue t).run P w=.ok x w:=by
 unfold LJ at h;split at h
 .rename_i i hi;split at h
  .rename_i x hx;simp only[a0x]at h;obtain⟨v,h1,rfl⟩:=h;exact⟨i,x,v,hi,hx,h1,rfl,a3D h1,fun N=>(VR.zn h1).cells,fun w=>by simp[zeroValue,jr hi,hx]⟩
  .simp at h
 .simp at h
theorem ZL(vs:List LI3):∀(k off) (arr),off+k+vs.length<=arr.size ->((vs.zipIdx k).foldl (fun(cs:Array LI3) (c:LI3×Nat)=>cs.setIfInBounds (off+c.2) c.1) arr).toList=arr.toList.take (off+k)++vs++arr.toList.drop (off+k+vs.length):=by
 induction vs with
 |nil=>intro k off arr h;simp
 |cons v vs ih=>
  intro k off arr h;simp only[a4p]at h;simp only[List.zipIdx_cons,adE];rw[ih (k+1) off _ (by simp;omega)];have e:=list_seg_step arr.toList (off+k) v vs (by simp;omega);simpa[Array.toList_setIfInBounds,aad]using e
theorem Nw{N place place'}(hp:∀i x,place i=some x->place' i=some x):∀{ps} {qs:List (Nat×LI3)} {cs r:List TV} {arr:Array LI3},ug place cs ps=some r->PR N ps qs ->bZ N cs arr.toList->∃uz,Instr.fill place' arr qs=some uz/\bZ N r uz.toList
 | [],qs,cs,r,arr,h,hq,hc=>by have:=hq.oV;subst this;simp[ug]at h;subst h;exact⟨arr,rfl,hc⟩
 |(i,v)::ps,qs,cs,r,arr,h,hq,hc=>by
  obtain⟨x,qs',rfl,hx,hq'⟩:=hq.iE;simp only[ug]at h;split at h
  .rename_i off size zq;split at h
   .rename_i qV;split at h
    .rename_i cs' ho;obtain⟨o1,o2,o3⟩:=wS ho;have hxc:=hx.cells;have hl1:=hxc.len;have SI:=hc.len;simp only[a8Z]at hl1 SI;have e:(x.cells.zipIdx.foldl (fun(cs:Array LI3) (c:LI3×Nat)=>cs.setIfInBounds (off+c.2) c.1) arr).toList=arr.toList.take off++x.cells.toList++arr.toList.drop (off+x.cells.toList.length):=by rw[<-Array.foldl_toList,Array.toList_zipIdx];have:=ZL x.cells.toList 0 off arr (by simp;omega);simpa using this
     have RG:bZ N cs' (x.cells.zipIdx.foldl (fun(cs:Array LI3) (c:LI3×Nat)=>cs.setIfInBounds (off+c.2) c.1) arr).toList:=by have hlx:x.cells.toList.length=v.cells.length:=(by simp[hl1]);rw[e,o2,hlx];exact((hc.take off).append hxc).append (hc.drop _)
     obtain⟨uz,g1,g2⟩:=Nw hp h hq' RG;refine⟨uz,?_,g2⟩;simp only[Instr.fill,hp i _ zq];rw[a0S (by simp;omega)];exact g1
    .simp at h
   .simp at h
  .simp at h
theorem OC{w}:∀(fs),Dn P fs=true->(fs.mapM (fun f=>Functor.map (Prod.mk f.offset) (Go.sizeOf f.type):Field->Sem (Nat×Nat))).run P w=.ok (fs.map fun f=>(f.offset,(dG P f.type).getD 0)) w
 | [],_=>by simp
 |f::fs,h=>by simp only[Dn,ac9,a2o]at h;obtain⟨n,hn⟩:=a5X.1 h.1;have ih:=OC (w:=w) fs (by simpa[Dn]using h.2);simp only[List.mapM_cons,Sem.run_bind,Sem.run_map,dn hn,Result.andThen_ok,Sem.run_pure,ih,a4N,hn,a5K]
theorem a5Y{N t ps qs v}(h:Om P t ps=some v)(hq:PR N ps qs) :∃x,VR N v x/\∀w,(Instr.build t qs.toArray).run P w=.ok x w:=by
 unfold Om at h;split at h
 .rename_i z fs hz hu;split at h
  .rename_i ha;simp only[a0x]at h;obtain⟨r,hr,rfl⟩:=h;obtain⟨i,x,v,_,_,_,_,_,hvr,hzr⟩:=xq hz;obtain⟨uz,g1,g2⟩:=Nw (place':=fun i=>(fs.map fun f=>(f.offset,(dG P f.type).getD 0))[i]?) (fun i x hx=>by
    unfold UM at hx;split at hx
    .rename_i f hf;simp only[a0x]at hx;obtain⟨n,hn,rfl⟩:=hx;simp[hf,hn]
    .simp at hx) hr hq (hvr N)
   refine⟨_,.agg' g2,fun w=>?_⟩;have hm:(fs.mapM (fun f=>Functor.map (Prod.mk f.offset) (Go.sizeOf f.type):Field->Sem (Nat×Nat))).run P w=.ok (fs.map fun f=>(f.offset,(dG P f.type).getD 0)) w:=by rw[Array.mapM_eq_mapM_toList,Sem.run_map,OC fs.toList ha];simp only[Result.andThen_ok];congr 1;apply aeO;simp
   simp only[Array.getElem?_map]at g1;simp[Instr.build,hzr w,run_underlying hu,hm,g1]
  .simp at h
 .rename_i z n e hz hu;split at h
  .rename_i n hn;simp only[a0x]at h;obtain⟨r,hr,rfl⟩:=h;obtain⟨i,x,v,_,_,_,_,_,hvr,hzr⟩:=xq hz;obtain⟨uz,g1,g2⟩:=Nw (place':=fun i=>some (i*n,n)) (fun i x hx=>hx) hr hq (hvr N);exact⟨_,.agg' g2,fun w=>by simp[Instr.build,hzr w,run_underlying hu,dn hn,g1]⟩
  .simp at h
 .simp at h
theorem Xg{t cs off v}(h:vk P t cs off=some v):∃n,dG P t=some n/\off+n<=cs.length:=by
 unfold vk at h;split at h
 .rename_i n _ hn;simp only[a0x]at h;obtain⟨r,hr,_⟩:=h;exact⟨n,hn,(oz hr).1⟩
 .rename_i n _ hn;split at h
  .rename_i h1;subst h1;exact⟨1,hn,(a0u.1 h).1⟩
  simp at h
 simp at h
theorem a1q{N t cs off v xs}(h:vk P t cs off=some v)(hx:bZ N cs xs) :∃x,VR N v x/\(Go.part t xs.toArray off).run P w=.ok x w:=by
 unfold vk at h;split at h
 .rename_i n ha hn;simp only[a0x]at h;obtain⟨r,hr,rfl⟩:=h;obtain⟨s1,s2,s3⟩:=oz hr;have hl:=hx.len;refine⟨.agg ((xs.drop off).take n).toArray,.agg' (by rw[s2];exact(hx.drop off).take n),?_⟩;simp[Go.part,Ba ha,dn hn]
 .rename_i n ha hn;split at h
  .obtain⟨x,h1,h2⟩:=hx.get h;exact⟨x,h2,by simp[Go.part,Ba ha,h1]⟩
  .simp at h
 .simp at h
theorem Ia{t e v i x}(hV:Valid M D s.get w)(h:loadT P t s e=some (v,i))(hx:ER M e x)(hD:∀k∈i.ts,D k) :i.ws=[]/\∃y,VR M.h v y/\(Instr.loadAt t x).run P w=.ok y w:=by
 unfold loadT at h;split at h
 .rename_i k off;split at h
  .rename_i cs hk;simp only[a0x,a1d]at h;obtain⟨v',hv,rfl,rfl⟩:=h;cases hx with
   |loc hm hb=>
    rename_i p;have hg:s.get (.l k)=some (.cells .own cs):=(by simp[St.get,hk]);have hd:=hD (.l k) (by simp[yx]);obtain⟨b,h1,h2⟩:=hV.ok _ _ hm hd;rw[hg]at h1;cases h1;obtain⟨_,h3,h4,_⟩:=h2;obtain⟨q,hq,he⟩:=h4 rfl;simp at hq;subst hq;obtain⟨n,hn,hle⟩:=Xg hv;obtain⟨y,g1,g2⟩:=LP (P:=P) (h3 p (by simp)) hn hv (by omega) (fun e=>by cases e);rw[hb,a3C]at g2;exact⟨rfl,y,g1,by simp[Instr.loadAt,Instr.sureAddr,g2]⟩
  .simp at h
 .rename_i b off lim;split at h
  .rename_i cs n hb hn;split at h
   .rename_i N9;simp only[a0x,a1d]at h;obtain⟨v',hv,rfl,rfl⟩:=h;cases hx with
    |val hx=>
     cases hx with
     |ptr hm hp hl ht=>
      rename_i ls p;obtain⟨k,hk,Xh⟩:=yJ hb;have hd:=hD (.h b) (by simp[yx]);obtain⟨gW,h1,h2⟩:=hV.ok _ _ hm hd;simp only[St.get,hk,a08]at h1;subst h1;obtain⟨_,h3,_⟩:=h2;obtain⟨y,g1,g2⟩:=LP (P:=P) (h3 p hp) hn hv (by omega) (fun e=>by have:=Xh e;have:=(h3 p hp).ext;omega);exact⟨rfl,y,g1,by simp[Instr.loadAt,Instr.sureAddr,g2]⟩
   .simp at h
  .simp at h
 .simp at h
theorem Ny{l:List TV}(h:l.all iR=true):∀c∈l,iR c=true:=by simpa using h
theorem ZM{t e v i x y s1}(hV:Valid M D s.get w)(h:storeT P t s e v=some (s1,i))(hx:ER M e x)(hy:VR M.h v y)(hD:∀k∈i.ts,D k) :s1.env=s.env/\∃w',(Instr.storeAt t x y).run P w=.ok () w'/\Valid M D s1.get w'/\Ext M s.get w M s1.get w' i.ws/\∀k,s.get k=none->s1.get k=none:=by
 unfold storeT at h;split at h
 case h_2=>simp at h
 rename_i n hn;split at h
 case isFalse=>simp at h
 rename_i hc;obtain⟨hlen,vW⟩:=hc;have hyc:=hy.cells;have hyl:y.cells.size=n:=by have:=hyc.len;simp at this;omega
 split at h
 .rename_i k off;split at h
  .rename_i cs hk;simp only[a0x,a1d]at h;obtain⟨cs',ho,rfl,rfl⟩:=h;cases hx with
   |loc hm hb=>
    rename_i p;have hg:s.get (.l k)=some (.cells .own cs):=(by simp[St.get,hk]);obtain⟨w',r1,r2,r3⟩:=zJ (P:=P) hV hm (hD _ (by simp[qm])) hg (a2m.2 rfl) (.inl ⟨rfl,rfl⟩) ho hyc (Ny vW);have LV:=(a0u.1 hk).1;refine⟨rfl,w',?_,?_,?_,?_⟩
    .rw[hb,a3C]at r1;simp[Instr.storeAt,Instr.sureAddr,storeVar,dn hn,hyl,r1]
    .rw[OA s k cs' LV];exact r2
    .rw[OA s k cs' LV];exact r3
    .rw[OA s k cs' LV];exact EJ (by simp[hg])
  .simp at h
 .rename_i b off lim;split at h
  .rename_i N9;simp only[a0x,a1d]at h;obtain⟨h',hs,rfl,rfl⟩:=h;cases hx with
   |val hx=>
    cases hx with
    |ptr hm hp hl ht=>
     rename_i ls p;obtain⟨kk,CG,cs,cs',hb,yK,ho,rfl⟩:=JO hs;have hg:s.get (.h b)=some (.cells kk cs):=(by simp[St.get,hb]);obtain⟨w',r1,r2,r3⟩:=zJ (P:=P) hV hm (hD _ (by simp[qm])) hg hp (hV.ZI hm (hD _ (by simp[qm])) hg hp hl yK) ho hyc (Ny vW);have LV:=(a0u.1 hb).1;refine⟨rfl,w',?_,?_,?_,?_⟩
     .simp[Instr.storeAt,Instr.sureAddr,storeVar,dn hn,hyl,r1]
     .rw[jw s b _ LV];exact r2
     .rw[jw s b _ LV];exact r3
     .rw[jw s b _ LV];exact EJ (by simp[hg])
  .simp at h
 .simp at h
theorem Ib{n v j N x}(h:idx n v=some j)(hx:VR N v x):∃k i,x=.int k i/\0<=i/\i<n/\j=i.toNat/\j<n:=by
 unfold idx at h;split at h
 .rename_i k i;split at h
  .rename_i hc;simp at h;subst h;cases hx;exact⟨k,i,rfl,hc.1,hc.2,rfl,by omega⟩
  simp at h
 simp at h
theorem OD{o e e' x}(h:Ry o e=some e')(hx:ER M e x):∃a,x=.pointer (some a)/\ER M e' (.pointer (some (a.add o))):=by
 unfold Ry at h;split at h
 .simp at h;subst h;cases hx with
  |loc hm hb=>exact⟨_,rfl,by rw[vG];exact .loc hm hb⟩
 .rename_i b off lim;split at h
  .rename_i hl;simp at h;subst h;cases hx with
   |val hx=>
    cases hx with
    |ptr hm hp hl ht=>exact⟨_,rfl,by rw[vG,aad];exact .val (.ptr hm hp hl ht)⟩
  simp at h
 simp at h
theorem UY{t f n e e' x}(h1:I4 P t f=some n)(h:Ry n e=some e')(hx:ER M e x) :∃y,ER M e' y/\(Instr.fieldAt t x f).run P w=.ok y w:=by
 obtain⟨a,rfl,he⟩:=OD h hx;unfold I4 at h1;split at h1
 .rename_i fs hu;split at h1
  .rename_i fd hf;split at h1
   .rename_i m hm;split at h1
    .simp at h1
    .rename_i hz;simp at h1;subst h1;refine⟨_,he,?_⟩;simp[Instr.fieldAt,run_underlying hu,hf,Instr.sureAddr,fieldPlace,dn hm,hz]
   .simp at h1
  .simp at h1
 .simp at h1
theorem OE{N t f v v' x}(h:Oo P t v f=some v')(hx:VR N v x) :∃y,VR N v' y/\(Instr.field t x f).run P w=.ok y w:=by
 unfold Oo at h;split at h
 .rename_i fs cs hu;split at h
  .rename_i fd hf;cases hx with
   |agg g1 g2=>
    obtain⟨y,r1,r2⟩:=a1q (P:=P) (w:=w) h ⟨g1,g2⟩;exact⟨y,r1,by simp[Instr.field,run_underlying hu,hf,asAgg,r2]⟩
  .simp at h
 .simp at h
theorem Bc{t e e' v x y}(h:ny P t e v=some e')(hx:ER M e x)(hy:VR M.h v y) :∃z,ER M e' z/\(Instr.indexAt t x y).run P w=.ok z w:=by
 unfold ny at h;split at h
 .rename_i el hu;split at h
  .rename_i n b off len cap sz ex hn;split at h
   .rename_i qV;simp only[a0x]at h;obtain⟨j,hj,rfl⟩:=h;subst qV;obtain⟨k,i,rfl,h0,h1,rfl,h2⟩:=Ib hj hy;cases hx with
    |val hx=>
     cases hx with
     |aP hb hp hl hle hc hex ha hk=>
      rename_i ls p a cap';rcases ha with ha|⟨rfl,ha⟩
      .omega
      .have hmul:i.toNat*n+n<=len*n:=by
        have:=a3I n (show i.toNat+1<=len by omega)
        rwa [a3H,aaw]at this
       have ad9:cap*n<=cap'*n:=a3I n (by omega);have hp:=hp.resolve_left (by omega);refine⟨_,.val (.ptr hb hp (lim:=off+cap*n) (off:=off+i.toNat*n) (by omega) (by omega)),?_⟩;simp[Instr.indexAt,asIntOf,run_underlying hu,h0,h1,dn hn,vG,aad]
   .simp at h
  .simp at h
 .rename_i len el hu;split at h
  .rename_i n hn;split at h
   .rename_i j hj;obtain⟨k,i,rfl,h0,h1,rfl,h2⟩:=Ib hj hy;obtain⟨a,rfl,he⟩:=OD h hx;refine⟨_,he,?_⟩;simp[Instr.indexAt,asIntOf,run_underlying hu,Instr.sureAddr,h0,h1,dn hn]
   .simp at h
  .simp at h
 .simp at h
theorem OG{N t v u r x y}(h:JI P t v u=some r)(hx:VR N v x)(hy:VR N u y) :∃z,VR N r z/\(Instr.index t x y).run P w=.ok z w:=by
 unfold JI at h;split at h
 .rename_i len el cs hu;split at h
  .rename_i n j hn hj;obtain⟨k,i,rfl,h0,h1,rfl,h2⟩:=Ib hj hy;cases hx with
   |agg g1 g2=>
    obtain⟨z,r1,r2⟩:=a1q (P:=P) (w:=w) h ⟨g1,g2⟩;exact⟨z,r1,by simp[Instr.index,asIntOf,run_underlying hu,h0,h1,dn hn,r2]⟩
  .simp at h
 .rename_i bs hu;split at h
  .rename_i j hj;obtain⟨k,i,rfl,h0,h1,rfl,h2⟩:=Ib hj hy;simp only[a0x]at h;obtain⟨b,hb,rfl⟩:=h;cases hx;exact⟨_,.int _ _,by simp[Instr.index,asIntOf,run_underlying hu,h0,hb]⟩
  .simp at h
 .simp at h
theorem a1r{N}:∀{az} {xs ys},CX az=some xs->bZ N az ys->ys=xs
 | [],xs,ys,h,hy=>by simp[CX]at h;subst h;exact hy.oV
 |c::az,xs,ys,h,hy=>by
  simp only[CX]at h;split at h
  .rename_i v vs h1 h2;simp at h;subst h;obtain⟨u,us,rfl,hu,hus⟩:=hy.iE;rw[xg h1 hu,a1r h2 hus]
  simp at h
def Ic:NK->LI3->Prop
 |.ptr,x=>x=.pointer none
 |.aP,x=>x=.slice none 0 0
 |.map,x=>x=.map none
 |.fn,x=>x=.nilFunc
 |.ifc,x=>x=.nilIface
def zu:NK->LI3->Prop
 |.ptr,x=>∃a,x=.pointer (some a)
 |.aP,x=>∃a l c,x=.slice (some a) l c
 |.map,x=>∃r,x=.map (some r)
 |.fn,x=>∃f a c,x=.func f a c
 |.ifc,_=>False
theorem a1s{N v k x}(h:ZF v=some k)(hx:VR N v x):Ic k x:=by cases hx<;>simp[ZF]at h<;>subst h<;>rfl
theorem Xi{N v k x}(h:LK v=some k)(hx:VR N v x):zu k x:=by cases hx<;>simp[LK]at h<;>subst h<;>simp[zu]
theorem a6a{t:LI2}{k:NK}(h:LM P t=some k):match k with
  |.ptr=>∃e,P.underlying t=some (.pointer e)
  |.aP=>∃e,P.underlying t=some (.slice e)
  |.map=>∃e f,P.underlying t=some (.map e f)
  |.fn=>∃e f g,P.underlying t=some (.func e f g)
  |.ifc=>False:=by
 unfold LM at h;split at h<;>simp at h<;>subst h<;>simp_all
theorem a3F{t k x y}(h:LM P t=some k)(hxy:(Ic k x/\zu k y)\/(zu k x/\Ic k y))(d) :(Op.equalIn (d+1) t x y).run P w=.ok false w:=by
 have hk:=a6a h;cases k with
 |ptr=>
  obtain⟨e,hu⟩:=hk;rcases hxy with⟨hx,a,rfl⟩|⟨⟨a,rfl⟩,hy⟩
  .cases hx;simp[Op.equalIn,run_underlying hu]
  .cases hy;simp[Op.equalIn,run_underlying hu]
 |aP=>
  obtain⟨e,hu⟩:=hk;rcases hxy with⟨hx,a,l,c,rfl⟩|⟨⟨a,l,c,rfl⟩,hy⟩
  .cases hx;simp[Op.equalIn,run_underlying hu]
  .cases hy;simp[Op.equalIn,run_underlying hu]
 |map=>
  obtain⟨e,f,hu⟩:=hk;rcases hxy with⟨hx,a,rfl⟩|⟨⟨a,rfl⟩,hy⟩
  .cases hx;simp[Op.equalIn,run_underlying hu]
  .cases hy;simp[Op.equalIn,run_underlying hu]
 |fn=>
  obtain⟨e,f,g,hu⟩:=hk;rcases hxy with⟨hx,a,b,c,rfl⟩|⟨⟨a,b,c,rfl⟩,hy⟩
  .cases hx;simp[Op.equalIn,run_underlying hu]
  .cases hy;simp[Op.equalIn,run_underlying hu]
 |ifc=>exact hk.elim
theorem a1t{t k ox oy x y}(h:LM P t=some k)(hxy:(Ic k x/\zu k y)\/(zu k x/\Ic k y))(b op)(hb:(op=.eql/\b=false)\/(op=.neq/\b=true)) :
  (do eqGuard op t ox oy x y;binOp op t x y:Sem LI3).run P w=.ok (.bool b) w:=by
 have he:(Op.equal t x y).run P w=.ok false w:=a3F h hxy 9999;have hg:(eqGuard op t ox oy x y).run P w=.ok () w:=by
  cases k<;>rcases hxy with⟨hx,hy⟩|⟨hx,hy⟩<;>simp only[Ic,zu]at hx hy <;>
   (first|(exact hy.elim)|(exact hx.elim)|skip)<;>(try obtain⟨_,rfl⟩:=hx)<;>(try obtain⟨_,rfl⟩:=hy)<;>(try obtain⟨_,_,rfl⟩:=hx)<;>(try obtain⟨_,_,rfl⟩:=hy)<;>(try subst hx)<;>(try subst hy) <;>
   (try obtain⟨_,_,_,rfl⟩:=hx)<;>(try obtain⟨_,_,_,rfl⟩:=hy)<;>rcases hb with⟨rfl,rfl⟩|⟨rfl,rfl⟩<;>simp[eqGuard]
 have RH:(binOp op t x y).run P w=.ok (.bool b) w:=by
  cases k<;>rcases hxy with⟨hx,hy⟩|⟨hx,hy⟩<;>simp only[Ic,zu]at hx hy <;>
   (first|(exact hy.elim)|(exact hx.elim)|skip)<;>(try obtain⟨_,rfl⟩:=hx)<;>(try obtain⟨_,rfl⟩:=hy)<;>(try obtain⟨_,_,rfl⟩:=hx)<;>(try obtain⟨_,_,rfl⟩:=hy)<;>(try subst hx)<;>(try subst hy) <;>
   (try obtain⟨_,_,_,rfl⟩:=hx)<;>(try obtain⟨_,_,_,rfl⟩:=hy)<;>rcases hb with⟨rfl,rfl⟩|⟨rfl,rfl⟩<;>simp only[binOp,Sem.run_bind,he,Result.andThen_ok,Sem.run_pure,abD]
 simp only[Sem.run_bind,hg,Result.andThen_ok,RH]
theorem ZN{N op t ox oy a b r x y}(h:uj P op t ox oy a b=some r)(hx:VR N a x)(hy:VR N b y) :
  ∃z,VR N r z/\(do eqGuard op t ox oy x y;binOp op t x y:Sem LI3).run P w=.ok z w:=by
 unfold uj at h;split at h
 .rename_i u v hu hv;split at h
  .rename_i z hz;have e1:=xg hu hx;have e2:=xg hv hy;subst e1;subst e2;exact⟨z,.zn h,jA hz w⟩
  .simp at h
 .split at h
  .rename_i hn;unfold Dq at hn;split at hn
   case h_2=>simp at hn
   rename_i k hk;have hxy:(Ic k x/\zu k y)\/(zu k x/\Ic k y):=by
    simp only[aa4,a2o,a7l]at hn;rcases hn with⟨h1,h2⟩|⟨h1,h2⟩
    .exact .inl ⟨a1s h1 hx,Xi h2 hy⟩
    .exact .inr ⟨Xi h1 hx,a1s h2 hy⟩
   split at h
   .simp at h;subst h;exact⟨_,.bool false,a1t hk hxy false _ (.inl ⟨rfl,rfl⟩)⟩
   .simp at h;subst h;exact⟨_,.bool true,a1t hk hxy true _ (.inr ⟨rfl,rfl⟩)⟩
   .simp at h
  .simp at h
theorem jq{N op a r x}(h:unT P op a=some r)(hx:VR N a x):∃z,VR N r z/\(Op.unary op x).run P w=.ok z w:=by
 unfold unT at h;split at h
 .rename_i u hu;split at h
  .rename_i z hz;have e1:=xg hu hx;subst e1;exact⟨z,.zn h,jA hz w⟩
  simp at h
 simp at h
theorem UZ{N t u a r x}(h:SB P t u a=some r)(hx:VR N a x):∃z,VR N r z/\(convert t u x).run P w=.ok z w:=by
 unfold SB at h;split at h
 .rename_i u hu;split at h
  .rename_i z hz;have e1:=xg hu hx;subst e1;exact⟨z,.zn h,jA hz w⟩
  simp at h
 simp at h
theorem zL{N mx at_ t az r xs}(h:EF P mx at_ t az=some r)(hx:bZ N az xs) :∃z,VR N r z/\(if mx then Builtin.max_ at_ t xs.toArray else Builtin.min_ at_ t xs.toArray).run P w=.ok z w:=by
 unfold EF at h;split at h
 .rename_i us hu;split at h
  .rename_i z hz;have e1:=a1r hu hx;subst e1;exact⟨z,.zn h,jA hz w⟩
  .simp at h
 .simp at h
theorem lZ{n j v}(h:rQ n v=some j):j<=n:=by
 unfold rQ at h;split at h
 .split at h
  .simp at h;omega
  simp at h
 simp at h
theorem uD{N n j m v x code}(h:rQ n v=some j)(hx:VR N v x)(hm:j<=m) :(Instr.sliceBound x m code).run P w=.ok j w:=by
 unfold rQ at h;split at h
 .rename_i k i;split at h
  .rename_i hc;simp at h;subst h;cases hx;have:i<=(m:Int):=(by omega);simp[Instr.sliceBound,asIntOf,hc.1,this]
  .simp at h
 .simp at h
inductive OR(N:Np):Option TV->Option LI3->Prop
 |none:OR N none none
 |some {v:TV} {x:LI3} (h:VR N v x):OR N (some v) (some x)
theorem yL{N is len cap' n l0 hg lo hi ZO wC}(hl:OR N lo ZO)(hh:OR N hi wC)(h1:jS n len hi=some hg) (h2:jS hg 0 lo=some l0) (h3:hg<=cap'):(Instr.sliceBounds is len cap' ZO wC none).run P w=.ok (l0,hg,cap') w:=by
 cases hh with
 |none=>
  simp only[jS,a08]at h1;subst h1;cases hl with
  |none=>simp only[jS,a08]at h2;subst h2;simp[Instr.sliceBounds]
  |some hv=>simp only[jS]at h2;simp[Instr.sliceBounds,uD (P:=P) (w:=w) h2 hv (lZ h2)]
 |some hv'=>
  simp only[jS]at h1;cases hl with
  |none=>simp only[jS,a08]at h2;subst h2;simp[Instr.sliceBounds,uD (P:=P) (w:=w) h1 hv' h3]
  |some hv=>simp only[jS]at h2;simp[Instr.sliceBounds,uD (P:=P) (w:=w) h1 hv' h3,uD (P:=P) (w:=w) h2 hv (lZ h2)]
theorem Gu{N is len cap' n k l0 hg m lo hi mx ZO wC mx'}(hl:OR N lo ZO)(hh:VR N hi wC)(hm:VR N mx mx')(h0:rQ k mx=some m) (h1:rQ n hi=some hg) (h2:jS hg 0 lo=some l0) (h3:hg<=m) (h4:m<=cap'):(Instr.sliceBounds is len cap' ZO (some wC) (some mx')).run P w=.ok (l0,hg,m) w:=by
 have r1:=fun code=>uD (P:=P) (w:=w) (code:=code) h0 hm h4;have r2:=fun code=>uD (P:=P) (w:=w) (code:=code) h1 hh h3;cases hl with
 |none=>simp only[jS,a08]at h2;subst h2;simp[Instr.sliceBounds,r1,r2]
 |some hv=>simp only[jS]at h2;simp[Instr.sliceBounds,r1,r2,uD (P:=P) (w:=w) h2 hv (lZ h2)]
theorem OH{N t v r lo hi mx x ZO wC mx'}(h:rU P t v lo hi mx=some r)(hx:VR N v x)(hl:OR N lo ZO) (hh:OR N hi wC) (hm:OR N mx mx'):∃z,VR N r z/\(Instr.sliceAt t x ZO wC mx').run P w=.ok z w:=by
 unfold rU at h;split at h
 .
  rename_i bs hu;split at h
  .simp at h
  .cases hm;split at h
   .rename_i h0 gQ;split at h
    .rename_i l0 qW;simp at h;subst h;cases hx;refine⟨_,.str _,?_⟩;have hle:h0<=bs.size:=by
      cases hi with
      |none=>simp only[jS,a08]at gQ;omega
      |some v=>simp only[jS]at gQ;exact lZ gQ
     have e1:=yL (P:=P) (w:=w) (is:=false) (cap':=bs.size) hl hh gQ qW hle;simp[Instr.sliceAt,Instr.slice,run_underlying hu,e1]
    .simp at h
   .simp at h
 .
  rename_i e b off len cap sz ex hu;split at h
  .rename_i n hn;split at h
   case isFalse=>simp at h
   rename_i qV;subst qV;cases hx with
   |aP hb hp yB hle tZ hex ha hk=>
    rename_i ls p a cap';have fin:∀(l hgh m:Nat) (ex':Bool),l<=hgh->hgh<=len->hgh<=m->m<=cap'->(m':Nat)->m'<=m->m'<=cap->hgh<=m'->(ex'=true->m=m') ->
      VR N (.aP b (off+l*n) (hgh-l) (m'-l) n ex') (.slice (if m=l then some a else(some a).map (·.add (l*n))) (hgh-l) (m-l)):=by
     intro l hgh m ex' h1 h2 h3 h4 m' h5 h5' h6 h7;have hmul:l*n+(hgh-l)*n=hgh*n:=by rw[<-a3H];congr 1;omega
     have ad9:m'*n<=cap*n:=a3I n h5';have au7:l*n+(m'-l)*n=m'*n:=by rw[<-a3H];congr 1;omega
     have CJ:(if m=l then some a else(some a).map (·.add (l*n)))=some (if m=l then a else a.add (l*n)):=by split<;>rfl
     rw[CJ];refine .aP hb (hp.imp (fun e=>by omega) id) (by omega) (by omega) (by omega) (fun e=>by have:=h7 e;omega) ?_ (by omega);by_cases hml:m=l
     .left;omega
     .right;rcases ha with ha|⟨rfl,ha⟩
      .omega
      .rw[a0S hml,vG];have au8:l*n+(m-l)*n=m*n:=by rw[<-a3H];congr 1;omega
       have au9:m*n<=cap'*n:=a3I n h4;exact⟨by rw[aad],by omega⟩
    split at h
    .rename_i m0;cases hm with
     |some RI=>
      split at h
      .rename_i m h0 hm1;split at h
       .rename_i hg vX;split at h
        .rename_i l0 qW;simp at h;subst h;cases hh with
         |some hhv=>
          have b1:=lZ hm1;have b2:=lZ vX;have b3:l0<=hg:=by
           cases lo with
           |none=>simp only[jS,a08]at qW;omega
           |some v=>simp only[jS]at qW;exact lZ qW
          have e1:=Gu (P:=P) (w:=w) (is:=true) (len:=len) (cap':=cap') hl hhv RI hm1 vX qW (by omega) (by omega);exact⟨_,fin l0 hg m true b3 (by omega) (by omega) (by omega) m (by omega) (by omega) (by omega) (fun _=>rfl),by simp[Instr.sliceAt,Instr.slice,run_underlying hu,e1,dn hn]⟩
        .simp at h
       .simp at h
      .simp at h
    .cases hm;split at h
     .rename_i hg gQ;split at h
      .rename_i l0 qW;simp at h;subst h;have hgl:hg<=len:=by
        cases hi with
        |none=>simp only[jS,a08]at gQ;omega
        |some v=>simp only[jS]at gQ;exact lZ gQ
       have hlg:l0<=hg:=by
        cases lo with
        |none=>simp only[jS,a08]at qW;omega
        |some v=>simp only[jS]at qW;exact lZ qW
       refine⟨_,fin l0 hg cap' ex hlg hgl (by omega) (by omega) cap tZ (by omega) (by omega) hex,?_⟩;have e1:=yL (P:=P) (w:=w) (is:=true) (cap':=cap') hl hh gQ qW (by omega);simp[Instr.sliceAt,Instr.slice,run_underlying hu,e1,dn hn]
      .simp at h
     .simp at h
  .simp at h
 .
  rename_i e hu;split at h
  .rename_i x0 x1 x2 x3 hn SK gQ qW;split at h
   .simp at h
   .rename_i hg;simp at h;subst h;cases hx;refine⟨_,.UR,?_⟩;have z1:∀{o:Option TV} {k:Nat},jS 0 0 o=some k->k=0:=fun{o k} e=>by
     cases o with
     |none=>simp only[jS,a08]at e;omega
     |some v=>simp only[jS]at e;have:=lZ e;omega
    have e2:=z1 gQ;subst e2;have e3:=z1 qW;subst e3;have e1:(Instr.sliceBounds true 0 0 ZO wC mx').run P w=.ok (0,0,0) w:=by
     cases hm with
     |none=>exact yL hl hh gQ qW (by omega)
     |some RI=>
      have e4:=z1 SK;subst e4;cases hh with
      |none=>simp at hg
      |some hhv=>exact Gu hl hhv RI SK gQ qW (by omega) (by omega)
    simp[Instr.sliceAt,Instr.slice,run_underlying hu,e1,dn hn]
  .simp at h
 .simp at h
theorem Dz{t e r lo hi mx x ZO wC mx'}(h:qQ P t e lo hi mx=some r)(hx:ER M e x)(hl:OR M.h lo ZO) (hh:OR M.h hi wC) (hm:OR M.h mx mx'):∃z,VR M.h r z/\(Instr.sliceAt t x ZO wC mx').run P w=.ok z w:=by
 unfold qQ at h;split at h
 .rename_i n el b off lim hu;split at h
  .rename_i size hn;split at h
   .simp at h
   .rename_i hc;cases hx with
    |val hx=>
    cases hx with
    |ptr hb hp yB apC=>
    rename_i ls p;split at h
    .rename_i m SK;split at h
     .rename_i hg gQ;split at h
      .rename_i l0 qW;split at h
       .simp at h
       .rename_i hs;simp at h;subst h;have hmn:m<=n:=by
         cases mx with
         |none=>simp only[jS,a08]at SK;omega
         |some v=>simp only[jS]at SK;exact lZ SK
        have hgm:hg<=m:=by
         cases hi with
         |none=>
          cases mx with
          |some v=>simp at hs
          |none=>simp only[jS,a08]at gQ SK;omega
         |some v=>simp only[jS]at gQ;exact lZ gQ
        have hlg:l0<=hg:=by
         cases lo with
         |none=>simp only[jS,a08]at qW;omega
         |some v=>simp only[jS]at qW;exact lZ qW
        have e1:(Instr.sliceBounds false n n ZO wC mx').run P w=.ok (l0,hg,m) w:=by
         cases hm with
         |none=>
          simp only[jS,a08]at SK;subst SK;exact yL hl hh gQ qW (by omega)
         |some RI=>
          cases hh with
          |none=>simp at hs
          |some hhv=>
           simp only[jS]at SK gQ;exact Gu hl hhv RI SK gQ qW (by omega) hmn
        have m1:l0*size+(hg-l0)*size=hg*size:=by rw[<-a3H];congr 1;omega
        have m2:l0*size+(m-l0)*size=m*size:=by rw[<-a3H];congr 1;omega
        have m3:hg*size<=n*size:=a3I size (by omega);have m4:m*size<=n*size:=a3I size (by omega);refine⟨.slice (some (if m=l0 then(⟨p.c,p.base+off,none⟩:Addr)else(⟨p.c,p.base+off,none⟩:Addr).add (l0*size))) (hg-l0) (m-l0),?_,?_⟩
        .refine .aP hb (.inr hp) (by omega) (by omega) (by omega) (fun _=>rfl) ?_ (by omega);by_cases hml:m=l0
         .left;omega
         .right;rw[a0S hml,vG];exact⟨by rw[aad],by omega⟩
        .simp[Instr.sliceAt,run_underlying hu,Instr.sureAddr,e1,dn hn]
      .simp at h
     .simp at h
    .simp at h
  .simp at h
 .simp at h
theorem oW(z):∀n,(times z n).length=n*z.length
 | 0=>by simp[times]
 |n+1=>by simp[times,oW z n,a3H,Nat.add_comm]
theorem SL(z)(hz:0<z.length):∀(n i),i<n*z.length->(times z n)[i]? = z[i%z.length]?
 | 0,i,h=>by simp at h
 |n+1,i,h=>by
  simp only[times];by_cases hi:i<z.length
  .rw[a0P hi,Nat.mod_eq_of_lt hi]
  rw[a1p (by omega),SL z hz n (i-z.length) (by rw[a3H]at h;omega)];congr 1;rw[Nat.mod_eq_sub_mod (a:=i) (by omega)]
theorem JQ{z}(h:∀c∈z,iR c=true):∀n,∀c∈times z n,iR c=true
 | 0=>by simp[times]
 |n+1=>by
  intro c hc;simp only[times,a3E]at hc;rcases hc with hc|hc
  .exact h c hc
  exact JQ h n c hc
theorem Xj{N z}{x:Array LI3}(h:bZ N z x.toList)(n m)(hm:m=n*z.length) :bZ N (times z n) ((Array.range m).map (x[·%x.size]!)).toList:=by
 have hl:=h.len;simp only[a8Z]at hl;refine⟨by simp[oW,hm],fun i c v a b=>?_⟩;have hi:i<n*z.length:=by have:=(a0u.1 a).1;rwa [oW]at this
 have hz:0<z.length:=by
  rcases abG z.length with e|e
  .rw[e]at hi;simp at hi
  .exact e
 rw[SL z hz n i hi]at a;have ajn:i%x.size<x.size:=Nat.mod_lt _ (by omega);have hb:v=x[i%x.size]:=by rw[aeI,Array.getElem?_map]at b;simp only[Array.getElem?_range]at b;rw[a15 (by omega)]at b;simp only[a1l,a08]at b;rw[<-b,getElem!_pos x _ ajn]
 rw[hl]at a;exact h.at_ (i%x.size) c v a (by simp[hb,ajn])
theorem rY{t e n}(h:jY P t=some (e,n)):P.underlying t=some (.slice e)/\dG P e=some n/\0<n:=by
 unfold jY at h;split at h
 .rename_i e' hu;split at h
  .rename_i n' hn;split at h
   .simp at h
   simp at h;obtain⟨rfl,rfl⟩:=h;exact⟨hu,hn,by omega⟩
  simp at h
 simp at h
theorem SN{place}:∀{ps} {cs r:List TV},ug place cs ps=some r->r.length=cs.length
 | [],cs,r,h=>by simp[ug]at h;rw[h]
 |(i,v)::ps,cs,r,h=>by
  simp only[ug]at h;split at h
  .split at h
   .split at h
    .rename_i cs' ho;rw[SN h,(wS ho).2.2]
    simp at h
   simp at h
  simp at h
theorem SQ{place}:∀{ps} {cs r:List TV},ug place cs ps=some r->(∀c∈cs,iR c=true) ->(∀p∈ps,∀c∈p.2.cells,iR c=true)->∀c∈r,iR c=true
 | [],cs,r,h,h1,_=>by simp[ug]at h;subst h;exact h1
 |(i,v)::ps,cs,r,h,h1,h2=>by
  simp only[ug]at h;split at h
  .split at h
   .split at h
    .rename_i cs' ho;exact SQ h (Xe ho h1 (h2 (i,v) (by simp))) (fun p hp=>h2 p (by simp[hp]))
    .simp at h
   .simp at h
  .simp at h
theorem uV{t len ps qs r s1}(hV:Valid M D s.get w)(zK:M (.h s.heap.length)=none)(h:qR P t len s ps=some (r,s1)) (hq:PR M.h ps qs) :s1.env=s.env/\∃x w' M',(Instr.buildSlice t len qs.toArray).run P w=.ok x w'/\Oz M D s.get w (.val r) s1.get [] x w' M':=by
 unfold qR at h;split at h
 case h_2=>simp at h
 rename_i e n zy;obtain⟨hu,hn,Xk⟩:=rY zy;split at h
 case isFalse=>simp at h
 rename_i hc;obtain⟨hc1,LW⟩:=hc;split at h
 case h_2=>simp at h
 rename_i z hz;split at h
 case isFalse=>simp at h
 rename_i Xl;split at h
 case h_2=>simp at h
 rename_i cs hf;simp at h;obtain⟨rfl,rfl⟩:=h;obtain⟨i,x,v,_,_,_,_,hz1,hvr,hzr⟩:=xq hz;have hx0:=(hvr M.h).len;simp only[a8Z]at hx0;have ht:=Xj (hvr M.h) len (len*n) (by rw[Xl]);obtain⟨uz,g1,g2⟩:=Nw (place':=fun i=>some (i*n,n)) (fun i x hx=>hx) hf hq ht;have vW:∀c∈cs,iR c=true:=SQ hf (JQ hz1 len) (fun p hp=>by have:=a5z.1 LW p hp;exact Ny this)
 have hlen:cs.length=uz.size:=by have:=g2.len;simpa using this
 have nR:cs.length=len*n:=by rw[SN hf,oW,Xl]
 have zA:s.get (.h s.heap.length)=none:=by simp[St.get]
 have JF:∀(i:Nat) (c:TV) (v:LI3),cs[i]? = some c->uz[i]? = some v->VR M.h c v:=fun i c v a b=>g2.at_ i c v a (by simpa using b);have gJ:=OB hV e zK zA (aha hlen) JF vW;refine⟨rfl,.slice (some ⟨w.heap.size,0,none⟩) len len,w.alloc (.cells uz e),dL M (.h s.heap.length) (.cells [⟨w.heap.size,0,cs.length,uz.size⟩]),?_,⟨?_,?_,?_,rX zK⟩⟩
 .have hle:¬(len*n>2^24):=by omega
  by_cases h0:len*n=0
  .have apE:cs=[]:=a4o (by omega);have g1':Instr.fill (fun i=>some (i*n,n)) ((Array.range (len*n)).map ((#[]:Array LI3)[·%(#[]:Array LI3).size]!)) qs=some uz:=by rw[h0]at g1 ⊢;have e0:Array.range 0=#[]:=rfl;rw[e0]at g1 ⊢;simpa using g1
   simp only[Instr.buildSlice,Sem.run_bind,run_underlying hu,Result.andThen_ok,dn hn];rw[a0S hle,a15 h0];simp only[Sem.run_pure,Sem.run_bind,Result.andThen_ok,g1',newRow,run_newObj,World.alloc]
  .simp only[Instr.buildSlice,Sem.run_bind,run_underlying hu,Result.andThen_ok,dn hn];rw[a0S hle,a0S h0];simp only[Sem.run_pure,Sem.run_bind,Result.andThen_ok,hzr w,g1,newRow,run_newObj,World.alloc]
 .rw[l9];exact gJ.1
 .rw[l9];exact gJ.2
 .have hlb:len<2^63:=by have:=Nat.le_mul_of_pos_right len (show 0<n by omega);omega
  refine .val (.aP (ls:=[⟨w.heap.size,0,cs.length,uz.size⟩]) (p:=⟨w.heap.size,0,cs.length,uz.size⟩) (by simp[Mp.h,dL]) (by simp) (by simp[nR]) (a1j _) (a1j _) (fun _=>rfl) (.inr ⟨by simp,by simp;omega⟩) hlb)
theorem a1x{i}(h0:0<=i)(h1:i<=2^40):i64.wrap i=i:=by have h2:i%(2^64:Int)=i:=a9u h0 (by omega);simp only[IntKind.wrap,IntKind.bits,IntKind.signed,h2];rw[a0S];simp only[ady,a1z,ge_iff_le];omega
theorem SS{N v n x}(h:a3x v=some n)(hx:VR N v x):∃k i,x=.int k i/\0<=i/\i<=2^40/\n=i.toNat:=by
 unfold a3x at h;split at h
 .split at h
  .rename_i k i hc;simp at h;subst h;cases hx;exact⟨k,i,rfl,hc.1,hc.2,rfl⟩
  simp at h
 simp at h
theorem Bd{e n}(h:uT P e n=true):∃i x,P.info? e=some i/\i.zero=some x/\x.cells.size=i.size/\n*i.bytes<=2^40/\n<=2^40/\i.bytes<=2^20/\0<i.bytes:=by
 unfold uT at h;split at h
 .rename_i i hi;simp only[a2o,a1z]at h;obtain⟨⟨⟨⟨h1,h2⟩,h3⟩,h4⟩,h5⟩:=h;unfold a5P at h5;split at h5
  .rename_i x hx;exact⟨i,x,hi,hx,by simpa using h5,h1,h2,h3,h4⟩
  simp at h5
 simp at h
theorem Bf{t a b r x y s1}(hV:Valid M D s.get w)(zK:M (.h s.heap.length)=none)(h:um P t s a b=some (r,s1)) (hx:VR M.h a x) (hy:VR M.h b y) :s1.env=s.env/\∃z w' M',(Instr.makeSlice t x y).run P w=.ok z w'/\Oz M D s.get w (.val r) s1.get [] z w' M':=by
 unfold um at h;split at h
 case h_2=>simp at h
 rename_i e n l c zy hl hc;obtain⟨hu,hn,Xk⟩:=rY zy;obtain⟨_,li,rfl,l0,l1,rfl⟩:=SS hl hx;obtain⟨_,ci,rfl,c0,c1,rfl⟩:=SS hc hy;split at h
 case isFalse=>simp at h
 rename_i FX;obtain⟨ZP,xu⟩:=FX;obtain⟨i,zx,hi,hzx,hzs,CZ,yM,hb3,hb4⟩:=Bd xu;split at h
 case h_2=>simp at h
 rename_i z hz;split at h
 case isFalse=>simp at h
 rename_i Xl;simp at h;obtain⟨rfl,rfl⟩:=h;obtain⟨i',x,v,wC,Gv,_,_,hz1,hvr,hzr⟩:=xq hz;rw[hi]at wC;cases wC;have ht:=Xj (hvr M.h) ci.toNat (ci.toNat*n) (by rw[Xl])
 let arr:Array LI3:=(Array.range (ci.toNat*n)).map (x.cells[·%x.cells.size]!)
 have hlen:(times z ci.toNat).length=arr.size:=by have:=ht.len;simpa[arr]using this
 have nR:(times z ci.toNat).length=ci.toNat*n:=by rw[oW,Xl]
 have zA:s.get (.h s.heap.length)=none:=by simp[St.get]
 have JF:∀(i:Nat) (c:TV) (v:LI3),(times z ci.toNat)[i]? = some c->arr[i]? = some v->VR M.h c v:=fun i c v a b=>ht.at_ i c v a (by rw[aeI];exact b);have gJ:=OB hV e zK zA (aha hlen) JF (JQ hz1 _);have hmul:(li.toNat)*n<=ci.toNat*n:=a3I n ZP;refine⟨rfl,.slice (some ⟨w.heap.size,0,none⟩) li.toNat ci.toNat,w.alloc (.cells arr e),dL M (.h s.heap.length) (.cells [⟨w.heap.size,0,(times z ci.toNat).length,arr.size⟩]),?_,⟨?_,?_,?_,rX zK⟩⟩
 .have hwl:=a1x l0 l1;have hwc:=a1x c0 c1;have FD:¬((i.bytes:Int)*ci>2^48):=by
   have e1:(ci.toNat*i.bytes:Nat)<=2^40:=CZ;have e2:((i.bytes:Int)*ci)=((ci.toNat*i.bytes:Nat):Int):=by rw[Nat.mul_comm,af8,aic c0]
   omega
  simp only[Instr.makeSlice,Sem.run_bind,run_underlying hu,Result.andThen_ok,asInt,asIntOf,Sem.run_pure,jr hi,hwl,hwc];rw[a0S (by simp;exact⟨⟨⟨c0,by omega⟩,l0⟩,by omega⟩)];simp only[Sem.run_bind,run_askRoom,Result.andThen_ok,dn hn];by_cases h0:ci.toNat*n=0
  .rw[a15 h0];have e0:arr=#[]:=Array.eq_empty_of_size_eq_zero (by omega);have e1:(Array.range (ci.toNat*n)).map ((#[]:Array LI3)[·%(#[]:Array LI3).size]!)=#[]:=by rw[h0];have e0:Array.range 0=#[]:=rfl;rw[e0];simp
   simp only[Sem.run_pure,Result.andThen_ok,e1,newRow,Sem.run_bind,run_newObj,World.alloc,e0]
  .rw[a0S h0];simp only[Sem.run_bind,hzr w,Sem.run_pure,Result.andThen_ok,newRow,run_newObj,World.alloc,arr]
 .rw[l9];exact gJ.1
 .rw[l9];exact gJ.2
 .refine .val (.aP (ls:=[⟨w.heap.size,0,(times z ci.toNat).length,arr.size⟩]) (p:=⟨w.heap.size,0,(times z ci.toNat).length,arr.size⟩) (by simp[Mp.h,dL]) (by simp) (by simp[nR]) ZP (a1j _) (fun _=>rfl) (.inr ⟨by simp,by simp;omega⟩) (by omega))
theorem ZQ{at_ t v r i x}(hV:Valid M D s.get w)(h:ZE P at_ s.heap v=some (r,i))(hx:VR M.h v x)(hD:∀k∈i.ts,D k) :i.ws=[]/\∃z,VR M.h r z/\(Builtin.len_ at_ t #[x]).run P w=.ok z w:=by
 unfold ZE at h;split at h
 case h_2=>simp at h
 rename_i t0 ht0;split at h
 .rename_i b hu;simp at h;obtain⟨rfl,rfl⟩:=h;cases hx;exact⟨rfl,_,.int _ _,by simp[Builtin.len_,ht0,run_underlying hu,goInt]⟩
 .rename_i n el _ hu;simp at h;obtain⟨rfl,rfl⟩:=h;exact⟨rfl,_,.int _ _,by simp[Builtin.len_,ht0,run_underlying hu,goInt]⟩
 .rename_i el b off len cap sz ex hu;simp at h;obtain⟨rfl,rfl⟩:=h;cases hx;exact⟨rfl,_,.int _ _,by simp[Builtin.len_,ht0,run_underlying hu,goInt]⟩
 .rename_i el hu;simp at h;obtain⟨rfl,rfl⟩:=h;cases hx;exact⟨rfl,_,.int _ _,by simp[Builtin.len_,ht0,run_underlying hu,goInt]⟩
 .rename_i k el hu;simp at h;obtain⟨rfl,rfl⟩:=h;cases hx;exact⟨rfl,_,.int _ _,by simp[Builtin.len_,ht0,run_underlying hu,goInt]⟩
 .rename_i k el r0 hu;split at h
  .rename_i es he;simp at h;obtain⟨rfl,rfl⟩:=h;cases hx with
   |map hm=>
    obtain⟨gW,h1,h2⟩:=hV.ok _ _ hm (hD _ (by simp[yx]));simp only[St.get,he,a08]at h1;subst h1;obtain⟨xs,g1,g2⟩:=h2;have g2:=g2.len;refine⟨rfl,_,.int _ _,?_⟩;simp[Builtin.len_,ht0,run_underlying hu,goInt,getObj,Sem.run,g1,g2]
  .simp at h
 .simp at h
theorem DC{C size n v l x h}(hh:∀b,C (.h b)=h[b]?)(hV:Valid M D C w)(hs:eF size h v=some (n,l))(hx:VR M.h v x)(hD:∀k∈dH v,D k) :(Builtin.lenOf x).run P w=.ok n w/\(∀c∈l,iR c=true)/\∃arr,(∀w',w'.heap=w.heap->(Builtin.firstCells size n x).run P w'=.ok arr w')/\bZ M.h l arr.toList:=by
 unfold eF at hs;split at hs
 .simp at hs;obtain⟨rfl,rfl⟩:=hs;cases hx;exact⟨by simp[Builtin.lenOf],by simp,#[],fun w' _=>by simp[Builtin.firstCells],.nil⟩
 .rename_i b off len cap sz ex;split at hs
  .rename_i qV;subst qV;split at hs
   .rename_i hz;subst hz;simp at hs;obtain⟨rfl,rfl⟩:=hs;cases hx with
    |aP hm hp yB hle tZ hex ha hk=>
     exact⟨by simp[Builtin.lenOf],by simp,#[],fun w' _=>by simp[Builtin.firstCells,loadCells,loadCellsFrom],.nil⟩
   split at hs
   .rename_i cs hb;simp only[a0x,a1d]at hs;obtain⟨r,hr,rfl,rfl⟩:=hs;cases hx with
    |aP hm hp yB hle tZ hex ha hk=>
     rename_i ls p a cap';obtain⟨k,hk,Xh⟩:=yJ hb;obtain⟨gW,h1,h2⟩:=hV.ok _ _ hm (hD _ (by simp[dH]));rw[hh,hk]at h1;cases h1;obtain⟨g1,g2,_⟩:=h2;obtain⟨s1,s2,s3⟩:=oz hr;refine⟨by simp[Builtin.lenOf],fun c hc=>g1 c (by rw[s2]at hc;exact a5N (a7q hc)),?_⟩;by_cases h0:cap'=0
     .have qW:len=0:=(by omega);subst qW;have:r=[]:=a4o (by rw[s3];simp);subst this;exact⟨#[],fun w' _=>by simp[Builtin.firstCells,loadCells,loadCellsFrom],.nil⟩
     .rcases ha with ha|⟨rfl,ha⟩
      .exact absurd ha h0
      .obtain⟨xs,x1,x2⟩:=zo (P:=P) (g2 p (hp.resolve_left h0)) hr (by have:=a3I sz hle;omega) (fun e=>by have:=Xh e;have:=(g2 p (hp.resolve_left h0)).ext;omega);exact⟨xs.toArray,fun w' hw'=>by simp[Builtin.firstCells,x2 w' hw'],x1⟩
   .simp at hs
  .simp at hs
 .rename_i bs;split at hs
  .rename_i qV;simp at hs;obtain⟨rfl,rfl⟩:=hs;cases hx;refine⟨by simp[Builtin.lenOf],by simp[iR],(bs.extract 0 bs.size).data.map fun b=>.int .u8 b.toNat,fun w' _=>rfl,?_⟩;refine⟨by simp,fun i c v a b=>?_⟩;simp only[a5w,a0x]at a;obtain⟨y,hy,rfl⟩:=a;rw[show bs.extract 0 bs.size=bs from by simp]at b;simp only[Array.toList_map,a5w,hy,a1l,a08]at b;rw[<-b];exact .int _ _
  .simp at hs
 .simp at hs
theorem V3{size n b off len cap sz ex l h}(hs:eF size h (.aP b off len cap sz ex)=some (n,l)):sz=size/\n=len/\l.length=len*size:=by
 simp only[eF]at hs;split at hs
 .rename_i hz;split at hs
  .rename_i h0;cases hs;exact⟨hz,h0.symm,by simp[h0]⟩
  split at hs
  .simp only[a0x,a1d]at hs;obtain⟨r,hr,rfl,rfl⟩:=hs;exact⟨hz,rfl,(oz hr).2.2⟩
  cases hs
 cases hs
theorem SV(N):∀(r c),c<=2*N+192->Builtin.growBy N r c<=2*N+192
 | 0,c,h=>by simpa[Builtin.growBy]using h
 |r+1,c,h=>by
  simp only[Builtin.growBy];split
  .exact h
  exact SV N r _ (by omega)
theorem ZR{need c}(h:c<need):Builtin.nextslicecap need c<=2*need+192:=by
 unfold Builtin.nextslicecap;split
 .omega
 split
 .omega
 exact SV need 4 c (by omega)
theorem aaj{need c b}(h:c<need)(h1:need*b<=2^40)(h2:b<=2^20):¬(Builtin.nextslicecap need c*b>2^48):=by
 have e1:=ZR h;have e2:Builtin.nextslicecap need c*b<=(2*need+192)*b:=a3I b e1;have e3:(2*need+192)*b=2*(need*b)+192*b:=by rw[a3H,Nat.mul_assoc]
 omega
theorem xC(z n):(Builtin.zeroCells z n).size=n*z.size:=by simp[Builtin.zeroCells]
def xE:TypeDesc->Bool
 |.int _=>true
 |_=>false
theorem ZT{t}(h:¬(UN P t||(P.underlying t).isNone)=true):∃d,P.underlying t=some d/\xE d=false:=by
 simp only[aa4,ade,aeP]at h;obtain⟨h1,h2⟩:=h;cases hu:P.underlying t with
 |none=>simp[hu]at h2
 |some d=>
  refine⟨d,rfl,?_⟩;unfold UN at h1;rw[hu]at h1;cases d<;>simp_all [xE]
theorem Gw{at_ st xt e size n sLen sCap i z sv xv base d old new ty}(h0:at_[0]? = some st) (h1:at_[1]? = some xt) (hu:P.underlying st=some (.slice e)) (hn:dG P e=some size) (Ie:P.underlying xt=some d) (hd:xE d=false)(hi:P.info? e=some i) (hz:i.zero=some z) (hsv:sv=.slice base sLen sCap)(hl:(Builtin.lenOf xv).run P w=.ok n w) (tZ:sCap<sLen+n) (CZ:(sLen+n)*i.bytes<=2^40) (yM:sLen+n<=2^40) (hb3:i.bytes<=2^20)(hold:∀w',w'.heap=w.heap->(Builtin.firstCells size sLen sv).run P w'=.ok old w') (gJ:∀w',w'.heap=w.heap->(Builtin.firstCells size n xv).run P w'=.ok new w') :∃lM,sLen+n<=lM/\lM<2^63/\(Builtin.append_ at_ ty #[sv,xv]).run P w=.ok (.slice (some ⟨w.heap.size,0,none⟩) (sLen+n) lM) (w.drew.alloc (.cells (old++new++Builtin.zeroCells z.cells (lM-(sLen+n))) e)):=by
 subst hsv;refine⟨(Question.appendCap (sLen+n) sCap e).cut (w.tape w.drawn (.appendCap (sLen+n) sCap e)),by simp[Question.cut],?_,?_⟩
 .have:=Nat.mod_lt (w.tape w.drawn (.appendCap (sLen+n) sCap e)) (show 0<2^63-(sLen+n) by omega);simp only[Question.cut];omega
 have hz':∀w,(zeroValue e).run P w=.ok z w:=fun w=>by simp[zeroValue,jr hi,hz]
 have hq:(Question.appendCap (sLen+n) sCap e).forced=false:=rfl;have hle:¬(sLen+n<=sCap):=by omega
 have FD:¬(((sLen+n:Nat):Int)>i64.max):=by have:i64.max=2^63-1:=rfl;rw[this];omega
 have xu:=aaj tZ CZ hb3;have e1:=hold w.drew rfl;have e2:=gJ w.drew rfl;unfold Builtin.append_;simp only[aeG,a2I,aal,h0,h1];simp only[Sem.run_bind,run_underlying hu,Result.andThen_ok,dn hn,run_underlying Ie,Sem.run_pure];rw[a0S (by cases d<;>simp_all [xE])];simp only[Sem.run_bind,hl,Result.andThen_ok];rw[a0S hle];simp only[Sem.run_bind,jr hi,Result.andThen_ok];rw[a0S (fun h=>FD h.1)];simp only[Sem.run_bind,jr hi,Result.andThen_ok];rw[a0S xu];simp only[Sem.run_bind,Sem.run_pure,run_choose,hq,a2H,a3S,Result.andThen_ok,jr hi,run_askRoom,World.drew_eq,e1];rw[a15 (by cases d<;>simp_all [xE])];simp only[Sem.run_bind,Sem.run_pure,Result.andThen_ok,e2,hz',newRow,run_newObj,World.size_drew,World.alloc_eq]
theorem SX{at_ st xt e size n sLen sCap a sv xv d new ty w'}(h0:at_[0]? = some st) (h1:at_[1]? = some xt) (hu:P.underlying st=some (.slice e)) (hn:dG P e=some size) (Ie:P.underlying xt=some d) (hd:xE d=false)(hsv:sv=.slice (some a) sLen sCap) (hl:(Builtin.lenOf xv).run P w=.ok n w) (tZ:sLen+n<=sCap)(gJ:(Builtin.firstCells size n xv).run P w=.ok new w) (vH:(storeCells (a.add (sLen*size)) new.toList).run P w=.ok () w') :(Builtin.append_ at_ ty #[sv,xv]).run P w=.ok (.slice (some a) (sLen+n) sCap) w':=by
 subst hsv;unfold Builtin.append_;simp only[aeG,a2I,aal,h0,h1];simp only[Sem.run_bind,run_underlying hu,Result.andThen_ok,dn hn,run_underlying Ie,Sem.run_pure];rw[a0S (by cases d<;>simp_all [xE])];simp only[Sem.run_bind,hl,Result.andThen_ok];rw[a15 tZ];rw[a15 (by cases d<;>simp_all [xE])];simp only[Sem.run_bind,gJ,Result.andThen_ok,vH,Sem.run_pure]
theorem Xm{at_ st xt e size sLen sCap base sv xv d new ty}(h0:at_[0]? = some st) (h1:at_[1]? = some xt) (hu:P.underlying st=some (.slice e)) (hn:dG P e=some size) (Ie:P.underlying xt=some d) (hd:xE d=false)(hsv:sv=.slice base sLen sCap) (hl:(Builtin.lenOf xv).run P w=.ok 0 w) (tZ:sLen<=sCap)(gJ:(Builtin.firstCells size 0 xv).run P w=.ok new w) (iO:new.toList=[]) :(Builtin.append_ at_ ty #[sv,xv]).run P w=.ok sv w:=by
 subst hsv;unfold Builtin.append_;simp only[aeG,a2I,aal,h0,h1];simp only[Sem.run_bind,run_underlying hu,Result.andThen_ok,dn hn,run_underlying Ie,Sem.run_pure];rw[a0S (by cases d<;>simp_all [xE])];simp only[Sem.run_bind,hl,Result.andThen_ok];rw[a15 (by omega)];rw[a15 (by cases d<;>simp_all [xE])];simp only[Sem.run_bind,gJ,Result.andThen_ok];cases base<;>simp[iO,storeCells]
def BOk(P:LI1)(M:Mp)(D:Key->Prop)(C:Ct)(w:LI4)(c:Sem LI3)(v:TV)(C1:Ct)(ws:List Key):Prop:=
 ∃x w' M',c.run P w=.ok x w'/\Oz M D C w (.val v) C1 ws x w' M'
theorem Ext.drew'{M0 C0 w0 M C w ws}(h:Ext M0 C0 w0.drew M C w ws):Ext M0 C0 w0 M C w ws:=
 ⟨h.JE,h.frame,h.o8,h.l7,h.fresh,h.size,h.has,h.wsub,h.wrote,h.os,h.output,h.tape⟩
theorem bZ.V4{N l}{arr:Array LI3}(h:bZ N l arr.toList){i:Nat}{c v}(a:l[i]? = some c)(b:arr[i]? = some v):VR N c v:=
 h.at_ i c v a (by rw[aeI];exact b)
theorem OI(hV:Valid M D s.get w)(zK:M (.h s.heap.length)=none){cs pre rest e}(hx:bZ M.h cs pre.toList)(hn:∀c∈cs,iR c=true){len lM size} (JR:cs.length=len*size) (hle:len<=lM) (hk:lM<2^63) (OJ:rest.size=(lM-len)*size) :∃M',Oz M D s.get w (.val (.aP s.heap.length 0 len len size false)) (St.get { s with heap:=s.heap++[.cells .own cs] }) [] (.slice (some ⟨w.heap.size,0,none⟩) len lM) (w.drew.alloc (.cells (pre++rest) e)) M':=by
 have zA:s.get (.h s.heap.length)=none:=by simp[St.get]
 have zq:pre.size=cs.length:=by have:=hx.len;simp at this;omega
 have apC:(pre++rest).size=lM*size:=by
  have:len*size+(lM-len)*size=lM*size:=by rw[<-a3H];congr 1;omega
  simp;omega
 have hmul:len*size<=lM*size:=a3I size hle;have ZU:Valid M D s.get w.drew:=hV.of_heap rfl;have gJ:=OB ZU (cs:=cs) (arr:=pre++rest) e zK zA (by omega) (fun i c v a b=>by have hi:=(a0u.1 a).1;rw[aaJ (by omega)]at b;exact hx.V4 a b) hn
 refine⟨dL M (.h s.heap.length) (.cells [⟨w.heap.size,0,cs.length,(pre++rest).size⟩]),⟨?_,?_,?_,rX zK⟩⟩
 .rw[l9];exact gJ.1
 .rw[l9];exact gJ.2.drew'
 .exact .val (.aP (ls:=[⟨w.heap.size,0,cs.length,(pre++rest).size⟩]) (p:=⟨w.heap.size,0,cs.length,(pre++rest).size⟩) (by simp[Mp.h,dL]) (by simp) (by simp[JR]) (a1j _) hle (fun h=>by simp at h) (.inr ⟨by simp,by simp only[a3C];omega⟩) hk)
theorem FY:∀{ls:List Pl},(ls.map (·.c)).Nodup->∀{p q},p∈ls->q∈ls->q.c=p.c->q=p
 | [],_,p,q,hp,_,_=>by simp at hp
 |a::ls,h,p,q,hp,hq,e=>by
  simp only[a4N,a5x]at h;rcases a1B.1 hp with h1|h1<;>rcases a1B.1 hq with h2|h2
  .rw[h1,h2]
  .exact(h.1 (a1u.2 ⟨q,h2,by rw[e,h1]⟩)).elim
  .exact(h.1 (a1u.2 ⟨p,h1,by rw[<-e,h2]⟩)).elim
  exact FY h.2 h1 h2 e
theorem a1y(hV:Valid M D s.get w){b k cs new ls p x}(hm:M (.h b)=some (.cells ls))(hd:D (.h b))(hb:s.heap[b]? = some (.cells k cs))(hk:k≠.ro) (hp:p∈ls) (yB:cs.length<=p.ext) (hx:bZ M.h new x.toList) (hn:∀c∈new,iR c=true) (iO:new≠[]) {w'}(fl old rest ty0)(hw:(fl=true/\cs.length+new.length<=p.tot/\(storeCells ⟨p.c,cs.length,none⟩ x.toList).run P w=.ok () w') \/ (fl=false/\bZ M.h cs old.toList/\w'=w.drew.alloc (.cells (old++x++rest) ty0))) :∃M' q,Valid M' D (St.get { s with heap:=s.heap.set b (.cells k.more (cs++new)) }) w'/\Ext M s.get w M' (St.get { s with heap:=s.heap.set b (.cells k.more (cs++new)) }) w' [.h b] /\(∀j l,M (.l j)=some l->M' (.l j)=some l)/\(∃qC,M' (.h b)=some (.cells qC)/\q∈qC)/\cs.length+new.length<=q.ext/\q.base=0 /\((fl=true/\q.c=p.c/\q.tot=p.tot)\/(fl=false/\q.c=w.heap.size/\q.tot=(old++x++rest).size)):=by
 have hg:s.get (.h b)=some (.cells k cs):=by simp[St.get,hb]
 have yN:=(a0u.1 hb).1;obtain⟨gW,h1,h2⟩:=hV.ok _ _ hm hd;rw[hg]at h1;cases h1;obtain⟨ho,zq,aak,OL⟩:=h2;have hxl:=hx.len;simp only[a8Z]at hxl;have jJ:(ls.map (·.c)).Nodup:=by
  cases k with
  |ro=>exact absurd rfl hk
  |own=>obtain⟨q,rfl,_⟩:=aak rfl;simp
  |grow=>exact(OL (.inl rfl)).1
  |last=>exact(OL (.inr rfl)).1
 have aud:∀q∈ls,q.ext=cs.length->q=p:=by
  intro q hq he;cases k with
  |ro=>exact absurd rfl hk
  |own=>
   obtain⟨q',e',_⟩:=aak rfl;rw[e']at hp hq;simp at hp hq;rw[hq,hp]
  |grow=>
   have:=(zq p hp).ext;exact(OL (.inl rfl)).2 q hq p hp he (by omega)
  |last=>
   have:=(zq p hp).ext;exact(OL (.inr rfl)).2 q hq p hp he (by omega)
 have hpe:p.ext=cs.length:=by have:=(zq p hp).ext;omega
 have hpb:p.base=0:=(zq p hp).base hk;have hmr:k.more≠.own:=by cases k<;>simp[BK.more]
 have hml:k.more=.last->k=.last:=by cases k<;>simp[BK.more]
 have vW:∀c∈cs++new,iR c=true:=by
  intro c hc;rcases a3E.1 hc with h|h
  .exact ho c h
  .exact hn c h
 rcases hw with⟨hfl,xu,vH⟩|⟨hfl,hold,rfl⟩
 .
  let p':Pl:={ p with ext:=cs.length+new.length }
  let qC:List Pl:=ls.map fun q=>if q.c=p.c then p' else q
  have hqp:∀q∈ls,q.c=p.c->q=p:=by intro q hq he;exact FY jJ hp hq he
  have hp':p'∈qC:=a1u.2 ⟨p,hp,by simp⟩;have a6d:qC.map (·.c)=ls.map (·.c):=by
   simp only[qC,a8G];apply a5J;intro q hq;simp only[Function.comp];split
   .rename_i he;exact he.symm
   .rfl
  have ZP:JK (.cells ls) (.cells qC):=by
   intro q hq;by_cases he:q.c=p.c
   .have:=hqp q hq he;subst this;exact⟨p',hp',rfl,rfl,by simp[p'];omega,rfl⟩
   .exact⟨q,a1u.2 ⟨q,hq,by simp[he]⟩,rfl,rfl,a1j _,rfl⟩
  obtain⟨arr,ty,fz,r1,r2,r3,r4⟩:=(zq p hp).row;have:=r3 hk;subst this;have ajq:∀v∈x.toList,v.oneCell'=true:=by
   intro v hv;obtain⟨i,hi,rfl⟩:=a5I.1 hv;have wC:i<new.length:=by simp at hi;omega
   exact EI (hx.at_ i new[i] x.toList[i] (by simp[wC]) (by simp)) (hn _ (a5B wC))
  have uy:=run_storeCells_at (P:=P) p.c cs.length ty x.toList 0 arr w r1 (by simp;omega) ajq;simp only[adb,a8Z]at uy;rw[uy]at vH;have apI:=Result.ok.inj vH;obtain⟨_,rfl⟩:=apI
  let w':LI4:=w.setRow p.c (arr.toList.take cs.length++x.toList++arr.toList.drop (cs.length+x.size)).toArray
  have fV:∀c,c<w.heap.size->c∉aJ (.cells qC)->w'.heap[c]? = w.heap[c]?:=fun c _ hc=>nD w p.c _ c (fun e=>hc (by rw[e];exact a1u.2 ⟨p',hp',rfl⟩));have gJ:∀c∈aJ (.cells qC),(∃l0,M (.h b)=some l0/\c∈aJ l0)\/w.heap.size<=c:=fun c hc=>.inl ⟨_,hm,by simp only[aJ]at hc ⊢;rwa [a6d]at hc⟩;have FC:tY M (dL M (.h b) (.cells qC)):=lW fun l0 h0=>by rw[hm]at h0;cases h0;exact ZP
  have Xn:∀i,(arr.toList.take cs.length++x.toList++arr.toList.drop (cs.length+x.size)).toArray[i]? = if i<cs.length then arr[i]? else if i<cs.length+x.size then x[i-cs.length]? else arr[i]?:=by intro i;have:=zI (arr:=arr) (off:=cs.length) (xs:=x.toList) i (by simp;omega);simpa using this
  have Ro:qh (dL M (.h b) (.cells qC)).h w' (.cells k.more (cs++new)) (.cells qC):=by
   refine⟨vW,fun q hq=>?_,fun e=>absurd e hmr,fun _=>⟨by rw[a6d];exact jJ,fun q1 Dy q2 Gt e1 e2=>?_⟩⟩
   .obtain⟨q0,ZJ,rfl⟩:=a1u.1 hq;by_cases he:q0.c=p.c
    .simp only[he,a2l];refine⟨⟨_,ty,(0,0),uw w p.c _ arr ty (0,0) r1,by simp[p'];omega,fun _=>rfl,fun _ i c v hi a b=>?_⟩,by simp[p',hpb];omega,by simp[p'],fun _=>hpb⟩;simp only[p',hpb,a3C]at b hi;rw[Xn i]at b;by_cases h1:i<cs.length
     .rw[a15 h1]at b;rw[a0P h1]at a;exact(r4 (fun _=>hpe) i c v (by omega) a (by simpa[hpb]using b)).mono FC.h
     .rw[a0S h1,a15 (by omega)]at b;rw[a1p (by omega)]at a;exact(hx.V4 a b).mono FC.h
    .simp only[he,a3S];have Dy:=zq q0 ZJ;obtain⟨uz,ty',fz',t1,t2,t3,t4⟩:=Dy.row;refine⟨⟨uz,ty',fz',(nD w p.c _ q0.c he).trans t1,t2,fun _=>t3 hk,fun hz i c v hi a b=>?_⟩,Dy.fit,by have:=Dy.ext;simp;omega,fun _=>Dy.base hk⟩;have:=Dy.ext;rw[a0P (by omega)]at a;exact(t4 (fun e=>by have:=hz (by rw[e];rfl);have:0<new.length:=ab7.2 iO;simp at *;omega) i c v hi a b).mono FC.h
   .have aux:∀q∈qC,q.ext=(cs++new).length->new≠[]->q=p':=by
     intro q hq e iO;obtain⟨q0,ZJ,rfl⟩:=a1u.1 hq;by_cases he:q0.c=p.c
     .simp[he]
     .simp only[he,a3S]at e;have:=(zq q0 ZJ).ext;have:0<new.length:=ab7.2 iO;simp at e;omega
    rw[aux q1 Dy e1 iO,aux q2 Gt e2 iO]
  refine⟨dL M (.h b) (.cells qC),p',?_,?_,?_,⟨qC,by simp[dL],hp'⟩,a1j _,hpb,.inl ⟨hfl,rfl,rfl⟩⟩
  .rw[jw s b _ yN];exact hV.upd (.h b) _ _ (fun j hj=>.inl hj) (fun l0 h0=>by rw[hm]at h0;cases h0;exact⟨hd,ZP,fun b0 yu=>by rw[hg]at yu;cases yu;cases k<;>simp_all [wr]⟩) fV gJ (by simp) Ro
  .rw[jw s b _ yN];exact Ext.upd (.h b) _ _ [.h b] (.inl ⟨by simp[hg],rfl,by simp[hm],fun b0 yu=>by rw[hg]at yu;cases yu;cases k<;>simp_all [wr]⟩) FC fV gJ (by simp) rfl rfl rfl
  .intro j l hj;simp[dL,hj]
 .
  let p':Pl:=⟨w.heap.size,0,cs.length+new.length,(old++x++rest).size⟩
  let qC:List Pl:=p'::ls
  let w':LI4:=w.drew.alloc (.cells (old++x++rest) ty0)
  have OM:=hold.len;simp only[a8Z]at OM;have aS:∀q∈ls,q.c<w.heap.size:=fun q hq=>hV.inb _ _ hm q.c (a1u.2 ⟨q,hq,rfl⟩);have ZP:JK (.cells ls) (.cells qC):=fun q hq=>⟨q,a3A _ hq,rfl,rfl,a1j _,rfl⟩;have fV:∀c,c<w.heap.size->c∉aJ (.cells qC)->w'.heap[c]? = w.heap[c]?:=fun c hc _=>vC w.drew _ c hc;have gJ:∀c∈aJ (.cells qC),(∃l0,M (.h b)=some l0/\c∈aJ l0)\/w.heap.size<=c:=by
   intro c hc;simp only[aJ,qC,a4N,a1B]at hc;rcases hc with rfl|hc
   .exact .inr (a1j _)
   .exact .inl ⟨_,hm,hc⟩
  have FC:tY M (dL M (.h b) (.cells qC)):=lW fun l0 h0=>by rw[hm]at h0;cases h0;exact ZP
  have Ro:qh (dL M (.h b) (.cells qC)).h w' (.cells k.more (cs++new)) (.cells qC):=by
   refine⟨vW,fun q hq=>?_,fun e=>absurd e hmr,fun _=>⟨?_,fun q1 Dy q2 Gt e1 e2=>?_⟩⟩
   .rcases a1B.1 hq with rfl|hq
    .refine⟨⟨_,ty0,(0,0),heap_alloc_new w.drew _,rfl,fun _=>rfl,fun _ i c v hi a b=>?_⟩,by simp[p'];omega,by simp[p'],fun _=>rfl⟩;simp only[p',a3C]at b hi;by_cases h1:i<cs.length
     .rw[a0P h1]at a;rw[Array.append_assoc,aaJ (by omega)]at b;exact(hold.V4 a b).mono FC.h
     .rw[a1p (by omega)]at a;rw[Array.append_assoc,Array.getElem?_append_right (by omega),aaJ (by omega),<-OM]at b;exact(hx.V4 a b).mono FC.h
    .have Dy:=zq q hq;obtain⟨uz,ty',fz',t1,t2,t3,t4⟩:=Dy.row;refine⟨⟨uz,ty',fz',(vC w.drew _ q.c (aS q hq)).trans t1,t2,fun _=>t3 hk,fun hz i c v hi a b=>?_⟩,Dy.fit,by have:=Dy.ext;simp;omega,fun _=>Dy.base hk⟩;have:=Dy.ext;rw[a0P (by omega)]at a;exact(t4 (fun e=>by have:=hz (by rw[e];rfl);have:0<new.length:=ab7.2 iO;simp at *;omega) i c v hi a b).mono FC.h
   .simp only[qC,a4N,a5x];refine⟨fun JU=>?_,jJ⟩;obtain⟨q,hq,he⟩:=a1u.1 JU;have:=aS q hq;simp only[p']at he;omega
   .have ajr:0<new.length:=ab7.2 iO;have aux:∀q∈qC,q.ext=(cs++new).length->q=p':=by
     intro q hq e;rcases a1B.1 hq with rfl|hq
     .rfl
     .have:=(zq q hq).ext;simp at e;omega
    rw[aux q1 Dy e1,aux q2 Gt e2]
  refine⟨dL M (.h b) (.cells qC),p',?_,?_,?_,⟨qC,by simp[dL],a3G⟩,a1j _,rfl,.inr ⟨hfl,rfl,rfl⟩⟩
  .rw[jw s b _ yN];exact hV.upd (.h b) _ _ (fun j hj=>.inl hj) (fun l0 h0=>by rw[hm]at h0;cases h0;exact⟨hd,ZP,fun b0 yu=>by rw[hg]at yu;cases yu;cases k<;>simp_all [wr]⟩) fV gJ (by simp) Ro
  .rw[jw s b _ yN];exact Ext.upd (.h b) _ _ [.h b] (.inl ⟨by simp[hg],rfl,by simp[hm],fun b0 yu=>by rw[hg]at yu;cases yu;cases k<;>simp_all [wr]⟩) FC fV gJ (by simp) rfl rfl rfl
  .intro j l hj;simp[dL,hj]
theorem JV{at_ ty d x r s1 i dv xv}(hV:Valid M D s.get w)(zK:M (.h s.heap.length)=none)(h:jE P at_ s d x=some (r,s1,i)) (hd:VR M.h d dv) (hx:VR M.h x xv) (hD:∀k∈i.ts,D k) :s1.env=s.env/\BOk P M D s.get w (Builtin.append_ at_ ty #[dv,xv]) r s1.get i.ws:=by
 unfold jE at h;split at h
 case h_2=>simp at h
 rename_i st xt h0 h1;split at h
 .simp at h
 rename_i hint;obtain⟨dd,Ie,hdd⟩:=ZT hint;split at h
 case h_2=>simp at h
 rename_i e size zy;obtain⟨hu,hn,Xk⟩:=rY zy;split at h
 case h_2=>simp at h
 rename_i n new lN;split at h
 .
  rename_i hz;subst hz;have key:∀(base:Option Addr) (l c:Nat),dv=.slice base l c->l<=c->(∀k∈dH x,D k)->(Builtin.append_ at_ ty #[dv,xv]).run P w=.ok dv w:=by
   intro base l c e ZP hDk;obtain⟨s1',s2',arr,V5,s4'⟩:=DC (P:=P) (fun b=>rfl) hV lN hx hDk;refine Xm h0 h1 hu hn Ie hdd e s1' ZP (V5 w rfl) ?_;have a6e:new=[]:=by
    unfold eF at lN;split at lN
    .simp at lN;exact lN
    .split at lN
     .split at lN
      .simpa using lN
      split at lN
      .simp only[a0x,a1d]at lN;obtain⟨r',hr',e1,e2⟩:=lN;subst e2;exact a4o (by rw[(oz hr').2.2,e1];simp)
      .simp at lN
     .simp at lN
    .split at lN
     .simp at lN;obtain⟨e1,e2⟩:=lN;rw[<-e2];rename_i bs _;have:bs.data.toList=[]:=a4o (by simpa using e1);simp[this]
     .simp at lN
    .simp at lN
   rw[a6e]at s4';exact s4'.oV
  split at h
  .simp at h;obtain⟨rfl,rfl,rfl⟩:=h;have ZV:=hd;cases hd;exact⟨rfl,_,w,M,key none 0 0 rfl (a1j _) hD,.same hV (.val ZV)⟩
  .split at h
   .simp at h;obtain⟨rfl,rfl,rfl⟩:=h;have ZV:=hd;cases hd with
    |aP hb hp yB hle tZ hex ha hk=>
     exact⟨rfl,_,w,M,key _ _ _ rfl (by omega) hD,.same hV (.val ZV)⟩
   .simp at h
  .simp at h
 rename_i hz;split at h
 case isFalse=>simp at h
 rename_i hlen;have ada:new≠[]:=by intro e;have:0<n*size:=Nat.mul_pos (by omega) Xk;rw[e]at hlen;simp only[a5L]at hlen;omega
 split at h
 .
  split at h
  case isFalse=>simp at h
  rename_i xu;simp at h;obtain⟨rfl,rfl,rfl⟩:=h;obtain⟨inf,z,hi,hiz,hzs,CZ,yM,hb3,hb4⟩:=Bd xu;obtain⟨s1',s2',arr,V5,s4'⟩:=DC (P:=P) (fun b=>rfl) hV lN hx hD;have qV:inf.size=size:=by obtain⟨i',e1,e2⟩:=Gs hn;rw[hi]at e1;cases e1;exact e2
  cases hd;obtain⟨lM,c1,c1',c2⟩:=Gw (P:=P) (w:=w) (ty:=ty) (base:=none) (sLen:=0) (sCap:=0) (old:=#[]) (new:=arr) h0 h1 hu hn Ie hdd hi hiz rfl s1' (by omega) (by simpa using CZ) (by omega) hb3
   (fun w' hw'=>by simp[Builtin.firstCells]) V5
  simp only[a3C]at c1 c2;obtain⟨M',hp⟩:=OI (size:=size) (len:=n) (rest:=Builtin.zeroCells z.cells (lM-n)) (e:=e) (pre:=#[]++arr) hV zK (by simpa using s4') s2' hlen c1 c1' (by rw[xC,hzs,qV]);exact⟨rfl,_,_,M',c2,hp⟩
 .
  rename_i b off len cap sz ex;split at h
  case isFalse=>simp at h
  rename_i afl;subst afl;have hd0:=hd;cases hd with
  |aP hb hp yB hle tZ hex ha hk=>
  rename_i ls p a cap';split at h
  .
   rename_i afm;simp only[a0x,a1d]at h;obtain⟨hp',Gx,rfl,rfl,rfl⟩:=h;obtain⟨kk,CG,cs,cs',hbc,yK,ho,rfl⟩:=JO Gx;have hDs:∀k∈dH x,D k:=fun k hk=>hD k (a3A _ hk);obtain⟨s1',s2',arr,V5,s4'⟩:=DC (P:=P) (fun b=>rfl) hV lN hx hDs;have hg:s.get (.h b)=some (.cells kk cs):=(by simp[St.get,hbc]);have yN:=(a0u.1 hbc).1;rcases ha with ha|⟨rfl,ha⟩
   .omega
   have hDb:=hD (.h b) (by simp);have hp:=hp.resolve_left (by omega);obtain⟨w',r1,r2,r3⟩:=zJ (P:=P) hV hb hDb hg hp (hV.ZI hb hDb hg hp yB yK) ho s4' s2';obtain⟨o1,o2,o3⟩:=wS ho;have hmul:len*sz+n*sz=(len+n)*sz:=(by rw[a3H]);refine⟨rfl,_,w',M,SX (P:=P) (w:=w) (ty:=ty) (a:=⟨p.c,p.base+off,none⟩) h0 h1 hu hn Ie hdd rfl s1' (by omega) (V5 w rfl) (by rw[vG,aad];exact r1),⟨?_,?_,?_,fun _ _ h=>h⟩⟩
   .rw[jw s b _ yN];exact⟨fun k l hk hd=>r2.ok k l hk (hd.elim id fun⟨x1,x2⟩=>by
      simp only[mY]at x2;split at x2
      .rename_i e;subst e;rw[hg]at x1;cases x1
      .simp[x1]at x2),fun k k' l l' b' a1 a2 a3 hd=>r2.own k k' l l' b' a1 a2 a3 (hd.elim id fun⟨x1,x2⟩=>by
      simp only[mY]at x2;split at x2
      .rename_i e;subst e;rw[hg]at x1;cases x1
      .simp[x1]at x2),r2.inb⟩
   .rw[jw s b _ yN];exact r3
   .exact .val (.aP hb (.inr hp) (by omega) (by omega) tZ hex (.inr ⟨rfl,ha⟩) hk)
  .rename_i afm;split at h
   case isFalse=>simp at h
   rename_i xu;obtain⟨inf,z,hi,hiz,hzs,CZ,yM,hb3,hb4⟩:=Bd xu;have qV:inf.size=sz:=by obtain⟨i',e1,e2⟩:=Gs hn;rw[hi]at e1;cases e1;exact e2
   have hmul:len*sz+n*sz=(len+n)*sz:=(by rw[a3H]);split at h
   .
    rename_i ajt;have OO:=hex ajt;simp only[a0x,a1d]at h;obtain⟨⟨l0,old⟩,qU,rfl,rfl,rfl⟩:=h;obtain⟨_,qW,hold⟩:=V3 qU;rw[qW]at qU;have hDs:∀k∈dH x,D k:=fun k hk=>hD k (a3A _ hk);obtain⟨s1',s2',arr,V5,s4'⟩:=DC (P:=P) (fun b=>rfl) hV lN hx hDs;obtain⟨t1',t2',a6f,t3',t4'⟩:=DC (P:=P) (fun b=>rfl) hV qU hd0 (fun k hk=>hD k (by simp[dH]at hk;simp[hk,gu]));obtain⟨lM,c1,c1',c2⟩:=Gw (P:=P) (w:=w) (ty:=ty) (base:=some a) (sLen:=len) (sCap:=cap') (old:=a6f) (new:=arr) h0 h1 hu hn Ie hdd hi hiz rfl s1' (by omega) CZ yM hb3 t3' V5;obtain⟨M',aju⟩:=OI (size:=sz) (len:=len+n) (rest:=Builtin.zeroCells z.cells (lM-(len+n))) (e:=e) (pre:=a6f++arr) hV zK (by simpa using t4'.append s4') (fun c hc=>(a3E.1 hc).elim (t2' c) (s2' c)) (by simp[hold,hlen,hmul]) c1 c1' (by rw[xC,hzs,qV]);exact⟨rfl,_,_,M',c2,aju⟩
   .
    split at h
    case h_2=>simp at h
    rename_i ajt _ k cs hbc;split at h
    .simp at h
    .rename_i FX;simp only[ade,ne_eq,Decidable.not_not]at FX;have hkc:=hk;obtain⟨hk,rfl,rfl,nR,qW⟩:=FX;have hp:=hp.resolve_left (by omega);simp only[a08,a1d]at h;obtain⟨rfl,rfl,rfl⟩:=h;have hDs:∀k∈dH x,D k:=fun k hk=>hD k (a3A _ hk);have hDb:=hD (.h b) (by simp);obtain⟨s1',s2',arr,V5,s4'⟩:=DC (P:=P) (fun b=>rfl) hV lN hx hDs;have hg:s.get (.h b)=some (.cells k cs):=(by simp[St.get,hbc]);have hnb:∀(M':Mp) (w':LI4),Valid M' D (St.get { s with heap:=s.heap.set b (.cells k.more (cs++new)) }) w' ->
       Valid M' (fun j=>D j\/(s.get j=none/\(St.get { s with heap:=s.heap.set b (.cells k.more (cs++new)) } j).isSome=true)) (St.get { s with heap:=s.heap.set b (.cells k.more (cs++new)) }) w':=by
      intro M' w' hv;have aux:∀j,(D j\/(s.get j=none/\(St.get { s with heap:=s.heap.set b (.cells k.more (cs++new)) } j).isSome=true))->D j:=by
       intro j hj;rcases hj with hj|⟨x1,x2⟩
       .exact hj
       .rw[jw s b _ (a0u.1 hbc).1]at x2;simp only[mY]at x2;split at x2
        .rename_i e;subst e;exact hDb
        .simp[x1]at x2
      exact⟨fun k l hk hd=>hv.ok k l hk (aux k hd),fun k k' l l' b' a1 a2 a3 hd=>hv.own k k' l l' b' a1 a2 a3 (aux k hd),hv.inb⟩
     have aug:arr.size=n*sz:=by have:=s4'.len;simp at this;omega
     have ajv:p.base=0/\p.ext<=cs.length:=by obtain⟨gW,q1,q2⟩:=hV.ok _ _ hb hDb;rw[hg]at q1;cases q1;exact⟨(q2.2.1 p hp).base hk,(q2.2.1 p hp).ext⟩
     by_cases DF:len+n<=cap'
     .
      rcases ha with ha|⟨rfl,ha⟩
      .omega
      have ad9:(len+n)*sz<=cap'*sz:=a3I sz DF;have vW:∀v∈arr.toList,v.oneCell'=true:=by
       intro v hv;obtain⟨i,hi,rfl⟩:=a5I.1 hv;have wC:i<new.length:=by simp at hi;omega
       exact EI (s4'.at_ i new[i] arr.toList[i] (by simp[wC]) (by simp)) (s2' _ (a5B wC))
      obtain⟨gW,q1,q2⟩:=hV.ok _ _ hb hDb;rw[hg]at q1;cases q1;obtain⟨row,rty,rfz,z1,z2,z3,z4⟩:=(q2.2.1 p hp).row;have:=z3 hk;subst this;have uy:=run_storeCells_at (P:=P) p.c cs.length rty arr.toList 0 row w z1 (by simp;omega) vW;obtain⟨M',q,v1,v2,v3,⟨qC,v4,v5⟩,v6,v7,v8⟩:=a1y (P:=P) hV hb hDb hbc hk hp (by omega) s4' s2' ada true #[] #[] 0 (.inl ⟨rfl,by omega,uy⟩);rcases v8 with⟨_,v9,v10⟩|⟨v9,_⟩
      .refine⟨rfl,_,_,M',SX (P:=P) (w:=w) (ty:=ty) (a:=⟨p.c,p.base+0,none⟩) h0 h1 hu hn Ie hdd rfl s1' DF (V5 w rfl) (by rw[vG,ajv.1];simp only[a3C,adb];rw[<-nR];exact uy),⟨hnb _ _ v1,v2,?_,v3⟩⟩;refine .val (.aP v4 (.inr v5) (by omega) (a1j _) DF (fun h=>by simp at h) (.inr ⟨by rw[v9,v7,ajv.1],by rw[v7,v10];omega⟩) hkc)
      .cases v9
     .
      have qU:eF sz s.heap (.aP b 0 len len sz ex)=some (len,cs):=by
       have:sub cs 0 (len*sz)=some cs:=by unfold sub;rw[a15 (by omega)];simp[<-nR]
       simp[eF,ni,hbc,this,nR,qW]
      obtain⟨t1',t2',a6f,t3',t4'⟩:=DC (P:=P) (fun b=>rfl) hV qU hd0 (fun k hk=>by simp[dH]at hk;rw[hk];exact hDb);obtain⟨lM,c1,c1',c2⟩:=Gw (P:=P) (w:=w) (ty:=ty) (base:=some a) (sLen:=len) (sCap:=cap') (old:=a6f) (new:=arr) h0 h1 hu hn Ie hdd hi hiz rfl s1' (by omega) CZ yM hb3 t3' V5;obtain⟨M',q,v1,v2,v3,⟨qC,v4,v5⟩,v6,v7,v8⟩:=a1y (P:=P) hV hb hDb hbc hk hp (by omega) s4' s2' ada false a6f (Builtin.zeroCells z.cells (lM-(len+n))) e (.inr ⟨rfl,t4',rfl⟩);rcases v8 with⟨v9,_⟩|⟨_,v10,v11⟩
      .cases v9
      .refine⟨rfl,_,_,M',c2,⟨hnb _ _ v1,v2,?_,v3⟩⟩;refine .val (.aP v4 (.inr v5) (by omega) (a1j _) c1 (fun h=>by simp at h) (.inr ⟨by rw[v10,v7],?_⟩) c1');rw[v11,v7];have OM:=t4'.len;simp only[a8Z]at OM;have hm3:(len+n)*sz+(lM-(len+n))*sz=lM*sz:=by rw[<-a3H];congr 1;omega
       simp only[Array.size_append,xC,hzs,qV];omega
 .simp at h
theorem a6h{cs l off n m}(h:sub cs off n=some l)(hm:m<=n):sub cs off m=some (l.take m):=by obtain⟨h1,h2,h3⟩:=oz h;unfold sub;rw[a15 (by omega),h2,afk,a8b hm]
theorem V6{at_ ty d x r s1 i dv xv}(hV:Valid M D s.get w)(h:I5 P at_ s d x=some (r,s1,i)) (hd:VR M.h d dv) (hx:VR M.h x xv) (hD:∀k∈i.ts,D k) :s1.env=s.env/\BOk P M D s.get w (Builtin.copy_ at_ ty #[dv,xv]) r s1.get i.ws:=by
 unfold I5 at h;split at h
 case h_2=>simp at h
 rename_i st h0;split at h
 case h_2=>simp at h
 rename_i e size zy;obtain⟨hu,hn,Xk⟩:=rY zy;split at h
 case h_2=>simp at h
 rename_i n new lN;split at h
 case isFalse=>simp at h
 rename_i hlen;obtain⟨hlen,OQ⟩:=hlen;have first:∀(m:Nat),m<=n->(∀k∈dH x,D k)->(Builtin.lenOf xv).run P w=.ok n w/\(∀c∈new.take (m*size),iR c=true) /\
   ∃arr,(Builtin.firstCells size m xv).run P w=.ok arr w/\bZ M.h (new.take (m*size)) arr.toList:=by
  intro m hm hDs;obtain⟨s1',s2',arr,V5,s4'⟩:=DC (P:=P) (fun b=>rfl) hV lN hx hDs;refine⟨s1',fun c hc=>s2' c (a7q hc),?_⟩;have hmul:m*size<=n*size:=a3I size hm;cases hx with
  |UR=>
   unfold eF at lN;simp at lN;obtain⟨rfl,rfl⟩:=lN;exact⟨#[],by simp[Builtin.firstCells],by simpa using bZ.nil⟩
  |aP hb hp yB hle tZ hex ha hk=>
   rename_i b off len cap sz ex ls p a cap';unfold eF at lN;simp only at lN;split at lN
   case isFalse=>simp at lN
   rename_i qV;subst qV;split at lN
   .rename_i hz;simp at lN;obtain⟨rfl,rfl⟩:=lN;have:m=0:=(by omega);subst this;exact⟨#[],by simp[Builtin.firstCells,loadCells,loadCellsFrom],by simpa using bZ.nil⟩
   split at lN
   case h_2=>simp at lN
   rename_i cs hbc;simp only[a0x,a1d]at lN;obtain⟨r',hr,rfl,rfl⟩:=lN;obtain⟨k,hk,Xh⟩:=yJ hbc;obtain⟨gW,h1,h2⟩:=hV.ok _ _ hb (hDs _ (by simp[dH]));simp only[St.get,hk,a08]at h1;subst h1;by_cases h00:cap'=0
   .have qW:len=0:=(by omega);subst qW;have:m=0:=(by omega);subst this;exact⟨#[],by simp[Builtin.firstCells,loadCells,loadCellsFrom],by simpa using bZ.nil⟩
   .rcases ha with ha|⟨rfl,ha⟩
    .exact absurd ha h00
    .obtain⟨xs,x1,x2⟩:=zo (P:=P) (h2.2.1 p (hp.resolve_left h00)) (a6h hr hmul) (by have:=a3I sz hle;omega) (fun e=>by have:=Xh e;have:=(h2.2.1 p (hp.resolve_left h00)).ext;omega);exact⟨xs.toArray,by simp[Builtin.firstCells,x2 w rfl],x1⟩
  |str bs=>simp[isStr]at OQ
  |_=>simp[eF]at lN
 split at h
 .simp at h;obtain⟨rfl,rfl,rfl⟩:=h;cases hd;obtain⟨f1,f2,arr,f3,f4⟩:=first 0 (a5D _) hD
  have f5:=f4.len;simp at f5;exact⟨rfl,.int .i64 0,w,M,by simp[Builtin.copy_,h0,run_underlying hu,f1,dn hn,f3,goInt],.same hV (.val (.int _ _))⟩
 .rename_i b off len cap sz ex;split at h
  case isFalse=>simp at h
  rename_i qV;subst qV;have hd0:=hd;cases hd with
  |aP hb hp yB hle tZ hex ha hk=>
  rename_i ls p a cap';split at h
  .rename_i hm;simp at h;obtain⟨rfl,rfl,rfl⟩:=h;obtain⟨f1,f2,arr,f3,f4⟩:=first 0 (a5D _) hD
   have f5:arr.toList=[]:=by have:=f4.len;simp only[adg,List.take_zero,a5L]at this;exact a4o this.symm
   refine⟨rfl,.int .i64 0,w,M,?_,.same hV (.val (.int _ _))⟩;have e1:Nat.min n len=0:=hm;simp[Builtin.copy_,h0,run_underlying hu,f1,dn hn,e1,f3,goInt,f5,storeCells]
  .rename_i hm;simp only[a0x,a1d]at h;obtain⟨hp',Gx,rfl,rfl,rfl⟩:=h;obtain⟨kk,CG,cs,cs',hbc,yK,ho,rfl⟩:=JO Gx;obtain⟨f1,f2,arr,f3,f4⟩:=first (min n len) (Nat.min_le_left _ _) (fun k hk=>hD k (a3A _ hk))
   have hg:s.get (.h b)=some (.cells kk cs):=(by simp[St.get,hbc]);have yN:=(a0u.1 hbc).1;rcases ha with ha|⟨rfl,ha⟩
   .omega
   obtain⟨w',r1,r2,r3⟩:=zJ (P:=P) hV hb (hD (.h b) (by simp)) hg (hp.resolve_left (by omega)) (hV.ZI hb (hD (.h b) (by simp)) hg (hp.resolve_left (by omega)) yB yK) ho f4 f2;refine⟨rfl,.int .i64 (min n len:Nat),w',M,?_,⟨?_,?_,.val (.int _ _),fun _ _ h=>h⟩⟩
   .have e1:Nat.min n len=min n len:=rfl;simp[Builtin.copy_,h0,run_underlying hu,f1,dn hn,e1,f3,goInt,r1]
   .rw[jw s b _ yN];exact r2.widen (EJ (by simp[hg]))
   .rw[jw s b _ yN];exact r3
 .simp at h
end
section
variable{P:LI1}{M:Mp}{D:Key->Prop}{w:LI4}{s:St}{N:Np}
theorem bK{α β}(x)(f:α->Sem β):aC P (x >>= f)=(aC P x).bind fun a=>aC P (f a):=by
 show aC P (x.bind f)=_
 induction x with
 |pure a=>rfl
 |program k ih=>exact ih P
 |mark m k ih=>exact ih
 |_=>rfl
def JW(b:Nat->Bool)(L:List MapEntry)(i0:Nat):Option (Nat×LI3)->Prop
 |none=>∀i,i<L.length->b i=false
 |some (i,v)=>i0<=i/\b (i-i0)=true/\∃x,L[i-i0]? = some x/\v=x.val
theorem JW.succ{b e L i0 r}(hb:b 0=false)(h:JW (fun i=>b (i+1)) L (i0+1) r):JW b (e::L) i0 r:=by
 cases r with
 |none=>
  intro i hi;cases i with
  |zero=>exact hb
  |succ i=>exact h i (by simpa using hi)
 |some r=>
  obtain⟨h1,h2,x,h3,h4⟩:=h;have e1:r.1-i0=(r.1-(i0+1))+1:=by omega
  refine⟨by omega,by rw[e1];exact h2,x,by rw[e1];simpa using h3,h4⟩
theorem LX(kind k):∀(L) (i0) (b),(∀i x,L[i]? = some x->Instr.sameNow kind k x.key=some (b i)) ->∃r,Instr.findNow kind k L i0=some r/\JW b L i0 r
 | [],i0,b,_=>⟨none,rfl,fun i hi=>absurd hi (by simp)⟩
 |e::L,i0,b,h=>by
  have h0:=h 0 e rfl;obtain⟨r,g1,g2⟩:=LX kind k L (i0+1) (fun i=>b (i+1)) fun i x hx=>h (i+1) x (by simpa using hx);simp only[Instr.findNow,h0];cases hb:b 0 with
  |true=>exact⟨_,rfl,a1j _,by simpa using hb,e,by simp,rfl⟩
  |false=>exact⟨r,g1,g2.succ hb⟩
theorem DI(kt k):∀(L) (i0) (b),(∀i x,L[i]? = some x->aC P (Op.equal kt k x.key)=some (b i)) ->∃r,(∀w,(Instr.findAsking kt k L i0).run P w=.ok r w)/\JW b L i0 r
 | [],i0,b,_=>⟨none,fun w=>rfl,fun i hi=>absurd hi (by simp)⟩
 |e::L,i0,b,h=>by
  have h0:=fun w=>jA (h 0 e rfl) w;obtain⟨r,g1,g2⟩:=DI kt k L (i0+1) (fun i=>b (i+1)) fun i x hx=>h (i+1) x (by simpa using hx);cases hb:b 0 with
  |true=>exact⟨some (i0,e.val),fun w=>by simp[Instr.findAsking,h0 w,hb],a1j _,by simpa using hb,e,by simp,rfl⟩
  |false=>exact⟨r,fun w=>by simp[Instr.findAsking,h0 w,hb,g1 w],g2.succ hb⟩
theorem a1A:∀{l} {vs},CX l=some vs->∀(i:Nat) (c),l[i]? = some c->∃v,vs[i]? = some v/\c.zk=some v
 | [],vs,h,i,c,hc=>by simp at hc
 |a::l,vs,h,i,c,hc=>by
  simp only[CX]at h;split at h
  .rename_i v ws h1 h2;cases h;cases i with
   |zero=>simp at hc;subst hc;exact⟨v,rfl,h1⟩
   |succ i=>simpa using a1A h2 i c (by simpa using hc)
  cases h
def FR(N:Np)(o:List Nat)(es:List (TV×TV))(xs:Array MapEntry):Option Nat->Option (Nat×LI3)->Prop
 |none,none=>True
 |some j,some (i,v)=>o[i]? = some j/\∃e x,es[j]? = some e/\xs[i]? = some x/\v=x.val/\VR N e.1 x.key/\VR N e.2 x.val
 |_,_=>False
theorem Ig{o kt k es r xs}(h:FU P kt k es=some r)(hx:xk N o es xs) :(∀w,(Instr.checkKey xs.isEmpty 10000 kt k).run P w=.ok () w)/\∃r',(∀w,(Instr.findKey kt k xs.toList).run P w=.ok r' w) /\FR N o es xs r r':=by
 unfold FU at h;split at h
 case h_2=>simp at h
 rename_i ks FZ;split at h
 case h_2=>simp at h
 rename_i r0 hr;split at h
 case isFalse=>simp at h
 rename_i SY;cases h;generalize r0.map (·.1)=r at SY ⊢;have hl:es.isEmpty=xs.isEmpty:=by rw[a5G];simp[List.isEmpty_iff,<-a7f,hx.len]
 have LV:ks.length=es.length:=by
  have:∀{l:List TV} {vs:List LI3},CX l=some vs->vs.length=l.length:=by
   intro l
   induction l with
   |nil=>intro vs h;simp[CX]at h;subst h;rfl
   |cons a l ih=>
    intro vs h;simp only[CX]at h;split at h
    .rename_i v ws h1 h2;cases h;simp[ih h2]
    .cases h
  simpa using this FZ
 rw[bK]at hr;cases hc:aC P (Instr.checkKey es.isEmpty 10000 kt k)with
 |none=>simp[hc]at hr
 |some u=>
  refine⟨fun w=>by rw[<-hl];exact jA hc w,?_⟩;unfold Xb at SY;split at SY
  case h_2=>simp at SY
  rename_i kind hd;have hdr:=fun w=>jA hd w;simp only[a2o]at SY;obtain⟨hj,hs⟩:=SY;have aam:∀(i:Nat) (x:MapEntry),xs.toList[i]? = some x->∃(j:Nat) (e:TV×TV),o[i]? = some j/\es[j]? = some e/\VR N e.1 x.key/\VR N e.2 x.val/\ks[j]? = some x.key:=by intro i x hi;obtain⟨_,j,e,h1,h2,h3,h4⟩:=hx.at_ i x (by simpa using hi);obtain⟨v,g1,g2⟩:=a1A FZ j e.1 (by simp[h2]);exact⟨j,e,h1,h2,h3,h4,by rw[g1,xg g2 h3]⟩
  let b:Nat->Bool:=fun i=>o[i]? == r
  have hb:∀i j,o[i]? = some j->b i=(some j==r):=fun i j h=>by simp only[b,h]
  have fin:∀r',JW b xs.toList 0 r'->FR N o es xs r r':=by
   intro r' hf;cases r' with
   |none=>
    cases r with
    |none=>trivial
    |some j=>
     simp only[a1z]at hj;obtain⟨i,hi⟩:=a9X.1 (hx.sur j (by omega));have h1:=hf i (by have:=(a0u.1 hi).1;have:=hx.ord;simp;omega);rw[hb i j hi]at h1;simp at h1
   |some q=>
    obtain⟨i,v⟩:=q;obtain⟨_,h1,x,h2,h3⟩:=hf;simp only[Nat.sub_zero]at h1 h2;obtain⟨j,e,g1,g2,g3,g4,_⟩:=aam i x h2;rw[hb i j g1]at h1;simp only[a7l]at h1;subst h1;exact⟨g1,e,x,g2,by simpa using h2,h3,g3,g4⟩
  have Gy:∀{p:LI3×Nat->Bool},ks.zipIdx.all p=true->∀j x,ks[j]? = some x->p (x,j)=true:=by intro p hp j x hjx;exact a5z.1 hp (x,j) (aah.2 (by simpa using hjx))
  unfold Instr.findKey;rcases aa4 _ _▸hs with hs|hs
  .obtain⟨r',g1,g2⟩:=LX kind k xs.toList 0 b fun i x hi=>by obtain⟨j,e,h1,_,_,_,h5⟩:=aam i x hi;have:=Gy hs j _ h5;simp only[a7l]at this;rw[this,hb i j h1]
   exact⟨r',fun w=>by simp[hdr w,g1],fin r' g2⟩
  .by_cases h0:xs.toList=[]
   .refine⟨none,fun w=>by simp[hdr w,h0,Instr.findNow],fin none (by rw[h0];intro i hi;simp at hi)⟩
   .have Zu:Instr.findNow kind k xs.toList 0=none:=by
     cases hL:xs.toList with
     |nil=>exact absurd hL h0
     |cons x L=>
      obtain⟨j,e,h1,_,_,_,h5⟩:=aam 0 x (by rw[hL];rfl);have:=Gy hs j _ h5;simp only[a2o,a7l]at this;simp only[Instr.findNow,this.1]
    obtain⟨r',g1,g2⟩:=DI (P:=P) kt k xs.toList 0 b fun i x hi=>by obtain⟨j,e,h1,_,_,_,h5⟩:=aam i x hi;have:=Gy hs j _ h5;simp only[a2o,a7l]at this;rw[this.2,hb i j h1]
    exact⟨r',fun w=>by simp[hdr w,Zu,g1 w],fin r' g2⟩
theorem EK{t:LI2}{m k r:TV}{ok:Bool}{mv kv:LI3}(hV:Valid M D s.get w)(h:iH P t s.heap m k ok=some r)(hm:VR M.h m mv)(hk:VR M.h k kv)
  (hD:∀j∈(match m with|.map r=>[Key.h r] |_=>[]),D j):∃z,VR M.h r z/\(Instr.lookup t mv kv ok).run P w=.ok z w:=by
 unfold iH at h;split at h
 case h_2=>simp at h
 rename_i kt e kx hu hkx;have:=xg hkx hk;subst this;simp only at h;have main:∀(o:List Nat) (es:List (TV×TV)) (xs:Array MapEntry),xk M.h o es xs->((mv=.map none/\xs=#[])\/∃r1 ck,mv=.map (some r1)/\w.heap[r1]? = some (.map xs ck)) ->
   (match FU P kt kv es with
   |some (some i)=>match es[i]? with
    |some (_,v)=>some (if ok then .dB [v,.bool true]else v)
    |none=>none
   |some none=>match P.info? e with
    |some i=>match i.zero with
     |some z=>(TV.X4 z).map fun z=>if ok then .dB [z,.bool false]else z
     |none=>none
    |none=>none
   |none=>none)=some r->∃z,VR M.h r z/\(Instr.lookup t mv kv ok).run P w=.ok z w:=by
  intro o es xs hx uy h;cases hf:FU P kt kv es with
  |none=>simp[hf]at h
  |some r0=>
   rw[hf]at h;obtain⟨c1,r',c2,c3⟩:=Ig hf hx;cases r0 with
   |some j=>
    cases r' with
    |none=>exact c3.elim
    |some jv=>
     obtain⟨j',v⟩:=jv;obtain⟨_,e',x',e1,e2,rfl,_,hv⟩:=c3;simp only[e1,a08]at h;subst h;refine⟨if ok then .tuple #[x'.val,.bool true]else x'.val,?_,?_⟩
     .cases ok
      .exact hv
      .exact .RD (.cons hv (.cons (.bool true) .nil))
     .rcases uy with⟨rfl,rfl⟩|⟨r1,ck,rfl,hmp⟩
      .simp only[Instr.lookup,Sem.run_bind,run_underlying hu,Result.andThen_ok,c1 w,c2 w,Sem.run_pure]
      .simp only[Instr.lookup,Sem.run_bind,run_underlying hu,Result.andThen_ok,getObj,Sem.run,hmp,c1 w,c2 w,Sem.run_pure]
   |none=>
    cases r' with
    |some jv=>exact c3.elim
    |none=>
     simp only at h;split at h
     case h_2=>simp at h
     rename_i inf hi;split at h
     case h_2=>simp at h
     rename_i z hz;simp only[a0x]at h;obtain⟨zt,hzt,rfl⟩:=h;have hv:VR M.h zt z:=.zn hzt;refine⟨if ok then .tuple #[z,.bool false]else z,?_,?_⟩
     .cases ok
      .exact hv
      .exact .RD (.cons hv (.cons (.bool false) .nil))
     .have hzr:(zeroValue e).run P w=.ok z w:=(by simp[zeroValue,jr hi,hz]);rcases uy with⟨rfl,rfl⟩|⟨r1,ck,rfl,hmp⟩
      .simp only[Instr.lookup,Sem.run_bind,run_underlying hu,Result.andThen_ok,c1 w,c2 w,Sem.run_pure,hzr]
      .simp only[Instr.lookup,Sem.run_bind,run_underlying hu,Result.andThen_ok,getObj,Sem.run,hmp,c1 w,c2 w,Sem.run_pure,hzr]
 cases hm with
 |ZG=>exact main [] [] #[] ⟨rfl,rfl,.nil,by simp,by simp⟩ (.inl ⟨rfl,rfl⟩) h
 |map hmm=>
  rename_i r0 r1 o1;obtain⟨gW,b1,b2⟩:=hV.ok _ _ hmm (hD _ (by simp));simp only[St.get]at b1;simp only[b1]at h;cases gW with
  |map es=>
   obtain⟨xs,g1,g2⟩:=b2;exact main o1 es xs g2 (.inr ⟨r1,xs.size,rfl,g1⟩) h
  |cells k cs=>exact b2.elim
  |loop=>simp at h
  |mark=>simp at h
  |nP=>simp at h
  |dD=>simp at h
 |_=>simp at h
end
section
variable{P:LI1}{M:Mp}{D:Key->Prop}{w:LI4}{s:St}
theorem zM(hV:Valid M D s.get w){r r1 o o' es gY xs xs'}(hm:M (.h r)=some (.obj r1 o))(hd:D (.h r))(hb:s.heap[r]? = some (.map es))(hr:w.heap[r1]? = some (.map xs xs.size)) (ho:o <+: o') (hx:xk (dL M (.h r) (.obj r1 o')).h o' gY xs') :Valid (dL M (.h r) (.obj r1 o')) (fun j=>D j\/(s.get j=none/\(St.get { s with heap:=s.heap.set r (.map gY) } j).isSome=true)) (St.get { s with heap:=s.heap.set r (.map gY) }) { w with heap:=w.heap.setIfInBounds r1 (.map xs' xs'.size) } /\Ext M s.get w (dL M (.h r) (.obj r1 o')) (St.get { s with heap:=s.heap.set r (.map gY) }) { w with heap:=w.heap.setIfInBounds r1 (.map xs' xs'.size) } [.h r]:=by
 have hg:s.get (.h r)=some (.map es):=by simp[St.get,hb]
 have yN:=(a0u.1 hb).1;have hle:tY M (dL M (.h r) (.obj r1 o')):=lW fun l0 h0=>by rw[hm]at h0;cases h0;exact⟨rfl,ho⟩
 have aS:r1<w.heap.size:=(a2v.1 hr).1;have fV:∀c,c<w.heap.size->c∉aJ (.obj r1 o')->(w.heap.setIfInBounds r1 (Obj.map xs' xs'.size))[c]? = w.heap[c]?:=fun c _ hc=>by rw[a9Y,a0S (by simp[aJ]at hc;omega)]
 have gJ:∀c∈aJ (.obj r1 o'),(∃l0,M (.h r)=some l0/\c∈aJ l0)\/w.heap.size<=c:=fun c hc=>.inl ⟨_,hm,hc⟩;constructor
 .rw[jw s r _ yN];refine Valid.widen ?_ (EJ (by simp[hg]));exact hV.upd (D':=D) (w':={ w with heap:=w.heap.setIfInBounds r1 (.map xs' xs'.size) }) (.h r) (.map gY) (.obj r1 o') (fun j hj=>.inl hj) (fun l0 h0=>by rw[hm]at h0;cases h0;exact⟨hd,⟨rfl,ho⟩,fun b0 yu=>by rw[hg]at yu;cases yu;rfl⟩) fV gJ (by simp) ⟨xs',by simp[aS],hx⟩
 .rw[jw s r _ yN];exact Ext.upd (M:=M) (C:=s.get) (w:=w) (w':={ w with heap:=w.heap.setIfInBounds r1 (.map xs' xs'.size) }) (.h r) (.map gY) (.obj r1 o') [.h r] (.inl ⟨by simp[hg],rfl,by simp[hm],fun b0 yu=>by rw[hg]at yu;cases yu;rfl⟩) hle fV gJ (by simp) rfl rfl rfl
theorem xk.lt{N o es xs}(g2:xk N o es xs):∀j∈o,j<es.length:=fun j hj=>by
 obtain⟨i,hi⟩:=a9X.1 hj;have:i<xs.size:=by rw[<-g2.ord];exact(a0u.1 hi).1
 obtain⟨_,j',e,z1,z2,_⟩:=g2.at_ i _ (a4j this);rw[hi]at z1;cases z1;exact(a0u.1 z2).1
theorem xk.upd{N N':Np}{o es xs}(g2:xk N o es xs)(hle:tY N N'){i j x' f k v}(q1:o[i]? = some j) (e2:xs[i]? = some x') (hb:(f x').born=x'.born) (hk:VR N' k (f x').key) (hv:VR N' v (f x').val):xk N' o (es.set j (k,v)) (xs.modify i f):=by
 have g3:=g2.mono hle;refine⟨by simp[g2.len],by simp[g2.ord],g2.nod,fun j' EG=>g2.sur j' (by simpa using EG),fun a x h2=>?_⟩;rw[abL]at h2;by_cases ha:i=a
 .subst ha;rw[a15 rfl,e2]at h2;simp only[a1l,a08]at h2;subst h2;obtain⟨z1,j2,e2',z2,z3,_⟩:=g2.at_ i x' e2;rw[q1]at z2;cases z2;exact⟨hb.trans z1,j,(k,v),q1,by rw[aan];simp[(a0u.1 z3).1],hk,hv⟩
 .rw[a0S ha]at h2;obtain⟨z1,j2,e2',z2,z3,z4,z5⟩:=g3.at_ a x h2;refine⟨z1,j2,e2',z2,?_,z4,z5⟩;have iO:j≠j2:=fun e=>by subst e;have i1:=a0u.1 q1;have i2:=a0u.1 z2;exact ha ((aaL g2.nod (h₀:=i1.1) (h₁:=i2.1)).1 (i1.2.trans i2.2.symm))
  rw[aan,a0S iO];exact z3
theorem xk.push{N N':Np}{o es xs}(g2:xk N o es xs)(hle:tY N N'){k v kv vv}(hk:VR N' k kv) (hv:VR N' v vv):xk N' (o++[es.length]) (es++[(k,v)]) (xs.push { key:=kv,val:=vv,born:=xs.size }):=by
 have aS:=g2.lt;have g3:=g2.mono hle;refine⟨by simp[g2.len],by simp[g2.ord],?_,fun j hj=>?_,fun a x h2=>?_⟩
 .rw[a9S];exact⟨g2.nod,by simp,fun x hx y hy=>by simp at hy;subst hy;have:=aS x hx;omega⟩
 .simp only[a1v,a4p,a5L]at hj;rcases a4O j es.length with h1|h1
  .exact a5Z _ (g2.sur j h1)
  .exact abW _ (by simp;omega)
 .rw[Array.getElem?_push]at h2;by_cases ha:a=xs.size
  .rw[a15 ha]at h2;simp only[a08]at h2;subst h2;exact⟨ha.symm,es.length,(k,v),by rw[a1p (by rw[g2.ord];omega),g2.ord,ha];simp,by simp,hk,hv⟩
  .rw[a0S ha]at h2;obtain⟨z1,j2,e2',z2,z3,z4,z5⟩:=g3.at_ a x h2;exact⟨z1,j2,e2',by rw[a0P (a0u.1 z2).1];exact z2,by rw[a0P (a0u.1 z3).1];exact z3,z4,z5⟩
theorem Tc{t m k v s1 i mv kv vv}(hV:Valid M D s.get w)(h:yH P t s m k v=some (s1,i))(hm:VR M.h m mv)(hk:VR M.h k kv)(hv:VR M.h v vv)(hD:∀j∈i.ts,D j):s1.env=s.env/\∃w' M',(Instr.mapUpdate t mv kv vv).run P w=.ok () w' /\Valid M' (fun j=>D j\/(s.get j=none/\(s1.get j).isSome=true)) s1.get w'/\Ext M s.get w M' s1.get w' i.ws/\(∀k l,M (.l k)=some l->M' (.l k)=some l):=by
 unfold yH at h;split at h
 case h_2=>simp at h
 rename_i kt et kx r hu hkx;have:=xg hkx hk;subst this;split at h
 case h_2=>simp at h
 rename_i es Nz hck;have c0:=jA hck w;cases hm with
 |map hmm=>
 rename_i r1 o1;have vI:∀o',∀k l,M (.l k)=some l->dL M (.h r) (.obj r1 o') (.l k)=some l:=fun o' k l h=>by simp[dL,h]
 have go:D (.h r)->∃xs,w.heap[r1]? = some (.map xs xs.size)/\xk M.h o1 es xs:=by intro hd;obtain⟨gW,b1,b2⟩:=hV.ok _ _ hmm hd;simp only[St.get,Nz,a08]at b1;subst b1;exact b2
 split at h
 .
  rename_i j hf;split at h
  case h_2=>simp at h
  rename_i old ov0 hj;split at h
  case h_2=>simp at h
  rename_i ov hov;split at h
  case isFalse=>simp at h
  rename_i Xo;simp only[a08,a1d]at h;obtain⟨rfl,rfl⟩:=h;have hd:=hD (.h r) (by simp[qm]);obtain⟨xs,g1,g2⟩:=go hd;obtain⟨c1,r',c2,c3⟩:=Ig hf g2;cases r' with
  |none=>exact c3.elim
  |some jv=>
   obtain⟨i,v'⟩:=jv;obtain⟨q1,e',x',e1,e2,rfl,q2,_⟩:=c3;rw[hj]at e1;cases e1;have hold:x'.key=ov:=xg hov q2;have hle:tY M (dL M (.h r) (.obj r1 o1)):=lW fun l0 h0=>by have h0':M (.h r)=some l0:=h0;have RJ:M (.h r)=some (.obj r1 o1):=hmm;rw[RJ]at h0';cases h0';exact .refl _
   have Gv:=g2.upd (f:=fun e=>{ e with key:=kv,val:=vv }) hle.h q1 e2 rfl (hk.mono hle.h) (hv.mono hle.h);obtain⟨v1,v2⟩:=zM hV hmm hd Nz g1 (agb _) Gv;refine⟨rfl,_,_,?_,v1,v2,vI _⟩;simp only[Instr.mapUpdate,Sem.run_bind,run_underlying hu,Result.andThen_ok,getObj,Sem.run,g1];simp only[c0,c2 w,Result.andThen_ok,e2,a1l,a5K,Instr.keyThatStays,hold,Xo,a2l,setObj];simp only[Sem.run_bind,Sem.run_pure,Result.andThen_ok,Sem.run,g1,Array.size_modify]
 .
  rename_i hf;simp only[a08,a1d]at h;obtain⟨rfl,rfl⟩:=h;have hd:=hD (.h r) (by simp[qm]);obtain⟨xs,g1,g2⟩:=go hd;obtain⟨c1,r',c2,c3⟩:=Ig hf g2;cases r' with
  |some jv=>exact c3.elim
  |none=>
   have FH:o1 <+: o1++[es.length]:=⟨_,rfl⟩;have hle:tY M (dL M (.h r) (.obj r1 (o1++[es.length]))):=lW fun l0 h0=>by have h0':M (.h r)=some l0:=h0;have RJ:M (.h r)=some (.obj r1 o1):=hmm;rw[RJ]at h0';cases h0';exact⟨rfl,FH⟩
   have Gv:=g2.push hle.h (hk.mono hle.h) (hv.mono hle.h);obtain⟨v1,v2⟩:=zM hV hmm hd Nz g1 FH Gv;refine⟨rfl,_,_,?_,v1,v2,vI _⟩;simp only[Instr.mapUpdate,Sem.run_bind,run_underlying hu,Result.andThen_ok,getObj,Sem.run,g1];simp only[c0,c2 w,Result.andThen_ok,setObj,Sem.run,g1,Array.size_push]
 .simp at h
theorem a3K{t m k e s1 i mv kv}(hV:Valid M D s.get w)(h:AZ P t s m k=some (e,s1,i))(hm:VR M.h m mv)(hk:VR M.h k kv)(hD:∀j∈i.ts,D j):s1.env=s.env/\∃x w' M',(Instr.mapEntry t mv kv).run P w=.ok x w'/\ER M' e x /\Valid M' (fun j=>D j\/(s.get j=none/\(s1.get j).isSome=true)) s1.get w'/\Ext M s.get w M' s1.get w' i.ws/\(∀k l,M (.l k)=some l->M' (.l k)=some l):=by
 unfold AZ at h;split at h
 case h_2=>simp at h
 rename_i kt et kx r hu hkx;have:=xg hkx hk;subst this;split at h
 case h_2=>simp at h
 rename_i es Nz hck;have c0:=jA hck w;cases hm with
 |map hmm=>
 rename_i r1 o1;have vI:∀o',∀k l,M (.l k)=some l->dL M (.h r) (.obj r1 o') (.l k)=some l:=fun o' k l h=>by simp[dL,h]
 have go:D (.h r)->∃xs,w.heap[r1]? = some (.map xs xs.size)/\xk M.h o1 es xs:=by intro hd;obtain⟨gW,b1,b2⟩:=hV.ok _ _ hmm hd;simp only[St.get,Nz,a08]at b1;subst b1;exact b2
 have G5:∀o',dL M (.h r) (.obj r1 o') (.h r)=some (.obj r1 o'):=fun o'=>by simp[dL]
 split at h
 .rename_i j hf;split at h
  case h_2=>simp at h
  rename_i old v0 hj;split at h
  case h_2=>simp at h
  rename_i ov hov;split at h
  case isFalse=>simp at h
  rename_i Xo;simp only[a08,a1d]at h;obtain⟨rfl,rfl,rfl⟩:=h;have hd:=hD (.h r) (by simp[qm]);obtain⟨xs,g1,g2⟩:=go hd;obtain⟨c1,r',c2,c3⟩:=Ig hf g2;cases r' with
  |none=>exact c3.elim
  |some jv=>
   obtain⟨i,v'⟩:=jv;obtain⟨q1,e',x',e1,e2,rfl,q2,q3⟩:=c3;rw[hj]at e1;cases e1;have hold:x'.key=ov:=xg hov q2;have hle:tY M (dL M (.h r) (.obj r1 o1)):=lW fun l0 h0=>by have h0':M (.h r)=some l0:=h0;have RJ:M (.h r)=some (.obj r1 o1):=hmm;rw[RJ]at h0';cases h0';exact .refl _
   have Gv:=g2.upd (f:=fun e=>{ e with key:=kv }) hle.h q1 e2 rfl (hk.mono hle.h) (q3.mono hle.h);obtain⟨v1,v2⟩:=zM hV hmm hd Nz g1 (agb _) Gv;refine⟨rfl,.tuple #[x'.val,Go.goInt i],_,_,?_,.ent (G5 _) q1 (q3.mono hle.h),v1,v2,vI _⟩;simp only[Instr.mapEntry,Sem.run_bind,run_underlying hu,Result.andThen_ok,getObj,Sem.run,g1];simp only[c0,c2 w,Result.andThen_ok,e2,a1l,a5K,Instr.keyThatStays,hold,Xo,a2l,setObj,(g2.at_ i x' e2).1];simp only[Sem.run_bind,Sem.run_pure,Result.andThen_ok,Sem.run,g1,Array.size_modify]
 .rename_i hf;split at h
  case h_2=>simp at h
  rename_i inf hi;split at h
  case h_2=>simp at h
  rename_i z hz;split at h
  case h_2=>simp at h
  rename_i zt hzt;simp only[a08,a1d]at h;obtain⟨rfl,rfl,rfl⟩:=h;have hd:=hD (.h r) (by simp[qm]);obtain⟨xs,g1,g2⟩:=go hd;obtain⟨c1,r',c2,c3⟩:=Ig hf g2;have hzr:(zeroValue et).run P w=.ok z w:=by simp[zeroValue,jr hi,hz]
  cases r' with
  |some jv=>exact c3.elim
  |none=>
   have FH:o1 <+: o1++[es.length]:=⟨_,rfl⟩;have hle:tY M (dL M (.h r) (.obj r1 (o1++[es.length]))):=lW fun l0 h0=>by have h0':M (.h r)=some l0:=h0;have RJ:M (.h r)=some (.obj r1 o1):=hmm;rw[RJ]at h0';cases h0';exact⟨rfl,FH⟩
   have Gv:=g2.push hle.h (hk.mono hle.h) (.zn hzt);obtain⟨v1,v2⟩:=zM hV hmm hd Nz g1 FH Gv;refine⟨rfl,.tuple #[z,Go.goInt xs.size],_,_,?_,.ent (G5 _) (by rw[a1p (by rw[g2.ord];omega),g2.ord];simp) (.zn hzt),v1,v2,vI _⟩;simp only[Instr.mapEntry,Sem.run_bind,run_underlying hu,Result.andThen_ok,getObj,Sem.run,g1];simp only[c0,c2 w,hzr,Result.andThen_ok,setObj,Sem.run,g1,Array.size_push,Sem.run_bind,Sem.run_pure]
 .simp at h
theorem a6i{t m k e s1 i mv kv}(hV:Valid M D s.get w)(h:Du P t s m k=some (e,s1,i))(hm:VR M.h m mv)(hk:VR M.h k kv)(hD:∀j∈i.ts,D j):s1.env=s.env/\∃x w' M',(Instr.mapEntry t mv kv).run P w=.ok x w'/\ER M' e x /\Valid M' (fun j=>D j\/(s.get j=none/\(s1.get j).isSome=true)) s1.get w'/\Ext M s.get w M' s1.get w' i.ws/\(∀k l,M (.l k)=some l->M' (.l k)=some l):=by
 unfold Du at h;split at h
 .rename_i h0;split at h
  .cases h;exact a3K hV h0 hm hk hD
  .cases h
 .cases h
theorem V7{xs:Array MapEntry}{i}(h:∀(a:Nat) (x),xs[a]? = some x->x.born=a)(hi:i<xs.size):xs.findIdx? (fun e=>(e.born:Int)==(i:Int))=some i:=by
 rw[Array.findIdx?_eq_some_iff_getElem];refine⟨hi,?_,fun j hj=>?_⟩
 .have:=h i _ (a4j hi);simp[this]
 have:=h j _ (a4j (Nat.lt_trans hj hi));simp[this];omega
theorem a3L{t m v e s1 i mv ev vv}(hV:Valid M D s.get w)(h:I7 s m e v=some (s1,i))(hm:VR M.h m mv)(he:ER M e ev)(hv:VR M.h v vv)(hD:∀j∈i.ts,D j):s1.env=s.env/\∃w' M',(Instr.entryStore t mv ev vv).run P w=.ok () w' /\Valid M' (fun j=>D j\/(s.get j=none/\(s1.get j).isSome=true)) s1.get w'/\Ext M s.get w M' s1.get w' i.ws/\(∀k l,M (.l k)=some l->M' (.l k)=some l):=by
 unfold I7 at h;split at h
 case h_2=>simp at h
 rename_i r r' j;split at h
 case isFalse=>simp at h
 rename_i hrr;subst hrr;split at h
 case h_2=>simp at h
 rename_i es Nz;split at h
 case h_2=>simp at h
 rename_i k v0 hj;simp only[a08,a1d]at h;obtain⟨rfl,rfl⟩:=h;cases hm with
 |map hmm=>
 rename_i r1 o1;cases he with
 |Fz h1 q1=>
 rename_i r2 i o2;have RJ:M (.h r)=some (.obj r1 o1):=hmm;rw[RJ]at h1;cases h1;have hd:=hD (.h r) (by simp[qm]);obtain⟨gW,b1,b2⟩:=hV.ok _ _ hmm hd;simp only[St.get,Nz,a08]at b1;subst b1;obtain⟨xs,g1,g2⟩:=b2;have aS:i<xs.size:=by rw[<-g2.ord];exact(a0u.1 q1).1
 obtain⟨z1,j2,e2',z2,z3,z4,z5⟩:=g2.at_ i _ (a4j aS);rw[q1]at z2;cases z2;rw[hj]at z3;cases z3;have hle:tY M (dL M (.h r) (.obj r1 o1)):=lW fun l0 h0=>by have h0':M (.h r)=some l0:=h0;rw[RJ]at h0';cases h0';exact .refl _
 have Gv:=g2.upd (f:=fun e=>{ e with val:=vv }) hle.h q1 (a4j aS) rfl (z4.mono hle.h) (hv.mono hle.h);obtain⟨v1,v2⟩:=zM hV hmm hd Nz g1 (agb _) Gv;refine⟨rfl,_,_,?_,v1,v2,fun k l h=>by simp[dL,h]⟩;have hf:=V7 (fun a x hx=>(g2.at_ a x hx).1) aS;simp only[Instr.entryStore,Sem.run_bind,Result.andThen_ok,getObj,Sem.run,g1,asInt,asIntOf,Go.goInt,hf,setObj];simp only[Sem.run_bind,Sem.run_pure,Result.andThen_ok,Sem.run,hf,g1,Array.size_modify]
end
def Ih(M:Mp)(env:List (Nat×EV))(a:Act)(X:Array Operand):Prop:=∀x∈X,∀e,JD env x=some e->ER M e (a.eval x)
theorem kR.on{M env a}(hE:kR M env a.tmps)(X):Ih M env a X:=fun _ _ _ he=>a5V hE he
section
variable{M:Mp}{env:List (Nat×EV)}{a:Act}{X:Array Operand}
theorem qw(hE:Ih M env a X){x}(hx:x∈X){e}(h:JD env x=some e):ER M e (a.eval x):=hE x hx e h
theorem iJ(hE:Ih M env a X){x}(hx:x∈X){v}(h:rO env x=some v):VR M.h v (a.eval x):=by
 unfold rO at h;split at h
 .rename_i v' he;simp at h;subst h;exact(qw hE hx he).uU
 simp at h
theorem Ii(hE:Ih M env a X):∀{xs} {vs},(∀x∈xs,x∈X)->UK env xs=some vs->bZ M.h vs (xs.map a.eval)
 | [],vs,_,h=>by simp[UK]at h;subst h;exact .nil
 |x::xs,vs,hx,h=>by
  simp only[UK]at h;split at h
  .rename_i v vs' h1 h2;simp at h;subst h;exact .cons (iJ hE (hx x (by simp)) h1) (Ii hE (fun y hy=>hx y (by simp[hy])) h2)
  simp at h
theorem V8(hE:Ih M env a X):∀{xs:List (Nat×Operand)} {vs:List (Nat×TV)},(∀p∈xs,p.2∈X)->Xa env xs=some vs ->PR M.h vs (xs.map fun(i,x)=>(i,a.eval x))
 | [],vs,_,h=>by simp[Xa]at h;subst h;exact .nil
 |(i,x)::xs,vs,hx,h=>by
  simp only[Xa]at h;split at h
  .rename_i v vs' h1 h2;simp at h;subst h;exact .cons (iJ hE (hx (i,x) (by simp)) h1) (V8 hE (fun y hy=>hx y (by simp[hy])) h2)
  .simp at h
theorem Ij(hE:Ih M env a X){o}(hx:∀x,o=some x->x∈X){v}(h:Xc env o=some v):OR M.h v (o.map a.eval):=by
 unfold Xc at h;split at h
 .simp at h;subst h;exact .none
 rename_i x;split at h
 .rename_i v' hv;simp at h;subst h;exact .some (iJ hE (hx x rfl) hv)
 simp at h
end
section
variable{P:LI1}{M:Mp}{D:Key->Prop}{w:LI4}{s:St}
def Ik:Op->Bool
 |.call { callee:=.value _,.. }=>true
 |_=>false
theorem I9.nG{C c v S}(hV:Valid M D C w)(hc:c=(do pure (.value (<-S))))(h:∃z,VR M.h v z/\S.run P w=.ok z w):I9 P M D C w c (.val v) C []:=by obtain⟨z,h1,h2⟩:=h;exact .same hV (by rw[hc];simp[h2]) (.val h1)
theorem I9.OU{C c v S}(hV:Valid M D C w)(hc:c=(do pure (.value (<-S))))(h:∃z,ER M v z/\S.run P w=.ok z w):I9 P M D C w c v C []:=by obtain⟨z,h1,h2⟩:=h;exact .same hV (by rw[hc];simp[h2]) h1
theorem I9.ajw{C c v S C1 ws}(hc:c=(do pure (.value (<-S))))(h:BOk P M D C w S v C1 ws):I9 P M D C w c (.val v) C1 ws:=by obtain⟨x,w',M',h1,h2⟩:=h;exact⟨x,w',M',.inl (by rw[hc];simp[h1]),h2⟩
theorem I9.afo{C c S C1 ws}(hc:c=(do S;pure .skip))(h:∃w' M',S.run P w=.ok () w'/\Valid M' (fun j=>D j\/(C j=none/\(C1 j).isSome=true)) C1 w'/\Ext M C w M' C1 w' ws/\(∀k l,M (.l k)=some l->M' (.l k)=some l)):I9 P M D C w c .undef C1 ws:=by obtain⟨w',M',h1,h2,h3,h4⟩:=h;exact⟨Go.undef,w',M',.inr ⟨rfl,by rw[hc];simp[h1]⟩,⟨h2,h3,.undef,h4⟩⟩
theorem I9.apQ{C c S C1 ws}(hc:c=(do S;pure .skip))(h:∃w',S.run P w=.ok () w'/\Valid M (fun j=>D j\/(C j=none/\(C1 j).isSome=true)) C1 w'/\Ext M C w M C1 w' ws):I9 P M D C w c .undef C1 ws:=by obtain⟨w',h1,h2,h3⟩:=h;exact⟨Go.undef,w',M,.inr ⟨rfl,by rw[hc];simp[h1]⟩,⟨h2,h3,.undef,fun _ _ h=>h⟩⟩
theorem ZW{b at_ t cs az xs v s1 i}(hV:Valid M D s.get w)(zK:M (.h s.heap.length)=none)(h:rV P b at_ t s az=some (v,s1,i)) (hx:bZ M.h az xs) (hD:∀k∈i.ts,D k):s1.env=s.env/\I9 P M D s.get w (builtin b at_ t cs xs.toArray) (.val v) s1.get i.ws:=by
 unfold rV at h;split at h
 .simp only[a0x,a1d]at h;obtain⟨⟨v',i'⟩,h1,rfl,rfl,rfl⟩:=h;obtain⟨x,xs',rfl,hx1,hx2⟩:=hx.iE;have:=hx2.oV;subst this;obtain⟨e1,e2⟩:=ZQ (t:=t) hV h1 hx1 hD;refine⟨rfl,?_⟩;simp only;rw[e1];exact .nG hV rfl e2
 .obtain⟨x,xs',rfl,hx1,hx2⟩:=hx.iE;obtain⟨y,ys',rfl,hy1,hy2⟩:=hx2.iE;have:=hy2.oV;subst this;obtain⟨e1,e2⟩:=JV (ty:=t) hV zK h hx1 hy1 hD;exact⟨e1,.ajw rfl e2⟩
 .obtain⟨x,xs',rfl,hx1,hx2⟩:=hx.iE;obtain⟨y,ys',rfl,hy1,hy2⟩:=hx2.iE;have:=hy2.oV;subst this;obtain⟨e1,e2⟩:=V6 (ty:=t) hV h hx1 hy1 hD;exact⟨e1,.ajw rfl e2⟩
 .simp only[a0x,a1d]at h;obtain⟨v',h1,rfl,rfl,rfl⟩:=h;exact⟨rfl,.nG hV rfl (zL h1 hx)⟩
 .simp only[a0x,a1d]at h;obtain⟨v',h1,rfl,rfl,rfl⟩:=h;exact⟨rfl,.nG hV rfl (zL h1 hx)⟩
 .simp at h
theorem ajx{call site o a v s1 i}(hV:Valid M D s.get w)(hE:Ih M s.env a o.op.operands)(zK:M (.h s.heap.length)=none)(hnl:M (.l s.loc.length)=none)(h:qo P call site s o=some (v,s1,i)) (hc:Ik o.op=false) (hD:∀k∈i.ts,D k):s1.env=s.env/\I9 P M D s.get w (execOp a.eval o) v s1.get i.ws:=by
 unfold qo at h;unfold execOp;split at h
 .
  rename_i x ho;rw[ho];simp only[a0x,a1d]at h;obtain⟨e,he,rfl,rfl,rfl⟩:=h;exact⟨rfl,.same hV rfl (qw hE (by simp[ho,Op.operands]) he)⟩
 .rename_i x ho;rw[ho];simp only[a0x,a1d]at h;obtain⟨e,he,rfl,rfl,rfl⟩:=h;exact⟨rfl,.same hV rfl (qw hE (by simp[ho,Op.operands]) he)⟩
 .
  rename_i c x y ho;rw[ho];split at h
  .rename_i t ht;simp only[a0x,a1d]at h;obtain⟨e,he,rfl,rfl,rfl⟩:=h;have hb:=iJ hE (by simp[ho,Op.operands]) ht;have rG:a.eval c=.bool t:=by cases rG:a.eval c<;>rw[rG]at hb<;>cases hb;rfl
   have:=qw hE (by cases t<;>simp[ho,Op.operands]) he;refine⟨rfl,.same hV (x:=a.eval (if t then x else y)) ?_ this⟩;simp only[Sem.run_bind,rG,asBool,Sem.run_pure,Result.andThen_ok];cases t<;>rfl
  .simp at h
 .
  rename_i e ho;rw[ho];simp only[a0x]at h;obtain⟨z,hz,h⟩:=h;obtain⟨i',x,v',_,_,_,_,hz1,hvr,hzr⟩:=xq hz;simp only[a1d]at h;obtain⟨rfl,rfl,rfl⟩:=h;obtain⟨M',hp⟩:=a5W hV zK hnl (site (o.dst.getD 0)) e (hvr M.h) hz1 rfl;refine⟨by unfold rP;split<;>rfl,_,_,M',.inl ?_,hp⟩;simp[Instr.alloc,hzr w,newVar,newRow]
 .
  rename_i t x ho;rw[ho];split at h
  .rename_i v0 hv0;split at h
   .rename_i vW;simp only[a08,a1d]at h;obtain⟨rfl,rfl,rfl⟩:=h;obtain⟨M',hp⟩:=a5W hV zK hnl (site (o.dst.getD 0)) t (iJ hE (by simp[ho,Op.operands]) hv0).cells (Ny vW) rfl;refine⟨by unfold rP;split<;>rfl,_,_,M',.inl ?_,hp⟩;simp[Instr.box,newVar,newRow]
   .simp at h
  .simp at h
 .
  rename_i t ps ho;rw[ho];split at h
  .rename_i qs hq;simp only[a0x,a1d]at h;obtain⟨v0,hb,rfl,rfl,rfl⟩:=h;obtain⟨x,h1,h2⟩:=a5Y hb (V8 hE (fun p hp=>by simp[ho,Op.operands];exact⟨p.1,by simpa using hp⟩) hq);refine⟨rfl,.nG hV rfl ⟨x,h1,?_⟩⟩;have:=h2 w
   rwa [show(List.map (fun x=>(x.1,a.eval x.2)) ps.toList).toArray=ps.map (fun x=>(x.1,a.eval x.2))from by apply aeO;simp]at this
  .simp at h
 .
  rename_i t len ps ho;rw[ho];split at h
  .rename_i qs hq;simp only[a0x,a1d]at h;obtain⟨⟨v0,s0⟩,hb,rfl,rfl,rfl⟩:=h;obtain⟨e1,x,w',M',h1,h2⟩:=uV hV zK hb (V8 hE (fun p hp=>by simp[ho,Op.operands];exact⟨p.1,by simpa using hp⟩) hq);refine⟨e1,x,w',M',.inl ?_,h2⟩;rw[show(List.map (fun x=>(x.1,a.eval x.2)) ps.toList).toArray=ps.map (fun x=>(x.1,a.eval x.2))from by apply aeO;simp]at h1;simp[h1]
  .simp at h
 .
  rename_i t x ho;rw[ho];split at h
  .rename_i e he;simp only[a0x,a1d]at h;obtain⟨⟨v0,i0⟩,hl,rfl,rfl,rfl⟩:=h;obtain⟨e1,e2⟩:=Ia hV hl (qw hE (by simp[ho,Op.operands]) he) hD;refine⟨rfl,?_⟩;simp only;rw[e1];exact .nG hV rfl e2
  .simp at h
 .
  rename_i t x y ho;rw[ho];split at h
  .rename_i e v0 he hv0;simp only[a0x,a1d]at h;obtain⟨⟨s0,i0⟩,hl,rfl,rfl,rfl⟩:=h;obtain⟨e1,w',e2,e3,e4,e5⟩:=ZM hV hl (qw hE (by simp[ho,Op.operands]) he) (iJ hE (by simp[ho,Op.operands]) hv0) hD;exact⟨e1,.apQ rfl ⟨w',e2,e3.widen e5,e4⟩⟩
  .simp at h
 .
  rename_i x ho;rw[ho];split at h
  .rename_i k off he;simp only[a08,a1d]at h;obtain⟨rfl,rfl,rfl⟩:=h;have hx:=qw hE (by simp[ho,Op.operands]) he;refine⟨rfl,.same hV (x:=a.eval x) ?_ hx⟩;cases hxe:a.eval x<;>rw[hxe]at hx<;>cases hx
   simp[hxe]
  .rename_i b off lim he;simp only[a08,a1d]at h;obtain⟨rfl,rfl,rfl⟩:=h;have hx:=qw hE (by simp[ho,Op.operands]) he;refine⟨rfl,.same hV (x:=a.eval x) ?_ hx⟩;have Gv:=hx.uU;cases hxe:a.eval x<;>rw[hxe]at Gv<;>cases Gv
   simp[hxe]
  .rename_i f b c he;simp only[a08,a1d]at h;obtain⟨rfl,rfl,rfl⟩:=h;have hx:=qw hE (by simp[ho,Op.operands]) he;refine⟨rfl,.same hV (x:=a.eval x) ?_ hx⟩;have Gv:=hx.uU;cases hxe:a.eval x<;>rw[hxe]at Gv<;>cases Gv
   simp[hxe]
  .rename_i l he;simp only[a08,a1d]at h;obtain⟨rfl,rfl,rfl⟩:=h;have hx:=qw hE (by simp[ho,Op.operands]) he;refine⟨rfl,.same hV (x:=a.eval x) ?_ hx⟩;have Gv:=hx.uU;cases hxe:a.eval x<;>rw[hxe]at Gv<;>cases Gv
   simp[hxe]
  .simp at h
 .
  rename_i op t x y t' ho;rw[ho];split at h
  .rename_i u v0 hu hv;simp only[a0x,a1d]at h;obtain⟨r,hb,rfl,rfl,rfl⟩:=h;exact⟨rfl,.nG hV rfl (ZN hb (iJ hE (by simp[ho,Op.operands]) hu) (iJ hE (by simp[ho,Op.operands]) hv))⟩
  .simp at h
 .
  rename_i op t x ho;rw[ho];split at h
  .rename_i u hu;simp only[a0x,a1d]at h;obtain⟨r,hb,rfl,rfl,rfl⟩:=h;exact⟨rfl,.nG hV rfl (jq hb (iJ hE (by simp[ho,Op.operands]) hu))⟩
  .simp at h
 .
  rename_i t t' x ho;rw[ho];split at h
  .rename_i u hu;simp only[a0x,a1d]at h;obtain⟨r,hb,rfl,rfl,rfl⟩:=h;exact⟨rfl,.nG hV rfl (UZ hb (iJ hE (by simp[ho,Op.operands]) hu))⟩
  .simp at h
 .
  rename_i f az bs ho;rw[ho];split at h
  .rename_i us vs hu hv;simp only[a08,a1d]at h;obtain⟨rfl,rfl,rfl⟩:=h;have h1:=Ii hE (fun x hx=>by simp[ho,Op.operands];exact .inl (by simpa using hx)) hu;have h2:=Ii hE (fun x hx=>by simp[ho,Op.operands];exact .inr (by simpa using hx)) hv;refine⟨rfl,.nG hV rfl ⟨.func (.func f) (az.map a.eval) (bs.map a.eval),?_,rfl⟩⟩;have:=VR.fn (f:=f) h1.len h1.at_ h2.len h2.at_
   rwa [show(List.map a.eval az.toList).toArray=az.map a.eval from by apply aeO;simp,show(List.map a.eval bs.toList).toArray=bs.map a.eval from by apply aeO;simp]at this
  .simp at h
 .
  rename_i t r ho;rw[ho];have zA:s.get (.h s.heap.length)=none:=by simp[St.get]
  have hle:tY M (dL M (.h s.heap.length) (.obj w.heap.size [])):=lW fun l0 h0=>by rw[zK]at h0;cases h0
  have fV:∀c,c<w.heap.size->c∉aJ (.obj w.heap.size [])->(w.alloc (.map #[] 0)).heap[c]? = w.heap[c]?:=fun c hc _=>vC w _ c hc;have gJ:∀c∈aJ (.obj w.heap.size []),(∃l0,M (.h s.heap.length)=some l0/\c∈aJ l0)\/w.heap.size<=c:=fun c hc=>.inr (by simp[aJ]at hc;omega);have key:Oz M D s.get w (.val (.map s.heap.length)) (St.get { s with heap:=s.heap++[.map []] }) [] (.map (some w.heap.size)) (w.alloc (.map #[] 0)) (dL M (.h s.heap.length) (.obj w.heap.size [])):=by
   refine⟨?_,?_,.val (.map (o:=[]) (by simp[Mp.h,dL])),rX zK⟩
   .rw[l9];refine hV.upd _ _ _ (fun j hj=>?_) (fun l0 h0=>by rw[zK]at h0;cases h0) fV gJ (by simp) ⟨#[],heap_alloc_new w _,rfl,rfl,.nil,by simp,by simp⟩;rcases hj with hj|⟨x1,x2⟩
    .exact .inl hj
    .right;unfold mY at x2;split at x2
     .assumption
     .simp[x1]at x2
   .rw[l9];exact Ext.upd _ _ _ [] (.inr ⟨zA,zK,rfl⟩) hle fV gJ (by simp) rfl rfl rfl
  split at h
  .rename_i _ hr;simp only[a08,a1d]at h;obtain⟨rfl,rfl,rfl⟩:=h;have:=Ij hE (fun x hx=>by simp[ho,Op.operands,hx]) hr;refine⟨rfl,_,_,_,.inl ?_,key⟩;cases hrr:r.map a.eval with
   |none=>simp[hrr,Instr.makeMap]
   |some y=>rw[hrr]at this;cases this
  .rename_i k n _ _ hr hu;simp only[a08,a1d]at h;obtain⟨rfl,rfl,rfl⟩:=h;have:=Ij hE (fun x hx=>by simp[ho,Op.operands,hx]) hr;refine⟨rfl,_,_,_,.inl ?_,key⟩;cases hrr:r.map a.eval with
   |none=>rw[hrr]at this;cases this
   |some y=>
    rw[hrr]at this;cases this with
    |some hy=>
     cases hy;simp[hrr,Instr.makeMap,run_underlying hu,asInt,asIntOf]
  .simp at h
 .
  rename_i t l c ho;rw[ho];split at h
  .rename_i u v0 hu hv;simp only[a0x,a1d]at h;obtain⟨⟨r,s0⟩,hb,rfl,rfl,rfl⟩:=h;obtain⟨e1,z,w',M',e2,e3⟩:=Bf hV zK hb (iJ hE (by simp[ho,Op.operands]) hu) (iJ hE (by simp[ho,Op.operands]) hv);exact⟨e1,z,w',M',.inl (by simp[e2]),e3⟩
  .simp at h
 .
  rename_i t x lo hi mx ho;rw[ho];split at h
  .rename_i e ZO wC mx' he Il hhi hmx;have h1:=Ij hE (fun x hx=>by simp[ho,Op.operands,hx]) Il;have h2:=Ij hE (fun x hx=>by simp[ho,Op.operands,hx]) hhi;have h3:=Ij hE (fun x hx=>by simp[ho,Op.operands,hx]) hmx;split at h
   .simp only[a0x,a1d]at h;obtain⟨r,hb,rfl,rfl,rfl⟩:=h;exact⟨rfl,.nG hV rfl (Dz hb (qw hE (by simp[ho,Op.operands]) he) h1 h2 h3)⟩
   .simp only[a0x,a1d]at h;obtain⟨r,hb,rfl,rfl,rfl⟩:=h;exact⟨rfl,.nG hV rfl (OH hb (qw hE (by simp[ho,Op.operands]) he).uU h1 h2 h3)⟩
   .simp at h
  .simp at h
 .
  rename_i t x f ho;rw[ho];split at h
  .rename_i e n he hn;simp only[a0x,a1d]at h;obtain⟨r,hb,rfl,rfl,rfl⟩:=h;exact⟨rfl,.OU hV rfl (UY hn hb (qw hE (by simp[ho,Op.operands]) he))⟩
  .simp at h
 .
  rename_i t x f ho;rw[ho];split at h
  .rename_i u hu;simp only[a0x,a1d]at h;obtain⟨r,hb,rfl,rfl,rfl⟩:=h;exact⟨rfl,.nG hV rfl (OE hb (iJ hE (by simp[ho,Op.operands]) hu))⟩
  .simp at h
 .
  rename_i t x y ho;rw[ho];split at h
  .rename_i e u he hu;simp only[a0x,a1d]at h;obtain⟨r,hb,rfl,rfl,rfl⟩:=h;exact⟨rfl,.OU hV rfl (Bc hb (qw hE (by simp[ho,Op.operands]) he) (iJ hE (by simp[ho,Op.operands]) hu))⟩
  .simp at h
 .
  rename_i t x y ho;rw[ho];split at h
  .rename_i u v0 hu hv;simp only[a0x,a1d]at h;obtain⟨r,hb,rfl,rfl,rfl⟩:=h;exact⟨rfl,.nG hV rfl (OG hb (iJ hE (by simp[ho,Op.operands]) hu) (iJ hE (by simp[ho,Op.operands]) hv))⟩
  .simp at h
 .
  rename_i t m k ok ho;rw[ho];split at h
  .rename_i u v0 hu hv;simp only[a0x,a1d]at h;obtain⟨r,hb,rfl,rfl,rfl⟩:=h;exact⟨rfl,.nG hV rfl (EK hV hb (iJ hE (by simp[ho,Op.operands]) hu) (iJ hE (by simp[ho,Op.operands]) hv) hD)⟩
  .simp at h
 .
  rename_i t m k x ho;rw[ho];split at h
  .rename_i u v0 y hu hv hy;simp only[a0x,a1d]at h;obtain⟨⟨s0,i0⟩,hb,rfl,rfl,rfl⟩:=h;obtain⟨e1,e2⟩:=Tc hV hb (iJ hE (by simp[ho,Op.operands]) hu) (iJ hE (by simp[ho,Op.operands]) hv) (iJ hE (by simp[ho,Op.operands]) hy) hD;exact⟨e1,.afo rfl e2⟩
  .simp at h
 .
  rename_i t m k x ho;rw[ho];split at h
  .rename_i u v0 y hu hv hy;simp only[a0x,a1d]at h;obtain⟨⟨s0,i0⟩,hb,rfl,rfl,rfl⟩:=h;obtain⟨e1,e2⟩:=Tc hV hb (iJ hE (by simp[ho,Op.operands]) hu) (iJ hE (by simp[ho,Op.operands]) hv) (iJ hE (by simp[ho,Op.operands]) hy) hD;exact⟨e1,.afo rfl e2⟩
  .simp at h
 .
  rename_i t m k ho;rw[ho];split at h
  .rename_i u v0 hu hv;obtain⟨e1,z,w',M',h1,h2,h3,h4,h5⟩:=a6i hV h (iJ hE (by simp[ho,Op.operands]) hu) (iJ hE (by simp[ho,Op.operands]) hv) hD;exact⟨e1,z,w',M',.inl (by show(do pure (.value (<-Instr.mapEntry t _ _)):Sem Next).run P w=_;simp[h1]),h3,h4,h2,h5⟩
  .simp at h
 .
  rename_i t m k x ho;rw[ho];split at h
  .rename_i u v0 y hu hv hy;simp only[a0x,a1d]at h;obtain⟨⟨s0,i0⟩,hb,rfl,rfl,rfl⟩:=h;obtain⟨e1,e2⟩:=a3L (t:=t) hV hb (iJ hE (by simp[ho,Op.operands]) hu) (qw hE (by simp[ho,Op.operands]) hv) (iJ hE (by simp[ho,Op.operands]) hy) hD;exact⟨e1,.afo rfl e2⟩
  .simp at h
 .
  rename_i x n ho;rw[ho];split at h
  .rename_i e he;simp only[a0x,a1d]at h;obtain⟨r,hb,rfl,rfl,rfl⟩:=h;have hx:=qw hE (by simp[ho,Op.operands]) he;refine⟨rfl,.OU hV rfl ?_⟩;generalize a.eval x=xv at hx;unfold zH at hb;split at hb
   .simp only[a0x]at hb;obtain⟨y0,hb,rfl⟩:=hb;cases hx with
    |val hx=>
     cases hx with
     |dB g1 g2=>
      obtain⟨y,y1,y2⟩:=(bZ.mk g1 g2).get hb;exact⟨y,.val y2,by simp[Instr.extract,y1]⟩
   .cases hx with
    |ent q1 q2 q3=>
     split at hb<;>cases hb
     .exact⟨_,.val q3,by simp[Instr.extract]⟩
     .exact⟨_,.Fz q1 q2,by simp[Instr.extract]⟩
   .cases hb
  .simp at h
 .
  rename_i c ho;rw[ho]at hc ⊢;unfold Oq at h;split at h
  .rename_i b az hb has;simp only[a0x,a1d]at h;obtain⟨⟨v0,s0,i0⟩,rG,rfl,rfl,rfl⟩:=h;obtain⟨e1,e2⟩:=ZW (cs:=c.args.map fun|.const _=>true|_=>false) hV zK rG (Ii hE (fun x hx=>by simp[ho,Op.operands,Call.operands,hb];simpa using hx) has) hD;refine⟨e1,?_⟩;obtain⟨x,w',M',r1,r2⟩:=e2;refine⟨x,w',M',?_,r2⟩;rw[show(List.map a.eval c.args.toList).toArray=c.args.map a.eval from by apply aeO;simp]at r1;unfold ajk at r1 ⊢;simp only[resolve,hb,Sem.run_bind,Sem.run_pure,Result.andThen_ok,invoke];exact r1
  .rename_i f az hf has;obtain⟨callee,args,ats⟩:=c;simp only at hf;subst hf;simp[Ik]at hc
  .simp at h
 .
  rename_i t x ho;rw[ho];split at h
  .rename_i r k el hv hu;split at h
   .rename_i es Nz;simp only[a08,a1d]at h;obtain⟨rfl,rfl,rfl⟩:=h;have hx:=iJ hE (by simp[ho,Op.operands]) hv;refine⟨rfl,?_⟩;generalize hxv:a.eval x=xv at hx;cases hx with
    |map hm=>
    rename_i r1 o1;obtain⟨gW,b1,b2⟩:=hV.ok _ _ hm (hD (.h r) (by simp[yx]));simp only[St.get,Nz,a08]at b1;subst b1;obtain⟨xs,g1,g2⟩:=b2;have zA:s.get (.h s.heap.length)=none:=(by simp[St.get]);have hrl:r<s.heap.length:=(a0u.1 Nz).1;have hle:tY M (dL M (.h s.heap.length) (.obj w.heap.size [])):=lW fun l0 h0=>by rw[zK]at h0;cases h0
    have fV:∀c,c<w.heap.size->c∉aJ (.obj w.heap.size [])->(w.alloc (.mapIter (some r1) xs.size #[] xs.size)).heap[c]? = w.heap[c]?:=fun c hc _=>vC w _ c hc;have gJ:∀c∈aJ (.obj w.heap.size []),(∃l0,M (.h s.heap.length)=some l0/\c∈aJ l0)\/w.heap.size<=c:=fun c hc=>.inr (by simp[aJ]at hc;omega);refine⟨.pointer (some ⟨w.heap.size,0,none⟩),w.alloc (.mapIter (some r1) xs.size #[] xs.size),dL M (.h s.heap.length) (.obj w.heap.size []),.inl ?_,?_,?_,.val (.iter (o:=[]) (by simp[Mp.h,dL])),rX zK⟩
    .simp[hxv,Instr.range,run_underlying hu,getObj,Sem.run,g1,newObj]
    .rw[l9];refine hV.upd _ _ _ (fun j hj=>?_) (fun l0 h0=>by rw[zK]at h0;cases h0) fV gJ (by simp) ⟨r1,o1,#[],?_,?_,?_,rfl⟩
     .rcases hj with hj|⟨x1,x2⟩
      .exact .inl hj
      .right;unfold mY at x2;split at x2
       .assumption
       .simp[x1]at x2
     .have:(Key.h r)≠.h s.heap.length:=fun e=>by cases e;omega
      simp only[Mp.h,dL,a0S this];exact hm
     .rw[g2.len];exact heap_alloc_new w _
     .rw[g2.len,g2.ord];exact a1j _
    .rw[l9];exact Ext.upd _ _ _ [] (.inr ⟨zA,zK,rfl⟩) hle fV gJ (by simp) rfl rfl rfl
   .simp at h
  .simp at h
 .
  rename_i x ho;rw[ho];split at h
  .rename_i b hv;split at h
   .rename_i r n i seen hb;split at h
    .rename_i es Nz;split at h
     case isFalse=>simp at h
     rename_i hn;simp only[a0x,a1d]at h;obtain⟨e,he,rfl,rfl,rfl⟩:=h;have hx:=iJ hE (by simp[ho,Op.operands]) hv;refine⟨rfl,.nG hV rfl ?_⟩;generalize a.eval x=xv at hx;cases hx with
     |iter hm=>
     rename_i b1 o1;obtain⟨gW,c1,c2⟩:=hV.ok _ _ hm (hD (.h b) (by simp[gu]));simp only[St.get,hb,a08]at c1;subst c1;obtain⟨r1,o,sa,d1,d2,d3,d4⟩:=c2;obtain⟨gW,c1,c2⟩:=hV.ok (.h r) _ d1 (hD (.h r) (by simp[gu]));simp only[St.get,Nz,a08]at c1;subst c1;obtain⟨xs,g1,g2⟩:=c2;have iO:sa.toList≠[]:=fun e=>by rw[e]at d4;simp at d4
     obtain⟨k,hk⟩:∃k,sa.back? = some k/\o[k]? = some i:=by
      have h1:(sa.toList.map fun i=>o[i]?).getLast? = some (some i):=by rw[d4];simp
      rw[List.getLast?_map]at h1;simp only[a0x]at h1;obtain⟨k,h2,h3⟩:=h1;exact⟨k,by rw[<-Array.getLast?_toList];exact h2,h3⟩
     have kN:k<xs.size:=by rw[<-g2.ord];exact(a0u.1 hk.2).1
     obtain⟨q1,j,e',q2,q3,q4,q5⟩:=g2.at_ k _ (a4j kN);rw[hk.2]at q2;cases q2;rw[he]at q3;cases q3;refine⟨.tuple #[xs[k].key,xs[k].val],.RD (.cons q4 (.cons q5 .nil)),?_⟩;have hf:xs.find? (·.born==k)=some xs[k]:=by rw[<-Array.find?_toList];have:xs[k].born==k:=(by simpa using q1);rw[List.find?_eq_some_iff_getElem];refine⟨this,k,by simpa using kN,by simp,fun j hj=>?_⟩;have tX:j<xs.size:=(by omega);have:=(g2.at_ j _ (a4j tX)).1;simp only[Array.getElem_toList];rw[this];simp;omega
     have hc:xs.size=n:=by rw[<-g2.len];exact hn
     simp only[Instr.entry,getObj,Sem.run_bind,Sem.run,d2,g1,Result.andThen_ok,hk.1,hc,bne_self_eq_false,a2H,a3S,hf];rfl
    .simp at h
   .simp at h
  .simp at h
 .simp at h
end
abbrev lK(h:List HB):Ct:=St.get ⟨[],[],h,[]⟩
def Mp.only(M:Mp):Mp
 |.h b=>M (.h b)
 |.l _=>none
abbrev oC(r:Option Nat):Fence:={ Fence.wide with round:=r }
def JX(R:LI3->LI4->Prop):Ending->LI4->Prop
 |.returned v,w=>R v w
 |_,_=>False
def jF(M:Mp)(h:List HB)(w:LI4)(v:TV)(h':List HB)(ws:List Nat)(y:LI3)(w':LI4):Prop:=
 ∃M',Valid M' rW (lK h') w'/\(∀k,M' (.l k)=none)/\Ext M (lK h) w M' (lK h') w' (ws.map .h)/\VR M'.h v y
def EL(P:LI1)(d:Deferred)(w:LI4)(R:LI3->LI4->Prop):Prop:=
 ∃f az,(invoke d.target d.args).run P w=.ok (.enter f az) w/\∀n,CallsIn Fence.wide n P f az w (JX R)
def Io(P:LI1)(d:Deferred)(w:LI4)(R:LI3->LI4->Prop):Prop:=
 ∃l f tmps vV body,(invoke d.target d.args).run P w=.ok (.round l f tmps vV body) w/\∀n,RoundIn Fence.wide n P l f tmps vV body w (JX R)
def iQ(P:LI1)(call:dM):Prop:=
 ∀fv args h v h' ws,call fv args h=some (v,h',ws)->∀(M:Mp) (w:LI4) (x:LI3) (xs:List LI3),Valid M rW (lK h) w->(∀k,M (.l k)=none)->VR M.h fv x->bZ M.h args xs ->
  ∃d,(∀w,(Deferred.ofValue x xs.toArray).run P w=.ok d w)/\((EL P d w (jF M h w v h' ws)/\∃f a b,fv=.fn f a b)\/(Io P d w (jF M h w v h' ws)/\∃l,fv=.lJ l))
theorem CallsIn.ex{n P f az w R}(h:CallsIn Fence.wide n P f az w (JX R)):∃y w',R y w':=by
 obtain⟨e,w',fr,hR,_⟩:=h.2 [] (room_wide _);cases e with
 |returned v=>exact⟨v,w',hR⟩
 |panicked c=>exact hR.elim
 |outgrown=>exact hR.elim
theorem RoundIn.ex{n P l f tmps vV body w R}(h:RoundIn Fence.wide n P l f tmps vV body w (JX R)):∃y w',R y w':=by
 obtain⟨e,w',hR,_⟩:=h.2 default [] (room_wide _);cases e with
 |returned v=>exact⟨v,w',hR⟩
 |panicked c=>exact hR.elim
 |outgrown=>exact hR.elim
section
variable{P:LI1}{call:dM}
theorem iQ.ex(hC:iQ P call){fv args h v h' ws}(hc:call fv args h=some (v,h',ws)){M w x xs}(hV:Valid M rW (lK h) w) (hl:∀k,M (.l k)=none) (hx:VR M.h fv x) (Gz:bZ M.h args xs):∃y w',jF M h w v h' ws y w':=by
 obtain⟨d,_,h1|h1⟩:=hC _ _ _ _ _ _ hc M w x xs hV hl hx Gz
 .obtain⟨⟨f,az,_,h2⟩,_⟩:=h1;exact CallsIn.ex (h2 0)
 .obtain⟨⟨l,f,tmps,vV,body,_,h2⟩,_⟩:=h1;exact RoundIn.ex (h2 0)
def adf(M' M:Mp):Mp
 |.h b=>M' (.h b)
 |.l j=>M (.l j)
theorem GH{M D}{s:St}{w}(hV:Valid M D s.get w)(hh:∀b l,M (.h b)=some l->D (.h b)):Valid M.only rW (lK s.heap) w:=by
 refine⟨?_,?_,?_⟩
 .intro k l hk _;cases k with
  |l j=>cases hk
  |h b=>exact hV.ok (.h b) l hk (hh b l hk)
 .intro k k' l l' b iO hk oZ _ hc hw;cases k with
  |l j=>cases hk
  |h b=>
   cases k' with
   |l j=>cases oZ
   |h b'=>exact hV.own _ _ _ _ _ iO hk oZ (hh b l hk) hc hw
 intro k l hk;cases k with
 |l j=>cases hk
 |h b=>exact hV.inb _ _ hk
theorem Td{M D}{s:St}{w}(hV:Valid M D s.get w)(vI:∀j l,M (.l j)=some l->∀k' l',Key.l j≠k'->M k'=some l'->∀c∈aJ l,c∉aJ l'){v h' ws y w'} (hr:jF M.only s.heap w v h' ws y w') :∃M',Oz M D s.get w (.val v) (St.get { s with heap:=h' }) (ws.map .h) y w' M':=by
 obtain⟨M',ZU,hl',hX,hy⟩:=hr;have nR:∀(b j:Nat) (l l':Lc),M' (.h b)=some l->M (.l j)=some l'->∀c∈aJ l,c∉aJ l':=by intro b j l l' hb hj c hc RG;have aS:=hV.inb _ _ hj c RG;obtain⟨l0,h1,h2⟩:=hX.fresh _ _ hb c hc aS;exact vI j l' hj (.h b) l0 (by simp) h1 c RG h2
 refine⟨adf M' M,⟨⟨?_,?_,?_⟩,?_,.val hy,fun _ _ h=>h⟩⟩
 .intro k l hk hd;cases k with
  |h b=>exact ZU.ok (.h b) l hk trivial
  |l j=>
   rcases hd with hd|⟨h1,h2⟩
   .obtain⟨b0,h1,h2⟩:=hV.ok (.l j) l hk hd;refine⟨b0,h1,h2.mono (N:=M.h) (N':=(adf M' M).h) (hX.JE.h) fun c hc=>?_⟩;refine hX.frame c (hV.inb _ _ hk c hc) fun k' oZ l' hl' apT=>?_;obtain⟨b',_,rfl⟩:=a1u.1 oZ;exact vI j l hk (.h b') l' (by simp) hl' c hc apT
   .simp only[St.get]at h1 h2;rw[h1]at h2;cases h2
 .intro k k' l l' b0 iO hk oZ hd hc hw;cases k with
  |h b=>
   cases k' with
   |h b'=>exact ZU.own (.h b) (.h b') l l' b0 iO hk oZ trivial hc hw
   |l j=>exact nR b j l l' hk oZ
  |l j=>
   cases k' with
   |h b'=>exact fun c hc RG=>nR b' j l' l oZ hk c RG hc
   |l j'=>exact vI j l hk (.l j') l' iO oZ
 .intro k l hk c hc;cases k with
  |h b=>exact ZU.inb (.h b) l hk c hc
  |l j=>exact aa8 (hV.inb (.l j) l hk c hc) hX.size
 .exact
  {JE:=by
    intro k l hk;cases k with
    |h b=>exact hX.JE (.h b) l hk
    |l j=>exact⟨l,hk,.refl l⟩
   frame:=fun c hc hf=>hX.frame c hc fun k hk l hl=>by obtain⟨b',_,rfl⟩:=a1u.1 hk;exact hf _ hk l hl
   o8:=fun k hk hn=>by
    cases k with
    |h b=>exact hX.o8 (.h b) hk hn
    |l j=>rfl
   l7:=fun k hk hn=>by
    cases k with
    |h b=>exact hX.l7 (.h b) hk hn
    |l j=>rfl
   fresh:=fun k l hk c hc aS=>by
    cases k with
    |h b=>exact hX.fresh (.h b) l hk c hc aS
    |l j=>exact⟨l,hk,hc⟩
   size:=hX.size
   has:=fun k hk=>by
    cases k with
    |h b=>exact hX.has (.h b) hk
    |l j=>exact hk
   wsub:=fun k hk=>by obtain⟨b',_,rfl⟩:=a1u.1 hk;exact hX.wsub _ hk
   wrote:=fun k hk=>by obtain⟨b',_,rfl⟩:=a1u.1 hk;exact hX.wrote _ hk
   os:=hX.os
   output:=hX.output
   tape:=hX.tape }
theorem getEnv(s:St)(env ws):St.get { s with env:=env,ws:=ws }=s.get:=by funext k;cases k<;>rfl
theorem ZX(s:St)(d v):St.get (s.put d v)=s.get:=by funext k;cases d<;>cases k<;>rfl
theorem Valid.sub{M D D' C w}(hV:Valid M D C w)(h:∀k,D' k->D k):Valid M D' C w:=
 ⟨fun k l hk hd=>hV.ok k l hk (h k hd),fun k k' l l' b a1 a2 a3 hd=>hV.own k k' l l' b a1 a2 a3 (h k hd),hV.inb⟩
theorem a3M{site s o c}(h:o.op=.defer c):qo P call site s o=none:=by simp[qo,h]
def vJ(P:LI1)(call:dM)(site:Nat->Bool)(fl nt:Nat)(ops:Array Oper)(o:Oper)(s:St)(i:zl)(s':St):Prop:=
 Ot nt o=true/\((Dv ops s.env o=some true/\∃v s1,qo P call site s o=some (v,s1,i)/\s'=St.put { s1 with ws:=kT fl i.ws s.ws } o.dst v) \/
  (Dv ops s.env o=some false/\i=dh/\s'=s.put o.dst .undef))
def pq(i:zl)(k:Key):Prop:=k∈i.ts\/k∈i.ws\/(i.all=true/\k.isH=true)
def NC(M:Mp)(env:List (Nat×EV))(tmps:Array LI3)(ops:Array Oper)(o:Oper):Prop:=
 ∀j want d,o.guard=some (j,want)->(ops[j]?).bind (·.dst)=some d->∀e,dO d env=some e->ER M e (tmps.getD d Go.undef)
theorem ND{M env tmps ops o b}(hG:NC M env tmps ops o)(h:Dv ops env o=some b):Region.wanted o (yielded ops tmps)=b:=by
 unfold Dv at h;unfold Region.wanted;split at h
 .rename_i hg;rw[hg];simpa using h
 rename_i j want hg;rw[hg];simp only;split at h
 rotate_left
 .simp at h
 rename_i d hd;split at h
 .rename_i b0 he;have h3:=(hG j want d hg hd _ he).uU;have hb:tmps.getD d Go.undef=.bool b0:=by generalize tmps.getD d Go.undef=z at h3;cases h3;rfl
  have:tmps[d]? = some (.bool b0):=by
   by_cases h1:d<tmps.size
   .simp only[Array.getD,h1,dite_true]at hb;rw[a4j h1];exact congrArg some hb
   simp[Array.getD,h1,Go.undef]at hb
  simp only[yielded,hd,a5C,this];simpa using h
 .rename_i he;have h2:=hG j want d hg hd _ he;have hb:tmps.getD d Go.undef=Go.undef:=by generalize tmps.getD d Go.undef=z at h2;cases h2;rfl
  have:tmps[d]? = some Go.undef\/tmps[d]? = none:=by
   by_cases h1:d<tmps.size
   .simp only[Array.getD,h1,dite_true]at hb;rw[a4j h1];exact .inl (congrArg some hb)
   right;simpa using h1
  simp at h;subst h;rcases this with this|this<;>simp only[yielded,hd,a5C,this]<;>rfl
 simp at h
def LY(M:Mp)(D:Key->Prop)(s:St)(w:LI4)(o:Oper)(i:zl)(s':St)(x:LI3)(w':LI4):Prop:=
 ∃v M',s'=St.put { s' with env:=s.env } o.dst v/\Oz M D s.get w v s'.get i.ws x w' M'
theorem V9(s:St)(env d v)(h:s.env=env):s.put d v=St.put { s.put d v with env:=env } d v:=by subst h;cases d<;>rfl
theorem a1D(hC:iQ P call){site fl nt ops o s s' i M D w a}(hS:vJ P call site fl nt ops o s i s') (hV:Valid M D s.get w) (zK:M (.h s.heap.length)=none) (hnl:M (.l s.loc.length)=none)(vI:∀j l,M (.l j)=some l->∀k' l',Key.l j≠k'->M k'=some l'->∀c∈aJ l,c∉aJ l')(hE:Ih M s.env a o.op.operands) (hG:NC M s.env a.tmps ops o) (hD:∀k,pq i k->(M k).isSome=true->D k) :(∃x w',LY M D s w o i s' x w') /\∀(r) (n) (Q) (idx) (K),ops[idx]? = some o ->(∀x w',LY M D s w o i s' x w'->K (a.put o.dst x) w')->wpOpIn (oC r) n P ops Q idx K a w:=by
 obtain⟨_,⟨hw,v,s1,jK,rfl⟩|⟨hw,rfl,rfl⟩⟩:=hS
 .have a1E:=ND hG hw;by_cases hc:Ik o.op=true
  .
   have:∃f args ats,o.op=.call { callee:=.value f,args:=args,argTypes:=ats }:=by
    unfold Ik at hc;split at hc
    .rename_i f args ats ho;exact⟨_,_,_,ho⟩
    .cases hc
   obtain⟨f,args,ats,ho⟩:=this;simp only[qo,ho,Oq]at jK;split at jK
   .rename_i b az hb has;cases hb
   .rename_i f' az hf has;injection hf with hf;subst hf;split at jK
    .rename_i fv hfv;split at jK
     .rename_i v0 h' ws yO;simp only[a08,a1d]at jK;obtain⟨rfl,rfl,rfl⟩:=jK;have hh:∀b l,M (.h b)=some l->D (.h b):=fun b l hb=>hD _ (.inr (.inr ⟨rfl,rfl⟩)) (by simp[hb]);have hVo:=GH hV hh;have hfx:VR M.only.h fv (a.eval f):=iJ hE (by simp[ho,Op.operands,Call.operands]) hfv;have hax:bZ M.only.h az (args.toList.map a.eval):=Ii hE (fun x hx=>by simp[ho,Op.operands,Call.operands];exact .inr (by simpa using hx)) has;have conv:∀y w',jF M.only s.heap w v0 h' ws y w'->LY M D s w o ⟨true,[],ws.map .h⟩ (St.put { s with heap:=h',ws:=kT fl (ws.map .h) s.ws } o.dst (.val v0)) y w':=by intro y w' hr;obtain⟨M',hp⟩:=Td hV vI hr;refine⟨.val v0,M',V9 _ _ _ _ rfl,?_⟩;rw[ZX];exact hp
      obtain⟨d,hd,wE⟩:=hC _ _ _ _ _ _ yO M.only w (a.eval f) (args.toList.map a.eval) hVo (fun _=>rfl) hfx hax;refine⟨?_,?_⟩
      .obtain⟨y,w',hr⟩:=iQ.ex hC yO hVo (fun _=>rfl) hfx hax;exact⟨y,w',conv y w' hr⟩
      .intro r n Q idx K Va hK;unfold wpOpIn;simp only[Va,a1E,a2l];refine⟨fun _ _=>trivial,?_⟩;have a6l:∀nx,(invoke d.target d.args).run P w=.ok nx w->(o.semAt (oC r).round a.eval).run P w=.ok nx w:=by intro nx hnx;rw[Oper.semAt_eq _ _ _ (fun c=>by rw[ho];simp)];unfold execOp;rw[ho];have:=hd w;rw[show(List.map a.eval args.toList).toArray=args.map a.eval from by apply aeO;simp]at this;simp[resolve,this,hnx]
       rcases wE with⟨⟨f1,as1,hinv,nR⟩,_⟩|⟨⟨l1,f1,tm1,ag1,bd1,hinv,hrd⟩,_⟩
       .rw[a6l _ hinv];refine⟨fun h=>by simp[Fence.wide]at h,CallsIn.mono (F:=oC r) (nR (n-1)) fun e w' he=>?_⟩;cases e with
        |returned y=>exact hK y w' (conv y w' he)
        |panicked c=>exact he.elim
        |outgrown=>exact he.elim
       .rw[a6l _ hinv];refine⟨fun h=>by simp[Fence.wide]at h,RoundIn.mono (F:=oC r) (hrd (n-1)) fun e w' he=>?_⟩;cases e with
        |returned y=>exact hK y w' (conv y w' he)
        |panicked c=>exact he.elim
        |outgrown=>exact he.elim
     .simp at jK
    .simp at jK
   .simp at jK
  .
   have RG:Ik o.op=false:=(by simpa using hc);have ZU:Valid M (fun k=>D k\/M k=none) s.get w:=⟨fun k l hk hd=>hV.ok k l hk (hd.resolve_right (by simp[hk])),fun k k' l l' b a1 a2 a3 hd=>hV.own k k' l l' b a1 a2 a3 (hd.resolve_right (by simp[a2])),hV.inb⟩;obtain⟨he,x,w',M',hr,hp⟩:=ajx ZU hE zK hnl jK RG (fun k hk=>by
    cases hm:M k with
    |none=>exact .inr rfl
    |some l=>exact .inl (hD k (.inl hk) (by simp[hm])))
   have vH:LY M D s w o i (St.put { s1 with ws:=kT fl i.ws s.ws } o.dst v) x w':=by refine⟨v,M',V9 _ _ _ _ he,?_⟩;have hg:St.get { s1 with ws:=kT fl i.ws s.ws }=s1.get:=getEnv s1 s1.env _;rw[ZX,hg];exact⟨hp.val.sub fun k hk=>hk.imp .inl id,hp.ext,hp.er,hp.loc⟩
   refine⟨⟨x,w',vH⟩,fun r n Q idx K Va hK=>?_⟩;unfold wpOpIn;simp only[Va,a1E,a2l];refine⟨fun _ _=>trivial,?_⟩;rw[Oper.semAt_eq _ _ _ (fun c ho=>by rw[a3M ho]at jK;cases jK)];rcases hr with hr|⟨rfl,hr⟩
   .rw[hr];exact hK x w' vH
   .rw[hr];exact hK _ w' vH
 .have a1E:=ND hG hw;have vH:LY M D s w o dh (s.put o.dst .undef) Go.undef w:=by refine⟨.undef,M,V9 _ _ _ _ rfl,?_⟩;rw[ZX];exact .same hV .undef
  refine⟨⟨_,_,vH⟩,fun r n Q idx K Va hK=>?_⟩;unfold wpOpIn;simp only[Va,a1E,a2H,a3S];exact⟨fun _ _=>trivial,hK _ _ vH⟩
end
structure xG(M0:Mp)(h0:List HB)(w0:LI4):Prop where
 val:Valid M0 rW (lK h0) w0
 loc:∀k,M0 (.l k)=none
structure Rel(M0:Mp)(h0:List HB)(w0:LI4)(nt:Nat)(M:Mp)(s:St)(a:Act)(w:LI4):Prop where
 val:Valid M rW s.get w
 ext:Ext M0 (lK h0) w0 M s.get w (s.ws.map .h)
 env:kR M s.env a.tmps
 size:nt<=a.tmps.size
 marks:∀d∈a.defers,∃k r,d=⟨.collected r,#[]⟩/\lK h0 (.h k)=none/\(∃o,M (.h k)=some (.obj r o))/\s.get (.h k)=some .mark/\w.heap[r]? = some (.deferred (some []))
 apart:a.defers.Pairwise (·≠·)
theorem a6n{fl b c ws}:c∈FB fl b ws↔c∈ws\/(c=b/\b<fl):=by
 unfold FB;split
 .rename_i h;split
  .rename_i hc;have hc:b∈ws:=(by simpa using hc);constructor
   .exact .inl
   rintro (h1|⟨rfl,_⟩)
   .exact h1
   exact hc
  simp only[a1B];constructor
  .rintro (rfl|h1)
   .exact .inr ⟨rfl,h⟩
   exact .inl h1
  rintro (h1|⟨rfl,_⟩)
  .exact .inr h1
  exact .inl rfl
 rename_i h;constructor
 .exact .inl
 rintro (h1|⟨_,h1⟩)
 .exact h1
 exact absurd h1 h
theorem pz{fl c}:∀{ks} {ws},c∈kT fl ks ws↔c∈ws\/(Key.h c∈ks/\c<fl)
 | [],ws=>by simp[kT]
 |.h b::ks,ws=>by
  rw[kT,pz,a6n];simp only[a1B,Key.h.injEq];constructor
  .rintro ((h|⟨rfl,h⟩)|⟨h1,h2⟩)
   .exact .inl h
   .exact .inr ⟨.inl rfl,h⟩
   exact .inr ⟨.inr h1,h2⟩
  rintro (h|⟨rfl|h1,h2⟩)
  .exact .inl (.inl h)
  .exact .inl (.inr ⟨rfl,h2⟩)
  exact .inr ⟨h1,h2⟩
 |.l b::ks,ws=>by rw[kT,pz];simp
theorem zN{t}{s:St}{d v}:dO t (s.put d v).env=if d=some t then some v else dO t s.env:=by
 cases d with
 |none=>simp[St.put]
 |some d=>simp[St.put,dO]
theorem zO{a:Act}{d:Option Nat}{x t}:(a.put d x).tmps.getD t Go.undef=if d=some t/\t<a.tmps.size then x else a.tmps.getD t Go.undef:=by
 cases d with
 |none=>simp[Act.put]
 |some d=>
  simp only[Act.put,a08];simp only[<-aeI,a9f,a9Y];by_cases h:d=t
  .subst h;by_cases h1:d<a.tmps.size
   .simp[h1]
   simp[h1]
  simp[h]
theorem Ip{a:Act}{d:Option Nat}{x}:(a.put d x).tmps.size=a.tmps.size:=by cases d<;>simp[Act.put]
theorem kD{a:Act}{d:Option Nat}{x}:(a.put d x).defers=a.defers:=by cases d<;>rfl
section
variable{P:LI1}{call:dM}{site:Nat->Bool}{fl nt:Nat}{ops:Array Oper}{o:Oper}{s s':St}{i:zl}
theorem vJ.a1F(h:vJ P call site fl nt ops o s i s'):s'.ws=kT fl i.ws s.ws:=by
 obtain⟨_,⟨_,v,s1,_,rfl⟩|⟨_,rfl,rfl⟩⟩:=h
 .cases o.dst<;>rfl
 cases o.dst<;>rfl
theorem vJ.dst(h:vJ P call site fl nt ops o s i s'){d:Nat}(hd:o.dst=some d):d<nt:=by have:=h.1;simp only[Ot,hd]at this;simpa using this
variable{M0:Mp}{h0:List HB}{w0:LI4}{M:Mp}{a:Act}{w:LI4}
theorem Rel.loc(hR:Rel M0 h0 w0 nt M s a w):∀j l,M (.l j)=some l->∀k' l',Key.l j≠k'->M k'=some l'->∀c∈aJ l,c∉aJ l':=by intro j l hj k' l' iO oZ;obtain⟨b,h1,_⟩:=hR.val.ok _ _ hj trivial;refine hR.val.own _ _ _ _ b iO hj oZ trivial h1 ?_;simp only[St.get,a0x]at h1;obtain⟨_,_,rfl⟩:=h1;rfl
theorem Rel.nh(hR:Rel M0 h0 w0 nt M s a w):M (.h s.heap.length)=none:=by
 cases h:M (.h s.heap.length)with
 |none=>rfl
 |some l=>have:=hR.val.has h;simp[St.get]at this
theorem Rel.nl(hR:Rel M0 h0 w0 nt M s a w):M (.l s.loc.length)=none:=by
 cases h:M (.l s.loc.length)with
 |none=>rfl
 |some l=>have:=hR.val.has h;simp[St.get]at this
theorem DK{h k}(hk:(lK h k).isSome=true):∃b,k=.h b/\b<h.length:=by
 cases k with
 |h b=>exact⟨b,rfl,by simpa[lK,St.get]using hk⟩
 |l j=>simp[lK,St.get]at hk
theorem ZY{h b}(hb:b<h.length):(lK h (.h b)).isSome=true:=by simp[lK,St.get,hb]
theorem Tf(hR:Rel M0 h0 w0 nt M s a w){M' C' w' ws}(hX:Ext M s.get w M' C' w' ws) :∀d∈a.defers,∃k r,d=⟨.collected r,#[]⟩/\lK h0 (.h k)=none/\(∃o,M' (.h k)=some (.obj r o))/\C' (.h k)=some .mark/\w'.heap[r]? = some (.deferred (some [])):=by
 intro d hd;obtain⟨k,r,h1,h2,⟨o,h3⟩,h4,h5⟩:=hR.marks d hd;have hn:Key.h k∉ws:=fun DF=>by have:=(hX.wrote _ DF).2 _ h4;cases this
 obtain⟨l',g1,g2⟩:=hX.JE _ _ h3;obtain⟨o',hl⟩:∃o',l'=.obj r o':=by
  cases l' with
  |cells ls=>exact g2.elim
  |obj r' o'=>cases g2.1;exact⟨o',rfl⟩
 refine⟨k,r,h1,h2,⟨o',by rw[g1,hl]⟩,by rw[hX.o8 _ (by simp[h4]) hn,h4],?_⟩;rw[hX.frame r (a2v.1 h5).1 fun k' oZ l0 qW hc=>?_,h5];obtain⟨b,hb,_⟩:=hR.val.ok _ _ qW trivial;exact hR.val.own k' (.h k) l0 (.obj r o) b (fun e=>hn (e▸oZ)) qW h3 trivial hb ((hX.wrote _ oZ).2 b hb) r hc (by simp[aJ])
theorem OV(hB:xG M0 h0 w0)(hR:Rel M0 h0 w0 nt M s a w)(hS:vJ P call site h0.length nt ops o s i s'){x w'}(vH:LY M rW s w o i s' x w') :∃M',Rel M0 h0 w0 nt M' s' (a.put o.dst x) w':=by
 obtain⟨v,M',he,hp⟩:=vH;refine⟨M',hp.val.sub fun k _=>.inl trivial,?_,?_,by rw[Ip];exact hR.size,by rw[kD];exact Tf hR hp.ext,by rw[kD];exact hR.apart⟩
 .refine hR.ext.trans hp.ext (fun k l hk=>hB.val.has hk) (fun k hk DF=>?_) (fun k hk=>?_)
  .obtain⟨b,rfl,hb⟩:=DK hk;rw[hS.a1F];refine a1u.2 ⟨b,pz.2 ?_,rfl⟩;rcases DF with h1|h1
   .obtain⟨b',h2,h3⟩:=a1u.1 h1;cases h3;exact .inl h2
   .exact .inr ⟨h1,hb⟩
  .rw[hS.a1F]at hk;obtain⟨b,hb,rfl⟩:=a1u.1 hk;rcases pz.1 hb with h1|⟨h1,h2⟩
   .have:Key.h b∈s.ws.map .h:=a1u.2 ⟨b,h1,rfl⟩;exact⟨hR.ext.wsub _ this,.inl this⟩
   .exact⟨ZY h2,.inr h1⟩
 .intro t e hl;rw[he,zN]at hl;rw[zO];by_cases hd:o.dst=some t
  .rw[a15 hd]at hl;have:=hS.dst hd;have:=hR.size;rw[a15 ⟨hd,by omega⟩];cases hl;exact hp.er
  .rw[a0S hd]at hl;rw[a0S (fun h=>hd h.1)];exact(hR.env t e hl).mono hp.ext.JE hp.loc
theorem Rel.guard(hR:Rel M0 h0 w0 nt M s a w):NC M s.env a.tmps ops o:=fun _ _ d _ _ e he=>hR.env d e he
theorem Iq(hC:iQ P call)(hR:Rel M0 h0 w0 nt M s a w)(hS:vJ P call site h0.length nt ops o s i s') :(∃x w',LY M rW s w o i s' x w') /\∀(r) (n) (Q) (idx) (K),ops[idx]? = some o ->(∀x w',LY M rW s w o i s' x w'->K (a.put o.dst x) w')->wpOpIn (oC r) n P ops Q idx K a w:=
 a1D hC hS hR.val hR.nh hR.nl hR.loc (hR.env.on _) hR.guard fun _ _ _=>trivial
theorem DL{o os s s' is}(h:lY P call site fl nt ops (o::os) s=some (s',is)) :∃i s1 is',vJ P call site fl nt ops o s i s1/\lY P call site fl nt ops os s1=some (s',is')/\is=i::is':=by
 simp only[lY]at h;split at h
 .simp at h
 .rename_i hd;have hd:Ot nt o=true:=by simpa using hd
  split at h
  .rename_i hw;split at h
   .rename_i v s1 i jK;split at h
    .rename_i s2 is2 hr;simp only[a08,a1d]at h;obtain⟨rfl,rfl⟩:=h;exact⟨i,_,_,⟨hd,.inl ⟨hw,v,s1,jK,rfl⟩⟩,hr,rfl⟩
    .simp at h
   .simp at h
  .rename_i hw;split at h
   .rename_i s2 is2 hr;simp only[a08,a1d]at h;obtain⟨rfl,rfl⟩:=h;exact⟨_,_,_,⟨hd,.inr ⟨hw,rfl,rfl⟩⟩,hr,rfl⟩
   .simp at h
  .simp at h
theorem a6o(hC:iQ P call)(hB:xG M0 h0 w0){r n Q}:∀(os) (k) (s s') (is) (M) (a) (w),ops.toList.drop k=os ->lY P call site h0.length nt ops os s=some (s',is)->Rel M0 h0 w0 nt M s a w ->(∀M' a' w',Rel M0 h0 w0 nt M' s' a' w'->a'.defers=a.defers->Q .normal a' w')->wpOpsIn (oC r) n P ops Q (List.range' k os.length) a w
 | [],k,s,s',is,M,a,w,_,h,hR,hQ=>by simp only[lY,a08,a1d]at h;obtain⟨rfl,rfl⟩:=h;exact hQ M a w hR rfl
 |o::os,k,s,s',is,M,a,w,hd,h,hR,hQ=>by
  obtain⟨i,s1,is',hS,hr,rfl⟩:=DL h;have ho:ops[k]? = some o:=by have:=congrArg (fun l=>l[0]?) hd;simpa using this
  have ZV:ops.toList.drop (k+1)=os:=by rw[<-afn,hd];rfl
  simp only[a4p,List.range'_succ];rw[wpOpsIn_cons];refine(Iq hC hR hS).2 r n Q k _ ho fun x w' vH=>?_;obtain⟨M',GI⟩:=OV hB hR hS vH;exact a6o hC hB os (k+1) s1 s' is' M' _ w' ZV hr GI fun M2 a2 w2 h2 hdf=>hQ M2 a2 w2 h2 (hdf.trans kD)
theorem a3N(hC:iQ P call)(hB:xG M0 h0 w0){r n Q id s s' is M a w}(h:lY P call site h0.length nt ops ops.toList s=some (s',is)) (hR:Rel M0 h0 w0 nt M s a w)(hQ:∀M' a' w',Rel M0 h0 w0 nt M' s' a' w'->a'.defers=a.defers->Q .normal a' w'):(Code.region id ops false).wpIn (oC r) n P Q a w:=by
 refine wpIn_region ?_;have:=a6o (r:=r) (n:=n) (Q:=Q) hC hB ops.toList 0 s s' is M a w rfl h hR hQ;simpa[List.range_eq_range']using this
end
theorem OW{i}:∀{xs l},i∈Ou xs l->i∈xs\/i∈l
 | [],l,h=>.inr h
 |x::xs,l,h=>by
  simp only[Ou]at h;rcases OW h with h1|h1
  .exact .inl (a3A _ h1)
  split at h1
  .exact .inr h1
  rcases a1B.1 h1 with rfl|h2
  .exact .inl a3G
  exact .inr h2
theorem Ir{acc:List (List Nat)}{i}:∀{es:List Edge} {l},i∈es.foldl (fun l e=>if Region.binds .any e then Ou (e.on::acc.getD e.on []) l else l) l->i∈l\/∃e∈es,Region.binds .any e=true/\(i=e.on\/i∈acc.getD e.on [])
 | [],l,h=>.inl h
 |e::es,l,h=>by
  simp only[adE]at h;rcases Ir h with h1|⟨e',h2,h3⟩
  .split at h1
   .rename_i hb;rcases OW h1 with h2|h2
    .refine .inr ⟨e,a3G,hb,?_⟩;exact a1B.1 h2
    .exact .inl h2
   .exact .inl h1
  .exact .inr ⟨e',a3A _ h2,h3⟩
theorem a00{acc o i}(h:i∈Gq acc o):∃e∈o.after,Region.binds .any e=true/\(i=e.on\/i∈acc.getD e.on []):=by
 rcases Ir h with h1|⟨e,h2,h3⟩
 .cases h1
 exact⟨e,by simpa using h2,h3⟩
theorem Iu:∀(os) (acc),∃t,FV os acc=acc++t
 | [],acc=>⟨[],by simp[FV]⟩
 |o::os,acc=>by obtain⟨t,ht⟩:=Iu os (acc++[Gq acc o]);exact⟨Gq acc o::t,by simp[FV,ht]⟩
theorem Ti:∀(os) (acc) (k:Nat) (o:Oper),os[k]? = some o ->(FV os acc)[acc.length+k]? = some (Gq ((FV os acc).take (acc.length+k)) o)
 | [],acc,k,o,h=>by simp at h
 |o'::os,acc,0,o,h=>by simp at h;subst h;obtain⟨t,ht⟩:=Iu os (acc++[Gq acc o']);simp[FV,ht]
 |o'::os,acc,k+1,o,h=>by
  have:=Ti os (acc++[Gq acc o']) k o (by simpa using h);simp only[FV];simp only[a1v,a4p,a5L]at this
  rwa [show acc.length+(0+1)+k=acc.length+(k+1) by omega]at this
def Xp(ops:List Oper)(j:Nat):List Nat:=(FV ops []).getD j []
theorem a6p{ops j i o}(hj:ops[j]? = some o)(h:i∈Xp ops j):∃e∈o.after,Region.binds .any e=true/\(i=e.on\/(e.on<j/\i∈Xp ops e.on)):=by
 have:=Ti ops [] j o hj;simp only[a5L,a3C]at this;unfold Xp at h;rw[a2J,this]at h;simp only[a5K]at h;obtain⟨e,h1,h2,h3⟩:=a00 h;refine⟨e,h1,h2,h3.imp id fun h4=>?_⟩;rw[a2J,a5f]at h4;split at h4
 .rename_i aS;exact⟨aS,by unfold Xp;rw[a2J];exact h4⟩
 simp at h4
def vK(D:Nat->Prop)(o:Oper):Prop:=∀e∈o.after,Region.binds .any e=true->D e.on
theorem Vb{ops D}(hc:∀j o,ops[j]? = some o->D j->vK D o):∀(j) (o),ops[j]? = some o->vK D o->∀i∈Xp ops j,D i:=by
 intro j
 induction j using Nat.strongRecOn with
 |_ j ih=>
  intro o ho hw i hi;obtain⟨e,h1,h2,h3⟩:=a6p ho hi;rcases h3 with rfl|⟨aS,h4⟩
  .exact hw e h1 h2
  have hd:=hw e h1 h2;have hl:j<ops.length:=(a0u.1 ho).1;have hoe:ops[e.on]? = some ops[e.on]:=a0A (by omega);exact ih e.on aS _ hoe (hc _ _ hoe hd) i h4
theorem zB{ops i j}(Bg:i<j)(hj:j<ops.length)(hn:i∉Xp ops j):(i,j)∈oU ops:=by simp only[oU,aeS,a5y,a1u,a8f];exact⟨j,hj,i,⟨Bg,by simpa[Xp]using hn⟩,rfl⟩
theorem Xq{ops}(h:oh ops=true){i o}(ho:ops[i]? = some o){e}(he:e∈o.after)(hb:Region.binds .any e=true):e.on<i:=by
 simp only[oh,a2o,a5z]at h;have:=h.1 (o,i) (by rw[aah];simpa using ho)
 simp only[adi]at this;have:=this e he;simpa[hb]using this
theorem Bh{ops}(h:oh ops=true){i j a b}(hp:(i,j)∈oU ops)(ha:ops[i]? = some a)(hb:ops[j]? = some b):a.apart ops.toArray b=true/\b.apart ops.toArray a=true:=by simp only[oh,a2o,a5z]at h;have:=h.2 (i,j) hp;simpa[ha,hb]using this
theorem Tj{yA}:∀{ps},CB yA ps=true->∀{i j} {a b},(i,j)∈ps->yA[i]? = some a->yA[j]? = some b->calm a b=true
 | [],_,i,j,a,b,h,_,_=>by cases h
 |(x,y)::r,hd,i,j,a,b,h,ha,hb=>by
  simp only[CB,a2o]at hd;rcases a1B.1 h with h1|h1
  .cases h1;simpa[ha,hb]using hd.1
  exact Tj hd.2 h1 ha hb
section
variable{P:LI1}{call:dM}{site:Nat->Bool}{s s1:St}{o:Oper}{v:EV}{i:zl}
theorem a6q{t a r}(h:loadT P t s a=some r):r.2.ws=[]:=by
 unfold loadT at h;split at h
 .split at h
  .simp only[a0x]at h;obtain⟨_,_,rfl⟩:=h;rfl
  simp at h
 .split at h
  .split at h
   .simp only[a0x]at h;obtain⟨_,_,rfl⟩:=h;rfl
   simp at h
  simp at h
 simp at h
theorem aaq{at_ h0 x r}(h:ZE P at_ h0 x=some r):r.2.ws=[]:=by
 unfold ZE at h
 repeat' (split at h)
 all_goals first
  |(simp at h;done)
  |(simp only[a08]at h;subst h;rfl)
theorem ajy(h:qo P call site s o=some (v,s1,i))(hm:JJ o.op=false):i.ws=[]:=by
 unfold qo at h;split at h
 all_goals first
  |(simp at h;done)
  |(rename_i ho;rw[ho]at hm;simp[JJ]at hm;done)
  |(simp only[a0x,a1d]at h;obtain⟨_,_,_,_,rfl⟩:=h;rfl)
  |(split at h<;>first|(simp at h;done)|(simp only[a0x,a1d,a08]at h;first|(obtain⟨_,_,_,_,rfl⟩:=h;rfl)|(obtain⟨_,_,rfl⟩:=h;rfl)))
  |skip
 .split at h
  .split at h
   .simp only[a08,a1d]at h;obtain⟨_,_,rfl⟩:=h;rfl
   simp at h
  simp at h
 .split at h
  .simp only[a0x,a1d]at h;obtain⟨r,hr,_,_,rfl⟩:=h;exact a6q hr
  simp at h
 .split at h
  .split at h
   .simp only[a0x,a1d]at h;obtain⟨_,_,_,_,rfl⟩:=h;rfl
   .simp only[a0x,a1d]at h;obtain⟨_,_,_,_,rfl⟩:=h;rfl
   simp at h
  simp at h
 .rename_i c ho;rw[ho]at hm;obtain⟨callee,args,ats⟩:=c;unfold Oq at h;simp only at h;split at h
  .rename_i b az;simp only[a0x,a1d]at h;obtain⟨⟨v0,s0,i0⟩,hb,_,_,rfl⟩:=h;simp only[JJ]at hm;unfold rV at hb;split at hb
   .simp only[a0x,a1d]at hb;obtain⟨r,hr,_,_,rfl⟩:=hb;exact aaq hr
   .simp at hm
   .simp at hm
   .simp only[a0x,a1d]at hb;obtain⟨r,hr,_,_,rfl⟩:=hb;rfl
   .simp only[a0x,a1d]at hb;obtain⟨r,hr,_,_,rfl⟩:=hb;rfl
   simp at hb
  .simp[JJ]at hm
  simp at h
 .split at h
  .split at h
   .simp only[a08,a1d]at h;obtain⟨_,_,rfl⟩:=h;rfl
   simp at h
  simp at h
 split at h
 .split at h
  .split at h
   .split at h
    .simp only[a0x,a1d]at h;obtain⟨_,_,_,_,rfl⟩:=h;rfl
    simp at h
   simp at h
  simp at h
 simp at h
theorem ajz(h:qo P call site s o=some (v,s1,i))(hm:Ov o.op=false):i.ts=[]/\i.ws=[]/\i.all=false:=by
 unfold qo at h;split at h
 all_goals first
  |(simp at h;done)
  |(rename_i ho;rw[ho]at hm;simp[Ov]at hm;done)
  |(simp only[a0x,a1d]at h;obtain⟨_,_,_,_,rfl⟩:=h;exact⟨rfl,rfl,rfl⟩)
  |(split at h<;>first|(simp at h;done)|(simp only[a0x,a1d,a08]at h;first|(obtain⟨_,_,_,_,rfl⟩:=h;exact⟨rfl,rfl,rfl⟩)|(obtain⟨_,_,rfl⟩:=h;exact⟨rfl,rfl,rfl⟩)))
  |skip
 .split at h
  .split at h
   .simp only[a08,a1d]at h;obtain⟨_,_,rfl⟩:=h;exact⟨rfl,rfl,rfl⟩
   simp at h
  simp at h
 .split at h
  .split at h
   .simp only[a0x,a1d]at h;obtain⟨_,_,_,_,rfl⟩:=h;exact⟨rfl,rfl,rfl⟩
   .simp only[a0x,a1d]at h;obtain⟨_,_,_,_,rfl⟩:=h;exact⟨rfl,rfl,rfl⟩
   simp at h
  simp at h
 rename_i c ho;rw[ho]at hm;obtain⟨callee,args,ats⟩:=c;unfold Oq at h;simp only at h;split at h
 .rename_i b az;simp only[a0x,a1d]at h;obtain⟨⟨v0,s0,i0⟩,hb,_,_,rfl⟩:=h;simp only[Ov]at hm;unfold rV at hb;split at hb
  .simp at hm
  .simp at hm
  .simp at hm
  .simp only[a0x,a1d]at hb;obtain⟨r,hr,_,_,rfl⟩:=hb;exact⟨rfl,rfl,rfl⟩
  .simp only[a0x,a1d]at hb;obtain⟨r,hr,_,_,rfl⟩:=hb;exact⟨rfl,rfl,rfl⟩
  simp at hb
 .simp[Ov]at hm
 simp at h
variable{fl nt:Nat}{ops:Array Oper}{s':St}
theorem vJ.w(h:vJ P call site fl nt ops o s i s')(hm:JJ o.op=false):i.ws=[]:=by
 obtain⟨_,⟨_,v,s1,h1,_⟩|⟨_,rfl,_⟩⟩:=h
 .exact ajy h1 hm
 rfl
theorem vJ.t(h:vJ P call site fl nt ops o s i s')(hm:Ov o.op=false):i.ts=[]/\i.ws=[]/\i.all=false:=by
 obtain⟨_,⟨_,v,s1,h1,_⟩|⟨_,rfl,_⟩⟩:=h
 .exact ajz h1 hm
 exact⟨rfl,rfl,rfl⟩
theorem OX{ws b}(h:Ox ws b=true){k}(hk:k∈ws):¬pq b k:=by
 simp only[Ox,a5z]at h;have:=h k hk;simp only[a2o,a9y,agv]at this;obtain⟨⟨h1,h2⟩,h3⟩:=this;rintro (h4|h4|⟨h4,h5⟩)
 .simp[h4]at h2
 .simp[h4]at h3
 simp[h4,h5]at h1
theorem a3O{yA ol}(hd:CB yA (nK ol)=true){x y a b ia ib sa sa' sb sb'}(hp:(x,y)∈oU ol)(ha:ol[x]? = some a)(hb:ol[y]? = some b)(hia:yA[x]? = some ia) (hib:yA[y]? = some ib) (sta:vJ P call site fl nt ops a sa ia sa') (stb:vJ P call site fl nt ops b sb ib sb') :Cm a b=true\/((∀k∈ia.ws,¬pq ib k)/\(∀k∈ib.ws,¬pq ia k)):=by
 cases hsp:Cm a b
 case true=>exact .inl rfl
 right;by_cases hh:((JJ a.op&&Ov b.op)||(Ov a.op&&JJ b.op))=true
 .have hm:(x,y)∈nK ol:=by simp only[nK,a8f];refine⟨hp,?_⟩;simp only[ha,hb,hsp,abD,aiz];exact hh
  have:=Tj hd hm hia hib;simp only[calm,a2o]at this;exact⟨fun k hk=>OX this.1 hk,fun k hk=>OX this.2 hk⟩
 .simp only[aa4,a2o,ade,not_and,aeP]at hh;constructor
  .intro k hk ht;have h1:JJ a.op=true:=by
    cases h2:JJ a.op with
    |true=>rfl
    |false=>rw[sta.w h2]at hk;cases hk
   obtain⟨t1,t2,t3⟩:=stb.t (hh.1 h1);rcases ht with h|h|⟨h,_⟩
   .rw[t1]at h;cases h
   .rw[t2]at h;cases h
   .rw[t3]at h;cases h
  .intro k hk ht;have h1:JJ b.op=true:=by
    cases h2:JJ b.op with
    |true=>rfl
    |false=>rw[stb.w h2]at hk;cases hk
   have h2:Ov a.op=false:=by
    cases h3:Ov a.op with
    |false=>rfl
    |true=>have:=hh.2 h3;rw[h1]at this;cases this
   obtain⟨t1,t2,t3⟩:=sta.t h2;rcases ht with h|h|⟨h,_⟩
   .rw[t1]at h;cases h
   .rw[t2]at h;cases h
   .rw[t3]at h;cases h
end
end Tw
