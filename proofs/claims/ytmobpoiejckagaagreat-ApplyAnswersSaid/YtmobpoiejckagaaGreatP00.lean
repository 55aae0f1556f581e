/- Part 1 of a proof: ApplyAnswers -/
import Derived.RangeFuncLeaves
import Derived.OrdersIn
import Derived.Laws.CopyRow
import Derived.Laws.Rows
import Derived.Laws.Entries
set_option linter.unusedVariables false
set_option linter.unusedSimpArgs false
set_option linter.unusedSectionVars false
open Go.IntKind (i64)
noncomputable section
theorem aiC:false=false:=rfl
theorem aiD:(0:Int)<=0:=by decide
theorem aiE:(0:Int)<=1:=by decide
theorem aiF:(0:Int)<=2:=by decide
theorem aiG:(1:Int)=1:=rfl
theorem aiH:true=true:=rfl
theorem aiI:(0:Int)<=4:=by decide
theorem aiJ:(!true)=false:=rfl
theorem aiK:(!false)=true:=rfl
theorem aiL:(5:Int)<=5:=by decide
theorem aiM:(6:Int)<=6:=by decide
theorem aiN:(0:Int)=0:=rfl
theorem aiO:(1:Int)<=2:=by decide
theorem aiP:(1:Int)<=3:=by decide
theorem aiQ:(3:Int)<=3:=by decide
theorem aiR:(2:Int)<=3:=by decide
theorem aiS:(1:Int)<=4:=by decide
theorem aiT:(4:Int)<=4:=by decide
theorem aiU:(2:Int)<=4:=by decide
theorem aiV:(1:Int)<=5:=by decide
theorem aiW:(2:Int)<=5:=by decide
theorem aiX:(4:Int)<=5:=by decide
theorem aiY:(1:Int)<=6:=by decide
theorem aiZ:(2:Int)<=6:=by decide
theorem aj0:(4:Int)<=6:=by decide
theorem aj1:(0:Int)<=0/\(0:Int)<=6:=⟨by decide,by decide⟩
theorem aj2:(0:Int)<=1/\(1:Int)<=6:=⟨by decide,by decide⟩
theorem aj3:(2:Int)<=2:=by decide
theorem aj6:(0:Int)<=2/\(2:Int)<=6:=⟨by decide,by decide⟩
theorem aj7:(0:Int)<=3:=by decide
theorem aj8:(0:Int)<=3/\(3:Int)<=6:=⟨by decide,by decide⟩
theorem aj9:(0:Int)<=4/\(4:Int)<=6:=⟨by decide,by decide⟩
theorem aja:(0:Int)<=5:=by decide
theorem ajc:(0:Int)<=5/\(5:Int)<=6:=⟨by decide,by decide⟩
theorem aje:(0:Int)<=6:=by decide
theorem ajg:(0:Int)<=6/\(6:Int)<=6:=⟨by decide,by decide⟩
abbrev LI0:=List Int
abbrev LI1:=Go.Program
abbrev LI2:=Go.TypeId
abbrev LI3:=Go.Value
abbrev LI4:=Go.World
abbrev a09:=@Option.some.injEq
abbrev a0x:=@List.getElem?_eq_some_iff
abbrev a0A:=@Option.map_eq_some_iff
abbrev a0Q:=@List.getElem?_eq_getElem
abbrev a0U:=@List.getElem?_append_left
abbrev a18:=@if_neg
abbrev a1e:=@if_pos
abbrev a1k:=@Prod.mk.injEq
abbrev a1l:=@Nat.le_refl
abbrev a1n:=@Option.map_some
abbrev a1r:=@List.getElem?_append_right
abbrev a1w:=@List.mem_map
abbrev a1x:=@decide_eq_true_eq
abbrev a1y:=@List.getElem?_set_ne
abbrev a1B:=@List.length_append
abbrev a1D:=@List.mem_singleton
abbrev a1E:=@List.mem_cons
abbrev a2n:=@Bool.and_eq_true
abbrev a2p:=@if_true
abbrev a2w:=@List.getElem?_set_self
abbrev a2I:=@Array.getElem?_eq_some_iff
abbrev a2K:=@Bool.false_eq_true
abbrev a3k:=@List.getD_eq_getElem?_getD
abbrev a3E:=@List.getElem?_cons_zero
abbrev a3G:=@decide_eq_false_iff_not
abbrev a3I:=@List.mem_cons_of_mem
abbrev a3K:=@List.mem_cons_self
abbrev a3L:=@Nat.zero_add
abbrev a3M:=@List.mem_append
abbrev a3N:=@Nat.mul_le_mul_right
abbrev a3U:=@if_false
abbrev a3W:=@Nat.add_mul
abbrev a4g:=@List.length_drop
abbrev a4o:=@Array.getElem?_eq_getElem
abbrev a4t:=@List.length_take
abbrev a4u:=@List.eq_nil_of_length_eq_zero
abbrev a4v:=@List.length_singleton
abbrev a4C:=@List.length_cons
abbrev a4O:=@List.getElem?_eq_none
abbrev a4Q:=@List.map_append
abbrev a4U:=@List.map_cons
abbrev a4V:=@List.getElem?_map
abbrev a4W:=@Nat.lt_or_ge
abbrev a4X:=@List.length_map
abbrev a5m:=@List.mem_range
abbrev a5C:=@List.getElem?_drop
abbrev a5G:=@List.getElem?_set_self'
abbrev a5H:=@List.getElem?_take
abbrev a5I:=@List.nodup_cons
abbrev a5J:=@Option.bind_some
abbrev a5K:=@List.getElem_mem
abbrev a5L:=@List.all_eq_true
abbrev a5M:=@List.map_congr_left
abbrev a5N:=@List.mem_of_getElem?
abbrev a5O:=@List.length_set
abbrev a5P:=@List.prefix_rfl
abbrev a5Q:=@List.idxOf_lt_length_iff
abbrev a5R:=@Int.toNat_natCast
abbrev a5S:=@Bool.eq_iff_iff
abbrev a5T:=@List.mem_iff_getElem
abbrev a5U:=@Nat.zero_le
abbrev a5V:=@Option.getD_some
abbrev a5W:=@List.length_nil
abbrev a5X:=@List.mem_filter
abbrev a5Y:=@Nat.le_trans
abbrev a5Z:=@Option.isSome_iff_exists
abbrev a6a:=@List.mem_of_mem_drop
abbrev a6b:=@List.contains_eq_mem
abbrev a6c:=@List.append_assoc
abbrev a6f:=@not_false_eq_true
abbrev a6g:=@List.append_nil
abbrev a6l:=@List.mem_append_left
abbrev a6n:=@List.length_eq_zero_iff
abbrev a6p:=@List.nodup_nil
abbrev a6q:=@List.map_map
abbrev a6u:=@List.mem_filterMap
abbrev a6x:=@beq_iff_eq
abbrev a6y:=@List.drop_eq_getElem_cons
abbrev a6A:=@Bool.not_eq_true'
abbrev a6I:=@List.length_range
abbrev a6W:=@List.eq_nil_iff_forall_not_mem
abbrev a7t:=@List.length_replicate
abbrev a7x:=@List.perm_ext_iff_of_nodup
abbrev a7y:=@of_decide_eq_true
abbrev a7z:=@Nat.min_eq_left
abbrev a7B:=@List.take_succ_eq_append_getElem
abbrev a7C:=@not_true
abbrev a8p:=@Array.length_toList
abbrev a8t:=@Array.getD_eq_getD_getElem?
abbrev a8U:=@Int.emod_eq_of_lt
abbrev a8Z:=@Int.le_refl
abbrev a9f:=@List.getElem?_of_mem
abbrev a9g:=@List.idxOf_eq_length
abbrev a9s:=@List.getElem_idxOf
abbrev a9G:=@List.prefix_append
abbrev a9K:=@Int.mul_le_mul_of_nonneg_left
abbrev a9L:=@List.getElem_of_mem
abbrev a9N:=@List.nodup_append
abbrev a9O:=@List.mem_iff_getElem?
abbrev aa3:=@Array.getElem?_setIfInBounds
abbrev aad:=@Nat.eq_of_beq_eq_true
abbrev aae:=@List.nil_append
abbrev aaf:=@List.mem_of_mem_take
abbrev aag:=@List.getElem_map
abbrev aah:=@Bool.not_true
abbrev aai:=@List.take_of_length_le
abbrev aaj:=@List.length_pos_iff
abbrev aak:=@List.getElem?_range
abbrev aal:=@List.filterMap_cons
abbrev aam:=@Bool.or_eq_true
abbrev aan:=@Option.some.inj
abbrev aao:=@List.pairwise_iff_getElem
abbrev aap:=@Classical.choose_spec
abbrev aaq:=@List.length_filter_le
abbrev aar:=@Nat.lt_of_lt_of_le
abbrev aas:=@Nat.le_of_lt
abbrev aaw:=@List.ext_getElem
abbrev aaz:=@Nat.add_assoc
abbrev aaB:=@List.mem_zipIdx_iff_getElem?
abbrev aaC:=@Bool.or_eq_false_iff
abbrev aaD:=@List.getElem?_cons_succ
abbrev aaF:=@List.getElem?_set
abbrev aaK:=@List.ext_getElem?
abbrev aaP:=@List.idxOf_append
abbrev aaX:=@List.findIdx?_eq_some_iff_getElem
abbrev aaY:=@Array.getElem?_append_left
abbrev aaZ:=@List.getElem_inj
abbrev ab3:=@List.drop_zero
abbrev ab6:=@List.length_mergeSort
abbrev ab8:=@Int.mul_le_mul_of_nonneg_right
abbrev abf:=@Bool.not_false
abbrev abn:=@Nat.one_mul
abbrev abp:=@Nat.eq_zero_or_pos
abbrev abr:=@List.map_nil
abbrev abQ:=@Bool.not_eq_false'
abbrev abR:=@Array.getElem?_modify
abbrev abS:=@List.mem_append_right
abbrev abW:=@List.range_succ
abbrev acp:=@List.all_cons
abbrev acv:=@Int.add_mul_emod_self_left
abbrev acJ:=@forall_congr'
abbrev ad6:=@List.nodup_iff_pairwise_ne
abbrev adb:=@List.pairwise_map
abbrev ade:=@Classical.byContradiction
abbrev adh:=@Int.mul_one
abbrev adi:=@Nat.add_zero
abbrev adl:=@not_or
abbrev ado:=@Nat.zero_mul
abbrev adp:=@Array.all_eq_true_iff_forall_mem
abbrev adv:=@Nat.le_of_not_lt
abbrev adw:=@and_self
abbrev adA:=@Prod.ext
abbrev adB:=@List.take_length
abbrev adC:=@Int.le_of_lt
abbrev adH:=@beq_eq_false_iff_ne
abbrev aei:=@List.filter_eq_self
abbrev aer:=@List.mergeSort_perm
abbrev aey:=@List.getElem?_replicate
abbrev aeE:=@List.filter_cons_of_neg
abbrev aeJ:=@List.filter_cons_of_pos
abbrev aeL:=@Bool.true_and
abbrev aeM:=@List.any_cons
abbrev aeR:=@List.foldl_cons
abbrev aeS:=@List.idxOf_cons
abbrev aeV:=@List.Nodup.length_le_of_subset
abbrev aeW:=@List.find?_eq_none
abbrev af5:=@Nat.le_mul_of_pos_left
abbrev af6:=@List.size_toArray
abbrev af7:=@List.getElem?_toArray
abbrev afa:=@Array.getElem?_toList
abbrev afe:=@Option.map_map
abbrev afh:=@Array.ext'
abbrev afi:=@Bool.not_eq_true
abbrev afj:=@List.mem_flatMap
abbrev afk:=@List.getElem?_modify
abbrev afm:=@List.nodup_range
abbrev afn:=@List.replicate_succ
abbrev afo:=@List.length_zipWith
abbrev afp:=@Int.natCast_mul
abbrev afq:=@List.cons.injEq
abbrev afr:=@decide_eq_false
abbrev aft:=@List.forall_mem_singleton
abbrev afu:=@List.mem_of_find?_eq_some
abbrev afv:=@List.getElem_range
abbrev afw:=@Bool.true_eq_false
abbrev afz:=@Nat.sub_self
abbrev afB:=@List.take_take
abbrev afG:=@List.drop_drop
abbrev afJ:=@Ne.symm
abbrev afM:=@Int.mul_nonneg
abbrev afY:=@List.pairwise_mergeSort
abbrev ag0:=@List.drop_of_length_le
abbrev ag2:=@List.length_pos_of_mem
abbrev agp:=@Bool.false_or
abbrev agE:=@List.prefix_refl
abbrev agF:=@List.any_eq_true
abbrev ah2:=@Bool.and_eq_false_iff
abbrev ah4:=@Nat.le_of_ble_eq_true
abbrev ahh:=@List.take_append_drop
abbrev aht:=@Nat.le_of_eq
abbrev ahE:=@Int.emod_nonneg
abbrev ahK:=@Int.ediv_nonneg
abbrev ahS:=@Int.add_comm
abbrev ai4:=@List.getElem?_mapIdx
abbrev ai7:=@List.find?_cons
abbrev aia:=@Nat.not_lt_zero
abbrev ait:=@Int.toNat_of_nonneg
abbrev aiu:=@Nat.succ_eq_add_one
abbrev aiv:=@List.drop_take
abbrev aiw:=@Nat.mul_le_mul
abbrev aix:=@Int.add_mul
abbrev aiy:=@Nat.mul_one
abbrev aiz:=@List.contains_cons
abbrev aiA:=@Int.natCast_nonneg
abbrev aiB:=@Bool.and_true
namespace Tw
open Go
inductive NK where
 |ptr|aO|map|fn|ifc
 deriving DecidableEq
inductive TV where
 |bool (b:Bool)
 |int (k:IntKind) (n:Int)
 |str (s:ByteArray)
 |nil (k:NK)
 |ptr (b off lim:Nat)
 |aO (b off len cap sz:Nat) (ex:Bool)
 |map (r:Nat)
 |fn (f:FuncId) (first cap:List TV)
 |lC (l:Nat)
 |agg (cs:List TV)
 |dM (cs:List TV)
 |iter (b:Nat)
inductive EV where
 |val (v:TV)
 |loc (k off:Nat)
 |undef
 |ent (r j:Nat) (v:TV)
 |FK (r j:Nat)
inductive BK where
 |ro|own|grow|last
 deriving DecidableEq
inductive HB where
 |cells (k:BK) (cs:List TV)
 |map (es:List (TV×TV))
 |nN (cs:List TV)
 |mark
 |dB (r n:Nat) (seen:List Nat)
 |loop (ready:Bool) (f:FuncId) (nt:Nat) (env:List (Nat×EV)) (ps:List Nat) (assign body:Code) (jW:Option Code)
structure St where
 env:List (Nat×EV)
 loc:List (List TV)
 heap:List HB
 ws:List Nat
inductive Key where
 |h (b:Nat)
 |l (k:Nat)
 deriving DecidableEq
def St.get(s:St):Key->Option HB
 |.h b=>s.heap[b]?
 |.l k=>(s.loc[k]?).map (.cells .own)
def TV.toC:TV->Option LI3
 |.bool b=>some (.bool b)
 |.int k n=>some (.int k n)
 |.str s=>some (.string s)
 |.nil .ptr=>some (.pointer none)
 |.nil .aO=>some (.slice none 0 0)
 |.nil .map=>some (.map none)
 |.nil .fn=>some .nilFunc
 |.nil .ifc=>some .nilIface
 |_=>none
def TV.UR:List TV->Option (List LI3)
 | []=>some []
 |c::cs=>match c.toC,TV.UR cs with
  |some v,some vs=>some (v::vs)
  |_,_=>none
def TV.zk:TV->Option LI3
 |.agg cs=>(TV.UR cs).map fun vs=>.agg vs.toArray
 |v=>v.toC
def TV.ofC:LI3->Option TV
 |.bool b=>some (.bool b)
 |.int k n=>some (.int k n)
 |.string s=>some (.str s)
 |.pointer none=>some (.nil .ptr)
 |.slice none 0 0=>some (.nil .aO)
 |.map none=>some (.nil .map)
 |.nilFunc=>some (.nil .fn)
 |.nilIface=>some (.nil .ifc)
 |_=>none
def TV.Dn:List LI3->Option (List TV)
 | []=>some []
 |c::cs=>match TV.ofC c,TV.Dn cs with
  |some v,some vs=>some (v::vs)
  |_,_=>none
def TV.Xb:LI3->Option TV
 |.agg cs=>(TV.Dn cs.toList).map .agg
 |v=>TV.ofC v
def TV.ad9:TV->Bool
 |.bool _|.int _ _|.str _|.nil _=>true
 |_=>false
def TV.ada:TV->Bool
 |.agg cs=>cs.all TV.ad9
 |v=>v.ad9
def TV.flat:TV->Bool
 |.dM vs=>vs.all TV.ada
 |v=>v.ada
def TV.cells:TV->List TV
 |.agg cs=>cs
 |v=>[v]
def iO:TV->Bool
 |.agg _|.dM _=>false
 |_=>true
def aC{α}(P:LI1):Sem α->Option α
 |.pure a=>some a
 |.program k=>aC P (k P)
 |.mark _ k=>aC P k
 |_=>none
def dR(t:Nat):List (Nat×EV)->Option EV
 | []=>none
 |(k,v)::r=>if k=t then some v else dR t r
def St.put(s:St)(dst:Option Nat)(v:EV):St:=
 match dst with
 |some d=>{ s with env:=(d,v)::s.env }
 |none=>s
def pick(live:List Nat)(env:List (Nat×EV)):List (Nat×EV):=
 match live with
 | []=>[]
 |t::r=>match dR t env with
  |some v=>(t,v)::pick r env
  |none=>pick r env
def JH(env:List (Nat×EV)):Operand->Option EV
 |.tmp t=>dR t env
 |.const v=>(TV.Xb v).map .val
 |.func f=>some (.val (.fn f [] []))
 |.global _=>none
def rJ(env:List (Nat×EV))(x:Operand):Option TV:=
 match JH env x with
 |some (.val v)=>some v
 |_=>none
def UU(env:List (Nat×EV)):List Operand->Option (List TV)
 | []=>some []
 |x::xs=>match rJ env x,UU env xs with
  |some v,some vs=>some (v::vs)
  |_,_=>none
def Xi(env:List (Nat×EV)):List (Nat×Operand)->Option (List (Nat×TV))
 | []=>some []
 |(i,x)::xs=>match rJ env x,Xi env xs with
  |some v,some vs=>some ((i,v)::vs)
  |_,_=>none
structure yH where
 all:Bool
 ts:List Key
 ws:List Key
def dn:yH:=⟨false,[],[]⟩
def yA(k:Key):yH:=⟨false,[k],[]⟩
def fU(k:List Key):yH:=⟨false,k,[]⟩
def qg(k:Key):yH:=⟨false,[k],[k]⟩
def sub(cs:List TV)(off n:Nat):Option (List TV):=
 if off+n<=cs.length then some ((cs.drop off).take n)else none
def xk(cs:List TV)(off:Nat)(new:List TV):Option (List TV):=
 if off+new.length<=cs.length then some (cs.take off++new++cs.drop (off+new.length))else none
def xq(P:LI1)(t:LI2):Option Bool:=
 match P.underlying t with
 |some (.struct _)|some (.array _ _)=>some true
 |some _=>some false
 |none=>none
def dI(P:LI1)(t:LI2):Option Nat:=(P.info? t).map (·.size)
def vG(P:LI1)(t:LI2)(cs:List TV)(off:Nat):Option TV:=
 match xq P t,dI P t with
 |some true,some n=>(sub cs off n).map .agg
 |some false,some n=>if n=1 then cs[off]? else none
 |_,_=>none
def LY(P:LI1)(t:LI2):Option (List TV):=
 match P.info? t with
 |some i=>match i.zero with
  |some z=>(TV.Xb z).map TV.cells
  |none=>none
 |none=>none
def aU(h:List HB)(b:Nat):Option (List TV):=
 match h[b]? with
 |some (.cells _ cs)=>some cs
 |_=>none
def mZ(h:List HB)(b lim:Nat):Option (List TV):=
 match h[b]? with
 |some (.cells k cs)=>if k=.last/\lim≠cs.length then none else some cs
 |_=>none
def FM(floor:Nat)(b:Nat)(ws:List Nat):List Nat:=
 if b<floor then(if ws.contains b then ws else b::ws)else ws
def kM(floor:Nat):List Key->List Nat->List Nat
 | [],ws=>ws
 |.h b::r,ws=>kM floor r (FM floor b ws)
 |.l _::r,ws=>kM floor r ws
def AL(k:BK)(whole:Bool):Option BK:=
 match k,whole with
 |.own,_=>some .own
 |.grow,true=>some .last
 |.last,true=>some .last
 |_,_=>none
def UW(h:List HB)(b off lim:Nat)(new:List TV):Option (List HB):=
 match h[b]? with
 |some (.cells k cs)=>match AL k (lim==cs.length)with
  |some k'=>(xk cs off new).map fun cs'=>h.set b (.cells k' cs')
  |none=>none
 |_=>none
def BK.more:BK->BK
 |.last=>.last
 |_=>.grow
def um(place:Nat->Option (Nat×Nat)):List TV->List (Nat×TV)->Option (List TV)
 |cs,[]=>some cs
 |cs,(i,v)::r=>match place i with
  |some (off,size)=>if v.cells.length=size then(match xk cs off v.cells with|some cs'=>um place cs' r|none=>none)else none
  |none=>none
def UY(P:LI1)(fs:Array Field)(i:Nat):Option (Nat×Nat):=
 match fs[i]? with
 |some f=>(dI P f.type).map fun n=>(f.offset,n)
 |none=>none
def Dq(P:LI1)(fs:List Field):Bool:=fs.all fun f=>(dI P f.type).isSome
def Ox(P:LI1)(t:LI2)(parts:List (Nat×TV)):Option TV:=
 match LY P t,P.underlying t with
 |some z,some (.struct fs)=>if Dq P fs.toList then(um (UY P fs) z parts).map .agg else none
 |some z,some (.array _ e)=>match dI P e with
  |some n=>(um (fun i=>some (i*n,n)) z parts).map .agg
  |none=>none
 |_,_=>none
def times(z:List TV):Nat->List TV
 | 0=>[]
 |n+1=>z++times z n
def jU(P:LI1)(t:LI2):Option (LI2×Nat):=
 match P.underlying t with
 |some (.slice e)=>match dI P e with
  |some n=>if n=0 then none else some (e,n)
  |none=>none
 |_=>none
def rM(site:Bool)(s:St)(cs:List TV):EV×St:=
 if site then(.val (.ptr s.heap.length 0 cs.length),{ s with heap:=s.heap++[.cells .own cs] })
 else(.loc s.loc.length 0,{ s with loc:=s.loc++[cs] })
def loadT(P:LI1)(t:LI2)(s:St):EV->Option (TV×yH)
 |.loc k off=>match s.loc[k]? with
  |some cs=>(vG P t cs off).map fun v=>(v,yA (.l k))
  |none=>none
 |.val (.ptr b off lim)=>match mZ s.heap b lim,dI P t with
  |some cs,some n=>if off+n<=lim then(vG P t cs off).map fun v=>(v,yA (.h b))else none
  |_,_=>none
 |_=>none
def storeT(P:LI1)(t:LI2)(s:St)(a:EV)(v:TV):Option (St×yH):=
 match dI P t with
 |some n=>
  if v.cells.length=n/\v.cells.all iO=true then
   match a with
   |.loc k off=>match s.loc[k]? with
    |some cs=>(xk cs off v.cells).map fun cs'=>({ s with loc:=s.loc.set k cs' },qg (.l k))
    |none=>none
   |.val (.ptr b off lim)=>if off+n<=lim then(UW s.heap b off lim v.cells).map fun h=>({ s with heap:=h },qg (.h b))else none
   |_=>none
  else none
 |none=>none
def RN(o:Nat):EV->Option EV
 |.loc k off=>some (.loc k (off+o))
 |.val (.ptr b off lim)=>if off+o<=lim then some (.val (.ptr b (off+o) lim))else none
 |_=>none
def Ia(P:LI1)(t:LI2)(i:Nat):Option Nat:=
 match P.underlying t with
 |some (.struct fs)=>match fs[i]? with
  |some f=>match dI P f.type with
   |some n=>if n=0 then none else some f.offset
   |none=>none
  |none=>none
 |_=>none
def idx(n:Nat):TV->Option Nat
 |.int _ i=>if 0<=i/\i<n then some i.toNat else none
 |_=>none
def ng(P:LI1)(t:LI2)(x:EV)(i:TV):Option EV:=
 match P.underlying t with
 |some (.slice e)=>match dI P e,x with
  |some n,.val (.aO b off len cap sz _)=>if n=sz then(idx len i).map fun j=>.val (.ptr b (off+j*n) (off+cap*n))else none
  |_,_=>none
 |some (.array len e)=>match dI P e with
  |some n=>match idx len i with
   |some j=>RN (j*n) x
   |none=>none
  |none=>none
 |_=>none
def JL(P:LI1)(t:LI2)(x i:TV):Option TV:=
 match P.underlying t,x with
 |some (.array len e),.agg cs=>match dI P e,idx len i with
  |some n,some j=>vG P e cs (j*n)
  |_,_=>none
 |some .string,.str s=>match idx s.size i with
  |some j=>(s[j]?).map fun b=>.int .u8 b.toNat
  |none=>none
 |_,_=>none
def rO(n:Nat):TV->Option Nat
 |.int _ i=>if 0<=i/\i<=n then some i.toNat else none
 |_=>none
def jP(n d:Nat):Option TV->Option Nat
 |none=>some d
 |some v=>rO n v
def rP(P:LI1)(t:LI2)(x:TV)(lo hi mx:Option TV):Option TV:=
 match P.underlying t,x with
 |some .string,.str s=>match mx with
  |some _=>none
  |none=>match jP s.size s.size hi with
   |some h=>match jP h 0 lo with
    |some l=>some (.str (s.extract l h))
    |none=>none
   |none=>none
 |some (.slice e),.aO b off len cap sz ex=>match dI P e with
  |some n=>
   if n=sz then
    match mx with
    |some m=>match rO cap m,hi with
     |some m,some h=>match rO (min m len) h with
      |some h=>match jP h 0 lo with
       |some l=>some (.aO b (off+l*n) (h-l) (m-l) sz true)
       |none=>none
      |none=>none
     |_,_=>none
    |none=>match jP len len hi with
     |some h=>match jP h 0 lo with
      |some l=>some (.aO b (off+l*n) (h-l) (cap-l) sz ex)
      |none=>none
     |none=>none
   else none
  |none=>none
 |some (.slice e),.nil .aO=>match dI P e,jP 0 0 mx,jP 0 0 hi,jP 0 0 lo with
  |some _,some _,some _,some _=>if mx.isSome&&hi.isNone then none else some (.nil .aO)
  |_,_,_,_=>none
 |_,_=>none
def qQ(P:LI1)(t:LI2)(x:EV)(lo hi mx:Option TV):Option TV:=
 match P.underlying t,x with
 |some (.array n e),.val (.ptr b off lim)=>match dI P e with
  |some size=>
   if size=0\/lim<off+n*size\/2^24<n then none else
   match jP n n mx with
   |some m=>match jP m n hi with
    |some h=>match jP h 0 lo with
     |some l=>if mx.isSome&&hi.isNone then none else some (.aO b (off+l*size) (h-l) (m-l) size true)
     |none=>none
    |none=>none
   |none=>none
  |none=>none
 |_,_=>none
def eF(size:Nat)(h:List HB):TV->Option (Nat×List TV)
 |.nil .aO=>some (0,[])
 |.aO b off len cap sz _=>if sz=size then(if len=0 then some (0,[])else match mZ h b (off+cap*sz)with|some cs=>(sub cs off (len*size)).map fun l=>(len,l)|none=>none)else none
 |.str s=>if size=1 then some (s.size,s.data.toList.map fun b=>.int .u8 b.toNat)else none
 |_=>none
def dF:TV->List Key
 |.aO b _ _ _ _ _=>[.h b]
 |_=>[]
def UZ(P:LI1)(t:LI2):Bool:=
 match P.underlying t with
 |some (.int _)=>true
 |_=>false
def a6d(i:TypeInfo):Bool:=
 match i.zero with
 |some z=>z.cells.size==i.size
 |none=>false
def uY(P:LI1)(e:LI2)(n:Nat):Bool:=
 match P.info? e with
 |some i=>decide (n*i.bytes<=2^40)&&decide (n<=2^40)&&decide (i.bytes<=2^20)&&decide (0<i.bytes)&&a6d i
 |none=>false
def jC(P:LI1)(at_:Array LI2)(s:St)(d x:TV):Option (TV×St×yH):=
 match at_[0]?,at_[1]? with
 |some st,some xt=>
  if UZ P xt||(P.underlying xt).isNone then none else
  match jU P st with
  |some (e,size)=>match eF size s.heap x with
   |some (n,new)=>
    if n=0 then(match d with
     |.nil .aO=>some (d,s,fU (dF x))
     |.aO _ _ _ _ sz _=>if sz=size then some (d,s,fU (dF x))else none
     |_=>none)
    else if new.length=n*size then
     match d with
     |.nil .aO=>if uY P e n then some (.aO s.heap.length 0 n n size false,{ s with heap:=s.heap++[.cells .own new] },fU (dF x))else none
     |.aO b off len cap sz ex=>
      if sz=size then
       if len+n<=cap then
        (UW s.heap b (off+len*size) (off+cap*size) new).map fun h=>(.aO b off (len+n) cap sz ex,{ s with heap:=h },⟨false,.h b::dF x,[.h b]⟩)
       else if uY P e (len+n)then
        if ex then
         (eF size s.heap (.aO b off len cap sz ex)).map fun r=>(.aO s.heap.length 0 (len+n) (len+n) size false,{ s with heap:=s.heap++[.cells .own (r.2++new)] },fU (.h b::dF x))
        else match s.heap[b]? with
         |some (.cells k cs)=>
          if k=.ro\/off≠0\/len≠cap\/cs.length≠len*size\/len=0 then none
          else some (.aO b 0 (len+n) (len+n) size false,{ s with heap:=s.heap.set b (.cells k.more (cs++new))},⟨false,.h b::dF x,[.h b]⟩)
         |_=>none
       else none
      else none
     |_=>none
    else none
   |none=>none
  |none=>none
 |_,_=>none
def isStr:TV->Bool
 |.str _=>true
 |_=>false
def Ib(P:LI1)(at_:Array LI2)(s:St)(d x:TV):Option (TV×St×yH):=
 match at_[0]? with
 |some st=>match jU P st with
  |some (_,size)=>match eF size s.heap x with
   |some (n,new)=>
    if new.length=n*size/\isStr x=false then
     match d with
     |.nil .aO=>some (.int .i64 0,s,fU (dF x))
     |.aO b off len cap sz _=>
      if sz=size then
       if min n len=0 then some (.int .i64 0,s,fU (dF x))
       else(UW s.heap b off (off+cap*size) (new.take (min n len*size))).map fun h=>(.int .i64 (min n len:Nat),{ s with heap:=h },⟨false,.h b::dF x,[.h b]⟩)
      else none
     |_=>none
    else none
   |none=>none
  |none=>none
 |none=>none
def ZF(P:LI1)(at_:Array LI2)(h:List HB)(x:TV):Option (TV×yH):=
 match at_[0]? with
 |some t=>match P.underlying t,x with
  |some .string,.str s=>some (.int .i64 s.size,dn)
  |some (.array n _),_=>some (.int .i64 n,dn)
  |some (.slice _),.aO _ _ len _ _ _=>some (.int .i64 len,dn)
  |some (.slice _),.nil .aO=>some (.int .i64 0,dn)
  |some (.map _ _),.nil .map=>some (.int .i64 0,dn)
  |some (.map _ _),.map r=>match h[r]? with
   |some (.map es)=>some (.int .i64 es.length,yA (.h r))
   |_=>none
  |_,_=>none
 |none=>none
def CS:List TV->Option (List LI3)
 | []=>some []
 |c::cs=>match c.zk,CS cs with
  |some v,some vs=>some (v::vs)
  |_,_=>none
def Xj(P:LI1)(kt:LI2)(k:LI3)(ks:List LI3)(r:Option Nat):Bool:=
 match aC P (underlying kt)with
 |some kind=>(match r with|some j=>decide (j<ks.length)|none=>true)&&((ks.zipIdx.all fun(x,i)=>Instr.sameNow kind k x==some (some i==r)) ||
   (ks.zipIdx.all fun(x,i)=>Instr.sameNow kind k x==none&&aC P (Op.equal kt k x)==some (some i==r)))
 |none=>false
def G8(P:LI1)(kt:LI2)(k:LI3)(es:List (TV×TV)):Option (Option Nat):=
 match CS (es.map (·.1))with
 |some ks=>match aC P (do Instr.checkKey es.isEmpty 10000 kt k;Instr.findKey kt k (ks.map fun x=>⟨x,.bool false,0⟩))with
  |some r=>if Xj P kt k ks (r.map (·.1))then some (r.map (·.1))else none
  |none=>none
 |none=>none
def LZ:TV->Option NK
 |.ptr _ _ _=>some .ptr
 |.aO _ _ _ _ _ _=>some .aO
 |.map _=>some .map
 |.fn _ _ _|.lC _=>some .fn
 |_=>none
def ZG:TV->Option NK
 |.nil k=>some k
 |_=>none
def Mc(P:LI1)(t:LI2):Option NK:=
 match P.underlying t with
 |some (.pointer _)=>some .ptr
 |some (.slice _)=>some .aO
 |some (.map _ _)=>some .map
 |some (.func _ _ _)=>some .fn
 |_=>none
def Du(P:LI1)(t:LI2)(x y:TV):Bool:=
 match Mc P t with
 |some k=>(ZG x==some k&&LZ y==some k)||(LZ x==some k&&ZG y==some k)
 |none=>false
def uq(P:LI1)(op:BinOp)(t:LI2)(x y:Operand)(a b:TV):Option TV:=
 match a.zk,b.zk with
 |some u,some v=>match aC P (do eqGuard op t x y u v;binOp op t u v)with
  |some r=>TV.Xb r
  |none=>none
 |_,_=>if Du P t a b then(match op with
  |.eql=>some (.bool false)
  |.neq=>some (.bool true)
  |_=>none)else none
def unT(P:LI1)(op:UnOp)(a:TV):Option TV:=
 match a.zk with
 |some u=>match aC P (Op.unary op u)with
  |some r=>TV.Xb r
  |none=>none
 |none=>none
def SS(P:LI1)(src dst:LI2)(a:TV):Option TV:=
 match a.zk with
 |some u=>match aC P (convert src dst u)with
  |some r=>TV.Xb r
  |none=>none
 |none=>none
def EL(P:LI1)(mx:Bool)(at_:Array LI2)(t:LI2)(az:List TV):Option TV:=
 match CS az with
 |some vs=>match aC P (if mx then Builtin.max_ at_ t vs.toArray else Builtin.min_ at_ t vs.toArray)with
  |some r=>TV.Xb r
  |none=>none
 |none=>none
def Oy(P:LI1)(t:LI2)(x:TV)(i:Nat):Option TV:=
 match P.underlying t,x with
 |some (.struct fs),.agg cs=>match fs[i]? with
  |some f=>vG P f.type cs f.offset
  |none=>none
 |_,_=>none
def qR(P:LI1)(t:LI2)(len:Nat)(s:St)(ps:List (Nat×TV)):Option (TV×St):=
 match jU P t with
 |some (e,n)=>if len*n<=2^24/\ps.all (fun p=>p.2.cells.all iO)=true then
   match LY P e with
   |some z=>if z.length=n then
     match um (fun i=>some (i*n,n)) (times z len) ps with
     |some cs=>some (.aO s.heap.length 0 len len n true,{ s with heap:=s.heap++[.cells .own cs] })
     |none=>none
    else none
   |none=>none
  else none
 |none=>none
def a3B:TV->Option Nat
 |.int _ i=>if 0<=i/\i<=2^40 then some i.toNat else none
 |_=>none
def uw(P:LI1)(t:LI2)(s:St)(l c:TV):Option (TV×St):=
 match jU P t,a3B l,a3B c with
 |some (e,n),some l,some c=>
  if l<=c/\uY P e c then
   match LY P e with
   |some z=>if z.length=n then some (.aO s.heap.length 0 l c n true,{ s with heap:=s.heap++[.cells .own (times z c)] })else none
   |none=>none
  else none
 |_,_,_=>none
def iC(P:LI1)(t:LI2)(h:List HB)(m k:TV)(ok:Bool):Option TV:=
 match P.underlying t,k.zk with
 |some (.map kt e),some kv=>
  let es:=match m with
   |.nil .map=>some []
   |.map r=>match h[r]? with
    |some (.map es)=>some es
    |_=>none
   |_=>none
  match es with
  |some es=>match G8 P kt kv es with
   |some (some i)=>match es[i]? with
    |some (_,v)=>some (if ok then .dM [v,.bool true]else v)
    |none=>none
   |some none=>match P.info? e with
    |some i=>match i.zero with
     |some z=>(TV.Xb z).map fun z=>if ok then .dM [z,.bool false]else z
     |none=>none
    |none=>none
   |none=>none
  |none=>none
 |_,_=>none
def yI(P:LI1)(t:LI2)(s:St)(m k v:TV):Option (St×yH):=
 match P.underlying t,k.zk,m with
 |some (.map kt _),some kv,.map r=>match s.heap[r]?,aC P (Instr.checkKey false 10000 kt kv)with
  |some (.map es),some ()=>match G8 P kt kv es with
   |some (some i)=>match es[i]? with
    |some (old,_)=>match old.zk with
     |some ov=>if Instr.sameBits 10000 ov kv then some ({ s with heap:=s.heap.set r (.map (es.set i (k,v))) },qg (.h r))else none
     |none=>none
    |none=>none
   |some none=>some ({ s with heap:=s.heap.set r (.map (es++[(k,v)])) },qg (.h r))
   |none=>none
  |_,_=>none
 |_,_,_=>none
def AO(P:LI1)(t:LI2)(s:St)(m k:TV):Option (EV×St×yH):=
 match P.underlying t,k.zk,m with
 |some (.map kt e),some kv,.map r=>match s.heap[r]?,aC P (Instr.checkKey false 10000 kt kv)with
  |some (.map es),some ()=>match G8 P kt kv es with
   |some (some i)=>match es[i]? with
    |some (old,v)=>match old.zk with
     |some ov=>if Instr.sameBits 10000 ov kv then some (.ent r i v,{ s with heap:=s.heap.set r (.map (es.set i (k,v))) },qg (.h r))else none
     |none=>none
    |none=>none
   |some none=>match P.info? e with
    |some i=>match i.zero with
     |some z=>match TV.Xb z with
      |some z=>some (.ent r es.length z,{ s with heap:=s.heap.set r (.map (es++[(k,z)])) },qg (.h r))
      |none=>none
     |none=>none
    |none=>none
   |none=>none
  |_,_=>none
 |_,_,_=>none
def a1m(P:LI1)(t:LI2)(h h':List HB)(m k:TV):Bool:=
 match iC P t h m k false,iC P t h' m k false with
 |some (.int a x),some (.int b y)=>decide (a=b)&&x==y
 |_,_=>false
def Dv(P:LI1)(t:LI2)(s:St)(m k:TV):Option (EV×St×yH):=
 match AO P t s m k with
 |some (e,s1,i)=>if a1m P t s.heap s1.heap m k then some (e,s1,i)else none
 |none=>none
def Ic(s:St)(m:TV)(e:EV)(v:TV):Option (St×yH):=
 match m,e with
 |.map r,.FK r' j=>if r=r' then match s.heap[r]? with
  |some (.map es)=>match es[j]? with
   |some (k,_)=>some ({ s with heap:=s.heap.set r (.map (es.set j (k,v))) },qg (.h r))
   |none=>none
  |_=>none
  else none
 |_,_=>none
def zI(e:EV)(i:Nat):Option EV:=
 match e with
 |.val (.dM vs)=>(vs[i]?).map .val
 |.ent r j v=>match i with
  | 0=>some (.val v)
  | 1=>some (.FK r j)
  |_=>none
 |_=>none
abbrev dO:=TV->List TV->List HB->Option (TV×List HB×List Nat)
def rQ(P:LI1)(b:Builtin)(at_:Array LI2)(t:LI2)(s:St)(az:List TV):Option (TV×St×yH):=
 match b,az with
 |.len,[x]=>(ZF P at_ s.heap x).map fun(v,i)=>(v,s,i)
 |.append,[d,x]=>jC P at_ s d x
 |.copy,[d,x]=>Ib P at_ s d x
 |.min,az=>(EL P false at_ t az).map fun v=>(v,s,dn)
 |.max,az=>(EL P true at_ t az).map fun v=>(v,s,dn)
 |_,_=>none
def Xk(env:List (Nat×EV)):Option Operand->Option (Option TV)
 |none=>some none
 |some x=>match rJ env x with
  |some v=>some (some v)
  |none=>none
def Oz(P:LI1)(call:dO)(s:St)(c:Call)(t:LI2):Option (EV×St×yH):=
 match c.callee,UU s.env c.args.toList with
 |.builtin b,some az=>(rQ P b c.argTypes t s az).map fun(v,s,i)=>(.val v,s,i)
 |.value f,some az=>match rJ s.env f with
  |some fv=>match call fv az s.heap with
   |some (v,h,ws)=>some (.val v,{ s with heap:=h },⟨true,[],ws.map .h⟩)
   |none=>none
  |none=>none
 |_,_=>none
def pU(P:LI1)(call:dO)(site:Nat->Bool)(s:St)(o:Oper):Option (EV×St×yH):=
 match o.op with
 |.move x|.assign x=>(JH s.env x).map fun v=>(v,s,dn)
 |.pick c a b=>match rJ s.env c with
  |some (.bool t)=>(JH s.env (if t then a else b)).map fun v=>(v,s,dn)
  |_=>none
 |.alloc e=>(LY P e).map fun z=>let (v,s):=rM (site (o.dst.getD 0)) s z;(v,s,dn)
 |.box _ x=>match rJ s.env x with
  |some v=>if v.cells.all iO then let (v,s):=rM (site (o.dst.getD 0)) s v.cells;some (v,s,dn)else none
  |none=>none
 |.build t ps=>match Xi s.env ps.toList with
  |some ps=>(Ox P t ps).map fun v=>(.val v,s,dn)
  |none=>none
 |.buildSlice t len ps=>match Xi s.env ps.toList with
  |some ps=>(qR P t len s ps).map fun(v,s)=>(.val v,s,dn)
  |none=>none
 |.load t a=>match JH s.env a with
  |some a=>(loadT P t s a).map fun(v,i)=>(.val v,s,i)
  |none=>none
 |.store t a x=>match JH s.env a,rJ s.env x with
  |some a,some v=>(storeT P t s a v).map fun(s,i)=>(.undef,s,i)
  |_,_=>none
 |.nilCheck x=>match JH s.env x with
  |some (.loc k o)=>some (.loc k o,s,dn)
  |some (.val (.ptr b o lim))=>some (.val (.ptr b o lim),s,dn)
  |some (.val (.fn f a b))=>some (.val (.fn f a b),s,dn)
  |some (.val (.lC l))=>some (.val (.lC l),s,dn)
  |_=>none
 |.binOp op t x y _=>match rJ s.env x,rJ s.env y with
  |some a,some b=>(uq P op t x y a b).map fun v=>(.val v,s,dn)
  |_,_=>none
 |.unOp op _ x=>match rJ s.env x with
  |some a=>(unT P op a).map fun v=>(.val v,s,dn)
  |none=>none
 |.convert src dst x=>match rJ s.env x with
  |some a=>(SS P src dst a).map fun v=>(.val v,s,dn)
  |none=>none
 |.makeFunc (.func f) first cap=>match UU s.env first.toList,UU s.env cap.toList with
  |some a,some b=>some (.val (.fn f a b),s,dn)
  |_,_=>none
 |.makeMap t r=>match Xk s.env r,P.underlying t with
  |some none,_=>some (.val (.map s.heap.length),{ s with heap:=s.heap++[.map []] },dn)
  |some (some (.int _ _)),some (.map _ _)=>some (.val (.map s.heap.length),{ s with heap:=s.heap++[.map []] },dn)
  |_,_=>none
 |.makeSlice t l c=>match rJ s.env l,rJ s.env c with
  |some l,some c=>(uw P t s l c).map fun(v,s)=>(.val v,s,dn)
  |_,_=>none
 |.slice t x lo hi mx=>match JH s.env x,Xk s.env lo,Xk s.env hi,Xk s.env mx with
  |some x,some lo,some hi,some mx=>match P.underlying t,x with
   |some (.array _ _),x=>(qQ P t x lo hi mx).map fun v=>(.val v,s,dn)
   |_,.val x=>(rP P t x lo hi mx).map fun v=>(.val v,s,dn)
   |_,_=>none
  |_,_,_,_=>none
 |.fieldAddr t x f=>match JH s.env x,Ia P t f with
  |some a,some n=>(RN n a).map fun v=>(v,s,dn)
  |_,_=>none
 |.field t x f=>match rJ s.env x with
  |some a=>(Oy P t a f).map fun v=>(.val v,s,dn)
  |none=>none
 |.indexAddr t x i=>match JH s.env x,rJ s.env i with
  |some a,some i=>(ng P t a i).map fun v=>(v,s,dn)
  |_,_=>none
 |.index t x i=>match rJ s.env x,rJ s.env i with
  |some a,some i=>(JL P t a i).map fun v=>(.val v,s,dn)
  |_,_=>none
 |.lookup t m k ok=>match rJ s.env m,rJ s.env k with
  |some m,some k=>(iC P t s.heap m k ok).map fun v=>(.val v,s,fU (match m with|.map r=>[.h r] |_=>[]))
  |_,_=>none
 |.mapUpdate t m k x|.insert t m k x=>match rJ s.env m,rJ s.env k,rJ s.env x with
  |some m,some k,some v=>(yI P t s m k v).map fun(s,i)=>(.undef,s,i)
  |_,_,_=>none
 |.mapEntry t m k=>match rJ s.env m,rJ s.env k with
  |some m,some k=>Dv P t s m k
  |_,_=>none
 |.entryStore _ m e x=>match rJ s.env m,JH s.env e,rJ s.env x with
  |some m,some e,some v=>(Ic s m e v).map fun(s,i)=>(.undef,s,i)
  |_,_,_=>none
 |.extract t i=>match JH s.env t with
  |some e=>(zI e i).map fun v=>(v,s,dn)
  |none=>none
 |.call c=>Oz P call s c o.type
 |.range t x=>match rJ s.env x,P.underlying t with
  |some (.map r),some (.map _ _)=>match s.heap[r]? with
   |some (.map es)=>some (.val (.iter s.heap.length),{ s with heap:=s.heap++[.dB r es.length []] },yA (.h r))
   |_=>none
  |_,_=>none
 |.entry x=>match rJ s.env x with
  |some (.iter b)=>match s.heap[b]? with
   |some (.dB r n (i::_))=>match s.heap[r]? with
    |some (.map es)=>if es.length=n then(es[i]?).map fun e=>(.val (.dM [e.1,e.2]),s,fU [.h b,.h r])else none
    |_=>none
   |_=>none
  |_=>none
 |_=>none
def Dw(ops:Array Oper)(env:List (Nat×EV))(o:Oper):Option Bool:=
 match o.guard with
 |none=>some true
 |some (j,want)=>match(ops[j]?).bind (·.dst)with
  |some d=>match dR d env with
   |some (.val (.bool b))=>some (b==want)
   |some .undef=>some false
   |_=>none
  |none=>none
def OA(nt:Nat)(o:Oper):Bool:=
 match o.dst with
 |some d=>decide (d<nt)
 |none=>true
def lU(P:LI1)(call:dO)(site:Nat->Bool)(fl nt:Nat)(ops:Array Oper):List Oper->St->Option (St×List yH)
 | [],s=>some (s,[])
 |o::os,s=>if !OA nt o then none else match Dw ops s.env o with
  |some true=>match pU P call site s o with
   |some (v,s1,i)=>match lU P call site fl nt ops os ({ s1 with ws:=kM fl i.ws s.ws }.put o.dst v)with
    |some (s,is)=>some (s,i::is)
    |none=>none
   |none=>none
  |some false=>match lU P call site fl nt ops os (s.put o.dst .undef)with
   |some (s,is)=>some (s,dn::is)
   |none=>none
  |none=>none
def OB:List Nat->List Nat->List Nat
 | [],l=>l
 |x::xs,l=>OB xs (if l.contains x then l else x::l)
def GH(acc:List (List Nat))(o:Oper):List Nat:=
 o.after.toList.foldl (fun l e=>if Region.binds .any e then OB (e.on::acc.getD e.on []) l else l) []
def G9:List Oper->List (List Nat)->List (List Nat)
 | [],acc=>acc
 |o::os,acc=>G9 os (acc++[GH acc o])
def JM:Op->Bool
 |.store .. |.mapUpdate .. |.insert .. |.mapEntry .. |.entryStore ..=>true
 |.call { callee:=.builtin b,.. }=>match b with
  |.len|.min|.max=>false
  |_=>true
 |.call _=>true
 |_=>false
def OC:Op->Bool
 |.store .. |.mapUpdate .. |.insert .. |.mapEntry .. |.entryStore .. |.load .. |.lookup .. |.range .. |.entry ..=>true
 |.call { callee:=.builtin b,.. }=>match b with
  |.min|.max=>false
  |_=>true
 |.call _=>true
 |_=>false
def oN(ops:List Oper):List (Nat×Nat):=
 let pr:=G9 ops []
 (List.range ops.length).flatMap fun j=>((List.range j).filter fun i=>!(pr.getD j []).contains i).map fun i=>(i,j)
def o7(ops:List Oper):Bool:=
 (ops.zipIdx.all fun(o,i)=>o.after.all fun e=>!Region.binds .any e||decide (e.on<i)) &&
 (oN ops).all fun(i,j)=>match ops[i]?,ops[j]? with
  |some a,some b=>a.apart ops.toArray b&&b.apart ops.toArray a
  |_,_=>false
def Cc(a b:Oper):Bool:=match a.op,b.op,a.guard,b.guard with
 |.lookup t (.tmp m) (.tmp k) false,.mapEntry t' (.tmp m') (.tmp k'),none,none=>t==t'&&m==m'&&k==k'
 |_,_,_,_=>false
def nH(ops:List Oper):List (Nat×Nat):=
 (oN ops).filter fun(i,j)=>match ops[i]?,ops[j]? with
  |some a,some b=>((JM a.op&&OC b.op)||(OC a.op&&JM b.op))&&!Cc a b
  |_,_=>false
def Key.isH:Key->Bool
 |.h _=>true
 |.l _=>false
def OD(ws:List Key)(b:yH):Bool:=
 ws.all fun k=>!(b.all&&k.isH)&&!b.ts.contains k&&!b.ws.contains k
def calm(a b:yH):Bool:=OD a.ws b&&OD b.ws a
def Ce(yB:List yH):List (Nat×Nat)->Bool
 | []=>true
 |(i,j)::r=>(match yB[i]?,yB[j]? with
  |some a,some b=>calm a b
  |_,_=>false)&&Ce yB r
inductive Ex where
 |norm|exit (id:Nat)|ret
structure FnT where
 nt:Nat
 body:Code
 results:List ResultVar
def V3(P:LI1)(f:Nat):Option FnT:=
 match P.funcs[f]? with
 | some fn => if fn.name == "runtime.NumGoroutine" then none else match fn.body with
  |some b=>some ⟨fn.ntmps,b,fn.results.toList⟩
  |none=>none
 |none=>none
structure vH where
 live:List (Nat×List (Nat×List Nat))
 head:List (Nat×List (Nat×List Nat))
 site:List (Nat×List Nat)
 exts:List Nat:=[]
 ext:TV->List TV->List HB->Option (TV×List HB×List Nat):=fun _ _ _=>none
 dem:List Nat:=[]
 din:List Nat:=[]
 aat:List Nat:=[]
def SV{α:Type}(k:Nat):List (Nat×List α)->List α
 | []=>[]
 |(j,l)::r=>if j=k then l else SV k r
def vH.iL(T:vH)(f id:Nat):List Nat:=SV id (SV f T.live)
def vH.eY(T:vH)(f id:Nat):List Nat:=SV id (SV f T.head)
def vH.V4(T:vH)(f d:Nat):Bool:=(SV f T.site).contains d
def Dx:List (Nat×EV)->Nat
 | []=>0
 |(_,.loc k _)::r=>max (k+1) (Dx r)
 |_::r=>Dx r
def kN(live:List Nat)(s:St):St:=
 let env:=pick live s.env
 { s with env:=env,loc:=s.loc.take (Dx env) }
def dZ:Code->Nat
 |.region id _ _=>id
 |.seq a _=>dZ a
 |.block _ b=>dZ b
 |.loop b=>dZ b
 |.scope b=>dZ b
 |_=>0
def iter(g:St->Option (Ex×St)):Nat->St->Option (Ex×St)
 | 0,_=>none
 |n+1,s=>match g s with
  |some (.norm,s)=>iter g n s
  |r=>r
def isVal:Nat×EV->Bool
 |(_,.loc _ _)|(_,.ent _ _ _)|(_,.FK _ _)=>false
 |_=>true
def SX:Bool->Option Code->Option Ex
 |true,none=>some .norm
 |false,some .ret=>some .ret
 |false,some (.exit id)=>some (.exit id)
 |_,_=>none
def exec(P:LI1)(T:vH)(call:dO)(L:Nat)(f:Nat)(iy:Bool)(fl nt:Nat):Code->St->Option (Ex×St)
 |.skip,s=>some (.norm,s)
 |.label _,s=>some (.norm,s)
 |.region id ops draw,s=>match lU P call (fun d=>iy||T.V4 f d) fl nt ops ops.toList s with
  |some (s,yB)=>if !draw||(o7 ops.toList&&Ce yB (nH ops.toList))then some (.norm,{ s with env:=pick (T.iL f id) s.env })else none
  |none=>none
 |.seq a b,s=>match exec P T call L f iy fl nt a s with
  |some (.norm,s)=>exec P T call L f iy fl nt b s
  |r=>r
 |.cond c a b,s=>match rJ s.env c with
  |some (.bool true)=>exec P T call L f iy fl nt a s
  |some (.bool false)=>exec P T call L f iy fl nt b s
  |_=>none
 |.block id b,s=>match exec P T call L f iy fl nt b s with
  |some (.exit i,s)=>some (if i=id then .norm else .exit i,s)
  |r=>r
 |.scope b,s=>exec P T call L f iy fl nt b s
 |.loop b,s=>iter (fun s=>exec P T call L f iy fl nt b (kN (T.eY f (dZ b)) s)) L s
 |.exit id,s=>some (.exit id,s)
 |.ret,s=>some (.ret,s)
 |.rangeFunc g ps assign body,s=>match rJ s.env g with
  |some (.fn f1 a1 b1)=>
   if s.env.all isVal&&!iy then
    match call (.fn f1 a1 b1) [.lC (s.heap.length+1)] (s.heap++[.mark,.loop true f nt s.env ps.toList assign body none])with
    |some (_,h,ws)=>match h[s.heap.length+1]? with
     |some (.loop rd f2 RP e2 Dy a2 b2 jW)=>match SX rd jW with
      |some e=>some (e,{ s with heap:=h.set (s.heap.length+1) (.loop false f2 RP e2 Dy a2 b2 (some .skip)),ws:=kM fl (ws.map .h) s.ws })
      |none=>none
     |_=>none
    |none=>none
   else none
  |_=>none
 |_,_=>none
def a6e(P:LI1)(s:St):ResultVar->Option TV
 |.tmp t=>match dR t s.env with
  |some (.val v)=>some v
  |_=>none
 |.cell a t=>match dR a s.env with
  |some a=>(loadT P t s a).map (·.1)
  |none=>none
def yJ(P:LI1)(s:St):List ResultVar->Option (List TV)
 | []=>some []
 |r::rs=>match a6e P s r,yJ P s rs with
  |some v,some vs=>some (v::vs)
  |_,_=>none
def one:List TV->TV
 | [v]=>v
 |vs=>.dM vs
def o8:Nat->List TV->List (Nat×EV)
 |_,[]=>[]
 |k,v::vs=>(k,.val v)::o8 (k+1) vs
def uy(env:List (Nat×EV)):List Nat->List TV->List (Nat×EV)
 |p::ps,v::vs=>uy ((p,.val v)::env) ps vs
 |_,_=>env
def apd(P:LI1)(T:vH)(call:dO)(L:Nat)(f:Nat)(args:List TV)(h:List HB):Option (TV×List HB×List Nat):=
 match V3 P f with
 |some t=>match exec P T call L f false h.length t.nt t.body ⟨o8 0 args,[],h,[]⟩with
  |some (.norm,s)|some (.ret,s)=>match yJ P s t.results with
   |some vs=>if s.ws.isEmpty&&(one vs).flat then some (one vs,h,[])else some (one vs,s.heap,s.ws)
   |none=>none
  |_=>none
 |none=>none
def uz:Ex->Option Code
 |.norm=>none
 |.ret=>some .ret
 |.exit id=>some (.exit id)
def qh:Ex->Bool
 |.norm=>true
 |_=>false
def OE(P:LI1)(T:vH)(call:dO)(L:Nat)(l:Nat)(args:List TV)(h:List HB):Option (TV×List HB×List Nat):=
 match h[l]? with
 |some (.loop true f nt env ps assign body _)=>
  if args.length=ps.length/\ps.all (fun p=>decide (p<nt))then
   match exec P T call L f true h.length nt assign ⟨uy env ps args,[],h,[]⟩with
   |some (.norm,s)=>match s.heap[l]? with
    |some (.loop true f' nt' env' ps' a' b' _)=>
     match exec P T call L f true h.length nt body { s with heap:=s.heap.set l (.loop false f' nt' env' ps' a' b' none),ws:=FM h.length l s.ws }with
     |some (e,s)=>match s.heap[l]? with
      |some (.loop false f' nt' env' ps' a' b' none)=>some (.bool (qh e),s.heap.set l (.loop (qh e) f' nt' env' ps' a' b' (uz e)),FM h.length l s.ws)
      |_=>none
     |none=>none
    |_=>none
   |_=>none
  else none
 |_=>none
def ap(P:LI1)(T:vH)(L:Nat):Nat->dO
 | 0,_,_,_=>none
 |n+1,.fn f first cap,args,h=>apd P T (ap P T L n) L f (first++args++cap) h
 |n+1,.lC l,args,h=>OE P T (ap P T L n) L l args h
 |_,_,_,_=>none
def run(P:LI1)(T:vH)(L n f:Nat)(args:List TV)(h:List HB):Option (TV×List HB×List Nat):=ap P T L n (.fn f [] []) args h
structure Pl where
 c:Nat
 base:Nat
 ext:Nat
 tot:Nat
inductive Lc where
 |cells (ls:List Pl)
 |obj (r:Nat) (o:List Nat)
abbrev Mp:=Key->Option Lc
abbrev Np:=Nat->Option Lc
def Mp.h(M:Mp):Np:=fun b=>M (.h b)
inductive VR(M:Np):TV->LI3->Prop
 |bool (b:Bool):VR M (.bool b) (.bool b)
 |int (k:IntKind) (n:Int):VR M (.int k n) (.int k n)
 |str (s:ByteArray):VR M (.str s) (.string s)
 |a3C:VR M (.nil .ptr) (.pointer none)
 |V5:VR M (.nil .aO) (.slice none 0 0)
 |ZH:VR M (.nil .map) (.map none)
 |nfn:VR M (.nil .fn) .nilFunc
 |a3D:VR M (.nil .ifc) .nilIface
 |ptr {b off lim:Nat} {ls:List Pl} {p:Pl} (hb:M b=some (.cells ls)) (hp:p∈ls) (h:lim<=p.ext) (ht:p.base+lim<=p.tot) :
   VR M (.ptr b off lim) (.pointer (some ⟨p.c,p.base+off,none⟩))
 |aO {b off len cap sz:Nat} {ex:Bool} {ls:List Pl} {p:Pl} {a:Addr} {cap':Nat} (hb:M b=some (.cells ls)) (hp:cap'=0\/p∈ls)
   (h:off+cap*sz<=p.ext) (hl:len<=cap) (hc:cap<=cap') (hx:ex=true->cap'=cap)
   (ha:cap'=0\/(a=⟨p.c,p.base+off,none⟩/\p.base+off+cap'*sz<=p.tot)) (hk:cap'<2^63) :
   VR M (.aO b off len cap sz ex) (.slice (some a) len cap')
 |map {r r':Nat} {o:List Nat} (h:M r=some (.obj r' o)):VR M (.map r) (.map (some r'))
 |lC {l l':Nat} {o:List Nat} (h:M l=some (.obj l' o)):VR M (.lC l) (.func (.yield l') #[] #[])
 |iter {l l':Nat} {o:List Nat} (h:M l=some (.obj l' o)):VR M (.iter l) (.pointer (some ⟨l',0,none⟩))
 |fn {f:FuncId} {az bs:List TV} {xs ys:List LI3} (h1:az.length=xs.length) (h2:∀(i:Nat) (c:TV) (v:LI3),az[i]? = some c->xs[i]? = some v->VR M c v)
   (h3:bs.length=ys.length) (h4:∀(i:Nat) (c:TV) (v:LI3),bs[i]? = some c->ys[i]? = some v->VR M c v):VR M (.fn f az bs) (.func (.func f) xs.toArray ys.toArray)
 |agg {az:List TV} {xs:List LI3} (h1:az.length=xs.length) (h2:∀(i:Nat) (c:TV) (v:LI3),az[i]? = some c->xs[i]? = some v->VR M c v):VR M (.agg az) (.agg xs.toArray)
 |dM {az:List TV} {xs:List LI3} (h1:az.length=xs.length) (h2:∀(i:Nat) (c:TV) (v:LI3),az[i]? = some c->xs[i]? = some v->VR M c v):VR M (.dM az) (.tuple xs.toArray)
structure bZ(M:Np)(az:List TV)(xs:List LI3):Prop where
 len:az.length=xs.length
 at_:∀(i:Nat) (c:TV) (v:LI3),az[i]? = some c->xs[i]? = some v->VR M c v
theorem VR.agg'{M az xs}(h:bZ M az xs):VR M (.agg az) (.agg xs.toArray):=.agg h.len h.at_
theorem VR.RQ{M az xs}(h:bZ M az xs):VR M (.dM az) (.tuple xs.toArray):=.dM h.len h.at_
theorem bZ.nil{M}:bZ M [] []:=⟨rfl,fun i c v h=>by simp at h⟩
theorem bZ.cons{M c v az xs}(h:VR M c v)(hs:bZ M az xs):bZ M (c::az) (v::xs):=
 ⟨by simp[hs.len],fun i c' v' h1 h2=>by
  cases i with
  |zero=>simp at h1 h2;subst h1;subst h2;exact h
  |succ i=>simp at h1 h2;exact hs.at_ i _ _ h1 h2⟩
theorem bZ.oO{M xs}(h:bZ M [] xs):xs=[]:=by have:=h.len;simp at this;exact a4u this.symm
theorem bZ.iq{M c az xs}(h:bZ M (c::az) xs):∃v vs,xs=v::vs/\VR M c v/\bZ M az vs:=by
 cases xs with
 |nil=>have:=h.len;simp at this
 |cons v vs=>exact⟨v,vs,rfl,h.at_ 0 c v rfl rfl,⟨by have:=h.len;simpa using this,fun i c' v' h1 h2=>h.at_ (i+1) c' v' (by simpa using h1) (by simpa using h2)⟩⟩
theorem bZ.append{M az bs xs ys}(h:bZ M az xs)(h':bZ M bs ys):bZ M (az++bs) (xs++ys):=by
 induction az generalizing xs with
 |nil=>have:=h.oO;subst this;simpa using h'
 |cons c az ih=>
  obtain⟨v,vs,rfl,hv,RS⟩:=h.iq;exact .cons hv (ih RS)
theorem bZ.take{M az xs}(h:bZ M az xs)(n):bZ M (az.take n) (xs.take n):=
 ⟨by simp[h.len],fun i c v h1 h2=>by
  rw[a5H]at h1 h2;split at h1
  .rename_i hi;rw[a1e hi]at h2;exact h.at_ i c v h1 h2
  .simp at h1⟩
theorem bZ.drop{M az xs}(h:bZ M az xs)(n):bZ M (az.drop n) (xs.drop n):=
 ⟨by simp[h.len],fun i c v h1 h2=>by rw[a5C]at h1 h2;exact h.at_ _ c v h1 h2⟩
theorem bZ.get{M az xs}(h:bZ M az xs){i:Nat}{c}(hc:az[i]? = some c):∃v,xs[i]? = some v/\VR M c v:=by
 have hi:i<az.length:=(a0x.1 hc).1;have wS:i<xs.length:=by rw[<-h.len];exact hi
 exact⟨xs[i],by simp[wS],h.at_ i c _ hc (by simp[wS])⟩
def JO:Lc->Lc->Prop
 |.cells ls,.cells qw=>∀p∈ls,∃q∈qw,q.c=p.c/\q.base=p.base/\p.ext<=q.ext/\q.tot=p.tot
 |.obj r o,.obj r' o'=>r=r'/\o <+: o'
 |_,_=>False
def tZ{α:Type}(M M':α->Option Lc):Prop:=∀k l,M k=some l->∃l',M' k=some l'/\JO l l'
theorem JO.refl(l):JO l l:=by
 cases l with
 |cells ls=>exact fun p hp=>⟨p,hp,rfl,rfl,a1l _,rfl⟩
 |obj r o=>exact⟨rfl,agE o⟩
theorem JO.trans{a b c}(h:JO a b)(h':JO b c):JO a c:=by
 cases a<;>cases b<;>cases c<;>simp only[JO]at *
 .intro p hp;obtain⟨q,hq,h1,h2,h3,h4⟩:=h p hp;obtain⟨r,hr,g1,g2,g3,g4⟩:=h' q hq;exact⟨r,hr,g1.trans h1,g2.trans h2,a5Y h3 g3,g4.trans h4⟩
 exact⟨h.1.trans h'.1,h.2.trans h'.2⟩
theorem tZ.refl{α}(M:α->Option Lc):tZ M M:=fun _ l h=>⟨l,h,.refl l⟩
theorem tZ.trans{α}{a b c:α->Option Lc}(h:tZ a b)(h':tZ b c):tZ a c:=fun k l hl=>
 let ⟨l',h1,h2⟩:=h k l hl
 let ⟨l'',g1,g2⟩:=h' k l' h1
 ⟨l'',g1,h2.trans g2⟩
theorem tZ.h{M M':Mp}(hm:tZ M M'):tZ M.h M'.h:=fun b l hl=>hm (.h b) l hl
theorem VR.mono{M M':Np}(hm:tZ M M'){v x}(h:VR M v x):VR M' v x:=by
 induction h with
 |bool b=>exact .bool b
 |int k n=>exact .int k n
 |str s=>exact .str s
 |a3C=>exact .a3C
 |V5=>exact .V5
 |ZH=>exact .ZH
 |nfn=>exact .nfn
 |a3D=>exact .a3D
 |ptr hb hp h ht=>
  obtain⟨l',h1,h2⟩:=hm _ _ hb;cases l' with
  |obj r _=>exact h2.elim
  |cells qw=>
   obtain⟨q,hq,e1,e2,e3,e4⟩:=h2 _ hp;rw[<-e1,<-e2];exact .ptr h1 hq (a5Y h e3) (by rw[e2,e4];exact ht)
 |aO hb hp h hl hc hx ha hk=>
  obtain⟨l',h1,h2⟩:=hm _ _ hb;cases l' with
  |obj r _=>exact h2.elim
  |cells qw=>
   rcases hp with hp|hp
   .exact .aO h1 (.inl hp) h hl hc hx (.inl hp) hk
   obtain⟨q,hq,e1,e2,e3,e4⟩:=h2 _ hp;exact .aO h1 (.inr hq) (a5Y h e3) hl hc hx (by rw[e1,e2,e4];exact ha) hk
 |map h=>
  obtain⟨l',h1,h2⟩:=hm _ _ h;cases l' with
  |obj r _=>cases h2.1;exact .map h1
  |cells qw=>exact h2.elim
 |lC h=>
  obtain⟨l',h1,h2⟩:=hm _ _ h;cases l' with
  |obj r _=>cases h2.1;exact .lC h1
  |cells qw=>exact h2.elim
 |iter h=>
  obtain⟨l',h1,h2⟩:=hm _ _ h;cases l' with
  |obj r _=>cases h2.1;exact .iter h1
  |cells qw=>exact h2.elim
 |fn h1 _ h3 _ ih2 ih4=>exact .fn h1 ih2 h3 ih4
 |agg h1 _ ih=>exact .agg h1 ih
 |dM h1 _ ih=>exact .dM h1 ih
theorem bZ.mono{M M':Np}(hm:tZ M M'){az xs}(h:bZ M az xs):bZ M' az xs:=
 ⟨h.len,fun i c v h1 h2=>(h.at_ i c v h1 h2).mono hm⟩
theorem a6h{M v x y}(h:v.toC=some x)(hy:VR M v y):y=x:=by cases hy<;>simp[TV.toC]at h<;>first|exact h|exact h.symm|skip
theorem a1o{M}:∀{az} {xs ys},TV.UR az=some xs->bZ M az ys->ys=xs
 | [],xs,ys,h,hy=>by simp[TV.UR]at h;subst h;exact hy.oO
 |c::az,xs,ys,h,hy=>by
  simp only[TV.UR]at h;split at h
  .rename_i v vs h1 h2;simp at h;subst h;obtain⟨w,ws,rfl,hw,ZI⟩:=hy.iq;rw[a6h h1 hw,a1o h2 ZI]
  simp at h
theorem xu{M v x y}(h:v.zk=some x)(hy:VR M v y):y=x:=by
 unfold TV.zk at h;split at h
 .simp only[a0A]at h;obtain⟨vs,h1,rfl⟩:=h;cases hy with
  |agg g1 g2=>rw[a1o h1 ⟨g1,g2⟩]
 exact a6h h hy
theorem VR.a6i{M v x}(h:TV.ofC x=some v):VR M v x:=by unfold TV.ofC at h;split at h<;>simp at h<;>subst h<;>constructor
theorem bZ.a1p{M}:∀{xs} {az},TV.Dn xs=some az->bZ M az xs
 | [],az,h=>by simp[TV.Dn]at h;subst h;exact .nil
 |x::xs,az,h=>by
  simp only[TV.Dn]at h;split at h
  .rename_i v vs h1 h2;simp at h;subst h;exact .cons (.a6i h1) (bZ.a1p h2)
  simp at h
theorem VR.zl{M v x}(h:TV.Xb x=some v):VR M v x:=by
 unfold TV.Xb at h;split at h
 .rename_i cs;simp only[a0A]at h;obtain⟨vs,h1,rfl⟩:=h;have:=VR.agg' (bZ.a1p (M:=M) h1);simpa using this
 exact .a6i h
theorem VR.cells{M v x}(h:VR M v x):bZ M v.cells x.cells.toList:=by
 cases h with
 |agg h1 h2=>exact⟨by simpa[TV.cells,Value.cells]using h1,by simpa[TV.cells,Value.cells]using h2⟩
 |_=>exact .cons (by first|assumption|constructor<;>assumption) .nil
theorem jw{α P}:∀{s:Sem α} {a},aC P s=some a->∀w,s.run P w=.ok a w
 |.pure b,a,h,w=>by simp[aC]at h;simp[Sem.run,h]
 |.program k,a,h,w=>by simp only[aC]at h;simp only[Sem.run];exact jw h w
 |.mark _ k,a,h,w=>by simp only[aC]at h;simp only[Sem.run];exact jw h w
 |.load ..,a,h,w=>by simp[aC]at h
 |.store ..,a,h,w=>by simp[aC]at h
 |.new ..,a,h,w=>by simp[aC]at h
 |.shape ..,a,h,w=>by simp[aC]at h
 |.freeze ..,a,h,w=>by simp[aC]at h
 |.frozen ..,a,h,w=>by simp[aC]at h
 |.getObj ..,a,h,w=>by simp[aC]at h
 |.setObj ..,a,h,w=>by simp[aC]at h
 |.choose ..,a,h,w=>by simp[aC]at h
 |.sys ..,a,h,w=>by simp[aC]at h
 |.halt ..,a,h,w=>by simp[aC]at h
def wr:HB->Bool
 |.cells .ro _=>false
 |.mark=>false
 |_=>true
def aI:Lc->List Nat
 |.cells ls=>ls.map (·.c)
 |.obj r _=>[r]
structure JQ(N:Np)(w:LI4)(k:BK)(cs:List TV)(p:Pl):Prop where
 row:∃(arr:Array LI3) (ty:LI2) (fz:Nat×Nat),w.heap[p.c]? = some (.cells arr ty fz)/\arr.size=p.tot/\(k≠.ro->fz=(0,0)) /\
  ((k=.last->p.ext=cs.length)->∀(i:Nat) (c:TV) (v:LI3),i<p.ext->cs[i]? = some c->arr[p.base+i]? = some v->VR N c v)
 fit:p.base+p.ext<=p.tot
 ext:p.ext<=cs.length
 base:k≠.ro->p.base=0
inductive ER(M:Mp):EV->LI3->Prop
 |val {v:TV} {x:LI3} (h:VR M.h v x):ER M (.val v) x
 |loc {k off:Nat} {p:Pl} (h:M (.l k)=some (.cells [p])) (hb:p.base=0):ER M (.loc k off) (.pointer (some ⟨p.c,off,none⟩))
 |undef:ER M .undef Go.undef
 |ent {r j:Nat} {v:TV} {r1 i:Nat} {o:List Nat} {x:LI3} (h:M (.h r)=some (.obj r1 o)) (hi:o[i]? = some j) (hv:VR M.h v x):ER M (.ent r j v) (.tuple #[x,Go.goInt i])
 |FK {r j r1 i:Nat} {o:List Nat} (h:M (.h r)=some (.obj r1 o)) (hi:o[i]? = some j):ER M (.FK r j) (Go.goInt i)
theorem ER.uZ{M v x}(h:ER M (.val v) x):VR M.h v x:=by cases h;assumption
def kJ(M:Mp)(env:List (Nat×EV))(tmps:Array LI3):Prop:=∀t e,dR t env=some e->ER M e (tmps.getD t Go.undef)
structure aau(N:Np)(rd:Bool)(f nt:Nat)(env:List (Nat×EV))(ps:List Nat)(a b:Code)(jW:Option Code)(lp:Loop):Prop where
 ps:lp.params.toList=ps
 vY:lp.assign=a
 body:lp.body=b
 size:nt<=lp.tmps.size
 Nj:∀t v,dR t env=some (.val v)->VR N v (lp.tmps.getD t Go.undef)
 V6:∀t,dR t env=some .undef->lp.tmps.getD t Go.undef=Go.undef
 nol:∀t e,dR t env=some e->isVal (t,e)=true
 ready:rd=true->lp.state=.ready/\lp.pending=none
 busy:rd=false->jW=none->lp.state=.busy
 done:rd=false->∀j,jW=some j->j≠.skip->lp.state=.done/\lp.pending=some j
structure xC(N:Np)(o:List Nat)(es:List (TV×TV))(xs:Array MapEntry):Prop where
 len:es.length=xs.size
 ord:o.length=xs.size
 nod:o.Nodup
 sur:∀j,j<es.length->j∈o
 at_:∀(i:Nat) (x:MapEntry),xs[i]? = some x->x.born=i/\∃j e,o[i]? = some j/\es[j]? = some e/\VR N e.1 x.key/\VR N e.2 x.val
def ajb(N:Np)(w:LI4)(es:List (TV×TV))(r:Nat)(o:List Nat):Prop:=
 ∃xs:Array MapEntry,w.heap[r]? = some (.map xs xs.size)/\xC N o es xs
theorem xC.mono{N N':Np}{o es xs}(hm:tZ N N')(h:xC N o es xs):xC N' o es xs:=
 ⟨h.len,h.ord,h.nod,h.sur,fun i x hx=>let ⟨b,j,e,h1,h2,h3,h4⟩:=h.at_ i x hx;⟨b,j,e,h1,h2,h3.mono hm,h4.mono hm⟩⟩
def ni(N:Np)(w:LI4)(k:BK)(cs:List TV)(ls:List Pl):Prop:=
 (∀c∈cs,iO c=true)/\(∀p∈ls,JQ N w k cs p)/\(k=.own->∃p,ls=[p]/\p.ext=cs.length) /\
   ((k=.grow\/k=.last)->(ls.map (·.c)).Nodup/\∀p∈ls,∀q∈ls,p.ext=cs.length->q.ext=cs.length->p=q)
def pV(N:Np)(w:LI4):HB->Lc->Prop
 |.cells k cs,.cells ls=>ni N w k cs ls
 |.nN cs,.cells ls=>∃cs',cs'.Perm cs/\ni N w .last cs' ls
 |.map es,.obj r o=>ajb N w es r o
 |.mark,.obj r _=>r<w.heap.size
 |.dB m n seen,.obj r _=>∃(b:Nat) (o:List Nat) (sa:Array Nat),N m=some (.obj b o)/\w.heap[r]? = some (.mapIter (some b) n sa n)/\n<=o.length/\sa.toList.map (fun i=>o[i]?)=seen.reverse.map some
 |.loop rd f nt env ps a b jW,.obj r _=>∃lp,w.heap[r]? = some (.loop lp)/\aau N rd f nt env ps a b jW lp
 |_,_=>False
theorem JQ.mono{N N':Np}{w w' k cs p}(hm:tZ N N')(hw:w'.heap[p.c]? = w.heap[p.c]?)(h:JQ N w k cs p):JQ N' w' k cs p:=
 ⟨let ⟨arr,ty,fz,h1,h2,h3,h4⟩:=h.row;⟨arr,ty,fz,hw.trans h1,h2,h3,fun z i c v a b d=>(h4 z i c v a b d).mono hm⟩,h.fit,h.ext,h.base⟩
theorem aau.mono{N N':Np}{rd f nt env ps a b jW lp}(hm:tZ N N')(h:aau N rd f nt env ps a b jW lp):aau N' rd f nt env ps a b jW lp:=
 { h with Nj:=fun t v e=>(h.Nj t v e).mono hm }
theorem ni.mono{N N':Np}{w w' k cs ls}(hm:tZ N N')(hw:∀p∈ls,w'.heap[p.c]? = w.heap[p.c]?)(h:ni N w k cs ls):ni N' w' k cs ls:=
 ⟨h.1,fun p hp=>(h.2.1 p hp).mono hm (hw p hp),h.2.2⟩
theorem pV.mono{N N':Np}{w w' b l}(hm:tZ N N')(hw:∀c∈aI l,w'.heap[c]? = w.heap[c]?)(h:pV N w b l):pV N' w' b l:=by
 cases b with
 |cells k cs=>
  cases l with
  |obj r _=>exact h.elim
  |cells ls=>exact ni.mono hm (fun p hp=>hw p.c (a1w.2 ⟨p,hp,rfl⟩)) h
 |nN cs=>
  cases l with
  |obj r _=>exact h.elim
  |cells ls=>
   obtain⟨cs',h1,h2⟩:=h;exact⟨cs',h1,h2.mono hm fun p hp=>hw p.c (a1w.2 ⟨p,hp,rfl⟩)⟩
 |map es=>
  cases l with
  |cells ls=>exact h.elim
  |obj r _=>
   obtain⟨xs,h1,h2⟩:=h;exact⟨xs,(hw r (by simp[aI])).trans h1,h2.mono hm⟩
 |mark=>
  cases l with
  |cells ls=>exact h.elim
  |obj r _=>
   have h':r<w.heap.size:=h;have:=hw r (by simp[aI]);rw[a4o h']at this;exact(a2I.1 this).1
 |dB m n seen=>
  cases l with
  |cells ls=>exact h.elim
  |obj r _=>
   obtain⟨b,o,sa,h1,h2,h3,h4⟩:=h;obtain⟨l',g1,g2⟩:=hm _ _ h1;cases l' with
   |cells qw=>exact g2.elim
   |obj b' o'=>
    obtain⟨rfl,g3⟩:=g2;refine⟨b,o',sa,g1,(hw r (by simp[aI])).trans h2,a5Y h3 g3.length_le,?_⟩;rw[<-h4];refine a5M fun i hi=>?_;have:o[i]?∈sa.toList.map (fun i=>o[i]?):=a1w.2 ⟨i,hi,rfl⟩;rw[h4]at this;obtain⟨j,_,hj⟩:=a1w.1 this;have aQ:=(a0x.1 hj.symm).1;obtain⟨t,rfl⟩:=g3;rw[a0U aQ]
 |loop rd f nt env ps a b jW=>
  cases l with
  |cells ls=>exact h.elim
  |obj r _=>
   obtain⟨lp,h1,h2⟩:=h;exact⟨lp,(hw r (by simp[aI])).trans h1,h2.mono hm⟩
theorem pV.inb{N w b l}(h:pV N w b l):∀c∈aI l,c<w.heap.size:=by
 intro c hc;cases b with
 |cells k cs=>
  cases l with
  |obj r _=>exact h.elim
  |cells ls=>
   obtain⟨p,hp,rfl⟩:=a1w.1 hc;obtain⟨arr,ty,fz,h1,_⟩:=(h.2.1 p hp).row;exact(a2I.1 h1).1
 |nN cs=>
  cases l with
  |obj r _=>exact h.elim
  |cells ls=>
   obtain⟨p,hp,rfl⟩:=a1w.1 hc;obtain⟨cs',_,h⟩:=h;obtain⟨arr,ty,fz,h1,_⟩:=(h.2.1 p hp).row;exact(a2I.1 h1).1
 |map es=>
  cases l with
  |cells ls=>exact h.elim
  |obj r _=>
   obtain⟨xs,h1,_⟩:=h;simp[aI]at hc;subst hc;exact(a2I.1 h1).1
 |mark=>
  cases l with
  |cells ls=>exact h.elim
  |obj r _=>
   simp[aI]at hc;subst hc;exact h
 |dB m n seen=>
  cases l with
  |cells ls=>exact h.elim
  |obj r _=>
   obtain⟨b,o,sa,_,h1,_⟩:=h;simp[aI]at hc;subst hc;exact(a2I.1 h1).1
 |loop rd f nt env ps a b jW=>
  cases l with
  |cells ls=>exact h.elim
  |obj r _=>
   obtain⟨lp,h1,_⟩:=h;simp[aI]at hc;subst hc;exact(a2I.1 h1).1
abbrev Ct:=Key->Option HB
structure Valid(M:Mp)(D:Key->Prop)(C:Ct)(w:LI4):Prop where
 ok:∀k l,M k=some l->D k->∃b,C k=some b/\pV M.h w b l
 own:∀k k' l l' b,k≠k'->M k=some l->M k'=some l'->D k->C k=some b->wr b=true->∀c∈aI l,c∉aI l'
 inb:∀k l,M k=some l->∀c∈aI l,c<w.heap.size
def rU:Key->Prop:=fun _=>True
theorem Valid.has{M C w}(h:Valid M rU C w){k l}(hk:M k=some l):(C k).isSome=true:=
 let ⟨_,h1,_⟩:=h.ok k l hk trivial;by simp[h1]
theorem Valid.of_heap{M D C w w'}(h:Valid M D C w)(hw:w'.heap=w.heap):Valid M D C w':=
 ⟨fun k l hk hd=>let ⟨b,h1,h2⟩:=h.ok k l hk hd;⟨b,h1,h2.mono (.refl _) (fun c _=>by rw[hw])⟩,h.own,by rw[hw];exact h.inb⟩
def dN(M:Mp)(k:Key)(l:Lc):Mp:=fun j=>if j=k then some l else M j
def mQ(C:Ct)(k:Key)(b:HB):Ct:=fun j=>if j=k then some b else C j
theorem lS{M:Mp}{k l}(h:∀l0,M k=some l0->JO l0 l):tZ M (dN M k l):=by
 intro j l0 hj;by_cases hjk:j=k
 .subst hjk;exact⟨l,by simp[dN],h l0 hj⟩
 exact⟨l0,by simp[dN,hjk,hj],.refl _⟩
theorem Valid.upd{M D D' C w w'}(h:Valid M D C w)(k b l)(hD:∀j,D' j->D j\/j=k)(hold:∀l0,M k=some l0->D k/\JO l0 l/\∀b0,C k=some b0->wr b0=true)(fO:∀c,c<w.heap.size->c∉aI l->w'.heap[c]? = w.heap[c]?)(fZ:∀c∈aI l,(∃l0,M k=some l0/\c∈aI l0)\/w.heap.size<=c)(Gf:w.heap.size<=w'.heap.size)(RF:pV (dN M k l).h w' b l):Valid (dN M k l) D' (mQ C k b) w':=by
 have hle:tZ M (dN M k l):=lS fun l0 h0=>(hold l0 h0).2.1;refine⟨?_,?_,?_⟩
 .intro j l0 hj hd;by_cases hjk:j=k
  .subst hjk;simp only[dN,a2p,a09]at hj;subst hj;exact⟨b,by simp[mQ],RF⟩
  .simp only[dN,hjk,a3U]at hj;obtain⟨b0,h1,h2⟩:=h.ok j l0 hj ((hD j hd).resolve_right hjk);refine⟨b0,by simp[mQ,hjk,h1],h2.mono hle.h fun c hc=>?_⟩;have aQ:=h.inb j l0 hj c hc;refine fO c aQ fun nP=>?_;rcases fZ c nP with⟨l1,SY,hc1⟩|CU
   .obtain⟨hDk,_,hw⟩:=hold l1 SY;obtain⟨b1,CV,_⟩:=h.ok k l1 SY hDk;exact h.own k j l1 l0 b1 (fun e=>hjk e.symm) SY hj hDk CV (hw b1 CV) c hc1 hc
   .omega
 .intro j j' l0 l0' b0 iI hj EM hd hb hw c hc Xc;by_cases hjk:j=k
  .subst hjk;have aav:j'≠j:=fun e=>iI e.symm;simp only[dN,a2p,a09]at hj;subst hj;simp only[dN,aav,a3U]at EM;have aQ:=h.inb j' l0' EM c Xc;rcases fZ c hc with⟨l1,SY,hc1⟩|CU
   .obtain⟨hDk,_,hw⟩:=hold l1 SY;obtain⟨b1,CV,_⟩:=h.ok j l1 SY hDk;exact h.own j j' l1 l0' b1 iI SY EM hDk CV (hw b1 CV) c hc1 Xc
   .omega
  .simp only[dN,hjk,a3U]at hj;simp only[mQ,hjk,a3U]at hb;have hdj:=(hD j hd).resolve_right hjk;have aQ:=h.inb j l0 hj c hc;by_cases aav:j'=k
   .subst aav;simp only[dN,a2p,a09]at EM;subst EM;rcases fZ c Xc with⟨l1,SY,hc1⟩|CU
    .exact h.own j j' l0 l1 b0 iI hj SY hdj hb hw c hc hc1
    .omega
   .simp only[dN,aav,a3U]at EM;exact h.own j j' l0 l0' b0 iI hj EM hdj hb hw c hc Xc
 .intro j l0 hj c hc;by_cases hjk:j=k
  .subst hjk;simp only[dN,a2p,a09]at hj;subst hj;exact RF.inb c hc
  .simp only[dN,hjk,a3U]at hj;exact aar (h.inb j l0 hj c hc) Gf
structure Ext(M0:Mp)(C0:Ct)(w0:LI4)(M:Mp)(C:Ct)(w:LI4)(ws:List Key):Prop where
 JI:tZ M0 M
 frame:∀c,c<w0.heap.size->(∀k∈ws,∀l,M0 k=some l->c∉aI l)->w.heap[c]? = w0.heap[c]?
 nX:∀k,(C0 k).isSome=true->k∉ws->C k=C0 k
 kR:∀k,((C0 k).isSome=true\/C k=none)->k∉ws->M k=M0 k
 fresh:∀k l,M k=some l->∀c∈aI l,c<w0.heap.size->∃l0,M0 k=some l0/\c∈aI l0
 size:w0.heap.size<=w.heap.size
 has:∀k,(C0 k).isSome=true->(C k).isSome=true
 wsub:∀k∈ws,(C0 k).isSome=true
 wrote:∀k∈ws,(M0 k).isSome=true/\∀b,C0 k=some b->wr b=true
 os:w.os=w0.os
 output:w.output=w0.output
 tape:w.tape=w0.tape
theorem Ext.refl(M C w):Ext M C w M C w []:=
 ⟨.refl _,fun _ _ _=>rfl,fun _ _ _=>rfl,fun _ _ _=>rfl,fun _ l h c hc _=>⟨l,h,hc⟩,a1l _,fun _ h=>h,(by simp),(by simp),rfl,rfl,rfl⟩
theorem Ext.drew{M0 C0 w0 M C w w' ws}(h:Ext M0 C0 w0 M C w ws)(hh:w'.heap=w.heap) (ho:w'.os=w.os) (hu:w'.output=w.output) (ht:w'.tape=w.tape):Ext M0 C0 w0 M C w' ws:=
 { h with frame:=(by rw[hh];exact h.frame),size:=(by rw[hh];exact h.size),os:=ho.trans h.os,output:=hu.trans h.output,tape:=ht.trans h.tape }
theorem Ext.trans{M0 M M':Mp}{C0 C C':Ct}{w0 w w':LI4}{ws Xl afs:List Key}(h:Ext M0 C0 w0 M C w ws)(h':Ext M C w M' C' w' Xl)(hd:∀k l,M0 k=some l->(C0 k).isSome=true) (hs:∀k,(C0 k).isSome=true->(k∈ws\/k∈Xl)->k∈afs) (hb:∀k∈afs,(C0 k).isSome=true/\(k∈ws\/k∈Xl)) :Ext M0 C0 w0 M' C' w' afs where
 JI:=h.JI.trans h'.JI
 frame:=by intro c hc hf;have h1:w.heap[c]? = w0.heap[c]?:=h.frame c hc fun k hk l hl=>hf k (hs k (h.wsub k hk) (.inl hk)) l hl;rw[<-h1];refine h'.frame c (aar hc h.size) fun k hk l hl nP=>?_;obtain⟨l0,h2,h3⟩:=h.fresh k l hl c nP hc;exact hf k (hs k (hd k l0 h2) (.inr hk)) l0 h2 h3
 nX:=fun k hk hn=>by have hn1:k∉ws:=fun e=>hn (hs k hk (.inl e));have EO:k∉Xl:=fun e=>hn (hs k hk (.inr e));rw[h'.nX k (h.has k hk) EO,h.nX k hk hn1]
 kR:=fun k hk hn=>by
  rcases hk with hk|hk
  .have hn1:k∉ws:=fun e=>hn (hs k hk (.inl e));have EO:k∉Xl:=fun e=>hn (hs k hk (.inr e));rw[h'.kR k (.inl (h.has k hk)) EO,h.kR k (.inl hk) hn1]
  .have hC:C k=none:=by
    cases hc:C k with
    |none=>rfl
    |some b=>have:=h'.has k (by simp[hc]);simp[hk]at this
   have EO:k∉Xl:=fun e=>by have:=h'.wsub k e;simp[hC]at this
   have hn1:k∉ws:=fun e=>by have:=h.has k (h.wsub k e);simp[hC]at this
   rw[h'.kR k (.inr hk) EO,h.kR k (.inr hC) hn1]
 fresh:=fun k l hl c hc aQ=>by obtain⟨l1,h1,h2⟩:=h'.fresh k l hl c hc (aar aQ h.size);exact h.fresh k l1 h1 c h2 aQ
 size:=a5Y h.size h'.size
 has:=fun k hk=>h'.has k (h.has k hk)
 wsub:=fun k hk=>(hb k hk).1
 wrote:=fun k hk=>by
  by_cases h1:k∈ws
  .exact h.wrote k h1
  .have h2:=h'.wrote k ((hb k hk).2.resolve_left h1);rw[h.kR k (.inl (hb k hk).1) h1,h.nX k (hb k hk).1 h1]at h2;exact h2
 os:=h'.os.trans h.os
 output:=h'.output.trans h.output
 tape:=h'.tape.trans h.tape
theorem Ext.upd{M:Mp}{C:Ct}{w w':LI4}(k:Key)(b:HB)(l:Lc)(ws:List Key)(ZI:((C k).isSome=true/\ws=[k]/\(M k).isSome=true/\∀b,C k=some b->wr b=true)\/(C k=none/\M k=none/\ws=[]))(hle:tZ M (dN M k l))(fO:∀c,c<w.heap.size->c∉aI l->w'.heap[c]? = w.heap[c]?)(fZ:∀c∈aI l,(∃l0,M k=some l0/\c∈aI l0)\/w.heap.size<=c)(Gf:w.heap.size<=w'.heap.size) (ho:w'.os=w.os) (hou:w'.output=w.output) (ht:w'.tape=w.tape) :Ext M C w (dN M k l) (mQ C k b) w' ws where
 JI:=hle
 frame:=by
  intro c hc hf;refine fO c hc fun nP=>?_;rcases fZ c nP with⟨l0,h1,h2⟩|CU
  .rcases ZI with⟨_,rfl,_⟩|⟨_,hn,_⟩
   .exact hf k (by simp) l0 h1 h2
   .rw[hn]at h1;cases h1
  .omega
 nX:=fun j hj hn=>by
  have:j≠k:=by
   rintro rfl;rcases ZI with⟨_,rfl,_⟩|⟨h1,_⟩
   .simp at hn
   .simp[h1]at hj
  simp[mQ,this]
 kR:=fun j hj hn=>by
  have:j≠k:=by
   rintro rfl;rcases ZI with⟨_,rfl,_⟩|⟨h1,_⟩
   .simp at hn
   .rcases hj with hj|hj
    .simp[h1]at hj
    .simp[mQ]at hj
  simp[dN,this]
 fresh:=fun j l0 hj c hc aQ=>by
  by_cases hjk:j=k
  .subst hjk;simp only[dN,a2p,a09]at hj;subst hj;rcases fZ c hc with h1|CU
   .exact h1
   .omega
  .simp only[dN,hjk,a3U]at hj;exact⟨l0,hj,hc⟩
 size:=Gf
 has:=fun j hj=>by
  by_cases hjk:j=k
  .simp[mQ,hjk]
  .simpa[mQ,hjk]using hj
 wsub:=by
  rcases ZI with⟨h1,rfl,_⟩|⟨_,_,rfl⟩
  .intro j hj;simp at hj;subst hj;exact h1
  .simp
 wrote:=by
  rcases ZI with⟨_,rfl,h1⟩|⟨_,_,rfl⟩
  .intro j hj;simp at hj;subst hj;exact h1
  .simp
 os:=ho
 output:=hou
 tape:=ht
theorem ER.mono{M M':Mp}(hm:tZ M M')(hl:∀k l,M (.l k)=some l->M' (.l k)=some l){e x}(h:ER M e x):ER M' e x:=by
 cases h with
 |val h=>exact .val (h.mono hm.h)
 |loc h hb=>exact .loc (hl _ _ h) hb
 |undef=>exact .undef
 |ent h hi hv=>
  obtain⟨l',h1,h2⟩:=hm _ _ h;cases l' with
  |cells _=>exact h2.elim
  |obj r1 o'=>
   obtain⟨rfl,t,rfl⟩:=h2;exact .ent h1 (by rw[a0U (a0x.1 hi).1];exact hi) (hv.mono hm.h)
 |FK h hi=>
  obtain⟨l',h1,h2⟩:=hm _ _ h;cases l' with
  |cells _=>exact h2.elim
  |obj r1 o'=>
   obtain⟨rfl,t,rfl⟩:=h2;exact .FK h1 (by rw[a0U (a0x.1 hi).1];exact hi)
structure OG(M:Mp)(D:Key->Prop)(C:Ct)(w:LI4)(v:EV)(C1:Ct)(ws:List Key)(x:LI3)(w':LI4)(M':Mp):Prop where
 val:Valid M' (fun k=>D k\/(C k=none/\(C1 k).isSome=true)) C1 w'
 ext:Ext M C w M' C1 w' ws
 er:ER M' v x
 loc:∀k l,M (.l k)=some l->M' (.l k)=some l
theorem OG.same{M D C w v x}(h:Valid M D C w)(he:ER M v x):OG M D C w v C [] x w M:=
 ⟨⟨fun k l hk hd=>h.ok k l hk (hd.elim id fun⟨a,b⟩=>by simp[a]at b),fun k k' l l' b a1 a2 a3 hd=>h.own k k' l l' b a1 a2 a3 (hd.elim id fun⟨a,b⟩=>by simp[a]at b),h.inb⟩,.refl M C w,he,fun _ _ h=>h⟩
theorem vI(w:LI4)(o i)(h:i<w.heap.size):(w.alloc o).heap[i]? = w.heap[i]?:=by show(w.heap.push o)[i]? = w.heap[i]?;rw[Array.getElem?_push,a18 (Nat.ne_of_lt h)]
section
variable{P:LI1}{w:LI4}
theorem jl{t i}(h:P.info? t=some i):(typeInfo t).run P w=.ok i w:=by simp[typeInfo,h]
theorem GI{t n}(h:dI P t=some n):∃i,P.info? t=some i/\i.size=n:=by simpa[dI]using h
theorem dw{t n}(h:dI P t=some n):(Go.sizeOf t).run P w=.ok n w:=by obtain⟨i,h1,h2⟩:=GI h;simp[Go.sizeOf,jl h1,h2]
theorem AP{t b}(h:xq P t=some b):(isAgg t).run P w=.ok b w:=by
 unfold xq at h;split at h<;>simp at h<;>subst h
 .simp[isAgg,run_underlying ‹_›]
 .simp[isAgg,run_underlying ‹_›]
 rename_i d _ _ hu;simp only[isAgg,Sem.run_bind,run_underlying hu,Result.andThen_ok];cases d<;>simp_all
theorem vJ(c o n):(⟨c,o,none⟩:Addr).add n=⟨c,o+n,none⟩:=by unfold Addr.add;split<;>simp_all
theorem EP{N c v}(h:VR N c v)(ho:iO c=true):v.oneCell'=true:=by cases h<;>first|rfl|simp[iO]at ho
theorem o9{cs off n r}(h:sub cs off n=some r):off+n<=cs.length/\r=(cs.drop off).take n/\r.length=n:=by
 unfold sub at h;split at h
 .rename_i hl;simp at h;subst h;exact⟨hl,rfl,by simp;omega⟩
 simp at h
theorem wU{cs off new r}(h:xk cs off new=some r) :off+new.length<=cs.length/\r=cs.take off++new++cs.drop (off+new.length)/\r.length=cs.length:=by
 unfold xk at h;split at h
 .rename_i hl;simp at h;subst h;exact⟨hl,by simp,by simp;omega⟩
 .simp at h
theorem JQ.slice{N k cs p}(h:JQ N w k cs p){off n r}(hr:sub cs off n=some r)(he:off+n<=p.ext)(hz:k=.last->p.ext=cs.length) :∃xs,bZ N r xs/\∀(j) (v),xs[j]? = some v->w.cell? ⟨p.c,p.base+off+j,none⟩=some v:=by
 obtain⟨arr,ty,fz,h1,h2,_,h4⟩:=h.row;obtain⟨s1,s2,s3⟩:=o9 hr;have hf:=h.fit;refine⟨(arr.toList.drop (p.base+off)).take n,⟨by rw[s3];simp;omega,fun i c v a b=>?_⟩,fun j v hj=>?_⟩
 .rw[s2,a5H]at a;rw[a5H]at b;split at a
  .rename_i hi;rw[a1e hi,a5C]at b;rw[a5C]at a;exact h4 hz (off+i) c v (by omega) a (by simpa[aaz]using b)
  .simp at a
 .rw[a5H]at hj;split at hj
  .rw[a5C]at hj;simp only[World.cell?,h1];simpa using hj
  .simp at hj
theorem zn{N k cs p}(h:JQ N w k cs p){off n r}(hr:sub cs off n=some r)(he:off+n<=p.ext)(hz:k=.last->p.ext=cs.length) :∃xs,bZ N r xs/\∀w',w'.heap=w.heap->(loadCells ⟨p.c,p.base+off,none⟩ n).run P w'=.ok xs.toArray w':=by
 obtain⟨xs,h1,h2⟩:=h.slice hr he hz;refine⟨xs,h1,fun w' hw'=>?_⟩;have hl:xs.length=n:=by rw[<-h1.len];exact(o9 hr).2.2
 have:=run_loadCells_list (P:=P) w' ⟨p.c,p.base+off,none⟩ xs (fun j v hj=>by rw[vJ];have e:=h2 j v hj;simp only[World.cell?,hw']at e ⊢;exact e)
 rwa [hl]at this
theorem Md{N k cs p}(h:JQ N w k cs p){t off n v}(hs:dI P t=some n)(hv:vG P t cs off=some v) (he:off+n<=p.ext) (hz:k=.last->p.ext=cs.length) :∃x,VR N v x/\(loadVar t ⟨p.c,p.base+off,none⟩).run P w=.ok x w:=by
 unfold vG at hv;rw[hs]at hv;cases ha:xq P t with
 |none=>simp[ha]at hv
 |some b=>
  cases b with
  |true=>
   simp only[ha,a0A]at hv;obtain⟨r,hr,rfl⟩:=hv;obtain⟨xs,g1,g2⟩:=zn (P:=P) h hr he hz;exact⟨_,.agg' g1,by simp[loadVar,AP ha,dw hs,g2 w rfl]⟩
  |false=>
   simp only[ha]at hv;split at hv
   case isFalse=>simp at hv
   rename_i hn1;have he1:off+1<=p.ext:=(by omega);have aQ:=(a0x.1 hv).1;have hr:sub cs off 1=some [v]:=by unfold sub;rw[a1e (by omega)];congr 1;rw[a6y aQ];have:=(a0x.1 hv).2;simp[this]
   obtain⟨xs,g1,g2⟩:=h.slice hr he1 hz;obtain⟨x,xs',rfl,gx,_⟩:=g1.iq;have:=g2 0 x rfl;simp only[adi]at this;exact⟨x,gx,by simp[loadVar,AP ha,this]⟩
end
theorem JR{M k l}(h:M k=some l):dN M k l=M:=by
 funext j;unfold dN;split
 .rename_i e;rw[e,h]
 rfl
theorem kT(s:St)(b e ws):St.get { s with heap:=s.heap++[b],env:=e,ws:=ws }=mQ s.get (.h s.heap.length) b:=by
 funext k
 cases k with
 |h j=>
  simp only[St.get,mQ,Key.h.injEq];split
  .rename_i e;subst e;simp
  rename_i e;by_cases hj:j<s.heap.length
  .rw[a0U hj]
  rw[a4O (by simp;omega),a4O (by omega)]
 |l j=>simp[St.get,mQ]
theorem jm(s:St)(i b)(h:i<s.heap.length)(e ws):St.get { s with heap:=s.heap.set i b,env:=e,ws:=ws }=mQ s.get (.h i) b:=by
 funext k
 cases k with
 |h j=>
  simp only[St.get,mQ,Key.h.injEq];rw[aaF];by_cases hj:i=j
  .subst hj;simp[h]
  rw[a18 hj,a18 (fun e=>hj e.symm)]
 |l j=>simp[St.get,mQ]
theorem Tc(s:St)(cs e ws):St.get { s with loc:=s.loc++[cs],env:=e,ws:=ws }=mQ s.get (.l s.loc.length) (.cells .own cs):=by
 funext k
 cases k with
 |l j=>
  simp only[St.get,mQ,Key.l.injEq];split
  .rename_i e;subst e;simp
  rename_i e;by_cases hj:j<s.loc.length
  .rw[a0U hj]
  rw[a4O (by simp;omega),a4O (by omega)]
 |h j=>simp[St.get,mQ]
theorem OH(s:St)(i cs)(h:i<s.loc.length)(e ws):St.get { s with loc:=s.loc.set i cs,env:=e,ws:=ws }=mQ s.get (.l i) (.cells .own cs):=by
 funext k
 cases k with
 |l j=>
  simp only[St.get,mQ,Key.l.injEq];rw[aaF];by_cases hj:i=j
  .subst hj;simp[h]
  rw[a18 hj,a18 (fun e=>hj e.symm)]
 |h j=>simp[St.get,mQ]
theorem yK{h b lim cs}(e:mZ h b lim=some cs):∃k,h[b]? = some (.cells k cs)/\(k=.last->lim=cs.length):=by
 unfold mZ at e;split at e
 .rename_i k cs' hb;split at e
  .cases e
  rename_i hn;simp at e;subst e;exact⟨k,hb,fun hk=>Decidable.not_not.1 fun hl=>hn ⟨hk,hl⟩⟩
 simp at e
theorem Me{k k' b}(e:AL k b=some k'):(k=.own/\k'=.own)\/((k=.grow\/k=.last)/\k'=.last/\b=true):=by unfold AL at e;split at e<;>simp_all
theorem JU{h h' b off lim new}(e:UW h b off lim new=some h') :∃k k' cs cs',h[b]? = some (.cells k cs)/\((k=.own/\k'=.own)\/((k=.grow\/k=.last)/\k'=.last/\lim=cs.length))/\xk cs off new=some cs'/\h'=h.set b (.cells k' cs'):=by
 unfold UW at e;split at e
 .rename_i k cs hb;split at e
  .rename_i k' hk;simp only[a0A]at e;obtain⟨cs',h1,h2⟩:=e;refine⟨k,k',cs,cs',hb,?_,h1,h2.symm⟩;rcases Me hk with h|⟨a,b,c⟩
   .exact .inl h
   .exact .inr ⟨a,b,by simpa using c⟩
  .cases e
 .simp at e
theorem zJ{arr:Array LI3}{off xs}(i)(h:off+xs.length<=arr.size) :(arr.toList.take off++xs++arr.toList.drop (off+xs.length)).toArray[i]? = if i<off then arr[i]? else if i<off+xs.length then xs[i-off]? else arr[i]?:=by
 have hl:(arr.toList.take off).length=off:=by simp;omega
 simp only[af7];by_cases h1:i<off
 .rw[a1e h1,a6c,a0U (by omega),a5H,a1e h1];simp
 .rw[a18 h1];by_cases h2:i<off+xs.length
  .rw[a1e h2,a6c,a1r (by omega),hl,a0U (by omega)]
  .rw[a18 h2,a1r (by simp;omega),a5C];have:off+xs.length+(i-(List.take off arr.toList++xs).length)=i:=by simp;omega
   rw[this];simp
theorem a3F{cs new r off}(h:xk cs off new=some r)(i) :r[i]? = if i<off then cs[i]? else if i<off+new.length then new[i-off]? else cs[i]?:=by
 obtain⟨h1,h2,_⟩:=wU h;have hl:(cs.take off).length=off:=by simp;omega
 rw[h2];by_cases h1:i<off
 .rw[a1e h1,a6c,a0U (by omega),a5H,a1e h1]
 .rw[a18 h1];by_cases h2:i<off+new.length
  .rw[a1e h2,a6c,a1r (by omega),hl,a0U (by omega)]
  .rw[a18 h2,a1r (by simp;omega),a5C];congr 1;simp;omega
theorem Xm{cs new r off}(h:xk cs off new=some r)(hc:∀c∈cs,iO c=true)(hn:∀c∈new,iO c=true):∀c∈r,iO c=true:=by
 obtain⟨_,h2,_⟩:=wU h;intro c hcr;rw[h2]at hcr;simp only[a3M]at hcr;rcases hcr with(h|h)|h
 .exact hc c (aaf h)
 .exact hn c h
 exact hc c (a6a h)
theorem ny(w:LI4)(g arr c)(h:c≠g):(w.setRow g arr).heap[c]? = w.heap[c]?:=by simp only[World.setRow,abR];rw[a18 (fun e=>h e.symm)]
theorem uD(w:LI4)(g arr cur ty fz)(h:w.heap[g]? = some (.cells cur ty fz)):(w.setRow g arr).heap[g]? = some (.cells arr ty fz):=by simp[World.setRow,abR,h]
theorem Valid.widen{M D}{C C1:Ct}{w'}(h:Valid M D C1 w')(hn:∀k,C k=none->C1 k=none):Valid M (fun j=>D j\/(C j=none/\(C1 j).isSome=true)) C1 w':=
 have aux:∀j,(D j\/(C j=none/\(C1 j).isSome=true))->D j:=fun j hj=>hj.elim id fun⟨a,b⟩=>by rw[hn j a]at b;cases b
 ⟨fun k l hk hd=>h.ok k l hk (aux k hd),fun k k' l l' b a1 a2 a3 hd=>h.own k k' l l' b a1 a2 a3 (aux k hd),h.inb⟩
theorem ES{C k b}(hk:(C k).isSome=true):∀j,C j=none->mQ C k b j=none:=by
 intro j hj;unfold mQ;split
 .rename_i e;subst e;rw[hj]at hk;cases hk
 exact hj
theorem Valid.wrB{M D C w}(h:Valid M D C w){k ls p cs}{kk Ci:BK}(hk:M k=some (.cells ls))(hd:D k)(hc:C k=some (.cells kk cs)) (hp:p∈ls) (yL:(kk=.own/\Ci=.own)\/((kk=.grow\/kk=.last)/\Ci=.last/\p.ext=cs.length)) :p.base=0/\p.ext=cs.length/\(∀c∈cs,iO c=true)/\(∀q∈ls,JQ M.h w kk cs q)/\(ls.map (·.c)).Nodup/\(∀q∈ls,q.ext=cs.length->q=p) /\∃(arr:Array LI3) (ty:LI2),w.heap[p.c]? = some (.cells arr ty (0,0))/\arr.size=p.tot/\cs.length<=p.tot /\∀(i:Nat) (c) (v),cs[i]? = some c->arr[i]? = some v->VR M.h c v:=by
 obtain⟨b,h1,h2⟩:=h.ok k _ hk hd;rw[hc]at h1;cases h1;obtain⟨g1,g2,g3,g4⟩:=h2;have iI:kk≠.ro:=by rcases yL with⟨e,_⟩|⟨e|e,_⟩<;>rw[e]<;>simp
 have AQ:=g2 p hp;have hb:=AQ.base iI;have hx:p.ext=cs.length/\(ls.map (·.c)).Nodup/\∀q∈ls,q.ext=cs.length->q=p:=by
  rcases yL with⟨e,_⟩|⟨e,_,he⟩
  .obtain⟨q,rfl,hq⟩:=g3 e;simp at hp;subst hp;exact⟨hq,by simp,fun q' hq' _=>by simpa using hq'⟩
  .obtain⟨n1,n2⟩:=g4 e;exact⟨he,n1,fun q hq hqe=>n2 q hq p hp hqe he⟩
 obtain⟨arr,ty,fz,r1,r2,r3,r4⟩:=AQ.row;have:=r3 iI;subst this;have hf:=AQ.fit;refine⟨hb,hx.1,g1,g2,hx.2.1,hx.2.2,arr,ty,r1,r2,by omega,fun i c v a b=>?_⟩;have hi:=(a0x.1 a).1;exact r4 (fun _=>hx.1) i c v (by omega) a (by simpa[hb]using b)
theorem Valid.ZJ{M D C w}(h:Valid M D C w){k ls p cs}{kk Ci:BK}{lim}(hk:M k=some (.cells ls))(hd:D k)(hc:C k=some (.cells kk cs)) (hp:p∈ls) (hl:lim<=p.ext) (yL:(kk=.own/\Ci=.own)\/((kk=.grow\/kk=.last)/\Ci=.last/\lim=cs.length)) :(kk=.own/\Ci=.own)\/((kk=.grow\/kk=.last)/\Ci=.last/\p.ext=cs.length):=by
 rcases yL with e|⟨e1,e2,e3⟩
 .exact .inl e
 .obtain⟨b,h1,h2⟩:=h.ok k _ hk hd;rw[hc]at h1;cases h1;have:=(h2.2.1 p hp).ext;exact .inr ⟨e1,e2,by omega⟩
theorem Ie:∀{ls:List Pl},(ls.map (·.c)).Nodup->∀{p q},p∈ls->q∈ls->q.c=p.c->q=p
 | [],_,p,q,hp,_,_=>by simp at hp
 |a::ls,h,p,q,hp,hq,e=>by
  simp only[a4U,a5I]at h;rcases a1E.1 hp with h1|h1<;>rcases a1E.1 hq with h2|h2
  .rw[h1,h2]
  .exact(h.1 (a1w.2 ⟨q,h2,by rw[e,h1]⟩)).elim
  .exact(h.1 (a1w.2 ⟨p,h1,by rw[<-e,h2]⟩)).elim
  exact Ie h.2 h1 h2 e
theorem zK{P M D C w}(h:Valid M D C w){k ls p cs cs' new off xs kk Ci}(hk:M k=some (.cells ls)) (hd:D k) (hc:C k=some (.cells kk cs)) (hp:p∈ls) (yL:(kk=.own/\Ci=.own)\/((kk=.grow\/kk=.last)/\Ci=.last/\p.ext=cs.length))(ho:xk cs off new=some cs') (hx:bZ M.h new xs) (hn:∀c∈new,iO c=true) :∃w',(storeCells ⟨p.c,p.base+off,none⟩ xs).run P w=.ok () w'/\Valid M D (mQ C k (.cells Ci cs')) w'/\Ext M C w M (mQ C k (.cells Ci cs')) w' [k]:=by
 obtain⟨hb,he,h1,AQ,jD,huq,arr,ty,hr,hs,hle,hv⟩:=h.wrB hk hd hc hp yL;obtain⟨o1,o2,o3⟩:=wU ho;have hlen:=hx.len;have iI:kk≠.ro:=by rcases yL with⟨e,_⟩|⟨e|e,_⟩<;>rw[e]<;>simp
 have ajd:Ci≠.ro:=by rcases yL with⟨_,e⟩|⟨_,e,_⟩<;>rw[e]<;>simp
 have V7:∀b0,C k=some b0->wr b0=true:=fun b0 yu=>by rw[hc]at yu;cases yu;cases kk<;>simp_all [wr]
 have vZ:∀v∈xs,v.oneCell'=true:=by
  intro v hv;obtain⟨i,hi,rfl⟩:=a5T.1 hv;have wS:i<new.length:=by omega
  exact EP (hx.at_ i new[i] xs[i] (by simp[wS]) (by simp[hi])) (hn _ (a5K wS))
 have uF:=run_storeCells_at (P:=P) p.c (p.base+off) ty xs 0 arr w hr (by omega) vZ;simp only[adi,hb,a3L]at uF
 let w':LI4:=w.setRow p.c (arr.toList.take off++xs++arr.toList.drop (off+xs.length)).toArray
 have qU:dN M k (.cells ls)=M:=JR hk;have fO:∀c,c<w.heap.size->c∉aI (.cells ls)->w'.heap[c]? = w.heap[c]?:=fun c _ hc=>ny w p.c _ c (fun e=>hc (by rw[e];exact a1w.2 ⟨p,hp,rfl⟩));have fZ:∀c∈aI (.cells ls),(∃l0,M k=some l0/\c∈aI l0)\/w.heap.size<=c:=fun c hc=>.inl ⟨_,hk,hc⟩;have qV:w.heap.size<=w'.heap.size:=by simp[w']
 have FN:tZ M (dN M k (.cells ls)):=by rw[qU];exact .refl _
 refine⟨w',by rw[hb,a3L];exact uF,?_,?_⟩
 .have:=h.upd (D':=D) (w':=w') k (.cells Ci cs') (.cells ls) (fun j hj=>.inl hj) (fun l0 h0=>by
   rw[hk]at h0;cases h0;exact⟨hd,.refl _,V7⟩) fO fZ qV (by
   rw[qU];refine⟨Xm ho h1 hn,fun q hq=>?_,fun e=>?_,fun e=>⟨jD,fun q1 Dz q2 GK e1 e2=>by rw[huq q1 Dz (by omega),huq q2 GK (by omega)]⟩⟩
   .have ZK:=AQ q hq;by_cases Zw:q.c=p.c
    .have:=Ie jD hp hq Zw;subst this;refine⟨⟨_,ty,(0,0),uD w q.c _ arr ty (0,0) hr,by simp;omega,fun _=>rfl,fun _ i c v hi a b=>?_⟩,by omega,by omega,fun _=>hb⟩;rw[hb,a3L,zJ i (by omega)]at b;rw[a3F ho i,hlen]at a;split at a
     .rename_i hi1;rw[a1e hi1]at b;exact hv i c v a b
     .rename_i hi1;rw[a18 hi1]at b;split at a
      .rename_i MC;rw[a1e MC]at b;exact hx.at_ _ c v a b
      .rename_i MC;rw[a18 MC]at b;exact hv i c v a b
    .obtain⟨uG,ty',fz',t1,t2,t3,t4⟩:=ZK.row;refine⟨⟨uG,ty',fz',(ny w p.c _ q.c Zw).trans t1,t2,fun _=>t3 iI,fun hz i c v hi a b=>?_⟩,ZK.fit,by have:=ZK.ext;omega,fun _=>ZK.base iI⟩;exfalso;apply Zw;rcases yL with⟨e,_⟩|⟨_,e,_⟩
     .obtain⟨b',g1,g2⟩:=h.ok k _ hk hd;rw[hc]at g1;cases g1;obtain⟨q',g3,_⟩:=g2.2.2.1 e;rw[g3]at hq hp;simp at hq hp;rw[hq,hp]
     .rw[huq q hq (by rw[hz e];omega)]
   .rcases yL with⟨e0,_⟩|⟨_,e1,_⟩
    .obtain⟨b',g1,g2⟩:=h.ok k _ hk hd;rw[hc]at g1;cases g1;obtain⟨q',g3,g4⟩:=g2.2.2.1 e0;exact⟨q',g3,by omega⟩
    .rw[e1]at e;cases e)
  rwa [qU]at this
 .have:=Ext.upd (M:=M) (C:=C) (w:=w) (w':=w') k (.cells Ci cs') (.cells ls) [k] (.inl ⟨by simp[hc],rfl,by simp[hk],V7⟩) FN fO fZ qV rfl rfl rfl
  rwa [qU]at this
theorem OI{M D C w}(h:Valid M D C w){k cs arr}(ty)(hk:M k=none) (hc:C k=none) (hl:cs.length<=arr.size) (hx:∀(i:Nat) (c) (v),cs[i]? = some c->arr[i]? = some v->VR M.h c v) (hn:∀c∈cs,iO c=true) :Valid (dN M k (.cells [⟨w.heap.size,0,cs.length,arr.size⟩])) (fun j=>D j\/(C j=none/\(mQ C k (.cells .own cs) j).isSome=true)) (mQ C k (.cells .own cs)) (w.alloc (.cells arr ty)) /\Ext M C w (dN M k (.cells [⟨w.heap.size,0,cs.length,arr.size⟩])) (mQ C k (.cells .own cs)) (w.alloc (.cells arr ty)) []:=by
 have hle:tZ M (dN M k (.cells [⟨w.heap.size,0,cs.length,arr.size⟩])):=lS fun l0 h0=>by rw[hk]at h0;cases h0
 have fO:∀c,c<w.heap.size->c∉aI (.cells [⟨w.heap.size,0,cs.length,arr.size⟩])->(w.alloc (.cells arr ty)).heap[c]? = w.heap[c]?:=fun c hc _=>vI w _ c hc;have fZ:∀c∈aI (.cells [⟨w.heap.size,0,cs.length,arr.size⟩]),(∃l0,M k=some l0/\c∈aI l0)\/w.heap.size<=c:=fun c hc=>.inr (by simp[aI]at hc;omega);refine⟨h.upd k _ _ (fun j hj=>?_) (fun l0 h0=>by rw[hk]at h0;cases h0) fO fZ (by simp) ?_,Ext.upd k _ _ [] (.inr ⟨hc,hk,rfl⟩) hle fO fZ (by simp) rfl rfl rfl⟩
 .rcases hj with hj|⟨a,b⟩
  .exact .inl hj
  .right;unfold mQ at b;split at b
   .assumption
   .simp[a]at b
 .refine⟨hn,fun q hq=>?_,fun _=>⟨_,rfl,rfl⟩,by simp⟩;simp at hq;subst hq;exact⟨⟨arr,ty,(0,0),heap_alloc_new w _,rfl,fun _=>rfl,fun _ i c v _ a b=>(hx i c v a (by simpa using b)).mono hle.h⟩,by simpa using hl,a1l _,fun _=>rfl⟩
theorem a6j{M env}{a:Act}(hE:kJ M env a.tmps){x e}(h:JH env x=some e):ER M e (a.eval x):=by
 cases x with
 |tmp t=>exact hE t e h
 |const v=>
  simp only[JH,a0A]at h;obtain⟨t,h1,rfl⟩:=h;exact .val (.zl h1)
 |func f=>
  simp only[JH,a09]at h;subst h;exact .val (VR.fn (xs:=[]) (ys:=[]) rfl (by simp) rfl (by simp))
 |global g=>simp[JH]at h
theorem ZL{M env}{a:Act}(hE:kJ M env a.tmps){x v}(h:rJ env x=some v):VR M.h v (a.eval x):=by
 unfold rJ at h;split at h
 .rename_i v' he;simp at h;subst h;exact(a6j hE he).uZ
 simp at h
structure PR(N:Np)(ps:List (Nat×TV))(qs:List (Nat×LI3)):Prop where
 len:ps.length=qs.length
 at_:∀(i:Nat) (p:Nat×TV) (q:Nat×LI3),ps[i]? = some p->qs[i]? = some q->p.1=q.1/\VR N p.2 q.2
theorem PR.nil{N}:PR N [] []:=⟨rfl,by simp⟩
theorem PR.cons{N i v x ps qs}(h:VR N v x)(hs:PR N ps qs):PR N ((i,v)::ps) ((i,x)::qs):=
 ⟨by simp[hs.len],fun j p q a b=>by
  cases j with
  |zero=>simp at a b;subst a;subst b;exact⟨rfl,h⟩
  |succ j=>simp at a b;exact hs.at_ j p q a b⟩
theorem PR.iq{N i v ps qs}(h:PR N ((i,v)::ps) qs):∃x qs',qs=(i,x)::qs'/\VR N v x/\PR N ps qs':=by
 cases qs with
 |nil=>have:=h.len;simp at this
 |cons q qs'=>
  have h0:=h.at_ 0 (i,v) q rfl rfl;obtain⟨j,x⟩:=q;obtain⟨h1,h2⟩:=h0;simp only at h1;subst h1;exact⟨x,qs',rfl,h2,⟨by have:=h.len;simpa using this,fun j p q a b=>h.at_ (j+1) p q (by simpa using a) (by simpa using b)⟩⟩
theorem PR.oO{N qs}(h:PR N [] qs):qs=[]:=by have:=h.len;simp at this;exact a4u this.symm
def ajf(P:LI1)(c:Sem Next)(w:LI4)(x:LI3)(w':LI4):Prop:=
 c.run P w=.ok (.value x) w'\/(x=Go.undef/\c.run P w=.ok .skip w')
def Ig(P:LI1)(M:Mp)(D:Key->Prop)(C:Ct)(w:LI4)(c:Sem Next)(v:EV)(C1:Ct)(ws:List Key):Prop:=
 ∃x w' M',ajf P c w x w'/\OG M D C w v C1 ws x w' M'
section
variable{P:LI1}{M:Mp}{D:Key->Prop}{w:LI4}{s:St}
theorem Ig.same{C c v x}(hV:Valid M D C w)(hr:c.run P w=.ok (.value x) w)(he:ER M v x):Ig P M D C w c v C []:=
 ⟨x,w,M,.inl hr,.same hV he⟩
theorem rV{k l}(hk:M k=none):∀j l',M (.l j)=some l'->dN M k l (.l j)=some l':=by intro j l' h;unfold dN;rw[a18 (fun e=>by rw[<-e,h]at hk;cases hk)];exact h
theorem a6k(hV:Valid M D s.get w)(zL:M (.h s.heap.length)=none)(hnl:M (.l s.loc.length)=none)(site){cs xs}(ty)(hx:bZ M.h cs xs.toList) (hn:∀c∈cs,iO c=true) {v s1} (h:rM site s cs=(v,s1)) :∃M',OG M D s.get w v s1.get [] (.pointer (some ⟨w.heap.size,0,none⟩)) (w.alloc (.cells xs ty)) M':=by
 have hlen:cs.length<=xs.size:=by have:=hx.len;simpa using aht this
 have JJ:∀(i:Nat) (c:TV) (v:LI3),cs[i]? = some c->xs[i]? = some v->VR M.h c v:=fun i c v a b=>hx.at_ i c v a (by simpa using b);unfold rM at h;cases site with
 |true=>
  simp only[a2p,a1k]at h;obtain⟨rfl,rfl⟩:=h;have hc:s.get (.h s.heap.length)=none:=by simp[St.get]
  have:=OI hV ty zL hc hlen JJ hn;refine⟨dN M (.h s.heap.length) (.cells [⟨w.heap.size,0,cs.length,xs.size⟩]),⟨?_,?_,?_,rV zL⟩⟩
  .rw[kT];exact this.1
  .rw[kT];exact this.2
  .exact .val (VR.ptr (p:=⟨w.heap.size,0,cs.length,xs.size⟩) (ls:=[⟨w.heap.size,0,cs.length,xs.size⟩]) (by simp[Mp.h,dN]) (by simp) (a1l _) (by simpa using hlen))
 |false=>
  simp only[a2K,a3U,a1k]at h;obtain⟨rfl,rfl⟩:=h;have hc:s.get (.l s.loc.length)=none:=by simp[St.get]
  have:=OI hV ty hnl hc hlen JJ hn;refine⟨dN M (.l s.loc.length) (.cells [⟨w.heap.size,0,cs.length,xs.size⟩]),⟨?_,?_,?_,rV hnl⟩⟩
  .rw[Tc];exact this.1
  .rw[Tc];exact this.2
  .exact ER.loc (p:=⟨w.heap.size,0,cs.length,xs.size⟩) (by simp[dN]) rfl
theorem a1q{x c}(h:TV.ofC x=some c):iO c=true:=by unfold TV.ofC at h;split at h<;>simp at h<;>subst h<;>rfl
theorem Xn:∀{xs} {cs},TV.Dn xs=some cs->∀c∈cs,iO c=true
 | [],cs,h=>by simp[TV.Dn]at h;subst h;simp
 |x::xs,cs,h=>by
  simp only[TV.Dn]at h;split at h
  .rename_i v vs h1 h2;simp at h;subst h;intro c hc;rcases a1E.1 hc with rfl|hc
   .exact a1q h1
   exact Xn h2 c hc
  simp at h
theorem a3H{x v}(h:TV.Xb x=some v):∀c∈v.cells,iO c=true:=by
 unfold TV.Xb at h;split at h
 .simp only[a0A]at h;obtain⟨vs,h1,rfl⟩:=h;exact Xn h1
 have h1:=a1q h;cases v<;>simp[iO]at h1<;>simp[TV.cells,iO]
theorem xE{t z}(h:LY P t=some z):∃i x v,P.info? t=some i/\i.zero=some x/\TV.Xb x=some v/\z=v.cells/\(∀c∈z,iO c=true) /\(∀N,bZ N z x.cells.toList)/\∀w,(zeroValue t).run P w=.ok x w:=by
 unfold LY at h;split at h
 .rename_i i hi;split at h
  .rename_i x hx;simp only[a0A]at h;obtain⟨v,h1,rfl⟩:=h;exact⟨i,x,v,hi,hx,h1,rfl,a3H h1,fun N=>(VR.zl h1).cells,fun w=>by simp[zeroValue,jl hi,hx]⟩
  .simp at h
 .simp at h
theorem ZM(vs:List LI3):∀(k off) (arr),off+k+vs.length<=arr.size ->((vs.zipIdx k).foldl (fun(cs:Array LI3) (c:LI3×Nat)=>cs.setIfInBounds (off+c.2) c.1) arr).toList=arr.toList.take (off+k)++vs++arr.toList.drop (off+k+vs.length):=by
 induction vs with
 |nil=>intro k off arr h;simp
 |cons v vs ih=>
  intro k off arr h;simp only[a4C]at h;simp only[List.zipIdx_cons,aeR];rw[ih (k+1) off _ (by simp;omega)];have e:=list_seg_step arr.toList (off+k) v vs (by simp;omega);simpa[Array.toList_setIfInBounds,aaz]using e
theorem NJ{N place place'}(hp:∀i x,place i=some x->place' i=some x):∀{ps} {qs:List (Nat×LI3)} {cs r:List TV} {arr:Array LI3},um place cs ps=some r->PR N ps qs ->bZ N cs arr.toList->∃uG,Instr.fill place' arr qs=some uG/\bZ N r uG.toList
 | [],qs,cs,r,arr,h,hq,hc=>by have:=hq.oO;subst this;simp[um]at h;subst h;exact⟨arr,rfl,hc⟩
 |(i,v)::ps,qs,cs,r,arr,h,hq,hc=>by
  obtain⟨x,qs',rfl,hx,hq'⟩:=hq.iq;simp only[um]at h;split at h
  .rename_i off size AQ;split at h
   .rename_i qV;split at h
    .rename_i cs' ho;obtain⟨o1,o2,o3⟩:=wU ho;have hxc:=hx.cells;have hl1:=hxc.len;have Td:=hc.len;simp only[a8p]at hl1 Td;have e:(x.cells.zipIdx.foldl (fun(cs:Array LI3) (c:LI3×Nat)=>cs.setIfInBounds (off+c.2) c.1) arr).toList=arr.toList.take off++x.cells.toList++arr.toList.drop (off+x.cells.toList.length):=by rw[<-Array.foldl_toList,Array.toList_zipIdx];have:=ZM x.cells.toList 0 off arr (by simp;omega);simpa using this
     have Xc:bZ N cs' (x.cells.zipIdx.foldl (fun(cs:Array LI3) (c:LI3×Nat)=>cs.setIfInBounds (off+c.2) c.1) arr).toList:=by have hlx:x.cells.toList.length=v.cells.length:=(by simp[hl1]);rw[e,o2,hlx];exact((hc.take off).append hxc).append (hc.drop _)
     obtain⟨uG,g1,g2⟩:=NJ hp h hq' Xc;refine⟨uG,?_,g2⟩;simp only[Instr.fill,hp i _ AQ];rw[a18 (by simp;omega)];exact g1
    .simp at h
   .simp at h
  .simp at h
theorem OJ{w}:∀(fs),Dq P fs=true->(fs.mapM (fun f=>Functor.map (Prod.mk f.offset) (Go.sizeOf f.type):Field->Sem (Nat×Nat))).run P w=.ok (fs.map fun f=>(f.offset,(dI P f.type).getD 0)) w
 | [],_=>by simp
 |f::fs,h=>by simp only[Dq,acp,a2n]at h;obtain⟨n,hn⟩:=a5Z.1 h.1;have ih:=OJ (w:=w) fs (by simpa[Dq]using h.2);simp only[List.mapM_cons,Sem.run_bind,Sem.run_map,dw hn,Result.andThen_ok,Sem.run_pure,ih,a4U,hn,a5V]
theorem a6m{N t ps qs v}(h:Ox P t ps=some v)(hq:PR N ps qs) :∃x,VR N v x/\∀w,(Instr.build t qs.toArray).run P w=.ok x w:=by
 unfold Ox at h;split at h
 .rename_i z fs hz hu;split at h
  .rename_i ha;simp only[a0A]at h;obtain⟨r,hr,rfl⟩:=h;obtain⟨i,x,v,_,_,_,_,_,hvr,hzr⟩:=xE hz;obtain⟨uG,g1,g2⟩:=NJ (place':=fun i=>(fs.map fun f=>(f.offset,(dI P f.type).getD 0))[i]?) (fun i x hx=>by
    unfold UY at hx;split at hx
    .rename_i f hf;simp only[a0A]at hx;obtain⟨n,hn,rfl⟩:=hx;simp[hf,hn]
    .simp at hx) hr hq (hvr N)
   refine⟨_,.agg' g2,fun w=>?_⟩;have hm:(fs.mapM (fun f=>Functor.map (Prod.mk f.offset) (Go.sizeOf f.type):Field->Sem (Nat×Nat))).run P w=.ok (fs.map fun f=>(f.offset,(dI P f.type).getD 0)) w:=by rw[Array.mapM_eq_mapM_toList,Sem.run_map,OJ fs.toList ha];simp only[Result.andThen_ok];congr 1;apply afh;simp
   simp only[Array.getElem?_map]at g1;simp[Instr.build,hzr w,run_underlying hu,hm,g1]
  .simp at h
 .rename_i z n e hz hu;split at h
  .rename_i n hn;simp only[a0A]at h;obtain⟨r,hr,rfl⟩:=h;obtain⟨i,x,v,_,_,_,_,_,hvr,hzr⟩:=xE hz;obtain⟨uG,g1,g2⟩:=NJ (place':=fun i=>some (i*n,n)) (fun i x hx=>hx) hr hq (hvr N);exact⟨_,.agg' g2,fun w=>by simp[Instr.build,hzr w,run_underlying hu,dw hn,g1]⟩
  .simp at h
 .simp at h
theorem Xo{t cs off v}(h:vG P t cs off=some v):∃n,dI P t=some n/\off+n<=cs.length:=by
 unfold vG at h;split at h
 .rename_i n _ hn;simp only[a0A]at h;obtain⟨r,hr,_⟩:=h;exact⟨n,hn,(o9 hr).1⟩
 .rename_i n _ hn;split at h
  .rename_i h1;subst h1;exact⟨1,hn,(a0x.1 h).1⟩
  simp at h
 simp at h
theorem a1s{N t cs off v xs}(h:vG P t cs off=some v)(hx:bZ N cs xs) :∃x,VR N v x/\(Go.part t xs.toArray off).run P w=.ok x w:=by
 unfold vG at h;split at h
 .rename_i n ha hn;simp only[a0A]at h;obtain⟨r,hr,rfl⟩:=h;obtain⟨s1,s2,s3⟩:=o9 hr;have hl:=hx.len;refine⟨.agg ((xs.drop off).take n).toArray,.agg' (by rw[s2];exact(hx.drop off).take n),?_⟩;simp[Go.part,AP ha,dw hn]
 .rename_i n ha hn;split at h
  .obtain⟨x,h1,h2⟩:=hx.get h;exact⟨x,h2,by simp[Go.part,AP ha,h1]⟩
  .simp at h
 .simp at h
theorem Ih{t e v i x}(hV:Valid M D s.get w)(h:loadT P t s e=some (v,i))(hx:ER M e x)(hD:∀k∈i.ts,D k) :i.ws=[]/\∃y,VR M.h v y/\(Instr.loadAt t x).run P w=.ok y w:=by
 unfold loadT at h;split at h
 .rename_i k off;split at h
  .rename_i cs hk;simp only[a0A,a1k]at h;obtain⟨v',hv,rfl,rfl⟩:=h;cases hx with
   |loc hm hb=>
    rename_i p;have hg:s.get (.l k)=some (.cells .own cs):=(by simp[St.get,hk]);have hd:=hD (.l k) (by simp[yA]);obtain⟨b,h1,h2⟩:=hV.ok _ _ hm hd;rw[hg]at h1;cases h1;obtain⟨_,h3,h4,_⟩:=h2;obtain⟨q,hq,he⟩:=h4 rfl;simp at hq;subst hq;obtain⟨n,hn,hle⟩:=Xo hv;obtain⟨y,g1,g2⟩:=Md (P:=P) (h3 p (by simp)) hn hv (by omega) (fun e=>by cases e);rw[hb,a3L]at g2;exact⟨rfl,y,g1,by simp[Instr.loadAt,Instr.sureAddr,g2]⟩
  .simp at h
 .rename_i b off lim;split at h
  .rename_i cs n hb hn;split at h
   .rename_i Nk;simp only[a0A,a1k]at h;obtain⟨v',hv,rfl,rfl⟩:=h;cases hx with
    |val hx=>
     cases hx with
     |ptr hm hp hl ht=>
      rename_i ls p;obtain⟨k,hk,Xp⟩:=yK hb;have hd:=hD (.h b) (by simp[yA]);obtain⟨gQ,h1,h2⟩:=hV.ok _ _ hm hd;simp only[St.get,hk,a09]at h1;subst h1;obtain⟨_,h3,_⟩:=h2;obtain⟨y,g1,g2⟩:=Md (P:=P) (h3 p hp) hn hv (by omega) (fun e=>by have:=Xp e;have:=(h3 p hp).ext;omega);exact⟨rfl,y,g1,by simp[Instr.loadAt,Instr.sureAddr,g2]⟩
   .simp at h
  .simp at h
 .simp at h
theorem NM{l:List TV}(h:l.all iO=true):∀c∈l,iO c=true:=by simpa using h
theorem ZN{t e v i x y s1}(hV:Valid M D s.get w)(h:storeT P t s e v=some (s1,i))(hx:ER M e x)(hy:VR M.h v y)(hD:∀k∈i.ts,D k) :s1.env=s.env/\∃w',(Instr.storeAt t x y).run P w=.ok () w'/\Valid M D s1.get w'/\Ext M s.get w M s1.get w' i.ws/\∀k,s.get k=none->s1.get k=none:=by
 unfold storeT at h;split at h
 case h_2=>simp at h
 rename_i n hn;split at h
 case isFalse=>simp at h
 rename_i hc;obtain⟨hlen,vZ⟩:=hc;have hyc:=hy.cells;have hyl:y.cells.size=n:=by have:=hyc.len;simp at this;omega
 split at h
 .rename_i k off;split at h
  .rename_i cs hk;simp only[a0A,a1k]at h;obtain⟨cs',ho,rfl,rfl⟩:=h;cases hx with
   |loc hm hb=>
    rename_i p;have hg:s.get (.l k)=some (.cells .own cs):=(by simp[St.get,hk]);obtain⟨w',r1,r2,r3⟩:=zK (P:=P) hV hm (hD _ (by simp[qg])) hg (a1D.2 rfl) (.inl ⟨rfl,rfl⟩) ho hyc (NM vZ);have MF:=(a0x.1 hk).1;refine⟨rfl,w',?_,?_,?_,?_⟩
    .rw[hb,a3L]at r1;simp[Instr.storeAt,Instr.sureAddr,storeVar,dw hn,hyl,r1]
    .rw[OH s k cs' MF];exact r2
    .rw[OH s k cs' MF];exact r3
    .rw[OH s k cs' MF];exact ES (by simp[hg])
  .simp at h
 .rename_i b off lim;split at h
  .rename_i Nk;simp only[a0A,a1k]at h;obtain⟨h',hs,rfl,rfl⟩:=h;cases hx with
   |val hx=>
    cases hx with
    |ptr hm hp hl ht=>
     rename_i ls p;obtain⟨kk,Ci,cs,cs',hb,yL,ho,rfl⟩:=JU hs;have hg:s.get (.h b)=some (.cells kk cs):=(by simp[St.get,hb]);obtain⟨w',r1,r2,r3⟩:=zK (P:=P) hV hm (hD _ (by simp[qg])) hg hp (hV.ZJ hm (hD _ (by simp[qg])) hg hp hl yL) ho hyc (NM vZ);have MF:=(a0x.1 hb).1;refine⟨rfl,w',?_,?_,?_,?_⟩
     .simp[Instr.storeAt,Instr.sureAddr,storeVar,dw hn,hyl,r1]
     .rw[jm s b _ MF];exact r2
     .rw[jm s b _ MF];exact r3
     .rw[jm s b _ MF];exact ES (by simp[hg])
  .simp at h
 .simp at h
theorem Ii{n v j N x}(h:idx n v=some j)(hx:VR N v x):∃k i,x=.int k i/\0<=i/\i<n/\j=i.toNat/\j<n:=by
 unfold idx at h;split at h
 .rename_i k i;split at h
  .rename_i hc;simp at h;subst h;cases hx;exact⟨k,i,rfl,hc.1,hc.2,rfl,by omega⟩
  simp at h
 simp at h
theorem OL{o e e' x}(h:RN o e=some e')(hx:ER M e x):∃a,x=.pointer (some a)/\ER M e' (.pointer (some (a.add o))):=by
 unfold RN at h;split at h
 .simp at h;subst h;cases hx with
  |loc hm hb=>exact⟨_,rfl,by rw[vJ];exact .loc hm hb⟩
 .rename_i b off lim;split at h
  .rename_i hl;simp at h;subst h;cases hx with
   |val hx=>
    cases hx with
    |ptr hm hp hl ht=>exact⟨_,rfl,by rw[vJ,aaz];exact .val (.ptr hm hp hl ht)⟩
  simp at h
 simp at h
theorem V8{t f n e e' x}(h1:Ia P t f=some n)(h:RN n e=some e')(hx:ER M e x) :∃y,ER M e' y/\(Instr.fieldAt t x f).run P w=.ok y w:=by
 obtain⟨a,rfl,he⟩:=OL h hx;unfold Ia at h1;split at h1
 .rename_i fs hu;split at h1
  .rename_i fd hf;split at h1
   .rename_i m hm;split at h1
    .simp at h1
    .rename_i hz;simp at h1;subst h1;refine⟨_,he,?_⟩;simp[Instr.fieldAt,run_underlying hu,hf,Instr.sureAddr,fieldPlace,dw hm,hz]
   .simp at h1
  .simp at h1
 .simp at h1
theorem OM{N t f v v' x}(h:Oy P t v f=some v')(hx:VR N v x) :∃y,VR N v' y/\(Instr.field t x f).run P w=.ok y w:=by
 unfold Oy at h;split at h
 .rename_i fs cs hu;split at h
  .rename_i fd hf;cases hx with
   |agg g1 g2=>
    obtain⟨y,r1,r2⟩:=a1s (P:=P) (w:=w) h ⟨g1,g2⟩;exact⟨y,r1,by simp[Instr.field,run_underlying hu,hf,asAgg,r2]⟩
  .simp at h
 .simp at h
theorem AU{t e e' v x y}(h:ng P t e v=some e')(hx:ER M e x)(hy:VR M.h v y) :∃z,ER M e' z/\(Instr.indexAt t x y).run P w=.ok z w:=by
 unfold ng at h;split at h
 .rename_i el hu;split at h
  .rename_i n b off len cap sz ex hn;split at h
   .rename_i qV;simp only[a0A]at h;obtain⟨j,hj,rfl⟩:=h;subst qV;obtain⟨k,i,rfl,h0,h1,rfl,h2⟩:=Ii hj hy;cases hx with
    |val hx=>
     cases hx with
     |aO hb hp hl hle hc hex ha hk=>
      rename_i ls p a cap';rcases ha with ha|⟨rfl,ha⟩
      .omega
      .have hmul:i.toNat*n+n<=len*n:=by
        have:=a3N n (show i.toNat+1<=len by omega)
        rwa [a3W,abn]at this
       have adf:cap*n<=cap'*n:=a3N n (by omega);have hp:=hp.resolve_left (by omega);refine⟨_,.val (.ptr hb hp (lim:=off+cap*n) (off:=off+i.toNat*n) (by omega) (by omega)),?_⟩;simp[Instr.indexAt,asIntOf,run_underlying hu,h0,h1,dw hn,vJ,aaz]
   .simp at h
  .simp at h
 .rename_i len el hu;split at h
  .rename_i n hn;split at h
   .rename_i j hj;obtain⟨k,i,rfl,h0,h1,rfl,h2⟩:=Ii hj hy;obtain⟨a,rfl,he⟩:=OL h hx;refine⟨_,he,?_⟩;simp[Instr.indexAt,asIntOf,run_underlying hu,Instr.sureAddr,h0,h1,dw hn]
   .simp at h
  .simp at h
 .simp at h
theorem OO{N t v u r x y}(h:JL P t v u=some r)(hx:VR N v x)(hy:VR N u y) :∃z,VR N r z/\(Instr.index t x y).run P w=.ok z w:=by
 unfold JL at h;split at h
 .rename_i len el cs hu;split at h
  .rename_i n j hn hj;obtain⟨k,i,rfl,h0,h1,rfl,h2⟩:=Ii hj hy;cases hx with
   |agg g1 g2=>
    obtain⟨z,r1,r2⟩:=a1s (P:=P) (w:=w) h ⟨g1,g2⟩;exact⟨z,r1,by simp[Instr.index,asIntOf,run_underlying hu,h0,h1,dw hn,r2]⟩
  .simp at h
 .rename_i bs hu;split at h
  .rename_i j hj;obtain⟨k,i,rfl,h0,h1,rfl,h2⟩:=Ii hj hy;simp only[a0A]at h;obtain⟨b,hb,rfl⟩:=h;cases hx;exact⟨_,.int _ _,by simp[Instr.index,asIntOf,run_underlying hu,h0,hb]⟩
  .simp at h
 .simp at h
theorem a1t{N}:∀{az} {xs ys},CS az=some xs->bZ N az ys->ys=xs
 | [],xs,ys,h,hy=>by simp[CS]at h;subst h;exact hy.oO
 |c::az,xs,ys,h,hy=>by
  simp only[CS]at h;split at h
  .rename_i v vs h1 h2;simp at h;subst h;obtain⟨u,us,rfl,hu,hus⟩:=hy.iq;rw[xu h1 hu,a1t h2 hus]
  simp at h
def Ij:NK->LI3->Prop
 |.ptr,x=>x=.pointer none
 |.aO,x=>x=.slice none 0 0
 |.map,x=>x=.map none
 |.fn,x=>x=.nilFunc
 |.ifc,x=>x=.nilIface
def zo:NK->LI3->Prop
 |.ptr,x=>∃a,x=.pointer (some a)
 |.aO,x=>∃a l c,x=.slice (some a) l c
 |.map,x=>∃r,x=.map (some r)
 |.fn,x=>∃f a c,x=.func f a c
 |.ifc,_=>False
theorem a1u{N v k x}(h:ZG v=some k)(hx:VR N v x):Ij k x:=by cases hx<;>simp[ZG]at h<;>subst h<;>rfl
theorem Xq{N v k x}(h:LZ v=some k)(hx:VR N v x):zo k x:=by cases hx<;>simp[LZ]at h<;>subst h<;>simp[zo]
theorem a6o{t:LI2}{k:NK}(h:Mc P t=some k):match k with
  |.ptr=>∃e,P.underlying t=some (.pointer e)
  |.aO=>∃e,P.underlying t=some (.slice e)
  |.map=>∃e f,P.underlying t=some (.map e f)
  |.fn=>∃e f g,P.underlying t=some (.func e f g)
  |.ifc=>False:=by
 unfold Mc at h;split at h<;>simp at h<;>subst h<;>simp_all
theorem a3J{t k x y}(h:Mc P t=some k)(hxy:(Ij k x/\zo k y)\/(zo k x/\Ij k y))(d) :(Op.equalIn (d+1) t x y).run P w=.ok false w:=by
 have hk:=a6o h;cases k with
 |ptr=>
  obtain⟨e,hu⟩:=hk;rcases hxy with⟨hx,a,rfl⟩|⟨⟨a,rfl⟩,hy⟩
  .cases hx;simp[Op.equalIn,run_underlying hu]
  .cases hy;simp[Op.equalIn,run_underlying hu]
 |aO=>
  obtain⟨e,hu⟩:=hk;rcases hxy with⟨hx,a,l,c,rfl⟩|⟨⟨a,l,c,rfl⟩,hy⟩
  .cases hx;simp[Op.equalIn,run_underlying hu]
  .cases hy;simp[Op.equalIn,run_underlying hu]
 |map=>
  obtain⟨e,f,hu⟩:=hk;rcases hxy with⟨hx,a,rfl⟩|⟨⟨a,rfl⟩,hy⟩
  .cases hx;simp[Op.equalIn,run_underlying hu]
  .cases hy;simp[Op.equalIn,run_underlying hu]
 |fn=>
  obtain⟨e,f,g,hu⟩:=hk;rcases hxy with⟨hx,a,b,c,rfl⟩|⟨⟨a,b,c,rfl⟩,hy⟩
  .cases hx;simp[Op.equalIn,run_underlying hu]
  .cases hy;simp[Op.equalIn,run_underlying hu]
 |ifc=>exact hk.elim
theorem a1v{t k ox oy x y}(h:Mc P t=some k)(hxy:(Ij k x/\zo k y)\/(zo k x/\Ij k y))(b op)(hb:(op=.eql/\b=false)\/(op=.neq/\b=true)) :
  (do eqGuard op t ox oy x y;binOp op t x y:Sem LI3).run P w=.ok (.bool b) w:=by
 have he:(Op.equal t x y).run P w=.ok false w:=a3J h hxy 9999;have hg:(eqGuard op t ox oy x y).run P w=.ok () w:=by
  cases k<;>rcases hxy with⟨hx,hy⟩|⟨hx,hy⟩<;>simp only[Ij,zo]at hx hy <;>
   (first|(exact hy.elim)|(exact hx.elim)|skip)<;>(try obtain⟨_,rfl⟩:=hx)<;>(try obtain⟨_,rfl⟩:=hy)<;>(try obtain⟨_,_,rfl⟩:=hx)<;>(try obtain⟨_,_,rfl⟩:=hy)<;>(try subst hx)<;>(try subst hy) <;>
   (try obtain⟨_,_,_,rfl⟩:=hx)<;>(try obtain⟨_,_,_,rfl⟩:=hy)<;>rcases hb with⟨rfl,rfl⟩|⟨rfl,rfl⟩<;>simp[eqGuard]
 have RU:(binOp op t x y).run P w=.ok (.bool b) w:=by
  cases k<;>rcases hxy with⟨hx,hy⟩|⟨hx,hy⟩<;>simp only[Ij,zo]at hx hy <;>
   (first|(exact hy.elim)|(exact hx.elim)|skip)<;>(try obtain⟨_,rfl⟩:=hx)<;>(try obtain⟨_,rfl⟩:=hy)<;>(try obtain⟨_,_,rfl⟩:=hx)<;>(try obtain⟨_,_,rfl⟩:=hy)<;>(try subst hx)<;>(try subst hy) <;>
   (try obtain⟨_,_,_,rfl⟩:=hx)<;>(try obtain⟨_,_,_,rfl⟩:=hy)<;>rcases hb with⟨rfl,rfl⟩|⟨rfl,rfl⟩<;>simp only[binOp,Sem.run_bind,he,Result.andThen_ok,Sem.run_pure,abf]
 simp only[Sem.run_bind,hg,Result.andThen_ok,RU]
theorem ZO{N op t ox oy a b r x y}(h:uq P op t ox oy a b=some r)(hx:VR N a x)(hy:VR N b y) :
  ∃z,VR N r z/\(do eqGuard op t ox oy x y;binOp op t x y:Sem LI3).run P w=.ok z w:=by
 unfold uq at h;split at h
 .rename_i u v hu hv;split at h
  .rename_i z hz;have e1:=xu hu hx;have e2:=xu hv hy;subst e1;subst e2;exact⟨z,.zl h,jw hz w⟩
  .simp at h
 .split at h
  .rename_i hn;unfold Du at hn;split at hn
   case h_2=>simp at hn
   rename_i k hk;have hxy:(Ij k x/\zo k y)\/(zo k x/\Ij k y):=by
    simp only[aam,a2n,a6x]at hn;rcases hn with⟨h1,h2⟩|⟨h1,h2⟩
    .exact .inl ⟨a1u h1 hx,Xq h2 hy⟩
    .exact .inr ⟨Xq h1 hx,a1u h2 hy⟩
   split at h
   .simp at h;subst h;exact⟨_,.bool false,a1v hk hxy false _ (.inl ⟨rfl,rfl⟩)⟩
   .simp at h;subst h;exact⟨_,.bool true,a1v hk hxy true _ (.inr ⟨rfl,rfl⟩)⟩
   .simp at h
  .simp at h
theorem jk{N op a r x}(h:unT P op a=some r)(hx:VR N a x):∃z,VR N r z/\(Op.unary op x).run P w=.ok z w:=by
 unfold unT at h;split at h
 .rename_i u hu;split at h
  .rename_i z hz;have e1:=xu hu hx;subst e1;exact⟨z,.zl h,jw hz w⟩
  simp at h
 simp at h
theorem V9{N t u a r x}(h:SS P t u a=some r)(hx:VR N a x):∃z,VR N r z/\(convert t u x).run P w=.ok z w:=by
 unfold SS at h;split at h
 .rename_i u hu;split at h
  .rename_i z hz;have e1:=xu hu hx;subst e1;exact⟨z,.zl h,jw hz w⟩
  simp at h
 simp at h
theorem zM{N mx at_ t az r xs}(h:EL P mx at_ t az=some r)(hx:bZ N az xs) :∃z,VR N r z/\(if mx then Builtin.max_ at_ t xs.toArray else Builtin.min_ at_ t xs.toArray).run P w=.ok z w:=by
 unfold EL at h;split at h
 .rename_i us hu;split at h
  .rename_i z hz;have e1:=a1t hu hx;subst e1;exact⟨z,.zl h,jw hz w⟩
  .simp at h
 .simp at h
theorem lW{n j v}(h:rO n v=some j):j<=n:=by
 unfold rO at h;split at h
 .split at h
  .simp at h;omega
  simp at h
 simp at h
theorem uH{N n j m v x code}(h:rO n v=some j)(hx:VR N v x)(hm:j<=m) :(Instr.sliceBound x m code).run P w=.ok j w:=by
 unfold rO at h;split at h
 .rename_i k i;split at h
  .rename_i hc;simp at h;subst h;cases hx;have:i<=(m:Int):=(by omega);simp[Instr.sliceBound,asIntOf,hc.1,this]
  .simp at h
 .simp at h
inductive OR(N:Np):Option TV->Option LI3->Prop
 |none:OR N none none
 |some {v:TV} {x:LI3} (h:VR N v x):OR N (some v) (some x)
theorem yM{N is len cap' n l0 hg lo hi ZP wS}(hl:OR N lo ZP)(hh:OR N hi wS)(h1:jP n len hi=some hg) (h2:jP hg 0 lo=some l0) (h3:hg<=cap'):(Instr.sliceBounds is len cap' ZP wS none).run P w=.ok (l0,hg,cap') w:=by
 cases hh with
 |none=>
  simp only[jP,a09]at h1;subst h1;cases hl with
  |none=>simp only[jP,a09]at h2;subst h2;simp[Instr.sliceBounds]
  |some hv=>simp only[jP]at h2;simp[Instr.sliceBounds,uH (P:=P) (w:=w) h2 hv (lW h2)]
 |some hv'=>
  simp only[jP]at h1;cases hl with
  |none=>simp only[jP,a09]at h2;subst h2;simp[Instr.sliceBounds,uH (P:=P) (w:=w) h1 hv' h3]
  |some hv=>simp only[jP]at h2;simp[Instr.sliceBounds,uH (P:=P) (w:=w) h1 hv' h3,uH (P:=P) (w:=w) h2 hv (lW h2)]
theorem GL{N is len cap' n k l0 hg m lo hi mx ZP wS mx'}(hl:OR N lo ZP)(hh:VR N hi wS)(hm:VR N mx mx')(h0:rO k mx=some m) (h1:rO n hi=some hg) (h2:jP hg 0 lo=some l0) (h3:hg<=m) (h4:m<=cap'):(Instr.sliceBounds is len cap' ZP (some wS) (some mx')).run P w=.ok (l0,hg,m) w:=by
 have r1:=fun code=>uH (P:=P) (w:=w) (code:=code) h0 hm h4;have r2:=fun code=>uH (P:=P) (w:=w) (code:=code) h1 hh h3;cases hl with
 |none=>simp only[jP,a09]at h2;subst h2;simp[Instr.sliceBounds,r1,r2]
 |some hv=>simp only[jP]at h2;simp[Instr.sliceBounds,r1,r2,uH (P:=P) (w:=w) h2 hv (lW h2)]
theorem OQ{N t v r lo hi mx x ZP wS mx'}(h:rP P t v lo hi mx=some r)(hx:VR N v x)(hl:OR N lo ZP) (hh:OR N hi wS) (hm:OR N mx mx'):∃z,VR N r z/\(Instr.sliceAt t x ZP wS mx').run P w=.ok z w:=by
 unfold rP at h;split at h
 .
  rename_i bs hu;split at h
  .simp at h
  .cases hm;split at h
   .rename_i h0 iE;split at h
    .rename_i l0 qW;simp at h;subst h;cases hx;refine⟨_,.str _,?_⟩;have hle:h0<=bs.size:=by
      cases hi with
      |none=>simp only[jP,a09]at iE;omega
      |some v=>simp only[jP]at iE;exact lW iE
     have e1:=yM (P:=P) (w:=w) (is:=false) (cap':=bs.size) hl hh iE qW hle;simp[Instr.sliceAt,Instr.slice,run_underlying hu,e1]
    .simp at h
   .simp at h
 .
  rename_i e b off len cap sz ex hu;split at h
  .rename_i n hn;split at h
   case isFalse=>simp at h
   rename_i qV;subst qV;cases hx with
   |aO hb hp yC hle uf hex ha hk=>
    rename_i ls p a cap';have fin:∀(l hgh m:Nat) (ex':Bool),l<=hgh->hgh<=len->hgh<=m->m<=cap'->(m':Nat)->m'<=m->m'<=cap->hgh<=m'->(ex'=true->m=m') ->
      VR N (.aO b (off+l*n) (hgh-l) (m'-l) n ex') (.slice (if m=l then some a else(some a).map (·.add (l*n))) (hgh-l) (m-l)):=by
     intro l hgh m ex' h1 h2 h3 h4 m' h5 h5' h6 h7;have hmul:l*n+(hgh-l)*n=hgh*n:=by rw[<-a3W];congr 1;omega
     have adf:m'*n<=cap*n:=a3N n h5';have atC:l*n+(m'-l)*n=m'*n:=by rw[<-a3W];congr 1;omega
     have Cj:(if m=l then some a else(some a).map (·.add (l*n)))=some (if m=l then a else a.add (l*n)):=by split<;>rfl
     rw[Cj];refine .aO hb (hp.imp (fun e=>by omega) id) (by omega) (by omega) (by omega) (fun e=>by have:=h7 e;omega) ?_ (by omega);by_cases hml:m=l
     .left;omega
     .right;rcases ha with ha|⟨rfl,ha⟩
      .omega
      .rw[a18 hml,vJ];have atD:l*n+(m-l)*n=m*n:=by rw[<-a3W];congr 1;omega
       have atE:m*n<=cap'*n:=a3N n h4;exact⟨by rw[aaz],by omega⟩
    split at h
    .rename_i m0;cases hm with
     |some RV=>
      split at h
      .rename_i m h0 hm1;split at h
       .rename_i hg zq;split at h
        .rename_i l0 qW;simp at h;subst h;cases hh with
         |some hhv=>
          have b1:=lW hm1;have b2:=lW zq;have b3:l0<=hg:=by
           cases lo with
           |none=>simp only[jP,a09]at qW;omega
           |some v=>simp only[jP]at qW;exact lW qW
          have e1:=GL (P:=P) (w:=w) (is:=true) (len:=len) (cap':=cap') hl hhv RV hm1 zq qW (by omega) (by omega);exact⟨_,fin l0 hg m true b3 (by omega) (by omega) (by omega) m (by omega) (by omega) (by omega) (fun _=>rfl),by simp[Instr.sliceAt,Instr.slice,run_underlying hu,e1,dw hn]⟩
        .simp at h
       .simp at h
      .simp at h
    .cases hm;split at h
     .rename_i hg iE;split at h
      .rename_i l0 qW;simp at h;subst h;have hgl:hg<=len:=by
        cases hi with
        |none=>simp only[jP,a09]at iE;omega
        |some v=>simp only[jP]at iE;exact lW iE
       have hlg:l0<=hg:=by
        cases lo with
        |none=>simp only[jP,a09]at qW;omega
        |some v=>simp only[jP]at qW;exact lW qW
       refine⟨_,fin l0 hg cap' ex hlg hgl (by omega) (by omega) cap uf (by omega) (by omega) hex,?_⟩;have e1:=yM (P:=P) (w:=w) (is:=true) (cap':=cap') hl hh iE qW (by omega);simp[Instr.sliceAt,Instr.slice,run_underlying hu,e1,dw hn]
      .simp at h
     .simp at h
  .simp at h
 .
  rename_i e hu;split at h
  .rename_i x0 x1 x2 x3 hn Tf iE qW;split at h
   .simp at h
   .rename_i hg;simp at h;subst h;cases hx;refine⟨_,.V5,?_⟩;have z1:∀{o:Option TV} {k:Nat},jP 0 0 o=some k->k=0:=fun{o k} e=>by
     cases o with
     |none=>simp only[jP,a09]at e;omega
     |some v=>simp only[jP]at e;have:=lW e;omega
    have e2:=z1 iE;subst e2;have e3:=z1 qW;subst e3;have e1:(Instr.sliceBounds true 0 0 ZP wS mx').run P w=.ok (0,0,0) w:=by
     cases hm with
     |none=>exact yM hl hh iE qW (by omega)
     |some RV=>
      have e4:=z1 Tf;subst e4;cases hh with
      |none=>simp at hg
      |some hhv=>exact GL hl hhv RV Tf iE qW (by omega) (by omega)
    simp[Instr.sliceAt,Instr.slice,run_underlying hu,e1,dw hn]
  .simp at h
 .simp at h
theorem DC{t e r lo hi mx x ZP wS mx'}(h:qQ P t e lo hi mx=some r)(hx:ER M e x)(hl:OR M.h lo ZP) (hh:OR M.h hi wS) (hm:OR M.h mx mx'):∃z,VR M.h r z/\(Instr.sliceAt t x ZP wS mx').run P w=.ok z w:=by
 unfold qQ at h;split at h
 .rename_i n el b off lim hu;split at h
  .rename_i size hn;split at h
   .simp at h
   .rename_i hc;cases hx with
    |val hx=>
    cases hx with
    |ptr hb hp yC aph=>
    rename_i ls p;split at h
    .rename_i m Tf;split at h
     .rename_i hg iE;split at h
      .rename_i l0 qW;split at h
       .simp at h
       .rename_i hs;simp at h;subst h;have hmn:m<=n:=by
         cases mx with
         |none=>simp only[jP,a09]at Tf;omega
         |some v=>simp only[jP]at Tf;exact lW Tf
        have hgm:hg<=m:=by
         cases hi with
         |none=>
          cases mx with
          |some v=>simp at hs
          |none=>simp only[jP,a09]at iE Tf;omega
         |some v=>simp only[jP]at iE;exact lW iE
        have hlg:l0<=hg:=by
         cases lo with
         |none=>simp only[jP,a09]at qW;omega
         |some v=>simp only[jP]at qW;exact lW qW
        have e1:(Instr.sliceBounds false n n ZP wS mx').run P w=.ok (l0,hg,m) w:=by
         cases hm with
         |none=>
          simp only[jP,a09]at Tf;subst Tf;exact yM hl hh iE qW (by omega)
         |some RV=>
          cases hh with
          |none=>simp at hs
          |some hhv=>
           simp only[jP]at Tf iE;exact GL hl hhv RV Tf iE qW (by omega) hmn
        have m1:l0*size+(hg-l0)*size=hg*size:=by rw[<-a3W];congr 1;omega
        have m2:l0*size+(m-l0)*size=m*size:=by rw[<-a3W];congr 1;omega
        have m3:hg*size<=n*size:=a3N size (by omega);have m4:m*size<=n*size:=a3N size (by omega);refine⟨.slice (some (if m=l0 then(⟨p.c,p.base+off,none⟩:Addr)else(⟨p.c,p.base+off,none⟩:Addr).add (l0*size))) (hg-l0) (m-l0),?_,?_⟩
        .refine .aO hb (.inr hp) (by omega) (by omega) (by omega) (fun _=>rfl) ?_ (by omega);by_cases hml:m=l0
         .left;omega
         .right;rw[a18 hml,vJ];exact⟨by rw[aaz],by omega⟩
        .simp[Instr.sliceAt,run_underlying hu,Instr.sureAddr,e1,dw hn]
      .simp at h
     .simp at h
    .simp at h
  .simp at h
 .simp at h
theorem oP(z):∀n,(times z n).length=n*z.length
 | 0=>by simp[times]
 |n+1=>by simp[times,oP z n,a3W,Nat.add_comm]
theorem Ti(z)(hz:0<z.length):∀(n i),i<n*z.length->(times z n)[i]? = z[i%z.length]?
 | 0,i,h=>by simp at h
 |n+1,i,h=>by
  simp only[times];by_cases hi:i<z.length
  .rw[a0U hi,Nat.mod_eq_of_lt hi]
  rw[a1r (by omega),Ti z hz n (i-z.length) (by rw[a3W]at h;omega)];congr 1;rw[Nat.mod_eq_sub_mod (a:=i) (by omega)]
theorem JV{z}(h:∀c∈z,iO c=true):∀n,∀c∈times z n,iO c=true
 | 0=>by simp[times]
 |n+1=>by
  intro c hc;simp only[times,a3M]at hc;rcases hc with hc|hc
  .exact h c hc
  exact JV h n c hc
theorem Xr{N z}{x:Array LI3}(h:bZ N z x.toList)(n m)(hm:m=n*z.length) :bZ N (times z n) ((Array.range m).map (x[·%x.size]!)).toList:=by
 have hl:=h.len;simp only[a8p]at hl;refine⟨by simp[oP,hm],fun i c v a b=>?_⟩;have hi:i<n*z.length:=by have:=(a0x.1 a).1;rwa [oP]at this
 have hz:0<z.length:=by
  rcases abp z.length with e|e
  .rw[e]at hi;simp at hi
  .exact e
 rw[Ti z hz n i hi]at a;have aji:i%x.size<x.size:=Nat.mod_lt _ (by omega);have hb:v=x[i%x.size]:=by rw[afa,Array.getElem?_map]at b;simp only[Array.getElem?_range]at b;rw[a1e (by omega)]at b;simp only[a1n,a09]at b;rw[<-b,getElem!_pos x _ aji]
 rw[hl]at a;exact h.at_ (i%x.size) c v a (by simp[hb,aji])
theorem rW{t e n}(h:jU P t=some (e,n)):P.underlying t=some (.slice e)/\dI P e=some n/\0<n:=by
 unfold jU at h;split at h
 .rename_i e' hu;split at h
  .rename_i n' hn;split at h
   .simp at h
   simp at h;obtain⟨rfl,rfl⟩:=h;exact⟨hu,hn,by omega⟩
  simp at h
 simp at h
theorem Tj{place}:∀{ps} {cs r:List TV},um place cs ps=some r->r.length=cs.length
 | [],cs,r,h=>by simp[um]at h;rw[h]
 |(i,v)::ps,cs,r,h=>by
  simp only[um]at h;split at h
  .split at h
   .split at h
    .rename_i cs' ho;rw[Tj h,(wU ho).2.2]
    simp at h
   simp at h
  simp at h
theorem Tn{place}:∀{ps} {cs r:List TV},um place cs ps=some r->(∀c∈cs,iO c=true) ->(∀p∈ps,∀c∈p.2.cells,iO c=true)->∀c∈r,iO c=true
 | [],cs,r,h,h1,_=>by simp[um]at h;subst h;exact h1
 |(i,v)::ps,cs,r,h,h1,h2=>by
  simp only[um]at h;split at h
  .split at h
   .split at h
    .rename_i cs' ho;exact Tn h (Xm ho h1 (h2 (i,v) (by simp))) (fun p hp=>h2 p (by simp[hp]))
    .simp at h
   .simp at h
  .simp at h
theorem qx{t len ps qs r s1}(hV:Valid M D s.get w)(zL:M (.h s.heap.length)=none)(h:qR P t len s ps=some (r,s1)) (hq:PR M.h ps qs) :s1.env=s.env/\∃x w' M',(Instr.buildSlice t len qs.toArray).run P w=.ok x w'/\OG M D s.get w (.val r) s1.get [] x w' M':=by
 unfold qR at h;split at h
 case h_2=>simp at h
 rename_i e n zu;obtain⟨hu,hn,Xt⟩:=rW zu;split at h
 case isFalse=>simp at h
 rename_i hc;obtain⟨hc1,MG⟩:=hc;split at h
 case h_2=>simp at h
 rename_i z hz;split at h
 case isFalse=>simp at h
 rename_i Xu;split at h
 case h_2=>simp at h
 rename_i cs hf;simp at h;obtain⟨rfl,rfl⟩:=h;obtain⟨i,x,v,_,_,_,_,hz1,hvr,hzr⟩:=xE hz;have hx0:=(hvr M.h).len;simp only[a8p]at hx0;have ht:=Xr (hvr M.h) len (len*n) (by rw[Xu]);obtain⟨uG,g1,g2⟩:=NJ (place':=fun i=>some (i*n,n)) (fun i x hx=>hx) hf hq ht;have vZ:∀c∈cs,iO c=true:=Tn hf (JV hz1 len) (fun p hp=>by have:=a5L.1 MG p hp;exact NM this)
 have hlen:cs.length=uG.size:=by have:=g2.len;simpa using this
 have nP:cs.length=len*n:=by rw[Tj hf,oP,Xu]
 have zy:s.get (.h s.heap.length)=none:=by simp[St.get]
 have JJ:∀(i:Nat) (c:TV) (v:LI3),cs[i]? = some c->uG[i]? = some v->VR M.h c v:=fun i c v a b=>g2.at_ i c v a (by simpa using b);have fZ:=OI hV e zL zy (aht hlen) JJ vZ;refine⟨rfl,.slice (some ⟨w.heap.size,0,none⟩) len len,w.alloc (.cells uG e),dN M (.h s.heap.length) (.cells [⟨w.heap.size,0,cs.length,uG.size⟩]),?_,⟨?_,?_,?_,rV zL⟩⟩
 .have hle:¬(len*n>2^24):=by omega
  by_cases h0:len*n=0
  .have apk:cs=[]:=a4u (by omega);have g1':Instr.fill (fun i=>some (i*n,n)) ((Array.range (len*n)).map ((#[]:Array LI3)[·%(#[]:Array LI3).size]!)) qs=some uG:=by rw[h0]at g1 ⊢;have e0:Array.range 0=#[]:=rfl;rw[e0]at g1 ⊢;simpa using g1
   simp only[Instr.buildSlice,Sem.run_bind,run_underlying hu,Result.andThen_ok,dw hn];rw[a18 hle,a1e h0];simp only[Sem.run_pure,Sem.run_bind,Result.andThen_ok,g1',newRow,run_newObj,World.alloc]
  .simp only[Instr.buildSlice,Sem.run_bind,run_underlying hu,Result.andThen_ok,dw hn];rw[a18 hle,a18 h0];simp only[Sem.run_pure,Sem.run_bind,Result.andThen_ok,hzr w,g1,newRow,run_newObj,World.alloc]
 .rw[kT];exact fZ.1
 .rw[kT];exact fZ.2
 .have hlb:len<2^63:=by have:=Nat.le_mul_of_pos_right len (show 0<n by omega);omega
  refine .val (.aO (ls:=[⟨w.heap.size,0,cs.length,uG.size⟩]) (p:=⟨w.heap.size,0,cs.length,uG.size⟩) (by simp[Mp.h,dN]) (by simp) (by simp[nP]) (a1l _) (a1l _) (fun _=>rfl) (.inr ⟨by simp,by simp;omega⟩) hlb)
theorem a1z{i}(h0:0<=i)(h1:i<=2^40):i64.wrap i=i:=by have h2:i%(2^64:Int)=i:=a8U h0 (by omega);simp only[IntKind.wrap,IntKind.bits,IntKind.signed,h2];rw[a18];simp only[aeL,a1x,ge_iff_le];omega
theorem Tq{N v n x}(h:a3B v=some n)(hx:VR N v x):∃k i,x=.int k i/\0<=i/\i<=2^40/\n=i.toNat:=by
 unfold a3B at h;split at h
 .split at h
  .rename_i k i hc;simp at h;subst h;cases hx;exact⟨k,i,rfl,hc.1,hc.2,rfl⟩
  simp at h
 simp at h
theorem AV{e n}(h:uY P e n=true):∃i x,P.info? e=some i/\i.zero=some x/\x.cells.size=i.size/\n*i.bytes<=2^40/\n<=2^40/\i.bytes<=2^20/\0<i.bytes:=by
 unfold uY at h;split at h
 .rename_i i hi;simp only[a2n,a1x]at h;obtain⟨⟨⟨⟨h1,h2⟩,h3⟩,h4⟩,h5⟩:=h;unfold a6d at h5;split at h5
  .rename_i x hx;exact⟨i,x,hi,hx,by simpa using h5,h1,h2,h3,h4⟩
  simp at h5
 simp at h
theorem AX{t a b r x y s1}(hV:Valid M D s.get w)(zL:M (.h s.heap.length)=none)(h:uw P t s a b=some (r,s1)) (hx:VR M.h a x) (hy:VR M.h b y) :s1.env=s.env/\∃z w' M',(Instr.makeSlice t x y).run P w=.ok z w'/\OG M D s.get w (.val r) s1.get [] z w' M':=by
 unfold uw at h;split at h
 case h_2=>simp at h
 rename_i e n l c zu hl hc;obtain⟨hu,hn,Xt⟩:=rW zu;obtain⟨_,li,rfl,l0,l1,rfl⟩:=Tq hl hx;obtain⟨_,ci,rfl,c0,c1,rfl⟩:=Tq hc hy;split at h
 case isFalse=>simp at h
 rename_i Gg;obtain⟨ZQ,xG⟩:=Gg;obtain⟨i,zx,hi,hzx,hzs,CV,yN,hb3,hb4⟩:=AV xG;split at h
 case h_2=>simp at h
 rename_i z hz;split at h
 case isFalse=>simp at h
 rename_i Xu;simp at h;obtain⟨rfl,rfl⟩:=h;obtain⟨i',x,v,wS,GN,_,_,hz1,hvr,hzr⟩:=xE hz;rw[hi]at wS;cases wS;have ht:=Xr (hvr M.h) ci.toNat (ci.toNat*n) (by rw[Xu])
 let arr:Array LI3:=(Array.range (ci.toNat*n)).map (x.cells[·%x.cells.size]!)
 have hlen:(times z ci.toNat).length=arr.size:=by have:=ht.len;simpa[arr]using this
 have nP:(times z ci.toNat).length=ci.toNat*n:=by rw[oP,Xu]
 have zy:s.get (.h s.heap.length)=none:=by simp[St.get]
 have JJ:∀(i:Nat) (c:TV) (v:LI3),(times z ci.toNat)[i]? = some c->arr[i]? = some v->VR M.h c v:=fun i c v a b=>ht.at_ i c v a (by rw[afa];exact b);have fZ:=OI hV e zL zy (aht hlen) JJ (JV hz1 _);have hmul:(li.toNat)*n<=ci.toNat*n:=a3N n ZQ;refine⟨rfl,.slice (some ⟨w.heap.size,0,none⟩) li.toNat ci.toNat,w.alloc (.cells arr e),dN M (.h s.heap.length) (.cells [⟨w.heap.size,0,(times z ci.toNat).length,arr.size⟩]),?_,⟨?_,?_,?_,rV zL⟩⟩
 .have hwl:=a1z l0 l1;have hwc:=a1z c0 c1;have FP:¬((i.bytes:Int)*ci>2^48):=by
   have e1:(ci.toNat*i.bytes:Nat)<=2^40:=CV;have e2:((i.bytes:Int)*ci)=((ci.toNat*i.bytes:Nat):Int):=by rw[Nat.mul_comm,afp,ait c0]
   omega
  simp only[Instr.makeSlice,Sem.run_bind,run_underlying hu,Result.andThen_ok,asInt,asIntOf,Sem.run_pure,jl hi,hwl,hwc];rw[a18 (by simp;exact⟨⟨⟨c0,by omega⟩,l0⟩,by omega⟩)];simp only[Sem.run_bind,run_askRoom,Result.andThen_ok,dw hn];by_cases h0:ci.toNat*n=0
  .rw[a1e h0];have e0:arr=#[]:=Array.eq_empty_of_size_eq_zero (by omega);have e1:(Array.range (ci.toNat*n)).map ((#[]:Array LI3)[·%(#[]:Array LI3).size]!)=#[]:=by rw[h0];have e0:Array.range 0=#[]:=rfl;rw[e0];simp
   simp only[Sem.run_pure,Result.andThen_ok,e1,newRow,Sem.run_bind,run_newObj,World.alloc,e0]
  .rw[a18 h0];simp only[Sem.run_bind,hzr w,Sem.run_pure,Result.andThen_ok,newRow,run_newObj,World.alloc,arr]
 .rw[kT];exact fZ.1
 .rw[kT];exact fZ.2
 .refine .val (.aO (ls:=[⟨w.heap.size,0,(times z ci.toNat).length,arr.size⟩]) (p:=⟨w.heap.size,0,(times z ci.toNat).length,arr.size⟩) (by simp[Mp.h,dN]) (by simp) (by simp[nP]) ZQ (a1l _) (fun _=>rfl) (.inr ⟨by simp,by simp;omega⟩) (by omega))
theorem ZR{at_ t v r i x}(hV:Valid M D s.get w)(h:ZF P at_ s.heap v=some (r,i))(hx:VR M.h v x)(hD:∀k∈i.ts,D k) :i.ws=[]/\∃z,VR M.h r z/\(Builtin.len_ at_ t #[x]).run P w=.ok z w:=by
 unfold ZF at h;split at h
 case h_2=>simp at h
 rename_i t0 ht0;split at h
 .rename_i b hu;simp at h;obtain⟨rfl,rfl⟩:=h;cases hx;exact⟨rfl,_,.int _ _,by simp[Builtin.len_,ht0,run_underlying hu,goInt]⟩
 .rename_i n el _ hu;simp at h;obtain⟨rfl,rfl⟩:=h;exact⟨rfl,_,.int _ _,by simp[Builtin.len_,ht0,run_underlying hu,goInt]⟩
 .rename_i el b off len cap sz ex hu;simp at h;obtain⟨rfl,rfl⟩:=h;cases hx;exact⟨rfl,_,.int _ _,by simp[Builtin.len_,ht0,run_underlying hu,goInt]⟩
 .rename_i el hu;simp at h;obtain⟨rfl,rfl⟩:=h;cases hx;exact⟨rfl,_,.int _ _,by simp[Builtin.len_,ht0,run_underlying hu,goInt]⟩
 .rename_i k el hu;simp at h;obtain⟨rfl,rfl⟩:=h;cases hx;exact⟨rfl,_,.int _ _,by simp[Builtin.len_,ht0,run_underlying hu,goInt]⟩
 .rename_i k el r0 hu;split at h
  .rename_i es he;simp at h;obtain⟨rfl,rfl⟩:=h;cases hx with
   |map hm=>
    obtain⟨gQ,h1,h2⟩:=hV.ok _ _ hm (hD _ (by simp[yA]));simp only[St.get,he,a09]at h1;subst h1;obtain⟨xs,g1,g2⟩:=h2;have g2:=g2.len;refine⟨rfl,_,.int _ _,?_⟩;simp[Builtin.len_,ht0,run_underlying hu,goInt,getObj,Sem.run,g1,g2]
  .simp at h
 .simp at h
theorem DF{C size n v l x h}(hh:∀b,C (.h b)=h[b]?)(hV:Valid M D C w)(hs:eF size h v=some (n,l))(hx:VR M.h v x)(hD:∀k∈dF v,D k) :(Builtin.lenOf x).run P w=.ok n w/\(∀c∈l,iO c=true)/\∃arr,(∀w',w'.heap=w.heap->(Builtin.firstCells size n x).run P w'=.ok arr w')/\bZ M.h l arr.toList:=by
 unfold eF at hs;split at hs
 .simp at hs;obtain⟨rfl,rfl⟩:=hs;cases hx;exact⟨by simp[Builtin.lenOf],by simp,#[],fun w' _=>by simp[Builtin.firstCells],.nil⟩
 .rename_i b off len cap sz ex;split at hs
  .rename_i qV;subst qV;split at hs
   .rename_i hz;subst hz;simp at hs;obtain⟨rfl,rfl⟩:=hs;cases hx with
    |aO hm hp yC hle uf hex ha hk=>
     exact⟨by simp[Builtin.lenOf],by simp,#[],fun w' _=>by simp[Builtin.firstCells,loadCells,loadCellsFrom],.nil⟩
   split at hs
   .rename_i cs hb;simp only[a0A,a1k]at hs;obtain⟨r,hr,rfl,rfl⟩:=hs;cases hx with
    |aO hm hp yC hle uf hex ha hk=>
     rename_i ls p a cap';obtain⟨k,hk,Xp⟩:=yK hb;obtain⟨gQ,h1,h2⟩:=hV.ok _ _ hm (hD _ (by simp[dF]));rw[hh,hk]at h1;cases h1;obtain⟨g1,g2,_⟩:=h2;obtain⟨s1,s2,s3⟩:=o9 hr;refine⟨by simp[Builtin.lenOf],fun c hc=>g1 c (by rw[s2]at hc;exact a6a (aaf hc)),?_⟩;by_cases h0:cap'=0
     .have qW:len=0:=(by omega);subst qW;have:r=[]:=a4u (by rw[s3];simp);subst this;exact⟨#[],fun w' _=>by simp[Builtin.firstCells,loadCells,loadCellsFrom],.nil⟩
     .rcases ha with ha|⟨rfl,ha⟩
      .exact absurd ha h0
      .obtain⟨xs,x1,x2⟩:=zn (P:=P) (g2 p (hp.resolve_left h0)) hr (by have:=a3N sz hle;omega) (fun e=>by have:=Xp e;have:=(g2 p (hp.resolve_left h0)).ext;omega);exact⟨xs.toArray,fun w' hw'=>by simp[Builtin.firstCells,x2 w' hw'],x1⟩
   .simp at hs
  .simp at hs
 .rename_i bs;split at hs
  .rename_i qV;simp at hs;obtain⟨rfl,rfl⟩:=hs;cases hx;refine⟨by simp[Builtin.lenOf],by simp[iO],(bs.extract 0 bs.size).data.map fun b=>.int .u8 b.toNat,fun w' _=>rfl,?_⟩;refine⟨by simp,fun i c v a b=>?_⟩;simp only[a4V,a0A]at a;obtain⟨y,hy,rfl⟩:=a;rw[show bs.extract 0 bs.size=bs from by simp]at b;simp only[Array.toList_map,a4V,hy,a1n,a09]at b;rw[<-b];exact .int _ _
  .simp at hs
 .simp at hs
theorem Va{size n b off len cap sz ex l h}(hs:eF size h (.aO b off len cap sz ex)=some (n,l)):sz=size/\n=len/\l.length=len*size:=by
 simp only[eF]at hs;split at hs
 .rename_i hz;split at hs
  .rename_i h0;cases hs;exact⟨hz,h0.symm,by simp[h0]⟩
  split at hs
  .simp only[a0A,a1k]at hs;obtain⟨r,hr,rfl,rfl⟩:=hs;exact⟨hz,rfl,(o9 hr).2.2⟩
  cases hs
 cases hs
theorem Tt(N):∀(r c),c<=2*N+192->Builtin.growBy N r c<=2*N+192
 | 0,c,h=>by simpa[Builtin.growBy]using h
 |r+1,c,h=>by
  simp only[Builtin.growBy];split
  .exact h
  exact Tt N r _ (by omega)
theorem ZT{need c}(h:c<need):Builtin.nextslicecap need c<=2*need+192:=by
 unfold Builtin.nextslicecap;split
 .omega
 split
 .omega
 exact Tt need 4 c (by omega)
theorem aax{need c b}(h:c<need)(h1:need*b<=2^40)(h2:b<=2^20):¬(Builtin.nextslicecap need c*b>2^48):=by
 have e1:=ZT h;have e2:Builtin.nextslicecap need c*b<=(2*need+192)*b:=a3N b e1;have e3:(2*need+192)*b=2*(need*b)+192*b:=by rw[a3W,Nat.mul_assoc]
 omega
theorem xH(z n):(Builtin.zeroCells z n).size=n*z.size:=by simp[Builtin.zeroCells]
def xI:TypeDesc->Bool
 |.int _=>true
 |_=>false
theorem ZU{t}(h:¬(UZ P t||(P.underlying t).isNone)=true):∃d,P.underlying t=some d/\xI d=false:=by
 simp only[aam,adl,afi]at h;obtain⟨h1,h2⟩:=h;cases hu:P.underlying t with
 |none=>simp[hu]at h2
 |some d=>
  refine⟨d,rfl,?_⟩;unfold UZ at h1;rw[hu]at h1;cases d<;>simp_all [xI]
theorem GR{at_ st xt e size n sLen sCap i z sv xv base d old new ty}(h0:at_[0]? = some st) (h1:at_[1]? = some xt) (hu:P.underlying st=some (.slice e)) (hn:dI P e=some size) (Ik:P.underlying xt=some d) (hd:xI d=false)(hi:P.info? e=some i) (hz:i.zero=some z) (hsv:sv=.slice base sLen sCap)(hl:(Builtin.lenOf xv).run P w=.ok n w) (uf:sCap<sLen+n) (CV:(sLen+n)*i.bytes<=2^40) (yN:sLen+n<=2^40) (hb3:i.bytes<=2^20)(hold:∀w',w'.heap=w.heap->(Builtin.firstCells size sLen sv).run P w'=.ok old w') (fZ:∀w',w'.heap=w.heap->(Builtin.firstCells size n xv).run P w'=.ok new w') :∃lF,sLen+n<=lF/\lF<2^63/\(Builtin.append_ at_ ty #[sv,xv]).run P w=.ok (.slice (some ⟨w.heap.size,0,none⟩) (sLen+n) lF) (w.drew.alloc (.cells (old++new++Builtin.zeroCells z.cells (lF-(sLen+n))) e)):=by
 subst hsv;refine⟨(Question.appendCap (sLen+n) sCap e).cut (w.tape w.drawn (.appendCap (sLen+n) sCap e)),by simp[Question.cut],?_,?_⟩
 .have:=Nat.mod_lt (w.tape w.drawn (.appendCap (sLen+n) sCap e)) (show 0<2^63-(sLen+n) by omega);simp only[Question.cut];omega
 have hz':∀w,(zeroValue e).run P w=.ok z w:=fun w=>by simp[zeroValue,jl hi,hz]
 have hq:(Question.appendCap (sLen+n) sCap e).forced=false:=rfl;have hle:¬(sLen+n<=sCap):=by omega
 have FP:¬(((sLen+n:Nat):Int)>i64.max):=by have:i64.max=2^63-1:=rfl;rw[this];omega
 have xG:=aax uf CV hb3;have e1:=hold w.drew rfl;have e2:=fZ w.drew rfl;unfold Builtin.append_;simp only[af7,a3E,aaD,h0,h1];simp only[Sem.run_bind,run_underlying hu,Result.andThen_ok,dw hn,run_underlying Ik,Sem.run_pure];rw[a18 (by cases d<;>simp_all [xI])];simp only[Sem.run_bind,hl,Result.andThen_ok];rw[a18 hle];simp only[Sem.run_bind,jl hi,Result.andThen_ok];rw[a18 (fun h=>FP h.1)];simp only[Sem.run_bind,jl hi,Result.andThen_ok];rw[a18 xG];simp only[Sem.run_bind,Sem.run_pure,run_choose,hq,a2K,a3U,Result.andThen_ok,jl hi,run_askRoom,World.drew_eq,e1];rw[a1e (by cases d<;>simp_all [xI])];simp only[Sem.run_bind,Sem.run_pure,Result.andThen_ok,e2,hz',newRow,run_newObj,World.size_drew,World.alloc_eq]
theorem Tv{at_ st xt e size n sLen sCap a sv xv d new ty w'}(h0:at_[0]? = some st) (h1:at_[1]? = some xt) (hu:P.underlying st=some (.slice e)) (hn:dI P e=some size) (Ik:P.underlying xt=some d) (hd:xI d=false)(hsv:sv=.slice (some a) sLen sCap) (hl:(Builtin.lenOf xv).run P w=.ok n w) (uf:sLen+n<=sCap)(fZ:(Builtin.firstCells size n xv).run P w=.ok new w) (vK:(storeCells (a.add (sLen*size)) new.toList).run P w=.ok () w') :(Builtin.append_ at_ ty #[sv,xv]).run P w=.ok (.slice (some a) (sLen+n) sCap) w':=by
 subst hsv;unfold Builtin.append_;simp only[af7,a3E,aaD,h0,h1];simp only[Sem.run_bind,run_underlying hu,Result.andThen_ok,dw hn,run_underlying Ik,Sem.run_pure];rw[a18 (by cases d<;>simp_all [xI])];simp only[Sem.run_bind,hl,Result.andThen_ok];rw[a1e uf];rw[a1e (by cases d<;>simp_all [xI])];simp only[Sem.run_bind,fZ,Result.andThen_ok,vK,Sem.run_pure]
theorem Xv{at_ st xt e size sLen sCap base sv xv d new ty}(h0:at_[0]? = some st) (h1:at_[1]? = some xt) (hu:P.underlying st=some (.slice e)) (hn:dI P e=some size) (Ik:P.underlying xt=some d) (hd:xI d=false)(hsv:sv=.slice base sLen sCap) (hl:(Builtin.lenOf xv).run P w=.ok 0 w) (uf:sLen<=sCap)(fZ:(Builtin.firstCells size 0 xv).run P w=.ok new w) (iI:new.toList=[]) :(Builtin.append_ at_ ty #[sv,xv]).run P w=.ok sv w:=by
 subst hsv;unfold Builtin.append_;simp only[af7,a3E,aaD,h0,h1];simp only[Sem.run_bind,run_underlying hu,Result.andThen_ok,dw hn,run_underlying Ik,Sem.run_pure];rw[a18 (by cases d<;>simp_all [xI])];simp only[Sem.run_bind,hl,Result.andThen_ok];rw[a1e (by omega)];rw[a1e (by cases d<;>simp_all [xI])];simp only[Sem.run_bind,fZ,Result.andThen_ok];cases base<;>simp[iI,storeCells]
def BOk(P:LI1)(M:Mp)(D:Key->Prop)(C:Ct)(w:LI4)(c:Sem LI3)(v:TV)(C1:Ct)(ws:List Key):Prop:=
 ∃x w' M',c.run P w=.ok x w'/\OG M D C w (.val v) C1 ws x w' M'
theorem Ext.drew'{M0 C0 w0 M C w ws}(h:Ext M0 C0 w0.drew M C w ws):Ext M0 C0 w0 M C w ws:=
 ⟨h.JI,h.frame,h.nX,h.kR,h.fresh,h.size,h.has,h.wsub,h.wrote,h.os,h.output,h.tape⟩
theorem bZ.Vb{N l}{arr:Array LI3}(h:bZ N l arr.toList){i:Nat}{c v}(a:l[i]? = some c)(b:arr[i]? = some v):VR N c v:=
 h.at_ i c v a (by rw[afa];exact b)
theorem OU(hV:Valid M D s.get w)(zL:M (.h s.heap.length)=none){cs pre rest e}(hx:bZ M.h cs pre.toList)(hn:∀c∈cs,iO c=true){len lF size} (JW:cs.length=len*size) (hle:len<=lF) (hk:lF<2^63) (OV:rest.size=(lF-len)*size) :∃M',OG M D s.get w (.val (.aO s.heap.length 0 len len size false)) (St.get { s with heap:=s.heap++[.cells .own cs] }) [] (.slice (some ⟨w.heap.size,0,none⟩) len lF) (w.drew.alloc (.cells (pre++rest) e)) M':=by
 have zy:s.get (.h s.heap.length)=none:=by simp[St.get]
 have AQ:pre.size=cs.length:=by have:=hx.len;simp at this;omega
 have aph:(pre++rest).size=lF*size:=by
  have:len*size+(lF-len)*size=lF*size:=by rw[<-a3W];congr 1;omega
  simp;omega
 have hmul:len*size<=lF*size:=a3N size hle;have ZV:Valid M D s.get w.drew:=hV.of_heap rfl;have fZ:=OI ZV (cs:=cs) (arr:=pre++rest) e zL zy (by omega) (fun i c v a b=>by have hi:=(a0x.1 a).1;rw[aaY (by omega)]at b;exact hx.Vb a b) hn
 refine⟨dN M (.h s.heap.length) (.cells [⟨w.heap.size,0,cs.length,(pre++rest).size⟩]),⟨?_,?_,?_,rV zL⟩⟩
 .rw[kT];exact fZ.1
 .rw[kT];exact fZ.2.drew'
 .exact .val (.aO (ls:=[⟨w.heap.size,0,cs.length,(pre++rest).size⟩]) (p:=⟨w.heap.size,0,cs.length,(pre++rest).size⟩) (by simp[Mp.h,dN]) (by simp) (by simp[JW]) (a1l _) hle (fun h=>by simp at h) (.inr ⟨by simp,by simp only[a3L];omega⟩) hk)
theorem Gh:∀{ls:List Pl},(ls.map (·.c)).Nodup->∀{p q},p∈ls->q∈ls->q.c=p.c->q=p
 | [],_,p,q,hp,_,_=>by simp at hp
 |a::ls,h,p,q,hp,hq,e=>by
  simp only[a4U,a5I]at h;rcases a1E.1 hp with h1|h1<;>rcases a1E.1 hq with h2|h2
  .rw[h1,h2]
  .exact(h.1 (a1w.2 ⟨q,h2,by rw[e,h1]⟩)).elim
  .exact(h.1 (a1w.2 ⟨p,h1,by rw[<-e,h2]⟩)).elim
  exact Gh h.2 h1 h2 e
theorem a1A(hV:Valid M D s.get w){b k cs new ls p x}(hm:M (.h b)=some (.cells ls))(hd:D (.h b))(hb:s.heap[b]? = some (.cells k cs))(hk:k≠.ro) (hp:p∈ls) (yC:cs.length<=p.ext) (hx:bZ M.h new x.toList) (hn:∀c∈new,iO c=true) (iI:new≠[]) {w'}(fl old rest ty0)(hw:(fl=true/\cs.length+new.length<=p.tot/\(storeCells ⟨p.c,cs.length,none⟩ x.toList).run P w=.ok () w') \/ (fl=false/\bZ M.h cs old.toList/\w'=w.drew.alloc (.cells (old++x++rest) ty0))) :∃M' q,Valid M' D (St.get { s with heap:=s.heap.set b (.cells k.more (cs++new)) }) w'/\Ext M s.get w M' (St.get { s with heap:=s.heap.set b (.cells k.more (cs++new)) }) w' [.h b] /\(∀j l,M (.l j)=some l->M' (.l j)=some l)/\(∃qw,M' (.h b)=some (.cells qw)/\q∈qw)/\cs.length+new.length<=q.ext/\q.base=0 /\((fl=true/\q.c=p.c/\q.tot=p.tot)\/(fl=false/\q.c=w.heap.size/\q.tot=(old++x++rest).size)):=by
 have hg:s.get (.h b)=some (.cells k cs):=by simp[St.get,hb]
 have yO:=(a0x.1 hb).1;obtain⟨gQ,h1,h2⟩:=hV.ok _ _ hm hd;rw[hg]at h1;cases h1;obtain⟨ho,AQ,aay,OW⟩:=h2;have hxl:=hx.len;simp only[a8p]at hxl;have jD:(ls.map (·.c)).Nodup:=by
  cases k with
  |ro=>exact absurd rfl hk
  |own=>obtain⟨q,rfl,_⟩:=aay rfl;simp
  |grow=>exact(OW (.inl rfl)).1
  |last=>exact(OW (.inr rfl)).1
 have atJ:∀q∈ls,q.ext=cs.length->q=p:=by
  intro q hq he;cases k with
  |ro=>exact absurd rfl hk
  |own=>
   obtain⟨q',e',_⟩:=aay rfl;rw[e']at hp hq;simp at hp hq;rw[hq,hp]
  |grow=>
   have:=(AQ p hp).ext;exact(OW (.inl rfl)).2 q hq p hp he (by omega)
  |last=>
   have:=(AQ p hp).ext;exact(OW (.inr rfl)).2 q hq p hp he (by omega)
 have hpe:p.ext=cs.length:=by have:=(AQ p hp).ext;omega
 have hpb:p.base=0:=(AQ p hp).base hk;have hmr:k.more≠.own:=by cases k<;>simp[BK.more]
 have hml:k.more=.last->k=.last:=by cases k<;>simp[BK.more]
 have vZ:∀c∈cs++new,iO c=true:=by
  intro c hc;rcases a3M.1 hc with h|h
  .exact ho c h
  .exact hn c h
 rcases hw with⟨hfl,xG,vK⟩|⟨hfl,hold,rfl⟩
 .
  let p':Pl:={ p with ext:=cs.length+new.length }
  let qw:List Pl:=ls.map fun q=>if q.c=p.c then p' else q
  have hqp:∀q∈ls,q.c=p.c->q=p:=by intro q hq he;exact Gh jD hp hq he
  have hp':p'∈qw:=a1w.2 ⟨p,hp,by simp⟩;have a6r:qw.map (·.c)=ls.map (·.c):=by
   simp only[qw,a6q];apply a5M;intro q hq;simp only[Function.comp];split
   .rename_i he;exact he.symm
   .rfl
  have ZQ:JO (.cells ls) (.cells qw):=by
   intro q hq;by_cases he:q.c=p.c
   .have:=hqp q hq he;subst this;exact⟨p',hp',rfl,rfl,by simp[p'];omega,rfl⟩
   .exact⟨q,a1w.2 ⟨q,hq,by simp[he]⟩,rfl,rfl,a1l _,rfl⟩
  obtain⟨arr,ty,fz,r1,r2,r3,r4⟩:=(AQ p hp).row;have:=r3 hk;subst this;have ajl:∀v∈x.toList,v.oneCell'=true:=by
   intro v hv;obtain⟨i,hi,rfl⟩:=a5T.1 hv;have wS:i<new.length:=by simp at hi;omega
   exact EP (hx.at_ i new[i] x.toList[i] (by simp[wS]) (by simp)) (hn _ (a5K wS))
  have uF:=run_storeCells_at (P:=P) p.c cs.length ty x.toList 0 arr w r1 (by simp;omega) ajl;simp only[adi,a8p]at uF;rw[uF]at vK;have apo:=Result.ok.inj vK;obtain⟨_,rfl⟩:=apo
  let w':LI4:=w.setRow p.c (arr.toList.take cs.length++x.toList++arr.toList.drop (cs.length+x.size)).toArray
  have fO:∀c,c<w.heap.size->c∉aI (.cells qw)->w'.heap[c]? = w.heap[c]?:=fun c _ hc=>ny w p.c _ c (fun e=>hc (by rw[e];exact a1w.2 ⟨p',hp',rfl⟩));have fZ:∀c∈aI (.cells qw),(∃l0,M (.h b)=some l0/\c∈aI l0)\/w.heap.size<=c:=fun c hc=>.inl ⟨_,hm,by simp only[aI]at hc ⊢;rwa [a6r]at hc⟩;have FN:tZ M (dN M (.h b) (.cells qw)):=lS fun l0 h0=>by rw[hm]at h0;cases h0;exact ZQ
  have Xw:∀i,(arr.toList.take cs.length++x.toList++arr.toList.drop (cs.length+x.size)).toArray[i]? = if i<cs.length then arr[i]? else if i<cs.length+x.size then x[i-cs.length]? else arr[i]?:=by intro i;have:=zJ (arr:=arr) (off:=cs.length) (xs:=x.toList) i (by simp;omega);simpa using this
  have RF:pV (dN M (.h b) (.cells qw)).h w' (.cells k.more (cs++new)) (.cells qw):=by
   refine⟨vZ,fun q hq=>?_,fun e=>absurd e hmr,fun _=>⟨by rw[a6r];exact jD,fun q1 Dz q2 GK e1 e2=>?_⟩⟩
   .obtain⟨q0,ZK,rfl⟩:=a1w.1 hq;by_cases he:q0.c=p.c
    .simp only[he,a2p];refine⟨⟨_,ty,(0,0),uD w p.c _ arr ty (0,0) r1,by simp[p'];omega,fun _=>rfl,fun _ i c v hi a b=>?_⟩,by simp[p',hpb];omega,by simp[p'],fun _=>hpb⟩;simp only[p',hpb,a3L]at b hi;rw[Xw i]at b;by_cases h1:i<cs.length
     .rw[a1e h1]at b;rw[a0U h1]at a;exact(r4 (fun _=>hpe) i c v (by omega) a (by simpa[hpb]using b)).mono FN.h
     .rw[a18 h1,a1e (by omega)]at b;rw[a1r (by omega)]at a;exact(hx.Vb a b).mono FN.h
    .simp only[he,a3U];have Dz:=AQ q0 ZK;obtain⟨uG,ty',fz',t1,t2,t3,t4⟩:=Dz.row;refine⟨⟨uG,ty',fz',(ny w p.c _ q0.c he).trans t1,t2,fun _=>t3 hk,fun hz i c v hi a b=>?_⟩,Dz.fit,by have:=Dz.ext;simp;omega,fun _=>Dz.base hk⟩;have:=Dz.ext;rw[a0U (by omega)]at a;exact(t4 (fun e=>by have:=hz (by rw[e];rfl);have:0<new.length:=aaj.2 iI;simp at *;omega) i c v hi a b).mono FN.h
   .have aux:∀q∈qw,q.ext=(cs++new).length->new≠[]->q=p':=by
     intro q hq e iI;obtain⟨q0,ZK,rfl⟩:=a1w.1 hq;by_cases he:q0.c=p.c
     .simp[he]
     .simp only[he,a3U]at e;have:=(AQ q0 ZK).ext;have:0<new.length:=aaj.2 iI;simp at e;omega
    rw[aux q1 Dz e1 iI,aux q2 GK e2 iI]
  refine⟨dN M (.h b) (.cells qw),p',?_,?_,?_,⟨qw,by simp[dN],hp'⟩,a1l _,hpb,.inl ⟨hfl,rfl,rfl⟩⟩
  .rw[jm s b _ yO];exact hV.upd (.h b) _ _ (fun j hj=>.inl hj) (fun l0 h0=>by rw[hm]at h0;cases h0;exact⟨hd,ZQ,fun b0 yu=>by rw[hg]at yu;cases yu;cases k<;>simp_all [wr]⟩) fO fZ (by simp) RF
  .rw[jm s b _ yO];exact Ext.upd (.h b) _ _ [.h b] (.inl ⟨by simp[hg],rfl,by simp[hm],fun b0 yu=>by rw[hg]at yu;cases yu;cases k<;>simp_all [wr]⟩) FN fO fZ (by simp) rfl rfl rfl
  .intro j l hj;simp[dN,hj]
 .
  let p':Pl:=⟨w.heap.size,0,cs.length+new.length,(old++x++rest).size⟩
  let qw:List Pl:=p'::ls
  let w':LI4:=w.drew.alloc (.cells (old++x++rest) ty0)
  have RX:=hold.len;simp only[a8p]at RX;have aQ:∀q∈ls,q.c<w.heap.size:=fun q hq=>hV.inb _ _ hm q.c (a1w.2 ⟨q,hq,rfl⟩);have ZQ:JO (.cells ls) (.cells qw):=fun q hq=>⟨q,a3I _ hq,rfl,rfl,a1l _,rfl⟩;have fO:∀c,c<w.heap.size->c∉aI (.cells qw)->w'.heap[c]? = w.heap[c]?:=fun c hc _=>vI w.drew _ c hc;have fZ:∀c∈aI (.cells qw),(∃l0,M (.h b)=some l0/\c∈aI l0)\/w.heap.size<=c:=by
   intro c hc;simp only[aI,qw,a4U,a1E]at hc;rcases hc with rfl|hc
   .exact .inr (a1l _)
   .exact .inl ⟨_,hm,hc⟩
  have FN:tZ M (dN M (.h b) (.cells qw)):=lS fun l0 h0=>by rw[hm]at h0;cases h0;exact ZQ
  have RF:pV (dN M (.h b) (.cells qw)).h w' (.cells k.more (cs++new)) (.cells qw):=by
   refine⟨vZ,fun q hq=>?_,fun e=>absurd e hmr,fun _=>⟨?_,fun q1 Dz q2 GK e1 e2=>?_⟩⟩
   .rcases a1E.1 hq with rfl|hq
    .refine⟨⟨_,ty0,(0,0),heap_alloc_new w.drew _,rfl,fun _=>rfl,fun _ i c v hi a b=>?_⟩,by simp[p'];omega,by simp[p'],fun _=>rfl⟩;simp only[p',a3L]at b hi;by_cases h1:i<cs.length
     .rw[a0U h1]at a;rw[Array.append_assoc,aaY (by omega)]at b;exact(hold.Vb a b).mono FN.h
     .rw[a1r (by omega)]at a;rw[Array.append_assoc,Array.getElem?_append_right (by omega),aaY (by omega),<-RX]at b;exact(hx.Vb a b).mono FN.h
    .have Dz:=AQ q hq;obtain⟨uG,ty',fz',t1,t2,t3,t4⟩:=Dz.row;refine⟨⟨uG,ty',fz',(vI w.drew _ q.c (aQ q hq)).trans t1,t2,fun _=>t3 hk,fun hz i c v hi a b=>?_⟩,Dz.fit,by have:=Dz.ext;simp;omega,fun _=>Dz.base hk⟩;have:=Dz.ext;rw[a0U (by omega)]at a;exact(t4 (fun e=>by have:=hz (by rw[e];rfl);have:0<new.length:=aaj.2 iI;simp at *;omega) i c v hi a b).mono FN.h
   .simp only[qw,a4U,a5I];refine⟨fun JX=>?_,jD⟩;obtain⟨q,hq,he⟩:=a1w.1 JX;have:=aQ q hq;simp only[p']at he;omega
   .have ajm:0<new.length:=aaj.2 iI;have aux:∀q∈qw,q.ext=(cs++new).length->q=p':=by
     intro q hq e;rcases a1E.1 hq with rfl|hq
     .rfl
     .have:=(AQ q hq).ext;simp at e;omega
    rw[aux q1 Dz e1,aux q2 GK e2]
  refine⟨dN M (.h b) (.cells qw),p',?_,?_,?_,⟨qw,by simp[dN],a3K⟩,a1l _,rfl,.inr ⟨hfl,rfl,rfl⟩⟩
  .rw[jm s b _ yO];exact hV.upd (.h b) _ _ (fun j hj=>.inl hj) (fun l0 h0=>by rw[hm]at h0;cases h0;exact⟨hd,ZQ,fun b0 yu=>by rw[hg]at yu;cases yu;cases k<;>simp_all [wr]⟩) fO fZ (by simp) RF
  .rw[jm s b _ yO];exact Ext.upd (.h b) _ _ [.h b] (.inl ⟨by simp[hg],rfl,by simp[hm],fun b0 yu=>by rw[hg]at yu;cases yu;cases k<;>simp_all [wr]⟩) FN fO fZ (by simp) rfl rfl rfl
  .intro j l hj;simp[dN,hj]
theorem JY{at_ ty d x r s1 i dv xv}(hV:Valid M D s.get w)(zL:M (.h s.heap.length)=none)(h:jC P at_ s d x=some (r,s1,i)) (hd:VR M.h d dv) (hx:VR M.h x xv) (hD:∀k∈i.ts,D k) :s1.env=s.env/\BOk P M D s.get w (Builtin.append_ at_ ty #[dv,xv]) r s1.get i.ws:=by
 unfold jC at h;split at h
 case h_2=>simp at h
 rename_i st xt h0 h1;split at h
 .simp at h
 rename_i hint;obtain⟨dd,Ik,hdd⟩:=ZU hint;split at h
 case h_2=>simp at h
 rename_i e size zu;obtain⟨hu,hn,Xt⟩:=rW zu;split at h
 case h_2=>simp at h
 rename_i n new lG;split at h
 .
  rename_i hz;subst hz;have key:∀(base:Option Addr) (l c:Nat),dv=.slice base l c->l<=c->(∀k∈dF x,D k)->(Builtin.append_ at_ ty #[dv,xv]).run P w=.ok dv w:=by
   intro base l c e ZQ hDk;obtain⟨s1',s2',arr,Vd,s4'⟩:=DF (P:=P) (fun b=>rfl) hV lG hx hDk;refine Xv h0 h1 hu hn Ik hdd e s1' ZQ (Vd w rfl) ?_;have a6s:new=[]:=by
    unfold eF at lG;split at lG
    .simp at lG;exact lG
    .split at lG
     .split at lG
      .simpa using lG
      split at lG
      .simp only[a0A,a1k]at lG;obtain⟨r',hr',e1,e2⟩:=lG;subst e2;exact a4u (by rw[(o9 hr').2.2,e1];simp)
      .simp at lG
     .simp at lG
    .split at lG
     .simp at lG;obtain⟨e1,e2⟩:=lG;rw[<-e2];rename_i bs _;have:bs.data.toList=[]:=a4u (by simpa using e1);simp[this]
     .simp at lG
    .simp at lG
   rw[a6s]at s4';exact s4'.oO
  split at h
  .simp at h;obtain⟨rfl,rfl,rfl⟩:=h;have ZW:=hd;cases hd;exact⟨rfl,_,w,M,key none 0 0 rfl (a1l _) hD,.same hV (.val ZW)⟩
  .split at h
   .simp at h;obtain⟨rfl,rfl,rfl⟩:=h;have ZW:=hd;cases hd with
    |aO hb hp yC hle uf hex ha hk=>
     exact⟨rfl,_,w,M,key _ _ _ rfl (by omega) hD,.same hV (.val ZW)⟩
   .simp at h
  .simp at h
 rename_i hz;split at h
 case isFalse=>simp at h
 rename_i hlen;have adg:new≠[]:=by intro e;have:0<n*size:=Nat.mul_pos (by omega) Xt;rw[e]at hlen;simp only[a5W]at hlen;omega
 split at h
 .
  split at h
  case isFalse=>simp at h
  rename_i xG;simp at h;obtain⟨rfl,rfl,rfl⟩:=h;obtain⟨inf,z,hi,hiz,hzs,CV,yN,hb3,hb4⟩:=AV xG;obtain⟨s1',s2',arr,Vd,s4'⟩:=DF (P:=P) (fun b=>rfl) hV lG hx hD;have qV:inf.size=size:=by obtain⟨i',e1,e2⟩:=GI hn;rw[hi]at e1;cases e1;exact e2
  cases hd;obtain⟨lF,c1,c1',c2⟩:=GR (P:=P) (w:=w) (ty:=ty) (base:=none) (sLen:=0) (sCap:=0) (old:=#[]) (new:=arr) h0 h1 hu hn Ik hdd hi hiz rfl s1' (by omega) (by simpa using CV) (by omega) hb3
   (fun w' hw'=>by simp[Builtin.firstCells]) Vd
  simp only[a3L]at c1 c2;obtain⟨M',hp⟩:=OU (size:=size) (len:=n) (rest:=Builtin.zeroCells z.cells (lF-n)) (e:=e) (pre:=#[]++arr) hV zL (by simpa using s4') s2' hlen c1 c1' (by rw[xH,hzs,qV]);exact⟨rfl,_,_,M',c2,hp⟩
 .
  rename_i b off len cap sz ex;split at h
  case isFalse=>simp at h
  rename_i afx;subst afx;have hd0:=hd;cases hd with
  |aO hb hp yC hle uf hex ha hk=>
  rename_i ls p a cap';split at h
  .
   rename_i afy;simp only[a0A,a1k]at h;obtain⟨hp',GU,rfl,rfl,rfl⟩:=h;obtain⟨kk,Ci,cs,cs',hbc,yL,ho,rfl⟩:=JU GU;have hDs:∀k∈dF x,D k:=fun k hk=>hD k (a3I _ hk);obtain⟨s1',s2',arr,Vd,s4'⟩:=DF (P:=P) (fun b=>rfl) hV lG hx hDs;have hg:s.get (.h b)=some (.cells kk cs):=(by simp[St.get,hbc]);have yO:=(a0x.1 hbc).1;rcases ha with ha|⟨rfl,ha⟩
   .omega
   have hDb:=hD (.h b) (by simp);have hp:=hp.resolve_left (by omega);obtain⟨w',r1,r2,r3⟩:=zK (P:=P) hV hb hDb hg hp (hV.ZJ hb hDb hg hp yC yL) ho s4' s2';obtain⟨o1,o2,o3⟩:=wU ho;have hmul:len*sz+n*sz=(len+n)*sz:=(by rw[a3W]);refine⟨rfl,_,w',M,Tv (P:=P) (w:=w) (ty:=ty) (a:=⟨p.c,p.base+off,none⟩) h0 h1 hu hn Ik hdd rfl s1' (by omega) (Vd w rfl) (by rw[vJ,aaz];exact r1),⟨?_,?_,?_,fun _ _ h=>h⟩⟩
   .rw[jm s b _ yO];exact⟨fun k l hk hd=>r2.ok k l hk (hd.elim id fun⟨x1,x2⟩=>by
      simp only[mQ]at x2;split at x2
      .rename_i e;subst e;rw[hg]at x1;cases x1
      .simp[x1]at x2),fun k k' l l' b' a1 a2 a3 hd=>r2.own k k' l l' b' a1 a2 a3 (hd.elim id fun⟨x1,x2⟩=>by
      simp only[mQ]at x2;split at x2
      .rename_i e;subst e;rw[hg]at x1;cases x1
      .simp[x1]at x2),r2.inb⟩
   .rw[jm s b _ yO];exact r3
   .exact .val (.aO hb (.inr hp) (by omega) (by omega) uf hex (.inr ⟨rfl,ha⟩) hk)
  .rename_i afy;split at h
   case isFalse=>simp at h
   rename_i xG;obtain⟨inf,z,hi,hiz,hzs,CV,yN,hb3,hb4⟩:=AV xG;have qV:inf.size=sz:=by obtain⟨i',e1,e2⟩:=GI hn;rw[hi]at e1;cases e1;exact e2
   have hmul:len*sz+n*sz=(len+n)*sz:=(by rw[a3W]);split at h
   .
    rename_i ajo;have OX:=hex ajo;simp only[a0A,a1k]at h;obtain⟨⟨l0,old⟩,qU,rfl,rfl,rfl⟩:=h;obtain⟨_,qW,hold⟩:=Va qU;rw[qW]at qU;have hDs:∀k∈dF x,D k:=fun k hk=>hD k (a3I _ hk);obtain⟨s1',s2',arr,Vd,s4'⟩:=DF (P:=P) (fun b=>rfl) hV lG hx hDs;obtain⟨t1',t2',a6t,t3',t4'⟩:=DF (P:=P) (fun b=>rfl) hV qU hd0 (fun k hk=>hD k (by simp[dF]at hk;simp[hk,fU]));obtain⟨lF,c1,c1',c2⟩:=GR (P:=P) (w:=w) (ty:=ty) (base:=some a) (sLen:=len) (sCap:=cap') (old:=a6t) (new:=arr) h0 h1 hu hn Ik hdd hi hiz rfl s1' (by omega) CV yN hb3 t3' Vd;obtain⟨M',ajp⟩:=OU (size:=sz) (len:=len+n) (rest:=Builtin.zeroCells z.cells (lF-(len+n))) (e:=e) (pre:=a6t++arr) hV zL (by simpa using t4'.append s4') (fun c hc=>(a3M.1 hc).elim (t2' c) (s2' c)) (by simp[hold,hlen,hmul]) c1 c1' (by rw[xH,hzs,qV]);exact⟨rfl,_,_,M',c2,ajp⟩
   .
    split at h
    case h_2=>simp at h
    rename_i ajo _ k cs hbc;split at h
    .simp at h
    .rename_i Gg;simp only[adl,ne_eq,Decidable.not_not]at Gg;have hkc:=hk;obtain⟨hk,rfl,rfl,nP,qW⟩:=Gg;have hp:=hp.resolve_left (by omega);simp only[a09,a1k]at h;obtain⟨rfl,rfl,rfl⟩:=h;have hDs:∀k∈dF x,D k:=fun k hk=>hD k (a3I _ hk);have hDb:=hD (.h b) (by simp);obtain⟨s1',s2',arr,Vd,s4'⟩:=DF (P:=P) (fun b=>rfl) hV lG hx hDs;have hg:s.get (.h b)=some (.cells k cs):=(by simp[St.get,hbc]);have hnb:∀(M':Mp) (w':LI4),Valid M' D (St.get { s with heap:=s.heap.set b (.cells k.more (cs++new)) }) w' ->
       Valid M' (fun j=>D j\/(s.get j=none/\(St.get { s with heap:=s.heap.set b (.cells k.more (cs++new)) } j).isSome=true)) (St.get { s with heap:=s.heap.set b (.cells k.more (cs++new)) }) w':=by
      intro M' w' hv;have aux:∀j,(D j\/(s.get j=none/\(St.get { s with heap:=s.heap.set b (.cells k.more (cs++new)) } j).isSome=true))->D j:=by
       intro j hj;rcases hj with hj|⟨x1,x2⟩
       .exact hj
       .rw[jm s b _ (a0x.1 hbc).1]at x2;simp only[mQ]at x2;split at x2
        .rename_i e;subst e;exact hDb
        .simp[x1]at x2
      exact⟨fun k l hk hd=>hv.ok k l hk (aux k hd),fun k k' l l' b' a1 a2 a3 hd=>hv.own k k' l l' b' a1 a2 a3 (aux k hd),hv.inb⟩
     have atM:arr.size=n*sz:=by have:=s4'.len;simp at this;omega
     have ajq:p.base=0/\p.ext<=cs.length:=by obtain⟨gQ,q1,q2⟩:=hV.ok _ _ hb hDb;rw[hg]at q1;cases q1;exact⟨(q2.2.1 p hp).base hk,(q2.2.1 p hp).ext⟩
     by_cases Gi:len+n<=cap'
     .
      rcases ha with ha|⟨rfl,ha⟩
      .omega
      have adf:(len+n)*sz<=cap'*sz:=a3N sz Gi;have vZ:∀v∈arr.toList,v.oneCell'=true:=by
       intro v hv;obtain⟨i,hi,rfl⟩:=a5T.1 hv;have wS:i<new.length:=by simp at hi;omega
       exact EP (s4'.at_ i new[i] arr.toList[i] (by simp[wS]) (by simp)) (s2' _ (a5K wS))
      obtain⟨gQ,q1,q2⟩:=hV.ok _ _ hb hDb;rw[hg]at q1;cases q1;obtain⟨row,rty,rfz,z1,z2,z3,z4⟩:=(q2.2.1 p hp).row;have:=z3 hk;subst this;have uF:=run_storeCells_at (P:=P) p.c cs.length rty arr.toList 0 row w z1 (by simp;omega) vZ;obtain⟨M',q,v1,v2,v3,⟨qw,v4,v5⟩,v6,v7,v8⟩:=a1A (P:=P) hV hb hDb hbc hk hp (by omega) s4' s2' adg true #[] #[] 0 (.inl ⟨rfl,by omega,uF⟩);rcases v8 with⟨_,v9,v10⟩|⟨v9,_⟩
      .refine⟨rfl,_,_,M',Tv (P:=P) (w:=w) (ty:=ty) (a:=⟨p.c,p.base+0,none⟩) h0 h1 hu hn Ik hdd rfl s1' Gi (Vd w rfl) (by rw[vJ,ajq.1];simp only[a3L,adi];rw[<-nP];exact uF),⟨hnb _ _ v1,v2,?_,v3⟩⟩;refine .val (.aO v4 (.inr v5) (by omega) (a1l _) Gi (fun h=>by simp at h) (.inr ⟨by rw[v9,v7,ajq.1],by rw[v7,v10];omega⟩) hkc)
      .cases v9
     .
      have qU:eF sz s.heap (.aO b 0 len len sz ex)=some (len,cs):=by
       have:sub cs 0 (len*sz)=some cs:=by unfold sub;rw[a1e (by omega)];simp[<-nP]
       simp[eF,mZ,hbc,this,nP,qW]
      obtain⟨t1',t2',a6t,t3',t4'⟩:=DF (P:=P) (fun b=>rfl) hV qU hd0 (fun k hk=>by simp[dF]at hk;rw[hk];exact hDb);obtain⟨lF,c1,c1',c2⟩:=GR (P:=P) (w:=w) (ty:=ty) (base:=some a) (sLen:=len) (sCap:=cap') (old:=a6t) (new:=arr) h0 h1 hu hn Ik hdd hi hiz rfl s1' (by omega) CV yN hb3 t3' Vd;obtain⟨M',q,v1,v2,v3,⟨qw,v4,v5⟩,v6,v7,v8⟩:=a1A (P:=P) hV hb hDb hbc hk hp (by omega) s4' s2' adg false a6t (Builtin.zeroCells z.cells (lF-(len+n))) e (.inr ⟨rfl,t4',rfl⟩);rcases v8 with⟨v9,_⟩|⟨_,v10,v11⟩
      .cases v9
      .refine⟨rfl,_,_,M',c2,⟨hnb _ _ v1,v2,?_,v3⟩⟩;refine .val (.aO v4 (.inr v5) (by omega) (a1l _) c1 (fun h=>by simp at h) (.inr ⟨by rw[v10,v7],?_⟩) c1');rw[v11,v7];have RX:=t4'.len;simp only[a8p]at RX;have hm3:(len+n)*sz+(lF-(len+n))*sz=lF*sz:=by rw[<-a3W];congr 1;omega
       simp only[Array.size_append,xH,hzs,qV];omega
 .simp at h
theorem a6v{cs l off n m}(h:sub cs off n=some l)(hm:m<=n):sub cs off m=some (l.take m):=by obtain⟨h1,h2,h3⟩:=o9 h;unfold sub;rw[a1e (by omega),h2,afB,a7z hm]
theorem Ve{at_ ty d x r s1 i dv xv}(hV:Valid M D s.get w)(h:Ib P at_ s d x=some (r,s1,i)) (hd:VR M.h d dv) (hx:VR M.h x xv) (hD:∀k∈i.ts,D k) :s1.env=s.env/\BOk P M D s.get w (Builtin.copy_ at_ ty #[dv,xv]) r s1.get i.ws:=by
 unfold Ib at h;split at h
 case h_2=>simp at h
 rename_i st h0;split at h
 case h_2=>simp at h
 rename_i e size zu;obtain⟨hu,hn,Xt⟩:=rW zu;split at h
 case h_2=>simp at h
 rename_i n new lG;split at h
 case isFalse=>simp at h
 rename_i hlen;obtain⟨hlen,OY⟩:=hlen;have first:∀(m:Nat),m<=n->(∀k∈dF x,D k)->(Builtin.lenOf xv).run P w=.ok n w/\(∀c∈new.take (m*size),iO c=true) /\
   ∃arr,(Builtin.firstCells size m xv).run P w=.ok arr w/\bZ M.h (new.take (m*size)) arr.toList:=by
  intro m hm hDs;obtain⟨s1',s2',arr,Vd,s4'⟩:=DF (P:=P) (fun b=>rfl) hV lG hx hDs;refine⟨s1',fun c hc=>s2' c (aaf hc),?_⟩;have hmul:m*size<=n*size:=a3N size hm;cases hx with
  |V5=>
   unfold eF at lG;simp at lG;obtain⟨rfl,rfl⟩:=lG;exact⟨#[],by simp[Builtin.firstCells],by simpa using bZ.nil⟩
  |aO hb hp yC hle uf hex ha hk=>
   rename_i b off len cap sz ex ls p a cap';unfold eF at lG;simp only at lG;split at lG
   case isFalse=>simp at lG
   rename_i qV;subst qV;split at lG
   .rename_i hz;simp at lG;obtain⟨rfl,rfl⟩:=lG;have:m=0:=(by omega);subst this;exact⟨#[],by simp[Builtin.firstCells,loadCells,loadCellsFrom],by simpa using bZ.nil⟩
   split at lG
   case h_2=>simp at lG
   rename_i cs hbc;simp only[a0A,a1k]at lG;obtain⟨r',hr,rfl,rfl⟩:=lG;obtain⟨k,hk,Xp⟩:=yK hbc;obtain⟨gQ,h1,h2⟩:=hV.ok _ _ hb (hDs _ (by simp[dF]));simp only[St.get,hk,a09]at h1;subst h1;by_cases h00:cap'=0
   .have qW:len=0:=(by omega);subst qW;have:m=0:=(by omega);subst this;exact⟨#[],by simp[Builtin.firstCells,loadCells,loadCellsFrom],by simpa using bZ.nil⟩
   .rcases ha with ha|⟨rfl,ha⟩
    .exact absurd ha h00
    .obtain⟨xs,x1,x2⟩:=zn (P:=P) (h2.2.1 p (hp.resolve_left h00)) (a6v hr hmul) (by have:=a3N sz hle;omega) (fun e=>by have:=Xp e;have:=(h2.2.1 p (hp.resolve_left h00)).ext;omega);exact⟨xs.toArray,by simp[Builtin.firstCells,x2 w rfl],x1⟩
  |str bs=>simp[isStr]at OY
  |_=>simp[eF]at lG
 split at h
 .simp at h;obtain⟨rfl,rfl,rfl⟩:=h;cases hd;obtain⟨f1,f2,arr,f3,f4⟩:=first 0 (a5U _) hD
  have f5:=f4.len;simp at f5;exact⟨rfl,.int .i64 0,w,M,by simp[Builtin.copy_,h0,run_underlying hu,f1,dw hn,f3,goInt],.same hV (.val (.int _ _))⟩
 .rename_i b off len cap sz ex;split at h
  case isFalse=>simp at h
  rename_i qV;subst qV;have hd0:=hd;cases hd with
  |aO hb hp yC hle uf hex ha hk=>
  rename_i ls p a cap';split at h
  .rename_i hm;simp at h;obtain⟨rfl,rfl,rfl⟩:=h;obtain⟨f1,f2,arr,f3,f4⟩:=first 0 (a5U _) hD
   have f5:arr.toList=[]:=by have:=f4.len;simp only[ado,List.take_zero,a5W]at this;exact a4u this.symm
   refine⟨rfl,.int .i64 0,w,M,?_,.same hV (.val (.int _ _))⟩;have e1:Nat.min n len=0:=hm;simp[Builtin.copy_,h0,run_underlying hu,f1,dw hn,e1,f3,goInt,f5,storeCells]
  .rename_i hm;simp only[a0A,a1k]at h;obtain⟨hp',GU,rfl,rfl,rfl⟩:=h;obtain⟨kk,Ci,cs,cs',hbc,yL,ho,rfl⟩:=JU GU;obtain⟨f1,f2,arr,f3,f4⟩:=first (min n len) (Nat.min_le_left _ _) (fun k hk=>hD k (a3I _ hk))
   have hg:s.get (.h b)=some (.cells kk cs):=(by simp[St.get,hbc]);have yO:=(a0x.1 hbc).1;rcases ha with ha|⟨rfl,ha⟩
   .omega
   obtain⟨w',r1,r2,r3⟩:=zK (P:=P) hV hb (hD (.h b) (by simp)) hg (hp.resolve_left (by omega)) (hV.ZJ hb (hD (.h b) (by simp)) hg (hp.resolve_left (by omega)) yC yL) ho f4 f2;refine⟨rfl,.int .i64 (min n len:Nat),w',M,?_,⟨?_,?_,.val (.int _ _),fun _ _ h=>h⟩⟩
   .have e1:Nat.min n len=min n len:=rfl;simp[Builtin.copy_,h0,run_underlying hu,f1,dw hn,e1,f3,goInt,r1]
   .rw[jm s b _ yO];exact r2.widen (ES (by simp[hg]))
   .rw[jm s b _ yO];exact r3
 .simp at h
end
section
variable{P:LI1}{M:Mp}{D:Key->Prop}{w:LI4}{s:St}{N:Np}
theorem bM{α β}(x)(f:α->Sem β):aC P (x >>= f)=(aC P x).bind fun a=>aC P (f a):=by
 show aC P (x.bind f)=_
 induction x with
 |pure a=>rfl
 |program k ih=>exact ih P
 |mark m k ih=>exact ih
 |_=>rfl
def JZ(b:Nat->Bool)(L:List MapEntry)(i0:Nat):Option (Nat×LI3)->Prop
 |none=>∀i,i<L.length->b i=false
 |some (i,v)=>i0<=i/\b (i-i0)=true/\∃x,L[i-i0]? = some x/\v=x.val
theorem JZ.succ{b e L i0 r}(hb:b 0=false)(h:JZ (fun i=>b (i+1)) L (i0+1) r):JZ b (e::L) i0 r:=by
 cases r with
 |none=>
  intro i hi;cases i with
  |zero=>exact hb
  |succ i=>exact h i (by simpa using hi)
 |some r=>
  obtain⟨h1,h2,x,h3,h4⟩:=h;have e1:r.1-i0=(r.1-(i0+1))+1:=by omega
  refine⟨by omega,by rw[e1];exact h2,x,by rw[e1];simpa using h3,h4⟩
theorem MH(kind k):∀(L) (i0) (b),(∀i x,L[i]? = some x->Instr.sameNow kind k x.key=some (b i)) ->∃r,Instr.findNow kind k L i0=some r/\JZ b L i0 r
 | [],i0,b,_=>⟨none,rfl,fun i hi=>absurd hi (by simp)⟩
 |e::L,i0,b,h=>by
  have h0:=h 0 e rfl;obtain⟨r,g1,g2⟩:=MH kind k L (i0+1) (fun i=>b (i+1)) fun i x hx=>h (i+1) x (by simpa using hx);simp only[Instr.findNow,h0];cases hb:b 0 with
  |true=>exact⟨_,rfl,a1l _,by simpa using hb,e,by simp,rfl⟩
  |false=>exact⟨r,g1,g2.succ hb⟩
theorem DI(kt k):∀(L) (i0) (b),(∀i x,L[i]? = some x->aC P (Op.equal kt k x.key)=some (b i)) ->∃r,(∀w,(Instr.findAsking kt k L i0).run P w=.ok r w)/\JZ b L i0 r
 | [],i0,b,_=>⟨none,fun w=>rfl,fun i hi=>absurd hi (by simp)⟩
 |e::L,i0,b,h=>by
  have h0:=fun w=>jw (h 0 e rfl) w;obtain⟨r,g1,g2⟩:=DI kt k L (i0+1) (fun i=>b (i+1)) fun i x hx=>h (i+1) x (by simpa using hx);cases hb:b 0 with
  |true=>exact⟨some (i0,e.val),fun w=>by simp[Instr.findAsking,h0 w,hb],a1l _,by simpa using hb,e,by simp,rfl⟩
  |false=>exact⟨r,fun w=>by simp[Instr.findAsking,h0 w,hb,g1 w],g2.succ hb⟩
theorem a1C:∀{l} {vs},CS l=some vs->∀(i:Nat) (c),l[i]? = some c->∃v,vs[i]? = some v/\c.zk=some v
 | [],vs,h,i,c,hc=>by simp at hc
 |a::l,vs,h,i,c,hc=>by
  simp only[CS]at h;split at h
  .rename_i v ws h1 h2;cases h;cases i with
   |zero=>simp at hc;subst hc;exact⟨v,rfl,h1⟩
   |succ i=>simpa using a1C h2 i c (by simpa using hc)
  cases h
def FR(N:Np)(o:List Nat)(es:List (TV×TV))(xs:Array MapEntry):Option Nat->Option (Nat×LI3)->Prop
 |none,none=>True
 |some j,some (i,v)=>o[i]? = some j/\∃e x,es[j]? = some e/\xs[i]? = some x/\v=x.val/\VR N e.1 x.key/\VR N e.2 x.val
 |_,_=>False
theorem Il{o kt k es r xs}(h:G8 P kt k es=some r)(hx:xC N o es xs) :(∀w,(Instr.checkKey xs.isEmpty 10000 kt k).run P w=.ok () w)/\∃r',(∀w,(Instr.findKey kt k xs.toList).run P w=.ok r' w) /\FR N o es xs r r':=by
 unfold G8 at h;split at h
 case h_2=>simp at h
 rename_i ks Gj;split at h
 case h_2=>simp at h
 rename_i r0 hr;split at h
 case isFalse=>simp at h
 rename_i Tz;cases h;generalize r0.map (·.1)=r at Tz ⊢;have hl:es.isEmpty=xs.isEmpty:=by rw[a5S];simp[List.isEmpty_iff,<-a6n,hx.len]
 have MF:ks.length=es.length:=by
  have:∀{l:List TV} {vs:List LI3},CS l=some vs->vs.length=l.length:=by
   intro l
   induction l with
   |nil=>intro vs h;simp[CS]at h;subst h;rfl
   |cons a l ih=>
    intro vs h;simp only[CS]at h;split at h
    .rename_i v ws h1 h2;cases h;simp[ih h2]
    .cases h
  simpa using this Gj
 rw[bM]at hr;cases hc:aC P (Instr.checkKey es.isEmpty 10000 kt k)with
 |none=>simp[hc]at hr
 |some u=>
  refine⟨fun w=>by rw[<-hl];exact jw hc w,?_⟩;unfold Xj at Tz;split at Tz
  case h_2=>simp at Tz
  rename_i kind hd;have hdr:=fun w=>jw hd w;simp only[a2n]at Tz;obtain⟨hj,hs⟩:=Tz;have aaA:∀(i:Nat) (x:MapEntry),xs.toList[i]? = some x->∃(j:Nat) (e:TV×TV),o[i]? = some j/\es[j]? = some e/\VR N e.1 x.key/\VR N e.2 x.val/\ks[j]? = some x.key:=by intro i x hi;obtain⟨_,j,e,h1,h2,h3,h4⟩:=hx.at_ i x (by simpa using hi);obtain⟨v,g1,g2⟩:=a1C Gj j e.1 (by simp[h2]);exact⟨j,e,h1,h2,h3,h4,by rw[g1,xu g2 h3]⟩
  let b:Nat->Bool:=fun i=>o[i]? == r
  have hb:∀i j,o[i]? = some j->b i=(some j==r):=fun i j h=>by simp only[b,h]
  have fin:∀r',JZ b xs.toList 0 r'->FR N o es xs r r':=by
   intro r' hf;cases r' with
   |none=>
    cases r with
    |none=>trivial
    |some j=>
     simp only[a1x]at hj;obtain⟨i,hi⟩:=a9O.1 (hx.sur j (by omega));have h1:=hf i (by have:=(a0x.1 hi).1;have:=hx.ord;simp;omega);rw[hb i j hi]at h1;simp at h1
   |some q=>
    obtain⟨i,v⟩:=q;obtain⟨_,h1,x,h2,h3⟩:=hf;simp only[Nat.sub_zero]at h1 h2;obtain⟨j,e,g1,g2,g3,g4,_⟩:=aaA i x h2;rw[hb i j g1]at h1;simp only[a6x]at h1;subst h1;exact⟨g1,e,x,g2,by simpa using h2,h3,g3,g4⟩
  have AY:∀{p:LI3×Nat->Bool},ks.zipIdx.all p=true->∀j x,ks[j]? = some x->p (x,j)=true:=by intro p hp j x hjx;exact a5L.1 hp (x,j) (aaB.2 (by simpa using hjx))
  unfold Instr.findKey;rcases aam _ _▸hs with hs|hs
  .obtain⟨r',g1,g2⟩:=MH kind k xs.toList 0 b fun i x hi=>by obtain⟨j,e,h1,_,_,_,h5⟩:=aaA i x hi;have:=AY hs j _ h5;simp only[a6x]at this;rw[this,hb i j h1]
   exact⟨r',fun w=>by simp[hdr w,g1],fin r' g2⟩
  .by_cases h0:xs.toList=[]
   .refine⟨none,fun w=>by simp[hdr w,h0,Instr.findNow],fin none (by rw[h0];intro i hi;simp at hi)⟩
   .have Zx:Instr.findNow kind k xs.toList 0=none:=by
     cases hL:xs.toList with
     |nil=>exact absurd hL h0
     |cons x L=>
      obtain⟨j,e,h1,_,_,_,h5⟩:=aaA 0 x (by rw[hL];rfl);have:=AY hs j _ h5;simp only[a2n,a6x]at this;simp only[Instr.findNow,this.1]
    obtain⟨r',g1,g2⟩:=DI (P:=P) kt k xs.toList 0 b fun i x hi=>by obtain⟨j,e,h1,_,_,_,h5⟩:=aaA i x hi;have:=AY hs j _ h5;simp only[a2n,a6x]at this;rw[this.2,hb i j h1]
    exact⟨r',fun w=>by simp[hdr w,Zx,g1 w],fin r' g2⟩
theorem ET{t:LI2}{m k r:TV}{ok:Bool}{mv kv:LI3}(hV:Valid M D s.get w)(h:iC P t s.heap m k ok=some r)(hm:VR M.h m mv)(hk:VR M.h k kv)
  (hD:∀j∈(match m with|.map r=>[Key.h r] |_=>[]),D j):∃z,VR M.h r z/\(Instr.lookup t mv kv ok).run P w=.ok z w:=by
 unfold iC at h;split at h
 case h_2=>simp at h
 rename_i kt e kx hu hkx;have:=xu hkx hk;subst this;simp only at h;have main:∀(o:List Nat) (es:List (TV×TV)) (xs:Array MapEntry),xC M.h o es xs->((mv=.map none/\xs=#[])\/∃r1 ck,mv=.map (some r1)/\w.heap[r1]? = some (.map xs ck)) ->
   (match G8 P kt kv es with
   |some (some i)=>match es[i]? with
    |some (_,v)=>some (if ok then .dM [v,.bool true]else v)
    |none=>none
   |some none=>match P.info? e with
    |some i=>match i.zero with
     |some z=>(TV.Xb z).map fun z=>if ok then .dM [z,.bool false]else z
     |none=>none
    |none=>none
   |none=>none)=some r->∃z,VR M.h r z/\(Instr.lookup t mv kv ok).run P w=.ok z w:=by
  intro o es xs hx uF h;cases hf:G8 P kt kv es with
  |none=>simp[hf]at h
  |some r0=>
   rw[hf]at h;obtain⟨c1,r',c2,c3⟩:=Il hf hx;cases r0 with
   |some j=>
    cases r' with
    |none=>exact c3.elim
    |some jv=>
     obtain⟨j',v⟩:=jv;obtain⟨_,e',x',e1,e2,rfl,_,hv⟩:=c3;simp only[e1,a09]at h;subst h;refine⟨if ok then .tuple #[x'.val,.bool true]else x'.val,?_,?_⟩
     .cases ok
      .exact hv
      .exact .RQ (.cons hv (.cons (.bool true) .nil))
     .rcases uF with⟨rfl,rfl⟩|⟨r1,ck,rfl,hmp⟩
      .simp only[Instr.lookup,Sem.run_bind,run_underlying hu,Result.andThen_ok,c1 w,c2 w,Sem.run_pure]
      .simp only[Instr.lookup,Sem.run_bind,run_underlying hu,Result.andThen_ok,getObj,Sem.run,hmp,c1 w,c2 w,Sem.run_pure]
   |none=>
    cases r' with
    |some jv=>exact c3.elim
    |none=>
     simp only at h;split at h
     case h_2=>simp at h
     rename_i inf hi;split at h
     case h_2=>simp at h
     rename_i z hz;simp only[a0A]at h;obtain⟨zt,hzt,rfl⟩:=h;have hv:VR M.h zt z:=.zl hzt;refine⟨if ok then .tuple #[z,.bool false]else z,?_,?_⟩
     .cases ok
      .exact hv
      .exact .RQ (.cons hv (.cons (.bool false) .nil))
     .have hzr:(zeroValue e).run P w=.ok z w:=(by simp[zeroValue,jl hi,hz]);rcases uF with⟨rfl,rfl⟩|⟨r1,ck,rfl,hmp⟩
      .simp only[Instr.lookup,Sem.run_bind,run_underlying hu,Result.andThen_ok,c1 w,c2 w,Sem.run_pure,hzr]
      .simp only[Instr.lookup,Sem.run_bind,run_underlying hu,Result.andThen_ok,getObj,Sem.run,hmp,c1 w,c2 w,Sem.run_pure,hzr]
 cases hm with
 |ZH=>exact main [] [] #[] ⟨rfl,rfl,.nil,by simp,by simp⟩ (.inl ⟨rfl,rfl⟩) h
 |map hmm=>
  rename_i r0 r1 o1;obtain⟨gQ,b1,b2⟩:=hV.ok _ _ hmm (hD _ (by simp));simp only[St.get]at b1;simp only[b1]at h;cases gQ with
  |map es=>
   obtain⟨xs,g1,g2⟩:=b2;exact main o1 es xs g2 (.inr ⟨r1,xs.size,rfl,g1⟩) h
  |cells k cs=>exact b2.elim
  |loop=>simp at h
  |mark=>simp at h
  |nN=>simp at h
  |dB=>simp at h
 |_=>simp at h
end
section
variable{P:LI1}{M:Mp}{D:Key->Prop}{w:LI4}{s:St}
theorem zN(hV:Valid M D s.get w){r r1 o o' es gV xs xs'}(hm:M (.h r)=some (.obj r1 o))(hd:D (.h r))(hb:s.heap[r]? = some (.map es))(hr:w.heap[r1]? = some (.map xs xs.size)) (ho:o <+: o') (hx:xC (dN M (.h r) (.obj r1 o')).h o' gV xs') :Valid (dN M (.h r) (.obj r1 o')) (fun j=>D j\/(s.get j=none/\(St.get { s with heap:=s.heap.set r (.map gV) } j).isSome=true)) (St.get { s with heap:=s.heap.set r (.map gV) }) { w with heap:=w.heap.setIfInBounds r1 (.map xs' xs'.size) } /\Ext M s.get w (dN M (.h r) (.obj r1 o')) (St.get { s with heap:=s.heap.set r (.map gV) }) { w with heap:=w.heap.setIfInBounds r1 (.map xs' xs'.size) } [.h r]:=by
 have hg:s.get (.h r)=some (.map es):=by simp[St.get,hb]
 have yO:=(a0x.1 hb).1;have hle:tZ M (dN M (.h r) (.obj r1 o')):=lS fun l0 h0=>by rw[hm]at h0;cases h0;exact⟨rfl,ho⟩
 have aQ:r1<w.heap.size:=(a2I.1 hr).1;have fO:∀c,c<w.heap.size->c∉aI (.obj r1 o')->(w.heap.setIfInBounds r1 (Obj.map xs' xs'.size))[c]? = w.heap[c]?:=fun c _ hc=>by rw[aa3,a18 (by simp[aI]at hc;omega)]
 have fZ:∀c∈aI (.obj r1 o'),(∃l0,M (.h r)=some l0/\c∈aI l0)\/w.heap.size<=c:=fun c hc=>.inl ⟨_,hm,hc⟩;constructor
 .rw[jm s r _ yO];refine Valid.widen ?_ (ES (by simp[hg]));exact hV.upd (D':=D) (w':={ w with heap:=w.heap.setIfInBounds r1 (.map xs' xs'.size) }) (.h r) (.map gV) (.obj r1 o') (fun j hj=>.inl hj) (fun l0 h0=>by rw[hm]at h0;cases h0;exact⟨hd,⟨rfl,ho⟩,fun b0 yu=>by rw[hg]at yu;cases yu;rfl⟩) fO fZ (by simp) ⟨xs',by simp[aQ],hx⟩
 .rw[jm s r _ yO];exact Ext.upd (M:=M) (C:=s.get) (w:=w) (w':={ w with heap:=w.heap.setIfInBounds r1 (.map xs' xs'.size) }) (.h r) (.map gV) (.obj r1 o') [.h r] (.inl ⟨by simp[hg],rfl,by simp[hm],fun b0 yu=>by rw[hg]at yu;cases yu;rfl⟩) hle fO fZ (by simp) rfl rfl rfl
theorem xC.lt{N o es xs}(g2:xC N o es xs):∀j∈o,j<es.length:=fun j hj=>by
 obtain⟨i,hi⟩:=a9O.1 hj;have:i<xs.size:=by rw[<-g2.ord];exact(a0x.1 hi).1
 obtain⟨_,j',e,z1,z2,_⟩:=g2.at_ i _ (a4o this);rw[hi]at z1;cases z1;exact(a0x.1 z2).1
theorem xC.upd{N N':Np}{o es xs}(g2:xC N o es xs)(hle:tZ N N'){i j x' f k v}(q1:o[i]? = some j) (e2:xs[i]? = some x') (hb:(f x').born=x'.born) (hk:VR N' k (f x').key) (hv:VR N' v (f x').val):xC N' o (es.set j (k,v)) (xs.modify i f):=by
 have g3:=g2.mono hle;refine⟨by simp[g2.len],by simp[g2.ord],g2.nod,fun j' EM=>g2.sur j' (by simpa using EM),fun a x h2=>?_⟩;rw[abR]at h2;by_cases ha:i=a
 .subst ha;rw[a1e rfl,e2]at h2;simp only[a1n,a09]at h2;subst h2;obtain⟨z1,j2,e2',z2,z3,_⟩:=g2.at_ i x' e2;rw[q1]at z2;cases z2;exact⟨hb.trans z1,j,(k,v),q1,by rw[aaF];simp[(a0x.1 z3).1],hk,hv⟩
 .rw[a18 ha]at h2;obtain⟨z1,j2,e2',z2,z3,z4,z5⟩:=g3.at_ a x h2;refine⟨z1,j2,e2',z2,?_,z4,z5⟩;have iI:j≠j2:=fun e=>by subst e;have i1:=a0x.1 q1;have i2:=a0x.1 z2;exact ha ((aaZ g2.nod (h₀:=i1.1) (h₁:=i2.1)).1 (i1.2.trans i2.2.symm))
  rw[aaF,a18 iI];exact z3
theorem xC.push{N N':Np}{o es xs}(g2:xC N o es xs)(hle:tZ N N'){k v kv vv}(hk:VR N' k kv) (hv:VR N' v vv):xC N' (o++[es.length]) (es++[(k,v)]) (xs.push { key:=kv,val:=vv,born:=xs.size }):=by
 have aQ:=g2.lt;have g3:=g2.mono hle;refine⟨by simp[g2.len],by simp[g2.ord],?_,fun j hj=>?_,fun a x h2=>?_⟩
 .rw[a9N];exact⟨g2.nod,by simp,fun x hx y hy=>by simp at hy;subst hy;have:=aQ x hx;omega⟩
 .simp only[a1B,a4C,a5W]at hj;rcases a4W j es.length with h1|h1
  .exact a6l _ (g2.sur j h1)
  .exact abS _ (by simp;omega)
 .rw[Array.getElem?_push]at h2;by_cases ha:a=xs.size
  .rw[a1e ha]at h2;simp only[a09]at h2;subst h2;exact⟨ha.symm,es.length,(k,v),by rw[a1r (by rw[g2.ord];omega),g2.ord,ha];simp,by simp,hk,hv⟩
  .rw[a18 ha]at h2;obtain⟨z1,j2,e2',z2,z3,z4,z5⟩:=g3.at_ a x h2;exact⟨z1,j2,e2',by rw[a0U (a0x.1 z2).1];exact z2,by rw[a0U (a0x.1 z3).1];exact z3,z4,z5⟩
theorem TA{t m k v s1 i mv kv vv}(hV:Valid M D s.get w)(h:yI P t s m k v=some (s1,i))(hm:VR M.h m mv)(hk:VR M.h k kv)(hv:VR M.h v vv)(hD:∀j∈i.ts,D j):s1.env=s.env/\∃w' M',(Instr.mapUpdate t mv kv vv).run P w=.ok () w' /\Valid M' (fun j=>D j\/(s.get j=none/\(s1.get j).isSome=true)) s1.get w'/\Ext M s.get w M' s1.get w' i.ws/\(∀k l,M (.l k)=some l->M' (.l k)=some l):=by
 unfold yI at h;split at h
 case h_2=>simp at h
 rename_i kt et kx r hu hkx;have:=xu hkx hk;subst this;split at h
 case h_2=>simp at h
 rename_i es NP hck;have c0:=jw hck w;cases hm with
 |map hmm=>
 rename_i r1 o1;have vM:∀o',∀k l,M (.l k)=some l->dN M (.h r) (.obj r1 o') (.l k)=some l:=fun o' k l h=>by simp[dN,h]
 have go:D (.h r)->∃xs,w.heap[r1]? = some (.map xs xs.size)/\xC M.h o1 es xs:=by intro hd;obtain⟨gQ,b1,b2⟩:=hV.ok _ _ hmm hd;simp only[St.get,NP,a09]at b1;subst b1;exact b2
 split at h
 .
  rename_i j hf;split at h
  case h_2=>simp at h
  rename_i old ov0 hj;split at h
  case h_2=>simp at h
  rename_i ov hov;split at h
  case isFalse=>simp at h
  rename_i Xx;simp only[a09,a1k]at h;obtain⟨rfl,rfl⟩:=h;have hd:=hD (.h r) (by simp[qg]);obtain⟨xs,g1,g2⟩:=go hd;obtain⟨c1,r',c2,c3⟩:=Il hf g2;cases r' with
  |none=>exact c3.elim
  |some jv=>
   obtain⟨i,v'⟩:=jv;obtain⟨q1,e',x',e1,e2,rfl,q2,_⟩:=c3;rw[hj]at e1;cases e1;have hold:x'.key=ov:=xu hov q2;have hle:tZ M (dN M (.h r) (.obj r1 o1)):=lS fun l0 h0=>by have h0':M (.h r)=some l0:=h0;have RY:M (.h r)=some (.obj r1 o1):=hmm;rw[RY]at h0';cases h0';exact .refl _
   have GN:=g2.upd (f:=fun e=>{ e with key:=kv,val:=vv }) hle.h q1 e2 rfl (hk.mono hle.h) (hv.mono hle.h);obtain⟨v1,v2⟩:=zN hV hmm hd NP g1 (agE _) GN;refine⟨rfl,_,_,?_,v1,v2,vM _⟩;simp only[Instr.mapUpdate,Sem.run_bind,run_underlying hu,Result.andThen_ok,getObj,Sem.run,g1];simp only[c0,c2 w,Result.andThen_ok,e2,a1n,a5V,Instr.keyThatStays,hold,Xx,a2p,setObj];simp only[Sem.run_bind,Sem.run_pure,Result.andThen_ok,Sem.run,g1,Array.size_modify]
 .
  rename_i hf;simp only[a09,a1k]at h;obtain⟨rfl,rfl⟩:=h;have hd:=hD (.h r) (by simp[qg]);obtain⟨xs,g1,g2⟩:=go hd;obtain⟨c1,r',c2,c3⟩:=Il hf g2;cases r' with
  |some jv=>exact c3.elim
  |none=>
   have FQ:o1 <+: o1++[es.length]:=⟨_,rfl⟩;have hle:tZ M (dN M (.h r) (.obj r1 (o1++[es.length]))):=lS fun l0 h0=>by have h0':M (.h r)=some l0:=h0;have RY:M (.h r)=some (.obj r1 o1):=hmm;rw[RY]at h0';cases h0';exact⟨rfl,FQ⟩
   have GN:=g2.push hle.h (hk.mono hle.h) (hv.mono hle.h);obtain⟨v1,v2⟩:=zN hV hmm hd NP g1 FQ GN;refine⟨rfl,_,_,?_,v1,v2,vM _⟩;simp only[Instr.mapUpdate,Sem.run_bind,run_underlying hu,Result.andThen_ok,getObj,Sem.run,g1];simp only[c0,c2 w,Result.andThen_ok,setObj,Sem.run,g1,Array.size_push]
 .simp at h
theorem a3O{t m k e s1 i mv kv}(hV:Valid M D s.get w)(h:AO P t s m k=some (e,s1,i))(hm:VR M.h m mv)(hk:VR M.h k kv)(hD:∀j∈i.ts,D j):s1.env=s.env/\∃x w' M',(Instr.mapEntry t mv kv).run P w=.ok x w'/\ER M' e x /\Valid M' (fun j=>D j\/(s.get j=none/\(s1.get j).isSome=true)) s1.get w'/\Ext M s.get w M' s1.get w' i.ws/\(∀k l,M (.l k)=some l->M' (.l k)=some l):=by
 unfold AO at h;split at h
 case h_2=>simp at h
 rename_i kt et kx r hu hkx;have:=xu hkx hk;subst this;split at h
 case h_2=>simp at h
 rename_i es NP hck;have c0:=jw hck w;cases hm with
 |map hmm=>
 rename_i r1 o1;have vM:∀o',∀k l,M (.l k)=some l->dN M (.h r) (.obj r1 o') (.l k)=some l:=fun o' k l h=>by simp[dN,h]
 have go:D (.h r)->∃xs,w.heap[r1]? = some (.map xs xs.size)/\xC M.h o1 es xs:=by intro hd;obtain⟨gQ,b1,b2⟩:=hV.ok _ _ hmm hd;simp only[St.get,NP,a09]at b1;subst b1;exact b2
 have Gl:∀o',dN M (.h r) (.obj r1 o') (.h r)=some (.obj r1 o'):=fun o'=>by simp[dN]
 split at h
 .rename_i j hf;split at h
  case h_2=>simp at h
  rename_i old v0 hj;split at h
  case h_2=>simp at h
  rename_i ov hov;split at h
  case isFalse=>simp at h
  rename_i Xx;simp only[a09,a1k]at h;obtain⟨rfl,rfl,rfl⟩:=h;have hd:=hD (.h r) (by simp[qg]);obtain⟨xs,g1,g2⟩:=go hd;obtain⟨c1,r',c2,c3⟩:=Il hf g2;cases r' with
  |none=>exact c3.elim
  |some jv=>
   obtain⟨i,v'⟩:=jv;obtain⟨q1,e',x',e1,e2,rfl,q2,q3⟩:=c3;rw[hj]at e1;cases e1;have hold:x'.key=ov:=xu hov q2;have hle:tZ M (dN M (.h r) (.obj r1 o1)):=lS fun l0 h0=>by have h0':M (.h r)=some l0:=h0;have RY:M (.h r)=some (.obj r1 o1):=hmm;rw[RY]at h0';cases h0';exact .refl _
   have GN:=g2.upd (f:=fun e=>{ e with key:=kv }) hle.h q1 e2 rfl (hk.mono hle.h) (q3.mono hle.h);obtain⟨v1,v2⟩:=zN hV hmm hd NP g1 (agE _) GN;refine⟨rfl,.tuple #[x'.val,Go.goInt i],_,_,?_,.ent (Gl _) q1 (q3.mono hle.h),v1,v2,vM _⟩;simp only[Instr.mapEntry,Sem.run_bind,run_underlying hu,Result.andThen_ok,getObj,Sem.run,g1];simp only[c0,c2 w,Result.andThen_ok,e2,a1n,a5V,Instr.keyThatStays,hold,Xx,a2p,setObj,(g2.at_ i x' e2).1];simp only[Sem.run_bind,Sem.run_pure,Result.andThen_ok,Sem.run,g1,Array.size_modify]
 .rename_i hf;split at h
  case h_2=>simp at h
  rename_i inf hi;split at h
  case h_2=>simp at h
  rename_i z hz;split at h
  case h_2=>simp at h
  rename_i zt hzt;simp only[a09,a1k]at h;obtain⟨rfl,rfl,rfl⟩:=h;have hd:=hD (.h r) (by simp[qg]);obtain⟨xs,g1,g2⟩:=go hd;obtain⟨c1,r',c2,c3⟩:=Il hf g2;have hzr:(zeroValue et).run P w=.ok z w:=by simp[zeroValue,jl hi,hz]
  cases r' with
  |some jv=>exact c3.elim
  |none=>
   have FQ:o1 <+: o1++[es.length]:=⟨_,rfl⟩;have hle:tZ M (dN M (.h r) (.obj r1 (o1++[es.length]))):=lS fun l0 h0=>by have h0':M (.h r)=some l0:=h0;have RY:M (.h r)=some (.obj r1 o1):=hmm;rw[RY]at h0';cases h0';exact⟨rfl,FQ⟩
   have GN:=g2.push hle.h (hk.mono hle.h) (.zl hzt);obtain⟨v1,v2⟩:=zN hV hmm hd NP g1 FQ GN;refine⟨rfl,.tuple #[z,Go.goInt xs.size],_,_,?_,.ent (Gl _) (by rw[a1r (by rw[g2.ord];omega),g2.ord];simp) (.zl hzt),v1,v2,vM _⟩;simp only[Instr.mapEntry,Sem.run_bind,run_underlying hu,Result.andThen_ok,getObj,Sem.run,g1];simp only[c0,c2 w,hzr,Result.andThen_ok,setObj,Sem.run,g1,Array.size_push,Sem.run_bind,Sem.run_pure]
 .simp at h
theorem a6w{t m k e s1 i mv kv}(hV:Valid M D s.get w)(h:Dv P t s m k=some (e,s1,i))(hm:VR M.h m mv)(hk:VR M.h k kv)(hD:∀j∈i.ts,D j):s1.env=s.env/\∃x w' M',(Instr.mapEntry t mv kv).run P w=.ok x w'/\ER M' e x /\Valid M' (fun j=>D j\/(s.get j=none/\(s1.get j).isSome=true)) s1.get w'/\Ext M s.get w M' s1.get w' i.ws/\(∀k l,M (.l k)=some l->M' (.l k)=some l):=by
 unfold Dv at h;split at h
 .rename_i h0;split at h
  .cases h;exact a3O hV h0 hm hk hD
  .cases h
 .cases h
theorem Vf{xs:Array MapEntry}{i}(h:∀(a:Nat) (x),xs[a]? = some x->x.born=a)(hi:i<xs.size):xs.findIdx? (fun e=>(e.born:Int)==(i:Int))=some i:=by
 rw[Array.findIdx?_eq_some_iff_getElem];refine⟨hi,?_,fun j hj=>?_⟩
 .have:=h i _ (a4o hi);simp[this]
 have:=h j _ (a4o (Nat.lt_trans hj hi));simp[this];omega
theorem a3P{t m v e s1 i mv ev vv}(hV:Valid M D s.get w)(h:Ic s m e v=some (s1,i))(hm:VR M.h m mv)(he:ER M e ev)(hv:VR M.h v vv)(hD:∀j∈i.ts,D j):s1.env=s.env/\∃w' M',(Instr.entryStore t mv ev vv).run P w=.ok () w' /\Valid M' (fun j=>D j\/(s.get j=none/\(s1.get j).isSome=true)) s1.get w'/\Ext M s.get w M' s1.get w' i.ws/\(∀k l,M (.l k)=some l->M' (.l k)=some l):=by
 unfold Ic at h;split at h
 case h_2=>simp at h
 rename_i r r' j;split at h
 case isFalse=>simp at h
 rename_i hrr;subst hrr;split at h
 case h_2=>simp at h
 rename_i es NP;split at h
 case h_2=>simp at h
 rename_i k v0 hj;simp only[a09,a1k]at h;obtain⟨rfl,rfl⟩:=h;cases hm with
 |map hmm=>
 rename_i r1 o1;cases he with
 |FK h1 q1=>
 rename_i r2 i o2;have RY:M (.h r)=some (.obj r1 o1):=hmm;rw[RY]at h1;cases h1;have hd:=hD (.h r) (by simp[qg]);obtain⟨gQ,b1,b2⟩:=hV.ok _ _ hmm hd;simp only[St.get,NP,a09]at b1;subst b1;obtain⟨xs,g1,g2⟩:=b2;have aQ:i<xs.size:=by rw[<-g2.ord];exact(a0x.1 q1).1
 obtain⟨z1,j2,e2',z2,z3,z4,z5⟩:=g2.at_ i _ (a4o aQ);rw[q1]at z2;cases z2;rw[hj]at z3;cases z3;have hle:tZ M (dN M (.h r) (.obj r1 o1)):=lS fun l0 h0=>by have h0':M (.h r)=some l0:=h0;rw[RY]at h0';cases h0';exact .refl _
 have GN:=g2.upd (f:=fun e=>{ e with val:=vv }) hle.h q1 (a4o aQ) rfl (z4.mono hle.h) (hv.mono hle.h);obtain⟨v1,v2⟩:=zN hV hmm hd NP g1 (agE _) GN;refine⟨rfl,_,_,?_,v1,v2,fun k l h=>by simp[dN,h]⟩;have hf:=Vf (fun a x hx=>(g2.at_ a x hx).1) aQ;simp only[Instr.entryStore,Sem.run_bind,Result.andThen_ok,getObj,Sem.run,g1,asInt,asIntOf,Go.goInt,hf,setObj];simp only[Sem.run_bind,Sem.run_pure,Result.andThen_ok,Sem.run,hf,g1,Array.size_modify]
end
def Io(M:Mp)(env:List (Nat×EV))(a:Act)(X:Array Operand):Prop:=∀x∈X,∀e,JH env x=some e->ER M e (a.eval x)
theorem kJ.on{M env a}(hE:kJ M env a.tmps)(X):Io M env a X:=fun _ _ _ he=>a6j hE he
section
variable{M:Mp}{env:List (Nat×EV)}{a:Act}{X:Array Operand}
theorem qj(hE:Io M env a X){x}(hx:x∈X){e}(h:JH env x=some e):ER M e (a.eval x):=hE x hx e h
theorem iF(hE:Io M env a X){x}(hx:x∈X){v}(h:rJ env x=some v):VR M.h v (a.eval x):=by
 unfold rJ at h;split at h
 .rename_i v' he;simp at h;subst h;exact(qj hE hx he).uZ
 simp at h
theorem Ip(hE:Io M env a X):∀{xs} {vs},(∀x∈xs,x∈X)->UU env xs=some vs->bZ M.h vs (xs.map a.eval)
 | [],vs,_,h=>by simp[UU]at h;subst h;exact .nil
 |x::xs,vs,hx,h=>by
  simp only[UU]at h;split at h
  .rename_i v vs' h1 h2;simp at h;subst h;exact .cons (iF hE (hx x (by simp)) h1) (Ip hE (fun y hy=>hx y (by simp[hy])) h2)
  simp at h
theorem Vg(hE:Io M env a X):∀{xs:List (Nat×Operand)} {vs:List (Nat×TV)},(∀p∈xs,p.2∈X)->Xi env xs=some vs ->PR M.h vs (xs.map fun(i,x)=>(i,a.eval x))
 | [],vs,_,h=>by simp[Xi]at h;subst h;exact .nil
 |(i,x)::xs,vs,hx,h=>by
  simp only[Xi]at h;split at h
  .rename_i v vs' h1 h2;simp at h;subst h;exact .cons (iF hE (hx (i,x) (by simp)) h1) (Vg hE (fun y hy=>hx y (by simp[hy])) h2)
  .simp at h
theorem Iq(hE:Io M env a X){o}(hx:∀x,o=some x->x∈X){v}(h:Xk env o=some v):OR M.h v (o.map a.eval):=by
 unfold Xk at h;split at h
 .simp at h;subst h;exact .none
 rename_i x;split at h
 .rename_i v' hv;simp at h;subst h;exact .some (iF hE (hx x rfl) hv)
 simp at h
end
section
variable{P:LI1}{M:Mp}{D:Key->Prop}{w:LI4}{s:St}
def Ir:Op->Bool
 |.call { callee:=.value _,.. }=>true
 |_=>false
theorem Ig.nC{C c v S}(hV:Valid M D C w)(hc:c=(do pure (.value (<-S))))(h:∃z,VR M.h v z/\S.run P w=.ok z w):Ig P M D C w c (.val v) C []:=by obtain⟨z,h1,h2⟩:=h;exact .same hV (by rw[hc];simp[h2]) (.val h1)
theorem Ig.OZ{C c v S}(hV:Valid M D C w)(hc:c=(do pure (.value (<-S))))(h:∃z,ER M v z/\S.run P w=.ok z w):Ig P M D C w c v C []:=by obtain⟨z,h1,h2⟩:=h;exact .same hV (by rw[hc];simp[h2]) h1
theorem Ig.ajr{C c v S C1 ws}(hc:c=(do pure (.value (<-S))))(h:BOk P M D C w S v C1 ws):Ig P M D C w c (.val v) C1 ws:=by obtain⟨x,w',M',h1,h2⟩:=h;exact⟨x,w',M',.inl (by rw[hc];simp[h1]),h2⟩
theorem Ig.afA{C c S C1 ws}(hc:c=(do S;pure .skip))(h:∃w' M',S.run P w=.ok () w'/\Valid M' (fun j=>D j\/(C j=none/\(C1 j).isSome=true)) C1 w'/\Ext M C w M' C1 w' ws/\(∀k l,M (.l k)=some l->M' (.l k)=some l)):Ig P M D C w c .undef C1 ws:=by obtain⟨w',M',h1,h2,h3,h4⟩:=h;exact⟨Go.undef,w',M',.inr ⟨rfl,by rw[hc];simp[h1]⟩,⟨h2,h3,.undef,h4⟩⟩
theorem Ig.apw{C c S C1 ws}(hc:c=(do S;pure .skip))(h:∃w',S.run P w=.ok () w'/\Valid M (fun j=>D j\/(C j=none/\(C1 j).isSome=true)) C1 w'/\Ext M C w M C1 w' ws):Ig P M D C w c .undef C1 ws:=by obtain⟨w',h1,h2,h3⟩:=h;exact⟨Go.undef,w',M,.inr ⟨rfl,by rw[hc];simp[h1]⟩,⟨h2,h3,.undef,fun _ _ h=>h⟩⟩
theorem ZX{b at_ t cs az xs v s1 i}(hV:Valid M D s.get w)(zL:M (.h s.heap.length)=none)(h:rQ P b at_ t s az=some (v,s1,i)) (hx:bZ M.h az xs) (hD:∀k∈i.ts,D k):s1.env=s.env/\Ig P M D s.get w (builtin b at_ t cs xs.toArray) (.val v) s1.get i.ws:=by
 unfold rQ at h;split at h
 .simp only[a0A,a1k]at h;obtain⟨⟨v',i'⟩,h1,rfl,rfl,rfl⟩:=h;obtain⟨x,xs',rfl,hx1,hx2⟩:=hx.iq;have:=hx2.oO;subst this;obtain⟨e1,e2⟩:=ZR (t:=t) hV h1 hx1 hD;refine⟨rfl,?_⟩;simp only;rw[e1];exact .nC hV rfl e2
 .obtain⟨x,xs',rfl,hx1,hx2⟩:=hx.iq;obtain⟨y,ys',rfl,hy1,hy2⟩:=hx2.iq;have:=hy2.oO;subst this;obtain⟨e1,e2⟩:=JY (ty:=t) hV zL h hx1 hy1 hD;exact⟨e1,.ajr rfl e2⟩
 .obtain⟨x,xs',rfl,hx1,hx2⟩:=hx.iq;obtain⟨y,ys',rfl,hy1,hy2⟩:=hx2.iq;have:=hy2.oO;subst this;obtain⟨e1,e2⟩:=Ve (ty:=t) hV h hx1 hy1 hD;exact⟨e1,.ajr rfl e2⟩
 .simp only[a0A,a1k]at h;obtain⟨v',h1,rfl,rfl,rfl⟩:=h;exact⟨rfl,.nC hV rfl (zM h1 hx)⟩
 .simp only[a0A,a1k]at h;obtain⟨v',h1,rfl,rfl,rfl⟩:=h;exact⟨rfl,.nC hV rfl (zM h1 hx)⟩
 .simp at h
theorem ajs{call site o a v s1 i}(hV:Valid M D s.get w)(hE:Io M s.env a o.op.operands)(zL:M (.h s.heap.length)=none)(hnl:M (.l s.loc.length)=none)(h:pU P call site s o=some (v,s1,i)) (hc:Ir o.op=false) (hD:∀k∈i.ts,D k):s1.env=s.env/\Ig P M D s.get w (execOp a.eval o) v s1.get i.ws:=by
 unfold pU at h;unfold execOp;split at h
 .
  rename_i x ho;rw[ho];simp only[a0A,a1k]at h;obtain⟨e,he,rfl,rfl,rfl⟩:=h;exact⟨rfl,.same hV rfl (qj hE (by simp[ho,Op.operands]) he)⟩
 .rename_i x ho;rw[ho];simp only[a0A,a1k]at h;obtain⟨e,he,rfl,rfl,rfl⟩:=h;exact⟨rfl,.same hV rfl (qj hE (by simp[ho,Op.operands]) he)⟩
 .
  rename_i c x y ho;rw[ho];split at h
  .rename_i t ht;simp only[a0A,a1k]at h;obtain⟨e,he,rfl,rfl,rfl⟩:=h;have hb:=iF hE (by simp[ho,Op.operands]) ht;have qZ:a.eval c=.bool t:=by cases qZ:a.eval c<;>rw[qZ]at hb<;>cases hb;rfl
   have:=qj hE (by cases t<;>simp[ho,Op.operands]) he;refine⟨rfl,.same hV (x:=a.eval (if t then x else y)) ?_ this⟩;simp only[Sem.run_bind,qZ,asBool,Sem.run_pure,Result.andThen_ok];cases t<;>rfl
  .simp at h
 .
  rename_i e ho;rw[ho];simp only[a0A]at h;obtain⟨z,hz,h⟩:=h;obtain⟨i',x,v',_,_,_,_,hz1,hvr,hzr⟩:=xE hz;simp only[a1k]at h;obtain⟨rfl,rfl,rfl⟩:=h;obtain⟨M',hp⟩:=a6k hV zL hnl (site (o.dst.getD 0)) e (hvr M.h) hz1 rfl;refine⟨by unfold rM;split<;>rfl,_,_,M',.inl ?_,hp⟩;simp[Instr.alloc,hzr w,newVar,newRow]
 .
  rename_i t x ho;rw[ho];split at h
  .rename_i v0 hv0;split at h
   .rename_i vZ;simp only[a09,a1k]at h;obtain⟨rfl,rfl,rfl⟩:=h;obtain⟨M',hp⟩:=a6k hV zL hnl (site (o.dst.getD 0)) t (iF hE (by simp[ho,Op.operands]) hv0).cells (NM vZ) rfl;refine⟨by unfold rM;split<;>rfl,_,_,M',.inl ?_,hp⟩;simp[Instr.box,newVar,newRow]
   .simp at h
  .simp at h
 .
  rename_i t ps ho;rw[ho];split at h
  .rename_i qs hq;simp only[a0A,a1k]at h;obtain⟨v0,hb,rfl,rfl,rfl⟩:=h;obtain⟨x,h1,h2⟩:=a6m hb (Vg hE (fun p hp=>by simp[ho,Op.operands];exact⟨p.1,by simpa using hp⟩) hq);refine⟨rfl,.nC hV rfl ⟨x,h1,?_⟩⟩;have:=h2 w
   rwa [show(List.map (fun x=>(x.1,a.eval x.2)) ps.toList).toArray=ps.map (fun x=>(x.1,a.eval x.2))from by apply afh;simp]at this
  .simp at h
 .
  rename_i t len ps ho;rw[ho];split at h
  .rename_i qs hq;simp only[a0A,a1k]at h;obtain⟨⟨v0,s0⟩,hb,rfl,rfl,rfl⟩:=h;obtain⟨e1,x,w',M',h1,h2⟩:=qx hV zL hb (Vg hE (fun p hp=>by simp[ho,Op.operands];exact⟨p.1,by simpa using hp⟩) hq);refine⟨e1,x,w',M',.inl ?_,h2⟩;rw[show(List.map (fun x=>(x.1,a.eval x.2)) ps.toList).toArray=ps.map (fun x=>(x.1,a.eval x.2))from by apply afh;simp]at h1;simp[h1]
  .simp at h
 .
  rename_i t x ho;rw[ho];split at h
  .rename_i e he;simp only[a0A,a1k]at h;obtain⟨⟨v0,i0⟩,hl,rfl,rfl,rfl⟩:=h;obtain⟨e1,e2⟩:=Ih hV hl (qj hE (by simp[ho,Op.operands]) he) hD;refine⟨rfl,?_⟩;simp only;rw[e1];exact .nC hV rfl e2
  .simp at h
 .
  rename_i t x y ho;rw[ho];split at h
  .rename_i e v0 he hv0;simp only[a0A,a1k]at h;obtain⟨⟨s0,i0⟩,hl,rfl,rfl,rfl⟩:=h;obtain⟨e1,w',e2,e3,e4,e5⟩:=ZN hV hl (qj hE (by simp[ho,Op.operands]) he) (iF hE (by simp[ho,Op.operands]) hv0) hD;exact⟨e1,.apw rfl ⟨w',e2,e3.widen e5,e4⟩⟩
  .simp at h
 .
  rename_i x ho;rw[ho];split at h
  .rename_i k off he;simp only[a09,a1k]at h;obtain⟨rfl,rfl,rfl⟩:=h;have hx:=qj hE (by simp[ho,Op.operands]) he;refine⟨rfl,.same hV (x:=a.eval x) ?_ hx⟩;cases hxe:a.eval x<;>rw[hxe]at hx<;>cases hx
   simp[hxe]
  .rename_i b off lim he;simp only[a09,a1k]at h;obtain⟨rfl,rfl,rfl⟩:=h;have hx:=qj hE (by simp[ho,Op.operands]) he;refine⟨rfl,.same hV (x:=a.eval x) ?_ hx⟩;have GN:=hx.uZ;cases hxe:a.eval x<;>rw[hxe]at GN<;>cases GN
   simp[hxe]
  .rename_i f b c he;simp only[a09,a1k]at h;obtain⟨rfl,rfl,rfl⟩:=h;have hx:=qj hE (by simp[ho,Op.operands]) he;refine⟨rfl,.same hV (x:=a.eval x) ?_ hx⟩;have GN:=hx.uZ;cases hxe:a.eval x<;>rw[hxe]at GN<;>cases GN
   simp[hxe]
  .rename_i l he;simp only[a09,a1k]at h;obtain⟨rfl,rfl,rfl⟩:=h;have hx:=qj hE (by simp[ho,Op.operands]) he;refine⟨rfl,.same hV (x:=a.eval x) ?_ hx⟩;have GN:=hx.uZ;cases hxe:a.eval x<;>rw[hxe]at GN<;>cases GN
   simp[hxe]
  .simp at h
 .
  rename_i op t x y t' ho;rw[ho];split at h
  .rename_i u v0 hu hv;simp only[a0A,a1k]at h;obtain⟨r,hb,rfl,rfl,rfl⟩:=h;exact⟨rfl,.nC hV rfl (ZO hb (iF hE (by simp[ho,Op.operands]) hu) (iF hE (by simp[ho,Op.operands]) hv))⟩
  .simp at h
 .
  rename_i op t x ho;rw[ho];split at h
  .rename_i u hu;simp only[a0A,a1k]at h;obtain⟨r,hb,rfl,rfl,rfl⟩:=h;exact⟨rfl,.nC hV rfl (jk hb (iF hE (by simp[ho,Op.operands]) hu))⟩
  .simp at h
 .
  rename_i t t' x ho;rw[ho];split at h
  .rename_i u hu;simp only[a0A,a1k]at h;obtain⟨r,hb,rfl,rfl,rfl⟩:=h;exact⟨rfl,.nC hV rfl (V9 hb (iF hE (by simp[ho,Op.operands]) hu))⟩
  .simp at h
 .
  rename_i f az bs ho;rw[ho];split at h
  .rename_i us vs hu hv;simp only[a09,a1k]at h;obtain⟨rfl,rfl,rfl⟩:=h;have h1:=Ip hE (fun x hx=>by simp[ho,Op.operands];exact .inl (by simpa using hx)) hu;have h2:=Ip hE (fun x hx=>by simp[ho,Op.operands];exact .inr (by simpa using hx)) hv;refine⟨rfl,.nC hV rfl ⟨.func (.func f) (az.map a.eval) (bs.map a.eval),?_,rfl⟩⟩;have:=VR.fn (f:=f) h1.len h1.at_ h2.len h2.at_
   rwa [show(List.map a.eval az.toList).toArray=az.map a.eval from by apply afh;simp,show(List.map a.eval bs.toList).toArray=bs.map a.eval from by apply afh;simp]at this
  .simp at h
 .
  rename_i t r ho;rw[ho];have zy:s.get (.h s.heap.length)=none:=by simp[St.get]
  have hle:tZ M (dN M (.h s.heap.length) (.obj w.heap.size [])):=lS fun l0 h0=>by rw[zL]at h0;cases h0
  have fO:∀c,c<w.heap.size->c∉aI (.obj w.heap.size [])->(w.alloc (.map #[] 0)).heap[c]? = w.heap[c]?:=fun c hc _=>vI w _ c hc;have fZ:∀c∈aI (.obj w.heap.size []),(∃l0,M (.h s.heap.length)=some l0/\c∈aI l0)\/w.heap.size<=c:=fun c hc=>.inr (by simp[aI]at hc;omega);have key:OG M D s.get w (.val (.map s.heap.length)) (St.get { s with heap:=s.heap++[.map []] }) [] (.map (some w.heap.size)) (w.alloc (.map #[] 0)) (dN M (.h s.heap.length) (.obj w.heap.size [])):=by
   refine⟨?_,?_,.val (.map (o:=[]) (by simp[Mp.h,dN])),rV zL⟩
   .rw[kT];refine hV.upd _ _ _ (fun j hj=>?_) (fun l0 h0=>by rw[zL]at h0;cases h0) fO fZ (by simp) ⟨#[],heap_alloc_new w _,rfl,rfl,.nil,by simp,by simp⟩;rcases hj with hj|⟨x1,x2⟩
    .exact .inl hj
    .right;unfold mQ at x2;split at x2
     .assumption
     .simp[x1]at x2
   .rw[kT];exact Ext.upd _ _ _ [] (.inr ⟨zy,zL,rfl⟩) hle fO fZ (by simp) rfl rfl rfl
  split at h
  .rename_i _ hr;simp only[a09,a1k]at h;obtain⟨rfl,rfl,rfl⟩:=h;have:=Iq hE (fun x hx=>by simp[ho,Op.operands,hx]) hr;refine⟨rfl,_,_,_,.inl ?_,key⟩;cases hrr:r.map a.eval with
   |none=>simp[hrr,Instr.makeMap]
   |some y=>rw[hrr]at this;cases this
  .rename_i k n _ _ hr hu;simp only[a09,a1k]at h;obtain⟨rfl,rfl,rfl⟩:=h;have:=Iq hE (fun x hx=>by simp[ho,Op.operands,hx]) hr;refine⟨rfl,_,_,_,.inl ?_,key⟩;cases hrr:r.map a.eval with
   |none=>rw[hrr]at this;cases this
   |some y=>
    rw[hrr]at this;cases this with
    |some hy=>
     cases hy;simp[hrr,Instr.makeMap,run_underlying hu,asInt,asIntOf]
  .simp at h
 .
  rename_i t l c ho;rw[ho];split at h
  .rename_i u v0 hu hv;simp only[a0A,a1k]at h;obtain⟨⟨r,s0⟩,hb,rfl,rfl,rfl⟩:=h;obtain⟨e1,z,w',M',e2,e3⟩:=AX hV zL hb (iF hE (by simp[ho,Op.operands]) hu) (iF hE (by simp[ho,Op.operands]) hv);exact⟨e1,z,w',M',.inl (by simp[e2]),e3⟩
  .simp at h
 .
  rename_i t x lo hi mx ho;rw[ho];split at h
  .rename_i e ZP wS mx' he Iu hhi hmx;have h1:=Iq hE (fun x hx=>by simp[ho,Op.operands,hx]) Iu;have h2:=Iq hE (fun x hx=>by simp[ho,Op.operands,hx]) hhi;have h3:=Iq hE (fun x hx=>by simp[ho,Op.operands,hx]) hmx;split at h
   .simp only[a0A,a1k]at h;obtain⟨r,hb,rfl,rfl,rfl⟩:=h;exact⟨rfl,.nC hV rfl (DC hb (qj hE (by simp[ho,Op.operands]) he) h1 h2 h3)⟩
   .simp only[a0A,a1k]at h;obtain⟨r,hb,rfl,rfl,rfl⟩:=h;exact⟨rfl,.nC hV rfl (OQ hb (qj hE (by simp[ho,Op.operands]) he).uZ h1 h2 h3)⟩
   .simp at h
  .simp at h
 .
  rename_i t x f ho;rw[ho];split at h
  .rename_i e n he hn;simp only[a0A,a1k]at h;obtain⟨r,hb,rfl,rfl,rfl⟩:=h;exact⟨rfl,.OZ hV rfl (V8 hn hb (qj hE (by simp[ho,Op.operands]) he))⟩
  .simp at h
 .
  rename_i t x f ho;rw[ho];split at h
  .rename_i u hu;simp only[a0A,a1k]at h;obtain⟨r,hb,rfl,rfl,rfl⟩:=h;exact⟨rfl,.nC hV rfl (OM hb (iF hE (by simp[ho,Op.operands]) hu))⟩
  .simp at h
 .
  rename_i t x y ho;rw[ho];split at h
  .rename_i e u he hu;simp only[a0A,a1k]at h;obtain⟨r,hb,rfl,rfl,rfl⟩:=h;exact⟨rfl,.OZ hV rfl (AU hb (qj hE (by simp[ho,Op.operands]) he) (iF hE (by simp[ho,Op.operands]) hu))⟩
  .simp at h
 .
  rename_i t x y ho;rw[ho];split at h
  .rename_i u v0 hu hv;simp only[a0A,a1k]at h;obtain⟨r,hb,rfl,rfl,rfl⟩:=h;exact⟨rfl,.nC hV rfl (OO hb (iF hE (by simp[ho,Op.operands]) hu) (iF hE (by simp[ho,Op.operands]) hv))⟩
  .simp at h
 .
  rename_i t m k ok ho;rw[ho];split at h
  .rename_i u v0 hu hv;simp only[a0A,a1k]at h;obtain⟨r,hb,rfl,rfl,rfl⟩:=h;exact⟨rfl,.nC hV rfl (ET hV hb (iF hE (by simp[ho,Op.operands]) hu) (iF hE (by simp[ho,Op.operands]) hv) hD)⟩
  .simp at h
 .
  rename_i t m k x ho;rw[ho];split at h
  .rename_i u v0 y hu hv hy;simp only[a0A,a1k]at h;obtain⟨⟨s0,i0⟩,hb,rfl,rfl,rfl⟩:=h;obtain⟨e1,e2⟩:=TA hV hb (iF hE (by simp[ho,Op.operands]) hu) (iF hE (by simp[ho,Op.operands]) hv) (iF hE (by simp[ho,Op.operands]) hy) hD;exact⟨e1,.afA rfl e2⟩
  .simp at h
 .
  rename_i t m k x ho;rw[ho];split at h
  .rename_i u v0 y hu hv hy;simp only[a0A,a1k]at h;obtain⟨⟨s0,i0⟩,hb,rfl,rfl,rfl⟩:=h;obtain⟨e1,e2⟩:=TA hV hb (iF hE (by simp[ho,Op.operands]) hu) (iF hE (by simp[ho,Op.operands]) hv) (iF hE (by simp[ho,Op.operands]) hy) hD;exact⟨e1,.afA rfl e2⟩
  .simp at h
 .
  rename_i t m k ho;rw[ho];split at h
  .rename_i u v0 hu hv;obtain⟨e1,z,w',M',h1,h2,h3,h4,h5⟩:=a6w hV h (iF hE (by simp[ho,Op.operands]) hu) (iF hE (by simp[ho,Op.operands]) hv) hD;exact⟨e1,z,w',M',.inl (by show(do pure (.value (<-Instr.mapEntry t _ _)):Sem Next).run P w=_;simp[h1]),h3,h4,h2,h5⟩
  .simp at h
 .
  rename_i t m k x ho;rw[ho];split at h
  .rename_i u v0 y hu hv hy;simp only[a0A,a1k]at h;obtain⟨⟨s0,i0⟩,hb,rfl,rfl,rfl⟩:=h;obtain⟨e1,e2⟩:=a3P (t:=t) hV hb (iF hE (by simp[ho,Op.operands]) hu) (qj hE (by simp[ho,Op.operands]) hv) (iF hE (by simp[ho,Op.operands]) hy) hD;exact⟨e1,.afA rfl e2⟩
  .simp at h
 .
  rename_i x n ho;rw[ho];split at h
  .rename_i e he;simp only[a0A,a1k]at h;obtain⟨r,hb,rfl,rfl,rfl⟩:=h;have hx:=qj hE (by simp[ho,Op.operands]) he;refine⟨rfl,.OZ hV rfl ?_⟩;generalize a.eval x=xv at hx;unfold zI at hb;split at hb
   .simp only[a0A]at hb;obtain⟨y0,hb,rfl⟩:=hb;cases hx with
    |val hx=>
     cases hx with
     |dM g1 g2=>
      obtain⟨y,y1,y2⟩:=(bZ.mk g1 g2).get hb;exact⟨y,.val y2,by simp[Instr.extract,y1]⟩
   .cases hx with
    |ent q1 q2 q3=>
     split at hb<;>cases hb
     .exact⟨_,.val q3,by simp[Instr.extract]⟩
     .exact⟨_,.FK q1 q2,by simp[Instr.extract]⟩
   .cases hb
  .simp at h
 .
  rename_i c ho;rw[ho]at hc ⊢;unfold Oz at h;split at h
  .rename_i b az hb has;simp only[a0A,a1k]at h;obtain⟨⟨v0,s0,i0⟩,qZ,rfl,rfl,rfl⟩:=h;obtain⟨e1,e2⟩:=ZX (cs:=c.args.map fun|.const _=>true|_=>false) hV zL qZ (Ip hE (fun x hx=>by simp[ho,Op.operands,Call.operands,hb];simpa using hx) has) hD;refine⟨e1,?_⟩;obtain⟨x,w',M',r1,r2⟩:=e2;refine⟨x,w',M',?_,r2⟩;rw[show(List.map a.eval c.args.toList).toArray=c.args.map a.eval from by apply afh;simp]at r1;unfold ajf at r1 ⊢;simp only[resolve,hb,Sem.run_bind,Sem.run_pure,Result.andThen_ok,invoke];exact r1
  .rename_i f az hf has;obtain⟨callee,args,ats⟩:=c;simp only at hf;subst hf;simp[Ir]at hc
  .simp at h
 .
  rename_i t x ho;rw[ho];split at h
  .rename_i r k el hv hu;split at h
   .rename_i es NP;simp only[a09,a1k]at h;obtain⟨rfl,rfl,rfl⟩:=h;have hx:=iF hE (by simp[ho,Op.operands]) hv;refine⟨rfl,?_⟩;generalize hxv:a.eval x=xv at hx;cases hx with
    |map hm=>
    rename_i r1 o1;obtain⟨gQ,b1,b2⟩:=hV.ok _ _ hm (hD (.h r) (by simp[yA]));simp only[St.get,NP,a09]at b1;subst b1;obtain⟨xs,g1,g2⟩:=b2;have zy:s.get (.h s.heap.length)=none:=(by simp[St.get]);have hrl:r<s.heap.length:=(a0x.1 NP).1;have hle:tZ M (dN M (.h s.heap.length) (.obj w.heap.size [])):=lS fun l0 h0=>by rw[zL]at h0;cases h0
    have fO:∀c,c<w.heap.size->c∉aI (.obj w.heap.size [])->(w.alloc (.mapIter (some r1) xs.size #[] xs.size)).heap[c]? = w.heap[c]?:=fun c hc _=>vI w _ c hc;have fZ:∀c∈aI (.obj w.heap.size []),(∃l0,M (.h s.heap.length)=some l0/\c∈aI l0)\/w.heap.size<=c:=fun c hc=>.inr (by simp[aI]at hc;omega);refine⟨.pointer (some ⟨w.heap.size,0,none⟩),w.alloc (.mapIter (some r1) xs.size #[] xs.size),dN M (.h s.heap.length) (.obj w.heap.size []),.inl ?_,?_,?_,.val (.iter (o:=[]) (by simp[Mp.h,dN])),rV zL⟩
    .simp[hxv,Instr.range,run_underlying hu,getObj,Sem.run,g1,newObj]
    .rw[kT];refine hV.upd _ _ _ (fun j hj=>?_) (fun l0 h0=>by rw[zL]at h0;cases h0) fO fZ (by simp) ⟨r1,o1,#[],?_,?_,?_,rfl⟩
     .rcases hj with hj|⟨x1,x2⟩
      .exact .inl hj
      .right;unfold mQ at x2;split at x2
       .assumption
       .simp[x1]at x2
     .have:(Key.h r)≠.h s.heap.length:=fun e=>by cases e;omega
      simp only[Mp.h,dN,a18 this];exact hm
     .rw[g2.len];exact heap_alloc_new w _
     .rw[g2.len,g2.ord];exact a1l _
    .rw[kT];exact Ext.upd _ _ _ [] (.inr ⟨zy,zL,rfl⟩) hle fO fZ (by simp) rfl rfl rfl
   .simp at h
  .simp at h
 .
  rename_i x ho;rw[ho];split at h
  .rename_i b hv;split at h
   .rename_i r n i seen hb;split at h
    .rename_i es NP;split at h
     case isFalse=>simp at h
     rename_i hn;simp only[a0A,a1k]at h;obtain⟨e,he,rfl,rfl,rfl⟩:=h;have hx:=iF hE (by simp[ho,Op.operands]) hv;refine⟨rfl,.nC hV rfl ?_⟩;generalize a.eval x=xv at hx;cases hx with
     |iter hm=>
     rename_i b1 o1;obtain⟨gQ,c1,c2⟩:=hV.ok _ _ hm (hD (.h b) (by simp[fU]));simp only[St.get,hb,a09]at c1;subst c1;obtain⟨r1,o,sa,d1,d2,d3,d4⟩:=c2;obtain⟨gQ,c1,c2⟩:=hV.ok (.h r) _ d1 (hD (.h r) (by simp[fU]));simp only[St.get,NP,a09]at c1;subst c1;obtain⟨xs,g1,g2⟩:=c2;have iI:sa.toList≠[]:=fun e=>by rw[e]at d4;simp at d4
     obtain⟨k,hk⟩:∃k,sa.back? = some k/\o[k]? = some i:=by
      have h1:(sa.toList.map fun i=>o[i]?).getLast? = some (some i):=by rw[d4];simp
      rw[List.getLast?_map]at h1;simp only[a0A]at h1;obtain⟨k,h2,h3⟩:=h1;exact⟨k,by rw[<-Array.getLast?_toList];exact h2,h3⟩
     have kU:k<xs.size:=by rw[<-g2.ord];exact(a0x.1 hk.2).1
     obtain⟨q1,j,e',q2,q3,q4,q5⟩:=g2.at_ k _ (a4o kU);rw[hk.2]at q2;cases q2;rw[he]at q3;cases q3;refine⟨.tuple #[xs[k].key,xs[k].val],.RQ (.cons q4 (.cons q5 .nil)),?_⟩;have hf:xs.find? (·.born==k)=some xs[k]:=by rw[<-Array.find?_toList];have:xs[k].born==k:=(by simpa using q1);rw[List.find?_eq_some_iff_getElem];refine⟨this,k,by simpa using kU,by simp,fun j hj=>?_⟩;have tY:j<xs.size:=(by omega);have:=(g2.at_ j _ (a4o tY)).1;simp only[Array.getElem_toList];rw[this];simp;omega
     have hc:xs.size=n:=by rw[<-g2.len];exact hn
     simp only[Instr.entry,getObj,Sem.run_bind,Sem.run,d2,g1,Result.andThen_ok,hk.1,hc,bne_self_eq_false,a2K,a3U,hf];rfl
    .simp at h
   .simp at h
  .simp at h
 .simp at h
end
abbrev lD(h:List HB):Ct:=St.get ⟨[],[],h,[]⟩
def Mp.only(M:Mp):Mp
 |.h b=>M (.h b)
 |.l _=>none
abbrev og(r:Option Nat):Fence:={ Fence.wide with round:=r }
def Ko(R:LI3->LI4->Prop):Ending->LI4->Prop
 |.returned v,w=>R v w
 |_,_=>False
def jE(M:Mp)(h:List HB)(w:LI4)(v:TV)(h':List HB)(ws:List Nat)(y:LI3)(w':LI4):Prop:=
 ∃M',Valid M' rU (lD h') w'/\(∀k,M' (.l k)=none)/\Ext M (lD h) w M' (lD h') w' (ws.map .h)/\VR M'.h v y
def EU(P:LI1)(d:Deferred)(w:LI4)(R:LI3->LI4->Prop):Prop:=
 ∃f az,(invoke d.target d.args).run P w=.ok (.enter f az) w/\∀n,CallsIn Fence.wide n P f az w (Ko R)
def Iw(P:LI1)(d:Deferred)(w:LI4)(R:LI3->LI4->Prop):Prop:=
 ∃l f tmps vY body,(invoke d.target d.args).run P w=.ok (.round l f tmps vY body) w/\∀n,RoundIn Fence.wide n P l f tmps vY body w (Ko R)
def iM(P:LI1)(call:dO):Prop:=
 ∀fv args h v h' ws,call fv args h=some (v,h',ws)->∀(M:Mp) (w:LI4) (x:LI3) (xs:List LI3),Valid M rU (lD h) w->(∀k,M (.l k)=none)->VR M.h fv x->bZ M.h args xs ->
  ∃d,(∀w,(Deferred.ofValue x xs.toArray).run P w=.ok d w)/\((EU P d w (jE M h w v h' ws)/\∃f a b,fv=.fn f a b)\/(Iw P d w (jE M h w v h' ws)/\∃l,fv=.lC l))
theorem CallsIn.ex{n P f az w R}(h:CallsIn Fence.wide n P f az w (Ko R)):∃y w',R y w':=by
 obtain⟨e,w',fr,hR,_⟩:=h.2 [] (room_wide _);cases e with
 |returned v=>exact⟨v,w',hR⟩
 |panicked c=>exact hR.elim
 |outgrown=>exact hR.elim
theorem RoundIn.ex{n P l f tmps vY body w R}(h:RoundIn Fence.wide n P l f tmps vY body w (Ko R)):∃y w',R y w':=by
 obtain⟨e,w',hR,_⟩:=h.2 default [] (room_wide _);cases e with
 |returned v=>exact⟨v,w',hR⟩
 |panicked c=>exact hR.elim
 |outgrown=>exact hR.elim
section
variable{P:LI1}{call:dO}
theorem iM.ex(hC:iM P call){fv args h v h' ws}(hc:call fv args h=some (v,h',ws)){M w x xs}(hV:Valid M rU (lD h) w) (hl:∀k,M (.l k)=none) (hx:VR M.h fv x) (GV:bZ M.h args xs):∃y w',jE M h w v h' ws y w':=by
 obtain⟨d,_,h1|h1⟩:=hC _ _ _ _ _ _ hc M w x xs hV hl hx GV
 .obtain⟨⟨f,az,_,h2⟩,_⟩:=h1;exact CallsIn.ex (h2 0)
 .obtain⟨⟨l,f,tmps,vY,body,_,h2⟩,_⟩:=h1;exact RoundIn.ex (h2 0)
def adk(M' M:Mp):Mp
 |.h b=>M' (.h b)
 |.l j=>M (.l j)
theorem GX{M D}{s:St}{w}(hV:Valid M D s.get w)(hh:∀b l,M (.h b)=some l->D (.h b)):Valid M.only rU (lD s.heap) w:=by
 refine⟨?_,?_,?_⟩
 .intro k l hk _;cases k with
  |l j=>cases hk
  |h b=>exact hV.ok (.h b) l hk (hh b l hk)
 .intro k k' l l' b iI hk oQ _ hc hw;cases k with
  |l j=>cases hk
  |h b=>
   cases k' with
   |l j=>cases oQ
   |h b'=>exact hV.own _ _ _ _ _ iI hk oQ (hh b l hk) hc hw
 intro k l hk;cases k with
 |l j=>cases hk
 |h b=>exact hV.inb _ _ hk
theorem TB{M D}{s:St}{w}(hV:Valid M D s.get w)(vM:∀j l,M (.l j)=some l->∀k' l',Key.l j≠k'->M k'=some l'->∀c∈aI l,c∉aI l'){v h' ws y w'} (hr:jE M.only s.heap w v h' ws y w') :∃M',OG M D s.get w (.val v) (St.get { s with heap:=h' }) (ws.map .h) y w' M':=by
 obtain⟨M',ZV,hl',hX,hy⟩:=hr;have nP:∀(b j:Nat) (l l':Lc),M' (.h b)=some l->M (.l j)=some l'->∀c∈aI l,c∉aI l':=by intro b j l l' hb hj c hc Xc;have aQ:=hV.inb _ _ hj c Xc;obtain⟨l0,h1,h2⟩:=hX.fresh _ _ hb c hc aQ;exact vM j l' hj (.h b) l0 (by simp) h1 c Xc h2
 refine⟨adk M' M,⟨⟨?_,?_,?_⟩,?_,.val hy,fun _ _ h=>h⟩⟩
 .intro k l hk hd;cases k with
  |h b=>exact ZV.ok (.h b) l hk trivial
  |l j=>
   rcases hd with hd|⟨h1,h2⟩
   .obtain⟨b0,h1,h2⟩:=hV.ok (.l j) l hk hd;refine⟨b0,h1,h2.mono (N:=M.h) (N':=(adk M' M).h) (hX.JI.h) fun c hc=>?_⟩;refine hX.frame c (hV.inb _ _ hk c hc) fun k' oQ l' hl' apz=>?_;obtain⟨b',_,rfl⟩:=a1w.1 oQ;exact vM j l hk (.h b') l' (by simp) hl' c hc apz
   .simp only[St.get]at h1 h2;rw[h1]at h2;cases h2
 .intro k k' l l' b0 iI hk oQ hd hc hw;cases k with
  |h b=>
   cases k' with
   |h b'=>exact ZV.own (.h b) (.h b') l l' b0 iI hk oQ trivial hc hw
   |l j=>exact nP b j l l' hk oQ
  |l j=>
   cases k' with
   |h b'=>exact fun c hc Xc=>nP b' j l' l oQ hk c Xc hc
   |l j'=>exact vM j l hk (.l j') l' iI oQ
 .intro k l hk c hc;cases k with
  |h b=>exact ZV.inb (.h b) l hk c hc
  |l j=>exact aar (hV.inb (.l j) l hk c hc) hX.size
 .exact
  {JI:=by
    intro k l hk;cases k with
    |h b=>exact hX.JI (.h b) l hk
    |l j=>exact⟨l,hk,.refl l⟩
   frame:=fun c hc hf=>hX.frame c hc fun k hk l hl=>by obtain⟨b',_,rfl⟩:=a1w.1 hk;exact hf _ hk l hl
   nX:=fun k hk hn=>by
    cases k with
    |h b=>exact hX.nX (.h b) hk hn
    |l j=>rfl
   kR:=fun k hk hn=>by
    cases k with
    |h b=>exact hX.kR (.h b) hk hn
    |l j=>rfl
   fresh:=fun k l hk c hc aQ=>by
    cases k with
    |h b=>exact hX.fresh (.h b) l hk c hc aQ
    |l j=>exact⟨l,hk,hc⟩
   size:=hX.size
   has:=fun k hk=>by
    cases k with
    |h b=>exact hX.has (.h b) hk
    |l j=>exact hk
   wsub:=fun k hk=>by obtain⟨b',_,rfl⟩:=a1w.1 hk;exact hX.wsub _ hk
   wrote:=fun k hk=>by obtain⟨b',_,rfl⟩:=a1w.1 hk;exact hX.wrote _ hk
   os:=hX.os
   output:=hX.output
   tape:=hX.tape }
theorem getEnv(s:St)(env ws):St.get { s with env:=env,ws:=ws }=s.get:=by funext k;cases k<;>rfl
theorem ZY(s:St)(d v):St.get (s.put d v)=s.get:=by funext k;cases d<;>cases k<;>rfl
theorem Valid.sub{M D D' C w}(hV:Valid M D C w)(h:∀k,D' k->D k):Valid M D' C w:=
 ⟨fun k l hk hd=>hV.ok k l hk (h k hd),fun k k' l l' b a1 a2 a3 hd=>hV.own k k' l l' b a1 a2 a3 (h k hd),hV.inb⟩
theorem a3Q{site s o c}(h:o.op=.defer c):pU P call site s o=none:=by simp[pU,h]
def vN(P:LI1)(call:dO)(site:Nat->Bool)(fl nt:Nat)(ops:Array Oper)(o:Oper)(s:St)(i:yH)(s':St):Prop:=
 OA nt o=true/\((Dw ops s.env o=some true/\∃v s1,pU P call site s o=some (v,s1,i)/\s'=St.put { s1 with ws:=kM fl i.ws s.ws } o.dst v) \/
  (Dw ops s.env o=some false/\i=dn/\s'=s.put o.dst .undef))
def oU(i:yH)(k:Key):Prop:=k∈i.ts\/k∈i.ws\/(i.all=true/\k.isH=true)
def NQ(M:Mp)(env:List (Nat×EV))(tmps:Array LI3)(ops:Array Oper)(o:Oper):Prop:=
 ∀j want d,o.guard=some (j,want)->(ops[j]?).bind (·.dst)=some d->∀e,dR d env=some e->ER M e (tmps.getD d Go.undef)
theorem NR{M env tmps ops o b}(hG:NQ M env tmps ops o)(h:Dw ops env o=some b):Region.wanted o (yielded ops tmps)=b:=by
 unfold Dw at h;unfold Region.wanted;split at h
 .rename_i hg;rw[hg];simpa using h
 rename_i j want hg;rw[hg];simp only;split at h
 rotate_left
 .simp at h
 rename_i d hd;split at h
 .rename_i b0 he;have h3:=(hG j want d hg hd _ he).uZ;have hb:tmps.getD d Go.undef=.bool b0:=by generalize tmps.getD d Go.undef=z at h3;cases h3;rfl
  have:tmps[d]? = some (.bool b0):=by
   by_cases h1:d<tmps.size
   .simp only[Array.getD,h1,dite_true]at hb;rw[a4o h1];exact congrArg some hb
   simp[Array.getD,h1,Go.undef]at hb
  simp only[yielded,hd,a5J,this];simpa using h
 .rename_i he;have h2:=hG j want d hg hd _ he;have hb:tmps.getD d Go.undef=Go.undef:=by generalize tmps.getD d Go.undef=z at h2;cases h2;rfl
  have:tmps[d]? = some Go.undef\/tmps[d]? = none:=by
   by_cases h1:d<tmps.size
   .simp only[Array.getD,h1,dite_true]at hb;rw[a4o h1];exact .inl (congrArg some hb)
   right;simpa using h1
  simp at h;subst h;rcases this with this|this<;>simp only[yielded,hd,a5J,this]<;>rfl
 simp at h
def MI(M:Mp)(D:Key->Prop)(s:St)(w:LI4)(o:Oper)(i:yH)(s':St)(x:LI3)(w':LI4):Prop:=
 ∃v M',s'=St.put { s' with env:=s.env } o.dst v/\OG M D s.get w v s'.get i.ws x w' M'
theorem Vh(s:St)(env d v)(h:s.env=env):s.put d v=St.put { s.put d v with env:=env } d v:=by subst h;cases d<;>rfl
theorem a1F(hC:iM P call){site fl nt ops o s s' i M D w a}(hS:vN P call site fl nt ops o s i s') (hV:Valid M D s.get w) (zL:M (.h s.heap.length)=none) (hnl:M (.l s.loc.length)=none)(vM:∀j l,M (.l j)=some l->∀k' l',Key.l j≠k'->M k'=some l'->∀c∈aI l,c∉aI l')(hE:Io M s.env a o.op.operands) (hG:NQ M s.env a.tmps ops o) (hD:∀k,oU i k->(M k).isSome=true->D k) :(∃x w',MI M D s w o i s' x w') /\∀(r) (n) (Q) (idx) (K),ops[idx]? = some o ->(∀x w',MI M D s w o i s' x w'->K (a.put o.dst x) w')->wpOpIn (og r) n P ops Q idx K a w:=by
 obtain⟨_,⟨hw,v,s1,jy,rfl⟩|⟨hw,rfl,rfl⟩⟩:=hS
 .have a1G:=NR hG hw;by_cases hc:Ir o.op=true
  .
   have:∃f args ats,o.op=.call { callee:=.value f,args:=args,argTypes:=ats }:=by
    unfold Ir at hc;split at hc
    .rename_i f args ats ho;exact⟨_,_,_,ho⟩
    .cases hc
   obtain⟨f,args,ats,ho⟩:=this;simp only[pU,ho,Oz]at jy;split at jy
   .rename_i b az hb has;cases hb
   .rename_i f' az hf has;injection hf with hf;subst hf;split at jy
    .rename_i fv hfv;split at jy
     .rename_i v0 h' ws yP;simp only[a09,a1k]at jy;obtain⟨rfl,rfl,rfl⟩:=jy;have hh:∀b l,M (.h b)=some l->D (.h b):=fun b l hb=>hD _ (.inr (.inr ⟨rfl,rfl⟩)) (by simp[hb]);have hVo:=GX hV hh;have hfx:VR M.only.h fv (a.eval f):=iF hE (by simp[ho,Op.operands,Call.operands]) hfv;have hax:bZ M.only.h az (args.toList.map a.eval):=Ip hE (fun x hx=>by simp[ho,Op.operands,Call.operands];exact .inr (by simpa using hx)) has;have conv:∀y w',jE M.only s.heap w v0 h' ws y w'->MI M D s w o ⟨true,[],ws.map .h⟩ (St.put { s with heap:=h',ws:=kM fl (ws.map .h) s.ws } o.dst (.val v0)) y w':=by intro y w' hr;obtain⟨M',hp⟩:=TB hV vM hr;refine⟨.val v0,M',Vh _ _ _ _ rfl,?_⟩;rw[ZY];exact hp
      obtain⟨d,hd,wF⟩:=hC _ _ _ _ _ _ yP M.only w (a.eval f) (args.toList.map a.eval) hVo (fun _=>rfl) hfx hax;refine⟨?_,?_⟩
      .obtain⟨y,w',hr⟩:=iM.ex hC yP hVo (fun _=>rfl) hfx hax;exact⟨y,w',conv y w' hr⟩
      .intro r n Q idx K Vj hK;unfold wpOpIn;simp only[Vj,a1G,a2p];refine⟨fun _ _=>trivial,?_⟩;have a6z:∀nx,(invoke d.target d.args).run P w=.ok nx w->(o.semAt (og r).round a.eval).run P w=.ok nx w:=by intro nx hnx;rw[Oper.semAt_eq _ _ _ (fun c=>by rw[ho];simp)];unfold execOp;rw[ho];have:=hd w;rw[show(List.map a.eval args.toList).toArray=args.map a.eval from by apply afh;simp]at this;simp[resolve,this,hnx]
       rcases wF with⟨⟨f1,as1,hinv,nP⟩,_⟩|⟨⟨l1,f1,tm1,ag1,bd1,hinv,hrd⟩,_⟩
       .rw[a6z _ hinv];refine⟨fun h=>by simp[Fence.wide]at h,CallsIn.mono (F:=og r) (nP (n-1)) fun e w' he=>?_⟩;cases e with
        |returned y=>exact hK y w' (conv y w' he)
        |panicked c=>exact he.elim
        |outgrown=>exact he.elim
       .rw[a6z _ hinv];refine⟨fun h=>by simp[Fence.wide]at h,RoundIn.mono (F:=og r) (hrd (n-1)) fun e w' he=>?_⟩;cases e with
        |returned y=>exact hK y w' (conv y w' he)
        |panicked c=>exact he.elim
        |outgrown=>exact he.elim
     .simp at jy
    .simp at jy
   .simp at jy
  .
   have Xc:Ir o.op=false:=(by simpa using hc);have ZV:Valid M (fun k=>D k\/M k=none) s.get w:=⟨fun k l hk hd=>hV.ok k l hk (hd.resolve_right (by simp[hk])),fun k k' l l' b a1 a2 a3 hd=>hV.own k k' l l' b a1 a2 a3 (hd.resolve_right (by simp[a2])),hV.inb⟩;obtain⟨he,x,w',M',hr,hp⟩:=ajs ZV hE zL hnl jy Xc (fun k hk=>by
    cases hm:M k with
    |none=>exact .inr rfl
    |some l=>exact .inl (hD k (.inl hk) (by simp[hm])))
   have vK:MI M D s w o i (St.put { s1 with ws:=kM fl i.ws s.ws } o.dst v) x w':=by refine⟨v,M',Vh _ _ _ _ he,?_⟩;have hg:St.get { s1 with ws:=kM fl i.ws s.ws }=s1.get:=getEnv s1 s1.env _;rw[ZY,hg];exact⟨hp.val.sub fun k hk=>hk.imp .inl id,hp.ext,hp.er,hp.loc⟩
   refine⟨⟨x,w',vK⟩,fun r n Q idx K Vj hK=>?_⟩;unfold wpOpIn;simp only[Vj,a1G,a2p];refine⟨fun _ _=>trivial,?_⟩;rw[Oper.semAt_eq _ _ _ (fun c ho=>by rw[a3Q ho]at jy;cases jy)];rcases hr with hr|⟨rfl,hr⟩
   .rw[hr];exact hK x w' vK
   .rw[hr];exact hK _ w' vK
 .have a1G:=NR hG hw;have vK:MI M D s w o dn (s.put o.dst .undef) Go.undef w:=by refine⟨.undef,M,Vh _ _ _ _ rfl,?_⟩;rw[ZY];exact .same hV .undef
  refine⟨⟨_,_,vK⟩,fun r n Q idx K Vj hK=>?_⟩;unfold wpOpIn;simp only[Vj,a1G,a2K,a3U];exact⟨fun _ _=>trivial,hK _ _ vK⟩
end
structure xJ(M0:Mp)(h0:List HB)(w0:LI4):Prop where
 val:Valid M0 rU (lD h0) w0
 loc:∀k,M0 (.l k)=none
structure Rel(M0:Mp)(h0:List HB)(w0:LI4)(nt:Nat)(M:Mp)(s:St)(a:Act)(w:LI4):Prop where
 val:Valid M rU s.get w
 ext:Ext M0 (lD h0) w0 M s.get w (s.ws.map .h)
 env:kJ M s.env a.tmps
 size:nt<=a.tmps.size
 marks:∀d∈a.defers,∃k r,d=⟨.collected r,#[]⟩/\lD h0 (.h k)=none/\(∃o,M (.h k)=some (.obj r o))/\s.get (.h k)=some .mark/\w.heap[r]? = some (.deferred (some []))
 apart:a.defers.Pairwise (·≠·)
theorem a6B{fl b c ws}:c∈FM fl b ws↔c∈ws\/(c=b/\b<fl):=by
 unfold FM;split
 .rename_i h;split
  .rename_i hc;have hc:b∈ws:=(by simpa using hc);constructor
   .exact .inl
   rintro (h1|⟨rfl,_⟩)
   .exact h1
   exact hc
  simp only[a1E];constructor
  .rintro (rfl|h1)
   .exact .inr ⟨rfl,h⟩
   exact .inl h1
  rintro (h1|⟨rfl,_⟩)
  .exact .inr h1
  exact .inl rfl
 rename_i h;constructor
 .exact .inl
 rintro (h1|⟨_,h1⟩)
 .exact h1
 exact absurd h1 h
theorem oV{fl c}:∀{ks} {ws},c∈kM fl ks ws↔c∈ws\/(Key.h c∈ks/\c<fl)
 | [],ws=>by simp[kM]
 |.h b::ks,ws=>by
  rw[kM,oV,a6B];simp only[a1E,Key.h.injEq];constructor
  .rintro ((h|⟨rfl,h⟩)|⟨h1,h2⟩)
   .exact .inl h
   .exact .inr ⟨.inl rfl,h⟩
   exact .inr ⟨.inr h1,h2⟩
  rintro (h|⟨rfl|h1,h2⟩)
  .exact .inl (.inl h)
  .exact .inl (.inr ⟨rfl,h2⟩)
  exact .inr ⟨h1,h2⟩
 |.l b::ks,ws=>by rw[kM,oV];simp
theorem zO{t}{s:St}{d v}:dR t (s.put d v).env=if d=some t then some v else dR t s.env:=by
 cases d with
 |none=>simp[St.put]
 |some d=>simp[St.put,dR]
theorem zQ{a:Act}{d:Option Nat}{x t}:(a.put d x).tmps.getD t Go.undef=if d=some t/\t<a.tmps.size then x else a.tmps.getD t Go.undef:=by
 cases d with
 |none=>simp[Act.put]
 |some d=>
  simp only[Act.put,a09];simp only[<-afa,a8t,aa3];by_cases h:d=t
  .subst h;by_cases h1:d<a.tmps.size
   .simp[h1]
   simp[h1]
  simp[h]
theorem Iy{a:Act}{d:Option Nat}{x}:(a.put d x).tmps.size=a.tmps.size:=by cases d<;>simp[Act.put]
theorem jX{a:Act}{d:Option Nat}{x}:(a.put d x).defers=a.defers:=by cases d<;>rfl
section
variable{P:LI1}{call:dO}{site:Nat->Bool}{fl nt:Nat}{ops:Array Oper}{o:Oper}{s s':St}{i:yH}
theorem vN.a1H(h:vN P call site fl nt ops o s i s'):s'.ws=kM fl i.ws s.ws:=by
 obtain⟨_,⟨_,v,s1,_,rfl⟩|⟨_,rfl,rfl⟩⟩:=h
 .cases o.dst<;>rfl
 cases o.dst<;>rfl
theorem vN.dst(h:vN P call site fl nt ops o s i s'){d:Nat}(hd:o.dst=some d):d<nt:=by have:=h.1;simp only[OA,hd]at this;simpa using this
variable{M0:Mp}{h0:List HB}{w0:LI4}{M:Mp}{a:Act}{w:LI4}
theorem Rel.loc(hR:Rel M0 h0 w0 nt M s a w):∀j l,M (.l j)=some l->∀k' l',Key.l j≠k'->M k'=some l'->∀c∈aI l,c∉aI l':=by intro j l hj k' l' iI oQ;obtain⟨b,h1,_⟩:=hR.val.ok _ _ hj trivial;refine hR.val.own _ _ _ _ b iI hj oQ trivial h1 ?_;simp only[St.get,a0A]at h1;obtain⟨_,_,rfl⟩:=h1;rfl
theorem Rel.nh(hR:Rel M0 h0 w0 nt M s a w):M (.h s.heap.length)=none:=by
 cases h:M (.h s.heap.length)with
 |none=>rfl
 |some l=>have:=hR.val.has h;simp[St.get]at this
theorem Rel.nl(hR:Rel M0 h0 w0 nt M s a w):M (.l s.loc.length)=none:=by
 cases h:M (.l s.loc.length)with
 |none=>rfl
 |some l=>have:=hR.val.has h;simp[St.get]at this
theorem DK{h k}(hk:(lD h k).isSome=true):∃b,k=.h b/\b<h.length:=by
 cases k with
 |h b=>exact⟨b,rfl,by simpa[lD,St.get]using hk⟩
 |l j=>simp[lD,St.get]at hk
theorem a00{h b}(hb:b<h.length):(lD h (.h b)).isSome=true:=by simp[lD,St.get,hb]
theorem TD(hR:Rel M0 h0 w0 nt M s a w){M' C' w' ws}(hX:Ext M s.get w M' C' w' ws) :∀d∈a.defers,∃k r,d=⟨.collected r,#[]⟩/\lD h0 (.h k)=none/\(∃o,M' (.h k)=some (.obj r o))/\C' (.h k)=some .mark/\w'.heap[r]? = some (.deferred (some [])):=by
 intro d hd;obtain⟨k,r,h1,h2,⟨o,h3⟩,h4,h5⟩:=hR.marks d hd;have hn:Key.h k∉ws:=fun Gi=>by have:=(hX.wrote _ Gi).2 _ h4;cases this
 obtain⟨l',g1,g2⟩:=hX.JI _ _ h3;obtain⟨o',hl⟩:∃o',l'=.obj r o':=by
  cases l' with
  |cells ls=>exact g2.elim
  |obj r' o'=>cases g2.1;exact⟨o',rfl⟩
 refine⟨k,r,h1,h2,⟨o',by rw[g1,hl]⟩,by rw[hX.nX _ (by simp[h4]) hn,h4],?_⟩;rw[hX.frame r (a2I.1 h5).1 fun k' oQ l0 qW hc=>?_,h5];obtain⟨b,hb,_⟩:=hR.val.ok _ _ qW trivial;exact hR.val.own k' (.h k) l0 (.obj r o) b (fun e=>hn (e▸oQ)) qW h3 trivial hb ((hX.wrote _ oQ).2 b hb) r hc (by simp[aI])
theorem P5(hB:xJ M0 h0 w0)(hR:Rel M0 h0 w0 nt M s a w)(hS:vN P call site h0.length nt ops o s i s'){x w'}(vK:MI M rU s w o i s' x w') :∃M',Rel M0 h0 w0 nt M' s' (a.put o.dst x) w':=by
 obtain⟨v,M',he,hp⟩:=vK;refine⟨M',hp.val.sub fun k _=>.inl trivial,?_,?_,by rw[Iy];exact hR.size,by rw[jX];exact TD hR hp.ext,by rw[jX];exact hR.apart⟩
 .refine hR.ext.trans hp.ext (fun k l hk=>hB.val.has hk) (fun k hk Gi=>?_) (fun k hk=>?_)
  .obtain⟨b,rfl,hb⟩:=DK hk;rw[hS.a1H];refine a1w.2 ⟨b,oV.2 ?_,rfl⟩;rcases Gi with h1|h1
   .obtain⟨b',h2,h3⟩:=a1w.1 h1;cases h3;exact .inl h2
   .exact .inr ⟨h1,hb⟩
  .rw[hS.a1H]at hk;obtain⟨b,hb,rfl⟩:=a1w.1 hk;rcases oV.1 hb with h1|⟨h1,h2⟩
   .have:Key.h b∈s.ws.map .h:=a1w.2 ⟨b,h1,rfl⟩;exact⟨hR.ext.wsub _ this,.inl this⟩
   .exact⟨a00 h2,.inr h1⟩
 .intro t e hl;rw[he,zO]at hl;rw[zQ];by_cases hd:o.dst=some t
  .rw[a1e hd]at hl;have:=hS.dst hd;have:=hR.size;rw[a1e ⟨hd,by omega⟩];cases hl;exact hp.er
  .rw[a18 hd]at hl;rw[a18 (fun h=>hd h.1)];exact(hR.env t e hl).mono hp.ext.JI hp.loc
theorem Rel.guard(hR:Rel M0 h0 w0 nt M s a w):NQ M s.env a.tmps ops o:=fun _ _ d _ _ e he=>hR.env d e he
theorem Iz(hC:iM P call)(hR:Rel M0 h0 w0 nt M s a w)(hS:vN P call site h0.length nt ops o s i s') :(∃x w',MI M rU s w o i s' x w') /\∀(r) (n) (Q) (idx) (K),ops[idx]? = some o ->(∀x w',MI M rU s w o i s' x w'->K (a.put o.dst x) w')->wpOpIn (og r) n P ops Q idx K a w:=
 a1F hC hS hR.val hR.nh hR.nl hR.loc (hR.env.on _) hR.guard fun _ _ _=>trivial
theorem DL{o os s s' is}(h:lU P call site fl nt ops (o::os) s=some (s',is)) :∃i s1 is',vN P call site fl nt ops o s i s1/\lU P call site fl nt ops os s1=some (s',is')/\is=i::is':=by
 simp only[lU]at h;split at h
 .simp at h
 .rename_i hd;have hd:OA nt o=true:=by simpa using hd
  split at h
  .rename_i hw;split at h
   .rename_i v s1 i jy;split at h
    .rename_i s2 is2 hr;simp only[a09,a1k]at h;obtain⟨rfl,rfl⟩:=h;exact⟨i,_,_,⟨hd,.inl ⟨hw,v,s1,jy,rfl⟩⟩,hr,rfl⟩
    .simp at h
   .simp at h
  .rename_i hw;split at h
   .rename_i s2 is2 hr;simp only[a09,a1k]at h;obtain⟨rfl,rfl⟩:=h;exact⟨_,_,_,⟨hd,.inr ⟨hw,rfl,rfl⟩⟩,hr,rfl⟩
   .simp at h
  .simp at h
theorem a6C(hC:iM P call)(hB:xJ M0 h0 w0){r n Q}:∀(os) (k) (s s') (is) (M) (a) (w),ops.toList.drop k=os ->lU P call site h0.length nt ops os s=some (s',is)->Rel M0 h0 w0 nt M s a w ->(∀M' a' w',Rel M0 h0 w0 nt M' s' a' w'->a'.defers=a.defers->Q .normal a' w')->wpOpsIn (og r) n P ops Q (List.range' k os.length) a w
 | [],k,s,s',is,M,a,w,_,h,hR,hQ=>by simp only[lU,a09,a1k]at h;obtain⟨rfl,rfl⟩:=h;exact hQ M a w hR rfl
 |o::os,k,s,s',is,M,a,w,hd,h,hR,hQ=>by
  obtain⟨i,s1,is',hS,hr,rfl⟩:=DL h;have ho:ops[k]? = some o:=by have:=congrArg (fun l=>l[0]?) hd;simpa using this
  have ZW:ops.toList.drop (k+1)=os:=by rw[<-afG,hd];rfl
  simp only[a4C,List.range'_succ];rw[wpOpsIn_cons];refine(Iz hC hR hS).2 r n Q k _ ho fun x w' vK=>?_;obtain⟨M',GY⟩:=P5 hB hR hS vK;exact a6C hC hB os (k+1) s1 s' is' M' _ w' ZW hr GY fun M2 a2 w2 h2 hdf=>hQ M2 a2 w2 h2 (hdf.trans jX)
theorem a3R(hC:iM P call)(hB:xJ M0 h0 w0){r n Q id s s' is M a w}(h:lU P call site h0.length nt ops ops.toList s=some (s',is)) (hR:Rel M0 h0 w0 nt M s a w)(hQ:∀M' a' w',Rel M0 h0 w0 nt M' s' a' w'->a'.defers=a.defers->Q .normal a' w'):(Code.region id ops false).wpIn (og r) n P Q a w:=by
 refine wpIn_region ?_;have:=a6C (r:=r) (n:=n) (Q:=Q) hC hB ops.toList 0 s s' is M a w rfl h hR hQ;simpa[List.range_eq_range']using this
end
theorem P6{i}:∀{xs l},i∈OB xs l->i∈xs\/i∈l
 | [],l,h=>.inr h
 |x::xs,l,h=>by
  simp only[OB]at h;rcases P6 h with h1|h1
  .exact .inl (a3I _ h1)
  split at h1
  .exact .inr h1
  rcases a1E.1 h1 with rfl|h2
  .exact .inl a3K
  exact .inr h2
theorem IB{acc:List (List Nat)}{i}:∀{es:List Edge} {l},i∈es.foldl (fun l e=>if Region.binds .any e then OB (e.on::acc.getD e.on []) l else l) l->i∈l\/∃e∈es,Region.binds .any e=true/\(i=e.on\/i∈acc.getD e.on [])
 | [],l,h=>.inl h
 |e::es,l,h=>by
  simp only[aeR]at h;rcases IB h with h1|⟨e',h2,h3⟩
  .split at h1
   .rename_i hb;rcases P6 h1 with h2|h2
    .refine .inr ⟨e,a3K,hb,?_⟩;exact a1E.1 h2
    .exact .inl h2
   .exact .inl h1
  .exact .inr ⟨e',a3I _ h2,h3⟩
theorem a01{acc o i}(h:i∈GH acc o):∃e∈o.after,Region.binds .any e=true/\(i=e.on\/i∈acc.getD e.on []):=by
 rcases IB h with h1|⟨e,h2,h3⟩
 .cases h1
 exact⟨e,by simpa using h2,h3⟩
theorem IC:∀(os) (acc),∃t,G9 os acc=acc++t
 | [],acc=>⟨[],by simp[G9]⟩
 |o::os,acc=>by obtain⟨t,ht⟩:=IC os (acc++[GH acc o]);exact⟨GH acc o::t,by simp[G9,ht]⟩
theorem TF:∀(os) (acc) (k:Nat) (o:Oper),os[k]? = some o ->(G9 os acc)[acc.length+k]? = some (GH ((G9 os acc).take (acc.length+k)) o)
 | [],acc,k,o,h=>by simp at h
 |o'::os,acc,0,o,h=>by simp at h;subst h;obtain⟨t,ht⟩:=IC os (acc++[GH acc o']);simp[G9,ht]
 |o'::os,acc,k+1,o,h=>by
  have:=TF os (acc++[GH acc o']) k o (by simpa using h);simp only[G9];simp only[a1B,a4C,a5W]at this
  rwa [show acc.length+(0+1)+k=acc.length+(k+1) by omega]at this
def Xy(ops:List Oper)(j:Nat):List Nat:=(G9 ops []).getD j []
theorem a6D{ops j i o}(hj:ops[j]? = some o)(h:i∈Xy ops j):∃e∈o.after,Region.binds .any e=true/\(i=e.on\/(e.on<j/\i∈Xy ops e.on)):=by
 have:=TF ops [] j o hj;simp only[a5W,a3L]at this;unfold Xy at h;rw[a3k,this]at h;simp only[a5V]at h;obtain⟨e,h1,h2,h3⟩:=a01 h;refine⟨e,h1,h2,h3.imp id fun h4=>?_⟩;rw[a3k,a5H]at h4;split at h4
 .rename_i aQ;exact⟨aQ,by unfold Xy;rw[a3k];exact h4⟩
 simp at h4
def vO(D:Nat->Prop)(o:Oper):Prop:=∀e∈o.after,Region.binds .any e=true->D e.on
theorem Vk{ops D}(hc:∀j o,ops[j]? = some o->D j->vO D o):∀(j) (o),ops[j]? = some o->vO D o->∀i∈Xy ops j,D i:=by
 intro j
 induction j using Nat.strongRecOn with
 |_ j ih=>
  intro o ho hw i hi;obtain⟨e,h1,h2,h3⟩:=a6D ho hi;rcases h3 with rfl|⟨aQ,h4⟩
  .exact hw e h1 h2
  have hd:=hw e h1 h2;have hl:j<ops.length:=(a0x.1 ho).1;have hoe:ops[e.on]? = some ops[e.on]:=a0Q (by omega);exact ih e.on aQ _ hoe (hc _ _ hoe hd) i h4
theorem zA{ops i j}(AZ:i<j)(hj:j<ops.length)(hn:i∉Xy ops j):(i,j)∈oN ops:=by simp only[oN,afj,a5m,a1w,a5X];exact⟨j,hj,i,⟨AZ,by simpa[Xy]using hn⟩,rfl⟩
theorem Xz{ops}(h:o7 ops=true){i o}(ho:ops[i]? = some o){e}(he:e∈o.after)(hb:Region.binds .any e=true):e.on<i:=by
 simp only[o7,a2n,a5L]at h;have:=h.1 (o,i) (by rw[aaB];simpa using ho)
 simp only[adp]at this;have:=this e he;simpa[hb]using this
theorem Ba{ops}(h:o7 ops=true){i j a b}(hp:(i,j)∈oN ops)(ha:ops[i]? = some a)(hb:ops[j]? = some b):a.apart ops.toArray b=true/\b.apart ops.toArray a=true:=by simp only[o7,a2n,a5L]at h;have:=h.2 (i,j) hp;simpa[ha,hb]using this
theorem TG{yB}:∀{ps},Ce yB ps=true->∀{i j} {a b},(i,j)∈ps->yB[i]? = some a->yB[j]? = some b->calm a b=true
 | [],_,i,j,a,b,h,_,_=>by cases h
 |(x,y)::r,hd,i,j,a,b,h,ha,hb=>by
  simp only[Ce,a2n]at hd;rcases a1E.1 h with h1|h1
  .cases h1;simpa[ha,hb]using hd.1
  exact TG hd.2 h1 ha hb
section
variable{P:LI1}{call:dO}{site:Nat->Bool}{s s1:St}{o:Oper}{v:EV}{i:yH}
theorem a6E{t a r}(h:loadT P t s a=some r):r.2.ws=[]:=by
 unfold loadT at h;split at h
 .split at h
  .simp only[a0A]at h;obtain⟨_,_,rfl⟩:=h;rfl
  simp at h
 .split at h
  .split at h
   .simp only[a0A]at h;obtain⟨_,_,rfl⟩:=h;rfl
   simp at h
  simp at h
 simp at h
theorem aaE{at_ h0 x r}(h:ZF P at_ h0 x=some r):r.2.ws=[]:=by
 unfold ZF at h
 repeat' (split at h)
 all_goals first
  |(simp at h;done)
  |(simp only[a09]at h;subst h;rfl)
theorem ajt(h:pU P call site s o=some (v,s1,i))(hm:JM o.op=false):i.ws=[]:=by
 unfold pU at h;split at h
 all_goals first
  |(simp at h;done)
  |(rename_i ho;rw[ho]at hm;simp[JM]at hm;done)
  |(simp only[a0A,a1k]at h;obtain⟨_,_,_,_,rfl⟩:=h;rfl)
  |(split at h<;>first|(simp at h;done)|(simp only[a0A,a1k,a09]at h;first|(obtain⟨_,_,_,_,rfl⟩:=h;rfl)|(obtain⟨_,_,rfl⟩:=h;rfl)))
  |skip
 .split at h
  .split at h
   .simp only[a09,a1k]at h;obtain⟨_,_,rfl⟩:=h;rfl
   simp at h
  simp at h
 .split at h
  .simp only[a0A,a1k]at h;obtain⟨r,hr,_,_,rfl⟩:=h;exact a6E hr
  simp at h
 .split at h
  .split at h
   .simp only[a0A,a1k]at h;obtain⟨_,_,_,_,rfl⟩:=h;rfl
   .simp only[a0A,a1k]at h;obtain⟨_,_,_,_,rfl⟩:=h;rfl
   simp at h
  simp at h
 .rename_i c ho;rw[ho]at hm;obtain⟨callee,args,ats⟩:=c;unfold Oz at h;simp only at h;split at h
  .rename_i b az;simp only[a0A,a1k]at h;obtain⟨⟨v0,s0,i0⟩,hb,_,_,rfl⟩:=h;simp only[JM]at hm;unfold rQ at hb;split at hb
   .simp only[a0A,a1k]at hb;obtain⟨r,hr,_,_,rfl⟩:=hb;exact aaE hr
   .simp at hm
   .simp at hm
   .simp only[a0A,a1k]at hb;obtain⟨r,hr,_,_,rfl⟩:=hb;rfl
   .simp only[a0A,a1k]at hb;obtain⟨r,hr,_,_,rfl⟩:=hb;rfl
   simp at hb
  .simp[JM]at hm
  simp at h
 .split at h
  .split at h
   .simp only[a09,a1k]at h;obtain⟨_,_,rfl⟩:=h;rfl
   simp at h
  simp at h
 split at h
 .split at h
  .split at h
   .split at h
    .simp only[a0A,a1k]at h;obtain⟨_,_,_,_,rfl⟩:=h;rfl
    simp at h
   simp at h
  simp at h
 simp at h
theorem aju(h:pU P call site s o=some (v,s1,i))(hm:OC o.op=false):i.ts=[]/\i.ws=[]/\i.all=false:=by
 unfold pU at h;split at h
 all_goals first
  |(simp at h;done)
  |(rename_i ho;rw[ho]at hm;simp[OC]at hm;done)
  |(simp only[a0A,a1k]at h;obtain⟨_,_,_,_,rfl⟩:=h;exact⟨rfl,rfl,rfl⟩)
  |(split at h<;>first|(simp at h;done)|(simp only[a0A,a1k,a09]at h;first|(obtain⟨_,_,_,_,rfl⟩:=h;exact⟨rfl,rfl,rfl⟩)|(obtain⟨_,_,rfl⟩:=h;exact⟨rfl,rfl,rfl⟩)))
  |skip
 .split at h
  .split at h
   .simp only[a09,a1k]at h;obtain⟨_,_,rfl⟩:=h;exact⟨rfl,rfl,rfl⟩
   simp at h
  simp at h
 .split at h
  .split at h
   .simp only[a0A,a1k]at h;obtain⟨_,_,_,_,rfl⟩:=h;exact⟨rfl,rfl,rfl⟩
   .simp only[a0A,a1k]at h;obtain⟨_,_,_,_,rfl⟩:=h;exact⟨rfl,rfl,rfl⟩
   simp at h
  simp at h
 rename_i c ho;rw[ho]at hm;obtain⟨callee,args,ats⟩:=c;unfold Oz at h;simp only at h;split at h
 .rename_i b az;simp only[a0A,a1k]at h;obtain⟨⟨v0,s0,i0⟩,hb,_,_,rfl⟩:=h;simp only[OC]at hm;unfold rQ at hb;split at hb
  .simp at hm
  .simp at hm
  .simp at hm
  .simp only[a0A,a1k]at hb;obtain⟨r,hr,_,_,rfl⟩:=hb;exact⟨rfl,rfl,rfl⟩
  .simp only[a0A,a1k]at hb;obtain⟨r,hr,_,_,rfl⟩:=hb;exact⟨rfl,rfl,rfl⟩
  simp at hb
 .simp[OC]at hm
 simp at h
variable{fl nt:Nat}{ops:Array Oper}{s':St}
theorem vN.w(h:vN P call site fl nt ops o s i s')(hm:JM o.op=false):i.ws=[]:=by
 obtain⟨_,⟨_,v,s1,h1,_⟩|⟨_,rfl,_⟩⟩:=h
 .exact ajt h1 hm
 rfl
theorem vN.t(h:vN P call site fl nt ops o s i s')(hm:OC o.op=false):i.ts=[]/\i.ws=[]/\i.all=false:=by
 obtain⟨_,⟨_,v,s1,h1,_⟩|⟨_,rfl,_⟩⟩:=h
 .exact aju h1 hm
 exact⟨rfl,rfl,rfl⟩
theorem P7{ws b}(h:OD ws b=true){k}(hk:k∈ws):¬oU b k:=by
 simp only[OD,a5L]at h;have:=h k hk;simp only[a2n,a6A,ah2]at this;obtain⟨⟨h1,h2⟩,h3⟩:=this;rintro (h4|h4|⟨h4,h5⟩)
 .simp[h4]at h2
 .simp[h4]at h3
 simp[h4,h5]at h1
theorem a3S{yB ol}(hd:Ce yB (nH ol)=true){x y a b ia ib sa sa' sb sb'}(hp:(x,y)∈oN ol)(ha:ol[x]? = some a)(hb:ol[y]? = some b)(hia:yB[x]? = some ia) (hib:yB[y]? = some ib) (sta:vN P call site fl nt ops a sa ia sa') (stb:vN P call site fl nt ops b sb ib sb') :Cc a b=true\/((∀k∈ia.ws,¬oU ib k)/\(∀k∈ib.ws,¬oU ia k)):=by
 cases hsp:Cc a b
 case true=>exact .inl rfl
 right;by_cases hh:((JM a.op&&OC b.op)||(OC a.op&&JM b.op))=true
 .have hm:(x,y)∈nH ol:=by simp only[nH,a5X];refine⟨hp,?_⟩;simp only[ha,hb,hsp,abf,aiB];exact hh
  have:=TG hd hm hia hib;simp only[calm,a2n]at this;exact⟨fun k hk=>P7 this.1 hk,fun k hk=>P7 this.2 hk⟩
 .simp only[aam,a2n,adl,not_and,afi]at hh;constructor
  .intro k hk ht;have h1:JM a.op=true:=by
    cases h2:JM a.op with
    |true=>rfl
    |false=>rw[sta.w h2]at hk;cases hk
   obtain⟨t1,t2,t3⟩:=stb.t (hh.1 h1);rcases ht with h|h|⟨h,_⟩
   .rw[t1]at h;cases h
   .rw[t2]at h;cases h
   .rw[t3]at h;cases h
  .intro k hk ht;have h1:JM b.op=true:=by
    cases h2:JM b.op with
    |true=>rfl
    |false=>rw[stb.w h2]at hk;cases hk
   have h2:OC a.op=false:=by
    cases h3:OC a.op with
    |false=>rfl
    |true=>have:=hh.2 h3;rw[h1]at this;cases this
   obtain⟨t1,t2,t3⟩:=sta.t h2;rcases ht with h|h|⟨h,_⟩
   .rw[t1]at h;cases h
   .rw[t2]at h;cases h
   .rw[t3]at h;cases h
end
end Tw
