/- Part 5 of a proof: closed runs of the given program, and the readings of its code that they use. -/
import Derived.Test.YtjkgcifieggcpaaGreatP03
set_option linter.constructorNameAsVariable false
set_option linter.unusedVariables false
set_option linter.unusedSimpArgs false
set_option linter.unusedSectionVars false
namespace Go.Proofs.YtjkgcifieggcpaaGreat
open Go Tw Pv fA
def pcD:List (TV×TV)→Option (List Pc)
 | []=>some []
 | (.agg [.int .u64 a,.bool b],.bool true)::r=>(pcD r).map (⟨a,b⟩::·)
 | _=>none
def trD (h:List HB) (b:Nat):Option (List Pc):=match h[b]? with
 | some (.cells .own [c0,c1,c2,c3,c4,c5,c6,c7,.map r])=>if (bJ c0&&bJ c1&&bJ c2&&bJ c3&&bJ c4&&bJ c5&&bJ c6&&bJ c7)=true then (match h[r]? with
  | some (.map es)=>pcD es
  | _=>none) else none
 | _=>none
def quT:ay:=fun fv args h=>match fv,args with
 | .fn f [] [],[.ptr b 0 9,.int .u64 a]=>match trD h b with
  | some l=>if l.length<LL then (if f=97 then some (.bool (ql l a),h,[]) else if f=113 then some (.bool (qm l a),h,[]) else none) else none
  | none=>none
 | _,_=>none
theorem LU:∀ {es:List (TV×TV)} {l:List Pc},pcD es=some l→es=l.map fun p=>(.agg [.int .u64 p.facts,.bool p.goal],.bool true)
 | [],l,h=>by cases h;rfl
 | e::r,l,h=>by
  unfold pcD at h
  split at h
  ·rename_i h1;cases h1
  ·rename_i a b r' h1
   cases h1
   obtain⟨l',e1,rfl⟩:=Option.map_eq_some_iff.1 h
   rw[LU e1];rfl
  ·cases h
theorem WY {h:List HB} {b:Nat} {l:List Pc} (e:trD h b=some l):∃ mm:List MB,HR X0 Tryz.prog (fun _=>True) mm (Hg l) h∧∀ a:Int,aG X0 Tryz.prog (AA (fun _=>True) mm) mm h [.ptr 1 0 9,.int .u64 a] [.ptr b 0 9,.int .u64 a]:=by
 unfold trD at e
 split at e
 ·rename_i c0 c1 c2 c3 c4 c5 c6 c7 r e1
  split at e
  ·rename_i ho
   simp only[Bool.and_eq_true] at ho
   obtain⟨⟨⟨⟨⟨⟨⟨o0,o1⟩,o2⟩,o3⟩,o4⟩,o5⟩,o6⟩,o7⟩:=ho
   split at e
   ·rename_i es e2
    have hes:=LU e
    have hbl:blks [MB.bM r,.bM b,.gone]=[]:=rfl
    have hb:∀ x,x∉blks [MB.bM r,.bM b,.gone]:=fun x hx=>by rw[hbl] at hx;cases hx
    have gn:∀ {x:TV},bJ x=true→VR X0 Tryz.prog (AA (fun _=>True) [MB.bM r,.bM b,.gone]) [MB.bM r,.bM b,.gone] h (.own 2) x:=fun hx=>.gone rfl (.of rfl) hx
    refine⟨[.bM r,.bM b,.gone],⟨rfl,fun i pb hi=>?_,by rw[hbl];exact List.nodup_nil,fun _ _=>trivial,fun _ _=>trivial⟩,fun a=>.cons (.gone rfl (.RH (c:=b) rfl rfl) rfl) (.cons (.int ..) .nil)⟩
    match i,hi with
    | 0,hi=>
     cases hi
     refine⟨.bM r,rfl,hb r,es,e2,?_,fun i x y hx hy=>?_⟩
     ·rw[hes];exact (tZ (m:=l)).trans (List.length_map ..).symm
     ·have:=JA hx
      subst this
      rw[hes,List.getElem?_map] at hy
      cases h2:l[i]? with
      | none=>rw[h2] at hy;cases hy
      | some p=>
       rw[h2] at hy;cases hy
       rw[List.getD_eq_getElem?_getD,h2]
       exact⟨rfl,rfl⟩
    | 1,hi=>
     cases hi
     exact⟨.bM b,rfl,hb b,_,e1,.cons (gn o0) (.cons (gn o1) (.cons (gn o2) (.cons (gn o3) (.cons (gn o4) (.cons (gn o5) (.cons (gn o6) (.cons (gn o7) (.cons (.gone rfl (.RH (c:=r) rfl rfl) rfl) .nil))))))))⟩
    | 2,hi=>cases hi;exact⟨.gone,rfl,trivial⟩
    | i+3,hi=>cases hi
   ·cases e
  ·cases e
 ·cases e
theorem WZ (hm:Tryz.prog.follows .mixedOrders=true):aj Tryz.prog quT:=by
 intro fv args h v h' ws hc
 refine OV (T:=T00) (L:=LL) hm U6 2 fv args h v h' ws ?_
 unfold quT at hc
 split at hc
 ·rename_i f b a
  split at hc
  ·rename_i l e
   split at hc
   ·rename_i hl
    obtain⟨mm,hr,hx⟩:=WY e
    split at hc
    ·rename_i hf
     subst hf
     cases hc
     exact a15 (n:=0) l a hl hr (hx a)
    ·split at hc
     ·rename_i hf
      subst hf
      cases hc
      exact a18 (n:=0) l a hl hr (hx a)
     ·cases hc
   ·cases hc
  ·cases hc
 ·cases hc
def vI:ay:=fun f xs h=>(quT f xs h).orElse fun _=>Qa NG 104 f xs h
def T0:Tw.Tab:={ Tb with exts:=[97,104,113],ext:=vI }
theorem bn (hm:Tryz.prog.follows .mixedOrders=true):aj Tryz.prog vI:=by
 unfold vI
 rw[TB]
 exact aj.or (WZ hm) (Qc sortL)
end Go.Proofs.YtjkgcifieggcpaaGreat
namespace Tw
open Go
def D6:TV→TV→Bool
 | .bool a,.bool b=>a==b
 | .int k n,.int k' n'=>decide (k=k')&&decide (n=n')
 | .str s,.str s'=>decide (s.data.toList=s'.data.toList)
 | .nil k,.nil k'=>decide (k=k')
 | .ptr a b c,.ptr a' b' c'=>Nat.beq a a'&&Nat.beq b b'&&Nat.beq c c'
 | .slc a b c d e f,.slc a' b' c' d' e' f'=>Nat.beq a a'&&Nat.beq b b'&&Nat.beq c c'&&Nat.beq d d'&&Nat.beq e e'&&f==f'
 | .map r,.map r'=>Nat.beq r r'
 | .fn f a c,.fn f' a' c'=>Nat.beq f f'&&FB a a'&&FB c c'
 | .iF l,.iF l'=>Nat.beq l l'
 | .agg cs,.agg cs'=>FB cs cs'
 | .bf cs,.bf cs'=>FB cs cs'
 | .iter b,.iter b'=>Nat.beq b b'
 | _,_=>false
where
 FB:List TV→List TV→Bool
 | [],[]=>true
 | x::xs,y::ys=>D6 x y&&FB xs ys
 | _,_=>false
mutual
theorem JE:∀ {a b:TV},D6 a b=true→a=b
 | .bool a,.bool b,h=>by simp only[D6,beq_iff_eq] at h;rw[h]
 | .int k n,.int k' n',h=>by simp only[D6,Bool.and_eq_true,decide_eq_true_eq] at h;rw[h.1,h.2]
 | .str s,.str s',h=>by
  simp only[D6,decide_eq_true_eq] at h
  obtain⟨⟨x⟩⟩:=s
  obtain⟨⟨y⟩⟩:=s'
  simp at h;rw[h]
 | .nil k,.nil k',h=>by simp only[D6,decide_eq_true_eq] at h;rw[h]
 | .ptr a b c,.ptr a' b' c',h=>by simp only[D6,Bool.and_eq_true,Nat.beq_eq] at h;rw[h.1.1,h.1.2,h.2]
 | .slc a b c d e f,.slc a' b' c' d' e' f',h=>by simp only[D6,Bool.and_eq_true,Nat.beq_eq,beq_iff_eq] at h;obtain⟨⟨⟨⟨⟨rfl,rfl⟩,rfl⟩,rfl⟩,rfl⟩,rfl⟩:=h;rfl
 | .map r,.map r',h=>by simp only[D6,Nat.beq_eq] at h;rw[h]
 | .fn f a c,.fn f' a' c',h=>by simp only[D6,Bool.and_eq_true,Nat.beq_eq] at h;rw[h.1.1,oC h.1.2,oC h.2]
 | .iF l,.iF l',h=>by simp only[D6,Nat.beq_eq] at h;rw[h]
 | .agg cs,.agg cs',h=>by simp only[D6] at h;rw[oC h]
 | .bf cs,.bf cs',h=>by simp only[D6] at h;rw[oC h]
 | .iter b,.iter b',h=>by simp only[D6,Nat.beq_eq] at h;rw[h]
theorem oC:∀ {a b:List TV},D6.FB a b=true→a=b
 | [],[],_=>rfl
 | x::xs,y::ys,h=>by simp only[D6.FB,Bool.and_eq_true] at h;rw[JE h.1,oC h.2]
 | [],_::_,h=>by cases h
 | _::_,[],h=>by cases h
end
def eqE:List (TV×TV)→List (TV×TV)→Bool
 | [],[]=>true
 | x::xs,y::ys=>D6 x.1 y.1&&D6 x.2 y.2&&eqE xs ys
 | _,_=>false
theorem QL:∀ {a b:List (TV×TV)},eqE a b=true→a=b
 | [],[],_=>rfl
 | (a,b)::xs,(c,d)::ys,h=>by
  simp only[eqE,Bool.and_eq_true] at h
  rw[QL h.2,JE h.1.1,JE h.1.2]
 | [],_::_,h=>by cases h
 | _::_,[],h=>by cases h
def eqB:HB→HB→Bool
 | .cells k cs,.cells k' cs'=>decide (k=k')&&D6.FB cs cs'
 | .map es,.map es'=>eqE es es'
 | .mark,.mark=>true
 | _,_=>false
theorem X3:∀ {a b:HB},eqB a b=true→a=b
 | .cells k cs,.cells k' cs',h=>by simp only[eqB,Bool.and_eq_true,decide_eq_true_eq] at h;rw[h.1,oC h.2]
 | .map es,.map es',h=>by simp only[eqB] at h;rw[QL h]
 | .mark,.mark,_=>rfl
def U7:List HB→List HB→Bool
 | [],[]=>true
 | x::xs,y::ys=>eqB x y&&U7 xs ys
 | _,_=>false
theorem LV:∀ {a b:List HB},U7 a b=true→a=b
 | [],[],_=>rfl
 | x::xs,y::ys,h=>by simp only[U7,Bool.and_eq_true] at h;rw[X3 h.1,LV h.2]
 | [],_::_,h=>by cases h
 | _::_,[],h=>by cases h
structure dR where
 f:Nat
 xs:List TV
 h:List HB
 r:TV×List HB×List Nat
def aW:List dR→ay
 | [],_,_,_=>none
 | e::l,fv,xs,h=>match fv with
  | .fn f [] []=>if (Nat.beq e.f f&&D6.FB e.xs xs&&U7 e.h h)=true then some e.r else aW l fv xs h
  | _=>none
theorem aN {P:Program} {call:ay} (hc:aj P call):∀ {l:List dR},(∀ e∈l,call (.fn e.f [] []) e.xs e.h=some e.r)→aj P (aW l)
 | [],_=>fun fv xs h v h' ws hm=>by cases hm
 | e::l,hl=>fun fv xs h v h' ws hm=>by
  unfold aW at hm
  split at hm
  ·rename_i f
   split at hm
   ·rename_i hq
    simp only[Bool.and_eq_true,Nat.beq_eq] at hq
    obtain⟨⟨q1,q2⟩,q3⟩:=hq
    have:=hl e List.mem_cons_self
    rw[q1,oC q2,LV q3] at this
    rw[Option.some.inj hm] at this
    exact hc _ _ _ _ _ _ this
   ·exact aN hc (fun e he=>hl e (List.mem_cons_of_mem _ he)) _ _ _ _ _ _ hm
  ·cases hm
end Tw
namespace Go.Proofs.YtjkgcifieggcpaaGreat
open Go Tw
def Z0:HB:=.cells .own [.int .i64 0,.int .i64 1]
def Z1:HB:=.cells .own [.int .i64 2,.int .i64 3]
def Z2:HB:=.cells .grow [.int .u8 0,.int .i64 0,.int .u8 0,.int .i64 1]
def Z3:HB:=.cells .grow [.int .i64 (-1),.int .i64 (-2)]
def Z4:HB:=.cells .grow [.int .u8 0,.int .i64 1,.int .u8 0,.int .i64 0]
def Z5:HB:=.cells .grow [.int .i64 (-1),.int .i64 (-2),.int .i64 (-2)]
def Z6:HB:=.cells .own [.int .i64 0]
def Z7:HB:=.cells .own [.int .i64 (-1),.int .i64 (-2)]
def Z8:HB:=.cells .grow [.int .i64 0,.int .i64 3]
def Z9:HB:=.cells .grow [.int .i64 1,.int .i64 2]
def ZA:HB:=.cells .own [.int .u8 0,.int .i64 0,.int .u8 0,.int .i64 1]
def ZB:HB:=.cells .own [.int .i64 0,.slc 0 0 2 2 1 false]
def ZC:HB:=.cells .own [.int .u8 0,.int .i64 1]
def ZD:HB:=.cells .own [.int .i64 0,.slc 20 0 2 2 1 false]
def ZE:HB:=.cells .own [.int .i64 0,.slc 5 0 2 2 1 false]
def ZF:HB:=.cells .own [.int .i64 1,.slc 10 0 3 3 1 false]
def ZG:HB:=.cells .own [.int .i64 1,.slc 15 0 3 3 1 false]
def ZH:HB:=.cells .own [.str ⟨#[]⟩,.slc 24 0 2 2 1 false,.slc 23 0 2 2 1 false,.slc 22 0 2 2 2 false,.slc 21 0 1 1 2 false,.int .i64 0,.str ⟨#[]⟩,.slc 19 0 2 2 1 false,.slc 18 0 2 2 1 false,.slc 17 0 2 2 2 false,.slc 16 0 1 1 2 false,.int .i64 0,.str ⟨#[]⟩,.slc 14 0 2 2 1 false,.slc 13 0 2 2 1 false,.slc 12 0 2 2 2 false,.slc 11 0 1 1 2 false,.int .i64 0,.str ⟨#[]⟩,.slc 9 0 2 2 1 false,.slc 8 0 2 2 1 false,.slc 7 0 2 2 2 false,.slc 6 0 1 1 2 false,.int .i64 0]
def ZI:HB:=.cells .own [.int .u8 0,.int .i64 0]
def ZJ:HB:=.cells .own [.int .i64 0,.slc 29 0 2 2 1 false]
def ZK:HB:=.cells .own [.int .i64 0,.slc 34 0 2 2 1 false]
def ZL:HB:=.cells .own [.int .i64 0,.slc 49 0 2 2 1 false]
def ZM:HB:=.cells .own [.int .i64 1,.slc 39 0 3 3 1 false]
def ZN:HB:=.cells .own [.int .i64 1,.slc 44 0 3 3 1 false]
def ZO:HB:=.cells .own [.str ⟨#[]⟩,.slc 53 0 2 2 1 false,.slc 52 0 2 2 1 false,.slc 51 0 2 2 2 false,.slc 50 0 1 1 2 false,.int .i64 0,.str ⟨#[]⟩,.slc 48 0 2 2 1 false,.slc 47 0 2 2 1 false,.slc 46 0 2 2 2 false,.slc 45 0 1 1 2 false,.int .i64 0,.str ⟨#[]⟩,.slc 43 0 2 2 1 false,.slc 42 0 2 2 1 false,.slc 41 0 2 2 2 false,.slc 40 0 1 1 2 false,.int .i64 0,.str ⟨#[]⟩,.slc 38 0 2 2 1 false,.slc 37 0 2 2 1 false,.slc 36 0 2 2 2 false,.slc 35 0 1 1 2 false,.int .i64 0]
def ZP:HB:=.cells .own [.int .i64 (-1),.int .i64 (-2),.int .i64 (-2)]
def ZQ:HB:=.cells .own [.int .u8 0,.int .i64 1,.int .u8 0,.int .i64 0]
def ZR:HB:=.cells .grow [.slc 58 0 2 2 1 false,.slc 57 0 2 2 1 false]
def ZS:HB:=.cells .own [.int .i64 0,.slc 60 0 2 2 1 false]
def ZT:HB:=.cells .own [.int .i64 0,.slc 65 0 2 2 1 false]
def ZU:HB:=.cells .own [.int .i64 0,.slc 80 0 2 2 1 false]
def ZV:HB:=.cells .own [.int .i64 1,.slc 70 0 3 3 1 false]
def ZW:HB:=.cells .own [.int .i64 1,.slc 75 0 3 3 1 false]
def ZX:HB:=.cells .own [.str ⟨#[]⟩,.slc 84 0 2 2 1 false,.slc 83 0 2 2 1 false,.slc 82 0 2 2 2 false,.slc 81 0 1 1 2 false,.int .i64 0,.str ⟨#[]⟩,.slc 79 0 2 2 1 false,.slc 78 0 2 2 1 false,.slc 77 0 2 2 2 false,.slc 76 0 1 1 2 false,.int .i64 0,.str ⟨#[]⟩,.slc 74 0 2 2 1 false,.slc 73 0 2 2 1 false,.slc 72 0 2 2 2 false,.slc 71 0 1 1 2 false,.int .i64 0,.str ⟨#[]⟩,.slc 69 0 2 2 1 false,.slc 68 0 2 2 1 false,.slc 67 0 2 2 2 false,.slc 66 0 1 1 2 false,.int .i64 0]
def ZY:HB:=.cells .grow [.slc 89 0 1 1 1 false,.slc 88 0 2 2 1 false]
def ZZ:HB:=.cells .own [.int .i64 0,.slc 91 0 2 2 1 false]
def Za:HB:=.cells .own [.int .i64 0,.slc 111 0 2 2 1 false]
def Zb:HB:=.cells .own [.int .i64 0,.slc 96 0 2 2 1 false]
def Zc:HB:=.cells .own [.int .i64 1,.slc 101 0 3 3 1 false]
def Zd:HB:=.cells .own [.int .i64 1,.slc 106 0 3 3 1 false]
def Ze:HB:=.cells .own [.str ⟨#[]⟩,.slc 115 0 2 2 1 false,.slc 114 0 2 2 1 false,.slc 113 0 2 2 2 false,.slc 112 0 1 1 2 false,.int .i64 0,.str ⟨#[]⟩,.slc 110 0 2 2 1 false,.slc 109 0 2 2 1 false,.slc 108 0 2 2 2 false,.slc 107 0 1 1 2 false,.int .i64 0,.str ⟨#[]⟩,.slc 105 0 2 2 1 false,.slc 104 0 2 2 1 false,.slc 103 0 2 2 2 false,.slc 102 0 1 1 2 false,.int .i64 0,.str ⟨#[]⟩,.slc 100 0 2 2 1 false,.slc 99 0 2 2 1 false,.slc 98 0 2 2 2 false,.slc 97 0 1 1 2 false,.int .i64 0]
def Zf:HB:=.cells .own [.int .i64 0,.slc 120 0 2 2 1 false]
def Zg:HB:=.cells .own [.int .i64 0,.slc 125 0 2 2 1 false]
def Zh:HB:=.cells .own [.int .i64 0,.slc 140 0 2 2 1 false]
def Zi:HB:=.cells .own [.int .i64 1,.slc 130 0 3 3 1 false]
def Zj:HB:=.cells .own [.int .i64 1,.slc 135 0 3 3 1 false]
def Zk:HB:=.cells .own [.str ⟨#[]⟩,.slc 144 0 2 2 1 false,.slc 143 0 2 2 1 false,.slc 142 0 2 2 2 false,.slc 141 0 1 1 2 false,.int .i64 0,.str ⟨#[]⟩,.slc 139 0 2 2 1 false,.slc 138 0 2 2 1 false,.slc 137 0 2 2 2 false,.slc 136 0 1 1 2 false,.int .i64 0,.str ⟨#[]⟩,.slc 134 0 2 2 1 false,.slc 133 0 2 2 1 false,.slc 132 0 2 2 2 false,.slc 131 0 1 1 2 false,.int .i64 0,.str ⟨#[]⟩,.slc 129 0 2 2 1 false,.slc 128 0 2 2 1 false,.slc 127 0 2 2 2 false,.slc 126 0 1 1 2 false,.int .i64 0]
def Zl:HB:=.cells .own [.int .i64 0,.int .i64 3]
def Zm:HB:=.cells .own [.int .i64 1,.int .i64 2]
def Zn:HB:=.cells .grow [.int .i64 0,.int .i64 1]
def Zo:HB:=.cells .grow [.int .i64 0,.int .i64 2]
def Zp:HB:=.cells .grow [.int .i64 1,.int .i64 3]
def Zq:HB:=.cells .grow [.int .i64 2,.int .i64 3]
def Zr:HB:=.cells .grow [.slc 151 0 2 2 1 false,.slc 150 0 2 2 1 false,.slc 149 0 2 2 1 false,.slc 148 0 2 2 1 false]
def Zs:HB:=.cells .own [.int .i64 0,.slc 153 0 2 2 1 false]
def Zt:HB:=.cells .own [.int .i64 0,.slc 158 0 2 2 1 false]
def Zu:HB:=.cells .own [.int .i64 0,.slc 173 0 2 2 1 false]
def Zv:HB:=.cells .own [.int .i64 1,.slc 163 0 3 3 1 false]
def Zw:HB:=.cells .own [.int .i64 1,.slc 168 0 3 3 1 false]
def Zx:HB:=.cells .own [.str ⟨#[]⟩,.slc 177 0 2 2 1 false,.slc 176 0 2 2 1 false,.slc 175 0 2 2 2 false,.slc 174 0 1 1 2 false,.int .i64 0,.str ⟨#[]⟩,.slc 172 0 2 2 1 false,.slc 171 0 2 2 1 false,.slc 170 0 2 2 2 false,.slc 169 0 1 1 2 false,.int .i64 0,.str ⟨#[]⟩,.slc 167 0 2 2 1 false,.slc 166 0 2 2 1 false,.slc 165 0 2 2 2 false,.slc 164 0 1 1 2 false,.int .i64 0,.str ⟨#[]⟩,.slc 162 0 2 2 1 false,.slc 161 0 2 2 1 false,.slc 160 0 2 2 2 false,.slc 159 0 1 1 2 false,.int .i64 0]
def Zy:HB:=.cells .grow [.slc 192 0 2 2 1 false,.slc 191 0 2 2 1 false,.slc 190 0 1 1 2 true,.nil .slc,.int .i64 (-1),.slc 189 0 2 2 1 false,.slc 188 0 2 2 1 false,.slc 187 0 2 2 2 false,.slc 186 0 1 1 2 false,.int .i64 0,.slc 184 0 2 2 1 false,.slc 183 0 2 2 1 false,.slc 182 0 1 1 2 false,.nil .slc,.int .i64 (-1)]
def Zz:HB:=.cells .own [.int .i64 0,.slc 185 0 2 2 1 true]
def vU:HB:=.cells .own [.int .i64 0,.int .i64 0,.int .i64 0,.int .i64 0,.int .i64 0,.int .i64 0]
def vV:HB:=.cells .own [.int .i64 0,.int .i64 2]
def vW:HB:=.cells .own [.int .i64 0,.slc 211 0 2 2 1 false]
def vX:HB:=.cells .own [.int .i64 0,.slc 221 0 2 2 1 false]
def vY:HB:=.cells .own [.int .i64 1,.int .i64 1,.int .i64 1,.int .i64 1,.int .i64 1,.int .i64 1]
def vZ:HB:=.cells .own [.int .i64 1,.int .i64 3]
def wo:HB:=.cells .own [.slc 195 0 2 2 1 true,.slc 196 0 2 2 1 true]
def wu:HB:=.cells .own [.slc 198 0 1 1 1 true,.slc 199 0 2 2 1 true]
def wz:HB:=.cells .own [.slc 202 0 2 2 1 true,.slc 203 0 2 2 1 true,.slc 204 0 2 2 1 true,.slc 205 0 2 2 1 true]
def wB:HB:=.cells .own [.slc 210 0 2 2 1 false,.slc 209 0 2 2 1 false,.slc 208 0 1 1 2 false,.nil .slc,.int .i64 (-1),.slc 215 0 2 2 1 false,.slc 214 0 2 2 1 false,.slc 213 0 2 2 2 false,.slc 212 0 1 1 2 false,.int .i64 0,.slc 219 0 2 2 1 false,.slc 218 0 2 2 1 false,.slc 217 0 1 1 2 false,.nil .slc,.int .i64 (-1)]
def wE:HB:=.map [(.agg [.int .u64 2,.bool false],.bool true),(.agg [.int .u64 0,.bool false],.bool true),(.agg [.int .u64 3,.bool true],.bool true),(.agg [.int .u64 1,.bool true],.bool true)]
def xJ:HB:=.cells .own [.int .i64 0,.slc 226 0 2 2 1 false]
def xK:HB:=.cells .own [.int .i64 0,.slc 241 0 2 2 1 false]
def xM:HB:=.cells .own [.int .i64 1,.slc 231 0 3 3 1 false]
def xO:HB:=.cells .own [.int .i64 1,.slc 236 0 3 3 1 false]
def xP:HB:=.cells .own [.str ⟨#[]⟩,.slc 245 0 2 2 1 false,.slc 244 0 2 2 1 false,.slc 243 0 2 2 2 false,.slc 242 0 1 1 2 false,.int .i64 0,.str ⟨#[]⟩,.slc 240 0 2 2 1 false,.slc 239 0 2 2 1 false,.slc 238 0 2 2 2 false,.slc 237 0 1 1 2 false,.int .i64 0,.str ⟨#[]⟩,.slc 235 0 2 2 1 false,.slc 234 0 2 2 1 false,.slc 233 0 2 2 2 false,.slc 232 0 1 1 2 false,.int .i64 0,.str ⟨#[]⟩,.slc 230 0 2 2 1 false,.slc 229 0 2 2 1 false,.slc 228 0 2 2 2 false,.slc 227 0 1 1 2 false,.int .i64 0]
def Hu:HB:=.cells .grow [.slc 279 0 2 2 1 false,.slc 278 0 2 2 1 false,.slc 277 0 1 1 2 false,.nil .slc,.int .i64 (-1),.slc 276 0 2 2 1 false,.slc 275 0 2 2 1 false,.slc 274 0 2 2 2 false,.slc 273 0 1 1 2 false,.int .i64 0,.slc 271 0 2 2 1 false,.slc 270 0 2 2 1 false,.slc 269 0 1 1 2 false,.nil .slc,.int .i64 (-1)]
def Hw:HB:=.cells .grow [.str ⟨#[]⟩,.slc 193 0 2 2 1 false,.slc 192 0 2 2 1 false,.slc 191 0 2 2 2 false,.slc 190 0 1 1 2 false,.int .i64 0,.str ⟨#[]⟩,.slc 188 0 2 2 1 false,.slc 187 0 2 2 1 false,.slc 186 0 2 2 2 false,.slc 185 0 1 1 2 false,.int .i64 0]
def Hy:HB:=.cells .grow [.str ⟨#[]⟩,.slc 261 0 2 2 1 false,.slc 260 0 2 2 1 false,.slc 259 0 2 2 2 false,.slc 258 0 1 1 2 false,.int .i64 0,.str ⟨#[]⟩,.slc 256 0 2 2 1 false,.slc 255 0 2 2 1 false,.slc 254 0 2 2 2 false,.slc 253 0 1 1 2 false,.int .i64 0]
def Hz:HB:=.cells .own [.int .i64 0,.slc 189 0 2 2 1 false]
def HY:HB:=.cells .own [.int .i64 0,.slc 195 0 2 2 1 false]
def I4:HB:=.cells .own [.int .i64 0,.slc 257 0 2 2 1 false]
def I5:HB:=.cells .own [.int .i64 0,.slc 263 0 2 2 1 false]
def I7:HB:=.cells .own [.int .i64 0,.slc 272 0 2 2 1 false]
def I8:HB:=.cells .own [.int .i64 1,.slc 184 0 3 3 1 false]
def I9:HB:=.cells .own [.int .i64 1,.slc 252 0 3 3 1 false]
def NT:HB:=.cells .own [.slc 182 0 2 2 1 false,.slc 183 0 2 2 1 false,.slc 194 0 2 2 6 false,.slc 199 0 2 2 1 false,.slc 198 0 2 2 1 false,.slc 197 0 2 2 2 false,.slc 196 0 1 1 2 false,.int .i64 0,.map 201]
def NU:HB:=.cells .own [.slc 250 0 2 2 1 false,.slc 251 0 2 2 1 false,.slc 262 0 2 2 6 false,.slc 267 0 2 2 1 false,.slc 266 0 2 2 1 false,.slc 265 0 2 2 2 false,.slc 264 0 1 1 2 false,.int .i64 0,.map 281]
def RJ:HB:=.cells .own [.int .i64 1]
def RN:HB:=.cells .own [.slc 205 0 2 2 1 false,.slc 204 0 2 2 1 false,.slc 203 0 1 1 2 true,.nil .slc,.int .i64 (-1)]
def RP:HB:=.cells .own [.slc 285 0 2 2 1 false,.slc 284 0 2 2 1 false,.slc 283 0 1 1 2 true,.nil .slc,.int .i64 (-1)]
def U8:HB:=.cells .own [.int .i64 0,.slc 207 0 2 2 1 true]
def U9:HB:=.cells .own [.int .i64 0,.slc 287 0 2 2 1 true]
def Vj:HB:=.cells .own [.int .i64 0,.slc 250 0 2 2 1 false]
def X4:HB:=.cells .own [.int .i64 0,.slc 212 0 2 2 1 true]
def X5:HB:=.cells .own [.int .i64 0,.slc 255 0 2 2 1 false]
def X6:HB:=.cells .own [.int .i64 0,.slc 270 0 2 2 1 false]
def X7:HB:=.cells .own [.int .i64 0,.slc 292 0 2 2 1 true]
def X8:HB:=.cells .own [.int .i64 1,.slc 260 0 3 3 1 false]
def X9:HB:=.cells .own [.int .i64 1,.slc 265 0 3 3 1 false]
def Xa:HB:=.cells .own [.str ⟨#[]⟩,.slc 274 0 2 2 1 false,.slc 273 0 2 2 1 false,.slc 272 0 2 2 2 false,.slc 271 0 1 1 2 false,.int .i64 0,.str ⟨#[]⟩,.slc 269 0 2 2 1 false,.slc 268 0 2 2 1 false,.slc 267 0 2 2 2 false,.slc 266 0 1 1 2 false,.int .i64 0,.str ⟨#[]⟩,.slc 264 0 2 2 1 false,.slc 263 0 2 2 1 false,.slc 262 0 2 2 2 false,.slc 261 0 1 1 2 false,.int .i64 0,.str ⟨#[]⟩,.slc 259 0 2 2 1 false,.slc 258 0 2 2 1 false,.slc 257 0 2 2 2 false,.slc 256 0 1 1 2 false,.int .i64 0]
def XM:HB:=.cells .grow [.str ⟨#[]⟩,.slc 169 0 2 2 1 false,.slc 168 0 2 2 1 false,.slc 167 0 2 2 2 false,.slc 166 0 1 1 2 false,.int .i64 0,.str ⟨#[]⟩,.slc 164 0 2 2 1 false,.slc 163 0 2 2 1 false,.slc 162 0 2 2 2 false,.slc 161 0 1 1 2 false,.int .i64 0,.str ⟨#[]⟩,.slc 159 0 2 2 1 false,.slc 158 0 2 2 1 false,.slc 157 0 2 2 2 false,.slc 156 0 1 1 2 false,.int .i64 0,.str ⟨#[]⟩,.slc 154 0 2 2 1 false,.slc 153 0 2 2 1 false,.slc 152 0 2 2 2 false,.slc 151 0 1 1 2 false,.int .i64 0]
def XO:HB:=.cells .grow [.str ⟨#[]⟩,.slc 49 0 2 2 1 false,.slc 48 0 2 2 1 false,.slc 47 0 2 2 2 false,.slc 46 0 1 1 2 false,.int .i64 0,.str ⟨#[]⟩,.slc 44 0 2 2 1 false,.slc 43 0 2 2 1 false,.slc 42 0 2 2 2 false,.slc 41 0 1 1 2 false,.int .i64 0,.str ⟨#[]⟩,.slc 39 0 2 2 1 false,.slc 38 0 2 2 1 false,.slc 37 0 2 2 2 false,.slc 36 0 1 1 2 false,.int .i64 0,.str ⟨#[]⟩,.slc 34 0 2 2 1 false,.slc 33 0 2 2 1 false,.slc 32 0 2 2 2 false,.slc 31 0 1 1 2 false,.int .i64 0]
def XP:HB:=.cells .grow [.str ⟨#[]⟩,.slc 78 0 2 2 1 false,.slc 77 0 2 2 1 false,.slc 76 0 2 2 2 false,.slc 75 0 1 1 2 false,.int .i64 0,.str ⟨#[]⟩,.slc 73 0 2 2 1 false,.slc 72 0 2 2 1 false,.slc 71 0 2 2 2 false,.slc 70 0 1 1 2 false,.int .i64 0,.str ⟨#[]⟩,.slc 68 0 2 2 1 false,.slc 67 0 2 2 1 false,.slc 66 0 2 2 2 false,.slc 65 0 1 1 2 false,.int .i64 0,.str ⟨#[]⟩,.slc 63 0 2 2 1 false,.slc 62 0 2 2 1 false,.slc 61 0 2 2 2 false,.slc 60 0 1 1 2 false,.int .i64 0]
def XQ:HB:=.cells .own [.int .i64 0,.slc 150 0 2 2 1 false]
def XR:HB:=.cells .own [.int .i64 0,.slc 165 0 2 2 1 false]
def XT:HB:=.cells .own [.int .i64 0,.slc 30 0 2 2 1 false]
def XU:HB:=.cells .own [.int .i64 0,.slc 45 0 2 2 1 false]
def XV:HB:=.cells .own [.int .i64 0,.slc 59 0 2 2 1 false]
def XW:HB:=.cells .own [.int .i64 0,.slc 74 0 2 2 1 false]
def XY:HB:=.cells .own [.int .i64 1,.slc 155 0 3 3 1 false]
def XZ:HB:=.cells .own [.int .i64 1,.slc 160 0 3 3 1 false]
def Y0:HB:=.cells .own [.int .i64 1,.slc 35 0 3 3 1 false]
def Y1:HB:=.cells .own [.int .i64 1,.slc 40 0 3 3 1 false]
def Y2:HB:=.cells .own [.int .i64 1,.slc 64 0 3 3 1 false]
def Y3:HB:=.cells .own [.int .i64 1,.slc 69 0 3 3 1 false]
def Y4:HB:=.cells .own [.slc 205 0 2 2 1 false,.slc 204 0 2 2 1 false,.slc 203 0 1 1 2 true,.nil .slc,.int .i64 (-1),.slc 216 0 2 2 1 false,.slc 215 0 2 2 1 false,.slc 214 0 2 2 2 false,.slc 213 0 1 1 2 false,.int .i64 0]
def Y5:HB:=.cells .own [.slc 216 0 2 2 1 false,.slc 215 0 2 2 1 false,.slc 214 0 2 2 2 false,.slc 213 0 1 1 2 false,.int .i64 0]
def Y6:HB:=.cells .own [.slc 285 0 2 2 1 false,.slc 284 0 2 2 1 false,.slc 283 0 1 1 2 true,.nil .slc,.int .i64 (-1),.slc 296 0 2 2 1 false,.slc 295 0 2 2 1 false,.slc 294 0 2 2 2 false,.slc 293 0 1 1 2 false,.int .i64 0]
def Y7:HB:=.cells .own [.slc 296 0 2 2 1 false,.slc 295 0 2 2 1 false,.slc 294 0 2 2 2 false,.slc 293 0 1 1 2 false,.int .i64 0]
def Z0y:HB:=.cells .own [.int .i64 0,.slc 219 0 2 2 1 true]
def Z0z:HB:=.cells .own [.int .i64 0,.slc 299 0 2 2 1 true]
def Z10:HB:=.cells .grow [.slc 308 0 2 2 1 false,.slc 307 0 2 2 1 false,.slc 306 0 1 1 2 false,.nil .slc,.int .i64 (-1),.slc 305 0 2 2 1 false,.slc 304 0 2 2 1 false,.slc 303 0 2 2 2 false,.slc 302 0 1 1 2 false,.int .i64 0,.slc 300 0 2 2 1 false,.slc 299 0 2 2 1 false,.slc 298 0 1 1 2 false,.nil .slc,.int .i64 (-1)]
def Z11:HB:=.cells .grow [.str ⟨#[]⟩,.slc 104 0 2 2 1 false,.slc 103 0 2 2 1 false,.slc 102 0 2 2 2 false,.slc 101 0 1 1 2 false,.int .i64 0,.str ⟨#[]⟩,.slc 99 0 2 2 1 false,.slc 98 0 2 2 1 false,.slc 97 0 2 2 2 false,.slc 96 0 1 1 2 false,.int .i64 0,.str ⟨#[]⟩,.slc 94 0 2 2 1 false,.slc 93 0 2 2 1 false,.slc 92 0 2 2 2 false,.slc 91 0 1 1 2 false,.int .i64 0]
def Z12:HB:=.cells .grow [.str ⟨#[]⟩,.slc 130 0 2 2 1 false,.slc 129 0 2 2 1 false,.slc 128 0 2 2 2 false,.slc 127 0 1 1 2 false,.int .i64 0,.str ⟨#[]⟩,.slc 125 0 2 2 1 false,.slc 124 0 2 2 1 false,.slc 123 0 2 2 2 false,.slc 122 0 1 1 2 false,.int .i64 0]
def Z13:HB:=.cells .grow [.str ⟨#[]⟩,.slc 290 0 2 2 1 false,.slc 289 0 2 2 1 false,.slc 288 0 2 2 2 false,.slc 287 0 1 1 2 false,.int .i64 0,.str ⟨#[]⟩,.slc 285 0 2 2 1 false,.slc 284 0 2 2 1 false,.slc 283 0 2 2 2 false,.slc 282 0 1 1 2 false,.int .i64 0]
def Z14:HB:=.cells .own [.int .i64 0,.slc 100 0 2 2 1 false]
def Z15:HB:=.cells .own [.int .i64 0,.slc 106 0 2 2 1 false]
def Z16:HB:=.cells .own [.int .i64 0,.slc 126 0 2 2 1 false]
def Z17:HB:=.cells .own [.int .i64 0,.slc 132 0 2 2 1 false]
def Z18:HB:=.cells .own [.int .i64 0,.slc 286 0 2 2 1 false]
def Z19:HB:=.cells .own [.int .i64 0,.slc 292 0 2 2 1 false]
def Z1A:HB:=.cells .own [.int .i64 0,.slc 301 0 2 2 1 false]
def Z1B:HB:=.cells .own [.int .i64 1,.slc 121 0 3 3 1 false]
def Z1C:HB:=.cells .own [.int .i64 1,.slc 281 0 3 3 1 false]
def Z1D:HB:=.cells .own [.int .i64 1,.slc 90 0 3 3 1 false]
def Z1E:HB:=.cells .own [.int .i64 1,.slc 95 0 3 3 1 false]
def Z1F:HB:=.cells .own [.int .i64 0,.slc 224 0 2 2 1 true]
def Z1G:HB:=.cells .own [.int .i64 0,.slc 304 0 2 2 1 true]
def Z1H:HB:=.map [(.agg [.int .u64 10,.bool false],.bool true),(.agg [.int .u64 12,.bool false],.bool true),(.agg [.int .u64 3,.bool false],.bool true),(.agg [.int .u64 5,.bool false],.bool true)]
def Z1I:HB:=.cells .own [.slc 119 0 2 2 1 false,.slc 120 0 2 2 1 false,.slc 131 0 2 2 6 false,.slc 136 0 2 2 1 false,.slc 135 0 2 2 1 false,.slc 134 0 2 2 2 false,.slc 133 0 1 1 2 false,.int .i64 0,.map 137]
def Z1J:HB:=.cells .own [.slc 148 0 2 2 1 false,.slc 149 0 2 2 1 false,.slc 170 0 4 4 6 false,.slc 173 0 2 2 1 false,.slc 172 0 2 2 1 false,.slc 171 0 1 1 2 true,.nil .slc,.int .i64 (-1),.map 174]
def Z1K:HB:=.cells .own [.slc 279 0 2 2 1 false,.slc 280 0 2 2 1 false,.slc 291 0 2 2 6 false,.slc 296 0 2 2 1 false,.slc 295 0 2 2 1 false,.slc 294 0 2 2 2 false,.slc 293 0 1 1 2 false,.int .i64 0,.map 310]
def Z1L:HB:=.cells .own [.slc 28 0 2 2 1 false,.slc 29 0 2 2 1 false,.slc 50 0 4 4 6 false,.slc 53 0 2 2 1 false,.slc 52 0 2 2 1 false,.slc 51 0 1 1 2 true,.nil .slc,.int .i64 (-1),.map 54]
def Z1M:HB:=.cells .own [.slc 57 0 2 2 1 false,.slc 58 0 2 2 1 false,.slc 79 0 4 4 6 false,.slc 82 0 2 2 1 false,.slc 81 0 2 2 1 false,.slc 80 0 1 1 2 true,.nil .slc,.int .i64 (-1),.map 83]
def Z1N:HB:=.cells .own [.slc 88 0 2 2 1 false,.slc 89 0 2 2 1 false,.slc 105 0 3 3 6 false,.slc 110 0 2 2 1 false,.slc 109 0 2 2 1 false,.slc 108 0 2 2 2 false,.slc 107 0 1 1 2 false,.int .i64 0,.map 111]
def Z1O:HB:=.map [(.agg [.int .u64 2,.bool false],.bool true),(.agg [.int .u64 4,.bool false],.bool true),(.agg [.int .u64 3,.bool true],.bool true),(.agg [.int .u64 5,.bool true],.bool true)]
end Go.Proofs.YtjkgcifieggcpaaGreat
