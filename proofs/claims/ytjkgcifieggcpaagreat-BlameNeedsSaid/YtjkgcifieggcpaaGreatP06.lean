/- Part 7 of a proof: closed runs of the given program, and the readings of its code that they use. -/
import Derived.Test.YtjkgcifieggcpaaGreatP05
set_option linter.constructorNameAsVariable false
set_option linter.unusedVariables false
set_option linter.unusedSimpArgs false
set_option linter.unusedSectionVars false
namespace Go.Proofs.YtjkgcifieggcpaaGreat
open Go Tw
def vK:dR:=⟨49,[],[Z3,ZB,Z2,Z0,Z1,Z3,ZE,Z4,Z0,Z1,Z5,ZF,Z2,Z0,Z1,Z5,ZG,Z4,Z0,Z1,Z3,ZD,Z2,Z0,Z1,ZH,Z0,Z1,Z8],.agg [.slc 33 0 2 2 1 false,.slc 32 0 2 2 1 false,.slc 31 0 2 2 2 false,.slc 30 0 1 1 2 false,.int .i64 0],[Z3,ZB,Z2,Z0,Z1,Z3,ZE,Z4,Z0,Z1,Z5,ZF,Z2,Z0,Z1,Z5,ZG,Z4,Z0,Z1,Z3,ZD,Z2,Z0,Z1,ZH,Z0,Z1,Z8,Z3,ZJ,Z2,Z0,Z1],[]⟩
def Cb:dR:=⟨48,[.int .i64 4,.agg [.slc 33 0 2 2 1 false,.slc 32 0 2 2 1 false,.slc 31 0 2 2 2 false,.slc 30 0 1 1 2 false,.int .i64 0]],[Z3,ZB,Z2,Z0,Z1,Z3,ZE,Z4,Z0,Z1,Z5,ZF,Z2,Z0,Z1,Z5,ZG,Z4,Z0,Z1,Z3,ZD,Z2,Z0,Z1,ZH,Z0,Z1,Z8,Z3,ZJ,Z2,Z0,Z1],.agg [.slc 56 0 2 2 1 true,.slc 55 0 2 2 1 true,.slc 54 0 4 4 6 true,.slc 33 0 2 2 1 false,.slc 32 0 2 2 1 false,.slc 31 0 2 2 2 false,.slc 30 0 1 1 2 false,.int .i64 0],[Z3,ZB,Z2,Z0,Z1,Z3,ZE,Z4,Z0,Z1,Z5,ZF,Z2,Z0,Z1,Z5,ZG,Z4,Z0,Z1,Z3,ZD,Z2,Z0,Z1,ZH,Z0,Z1,Z8,Z3,ZJ,Z2,Z0,Z1,Z3,ZK,Z4,Z0,Z1,Z5,ZM,Z2,Z0,Z1,Z5,ZN,Z4,Z0,Z1,Z3,ZL,Z2,Z0,Z1,ZO,Z0,Z1],[]⟩
def Cc:dR:=⟨21,[.slc 57 0 2 2 1 false,.slc 58 0 2 2 1 false,.slc 79 0 4 4 6 false],[Z3,ZB,Z2,Z0,Z1,Z3,ZE,Z4,Z0,Z1,Z5,ZF,Z2,Z0,Z1,Z5,ZG,Z4,Z0,Z1,Z3,ZD,Z2,Z0,Z1,ZH,Z0,Z1,Z8,Z3,ZJ,Z2,Z0,Z1,Z3,ZK,Z4,Z0,Z1,Z5,ZM,Z2,Z0,Z1,Z5,ZN,Z4,Z0,Z1,Z3,ZL,Z2,Z0,Z1,ZO,Z0,Z1,Z1,Z0,Z7,XV,ZQ,Z0,Z1,ZP,Y2,ZA,Z0,Z1,ZP,Y3,ZQ,Z0,Z1,Z7,XW,ZA,Z0,Z1,XP],.int .i64 0,[Z3,ZB,Z2,Z0,Z1,Z3,ZE,Z4,Z0,Z1,Z5,ZF,Z2,Z0,Z1,Z5,ZG,Z4,Z0,Z1,Z3,ZD,Z2,Z0,Z1,ZH,Z0,Z1,Z8,Z3,ZJ,Z2,Z0,Z1,Z3,ZK,Z4,Z0,Z1,Z5,ZM,Z2,Z0,Z1,Z5,ZN,Z4,Z0,Z1,Z3,ZL,Z2,Z0,Z1,ZO,Z0,Z1,Z1,Z0,Z7,XV,ZQ,Z0,Z1,ZP,Y2,ZA,Z0,Z1,ZP,Y3,ZQ,Z0,Z1,Z7,XW,ZA,Z0,Z1,XP],[]⟩
def xR:dR:=⟨21,[.slc 57 0 2 2 1 false,.slc 58 0 2 2 1 false,.slc 79 0 4 4 6 false],[Z3,ZB,Z2,Z0,Z1,Z3,ZE,Z4,Z0,Z1,Z5,ZF,Z2,Z0,Z1,Z5,ZG,Z4,Z0,Z1,Z3,ZD,Z2,Z0,Z1,ZH,Z0,Z1,Z8,Z3,ZJ,Z2,Z0,Z1,Z3,ZK,Z4,Z0,Z1,Z5,ZM,Z2,Z0,Z1,Z5,ZN,Z4,Z0,Z1,Z3,ZL,Z2,Z0,Z1,ZO,Z0,Z1,Z1,Z0,Z7,XV,ZQ,Z0,Z1,ZP,Y2,ZA,Z0,Z1,ZP,Y3,ZQ,Z0,Z1,Z7,XW,ZA,Z0,Z1,XP,ZI,Z0,Z1],.int .i64 0,[Z3,ZB,Z2,Z0,Z1,Z3,ZE,Z4,Z0,Z1,Z5,ZF,Z2,Z0,Z1,Z5,ZG,Z4,Z0,Z1,Z3,ZD,Z2,Z0,Z1,ZH,Z0,Z1,Z8,Z3,ZJ,Z2,Z0,Z1,Z3,ZK,Z4,Z0,Z1,Z5,ZM,Z2,Z0,Z1,Z5,ZN,Z4,Z0,Z1,Z3,ZL,Z2,Z0,Z1,ZO,Z0,Z1,Z1,Z0,Z7,XV,ZQ,Z0,Z1,ZP,Y2,ZA,Z0,Z1,ZP,Y3,ZQ,Z0,Z1,Z7,XW,ZA,Z0,Z1,XP,ZI,Z0,Z1],[]⟩
def qp:dR:=⟨112,[.slc 57 0 2 2 1 false,.slc 58 0 2 2 1 false,.slc 79 0 4 4 6 false,.agg [.slc 82 0 2 2 1 false,.slc 81 0 2 2 1 false,.slc 80 0 1 1 2 true,.nil .slc,.int .i64 (-1)]],[Z3,ZB,Z2,Z0,Z1,Z3,ZE,Z4,Z0,Z1,Z5,ZF,Z2,Z0,Z1,Z5,ZG,Z4,Z0,Z1,Z3,ZD,Z2,Z0,Z1,ZH,Z0,Z1,Z8,Z3,ZJ,Z2,Z0,Z1,Z3,ZK,Z4,Z0,Z1,Z5,ZM,Z2,Z0,Z1,Z5,ZN,Z4,Z0,Z1,Z3,ZL,Z2,Z0,Z1,ZO,Z0,Z1,Z1,Z0,Z7,XV,ZQ,Z0,Z1,ZP,Y2,ZA,Z0,Z1,ZP,Y3,ZQ,Z0,Z1,Z7,XW,ZA,Z0,Z1,XP,ZI,Z0,Z1],.bf [.ptr 84 0 9,.int .i64 0],[Z3,ZB,Z2,Z0,Z1,Z3,ZE,Z4,Z0,Z1,Z5,ZF,Z2,Z0,Z1,Z5,ZG,Z4,Z0,Z1,Z3,ZD,Z2,Z0,Z1,ZH,Z0,Z1,Z8,Z3,ZJ,Z2,Z0,Z1,Z3,ZK,Z4,Z0,Z1,Z5,ZM,Z2,Z0,Z1,Z5,ZN,Z4,Z0,Z1,Z3,ZL,Z2,Z0,Z1,ZO,Z0,Z1,Z1,Z0,Z7,XV,ZQ,Z0,Z1,ZP,Y2,ZA,Z0,Z1,ZP,Y3,ZQ,Z0,Z1,Z7,XW,ZA,Z0,Z1,XP,ZI,Z0,Z1,Z1H,Z1M],[]⟩
theorem Ub:iL Tryz.prog T0 4096 60 (.fn 49 [] []) vK.xs vK.h=some vK.r:=by kernel_rfl
theorem Xf:iL Tryz.prog T0 4096 60 (.fn 48 [] []) Cb.xs Cb.h=some Cb.r:=by kernel_rfl
theorem Xg:iL Tryz.prog T0 4096 60 (.fn 21 [] []) Cc.xs Cc.h=some Cc.r:=by kernel_rfl
theorem QO:iL Tryz.prog T0 4096 60 (.fn 21 [] []) xR.xs xR.h=some xR.r:=by kernel_rfl
theorem Y8:Tryz.prog.follows .mixedOrders=true:=by kernel_rfl
def eC2:ay:=fun f xs h=>(aW [xR] f xs h).orElse fun _=>vI f xs h
theorem Xh:aj Tryz.prog eC2:=aj.or (aN (bW (T:=T0) Y8 (bn Y8) 60) (List.forall_mem_cons.2 ⟨QO,(List.forall_mem_nil _)⟩)) (bn Y8)
def TC2:Tw.Tab:={ T0 with exts:=[21]++T0.exts,ext:=eC2 }
theorem QS:iL Tryz.prog TC2 4096 60 (.fn 112 [] []) qp.xs qp.h=some qp.r:=by kernel_rfl
theorem kA2:aj Tryz.prog (aW [vK,Cb,Cc,xR]):=aN (bW (T:=T0) Y8 (bn Y8) 60) (List.forall_mem_cons.2 ⟨Ub,(List.forall_mem_cons.2 ⟨Xf,(List.forall_mem_cons.2 ⟨Xg,(List.forall_mem_cons.2 ⟨QO,(List.forall_mem_nil _)⟩)⟩)⟩)⟩)
theorem kW2:aj Tryz.prog (aW [qp]):=aN (bW (T:=TC2) Y8 Xh 60) (List.forall_mem_cons.2 ⟨QS,(List.forall_mem_nil _)⟩)
end Go.Proofs.YtjkgcifieggcpaaGreat
