/- Part 8 of a proof: closed runs of the given program, and the readings of its code that they use. -/
import Derived.Test.YtjkgcifieggcpaaGreatP06
set_option linter.constructorNameAsVariable false
set_option linter.unusedVariables false
set_option linter.unusedSimpArgs false
set_option linter.unusedSectionVars false
namespace Go.Proofs.YtjkgcifieggcpaaGreat
open Go Tw
def vM:dR:=⟨49,[],[Z3,ZB,Z2,Z0,Z1,Z3,ZE,Z4,Z0,Z1,Z5,ZF,Z2,Z0,Z1,Z5,ZG,Z4,Z0,Z1,Z3,ZD,Z2,Z0,Z1,ZH,Z0,Z1,Z8,Z3,ZJ,Z2,Z0,Z1,Z3,ZK,Z4,Z0,Z1,Z5,ZM,Z2,Z0,Z1,Z5,ZN,Z4,Z0,Z1,Z3,ZL,Z2,Z0,Z1,ZO,Z0,Z1,Z9,Z8,ZR],.agg [.slc 64 0 2 2 1 false,.slc 63 0 2 2 1 false,.slc 62 0 2 2 2 false,.slc 61 0 1 1 2 false,.int .i64 0],[Z3,ZB,Z2,Z0,Z1,Z3,ZE,Z4,Z0,Z1,Z5,ZF,Z2,Z0,Z1,Z5,ZG,Z4,Z0,Z1,Z3,ZD,Z2,Z0,Z1,ZH,Z0,Z1,Z8,Z3,ZJ,Z2,Z0,Z1,Z3,ZK,Z4,Z0,Z1,Z5,ZM,Z2,Z0,Z1,Z5,ZN,Z4,Z0,Z1,Z3,ZL,Z2,Z0,Z1,ZO,Z0,Z1,Z9,Z8,ZR,Z3,ZS,Z2,Z0,Z1],[]⟩
def Ce:dR:=⟨48,[.int .i64 3,.agg [.slc 64 0 2 2 1 false,.slc 63 0 2 2 1 false,.slc 62 0 2 2 2 false,.slc 61 0 1 1 2 false,.int .i64 0]],[Z3,ZB,Z2,Z0,Z1,Z3,ZE,Z4,Z0,Z1,Z5,ZF,Z2,Z0,Z1,Z5,ZG,Z4,Z0,Z1,Z3,ZD,Z2,Z0,Z1,ZH,Z0,Z1,Z8,Z3,ZJ,Z2,Z0,Z1,Z3,ZK,Z4,Z0,Z1,Z5,ZM,Z2,Z0,Z1,Z5,ZN,Z4,Z0,Z1,Z3,ZL,Z2,Z0,Z1,ZO,Z0,Z1,Z9,Z8,ZR,Z3,ZS,Z2,Z0,Z1],.agg [.slc 87 0 2 2 1 true,.slc 86 0 2 2 1 true,.slc 85 0 3 4 6 true,.slc 64 0 2 2 1 false,.slc 63 0 2 2 1 false,.slc 62 0 2 2 2 false,.slc 61 0 1 1 2 false,.int .i64 0],[Z3,ZB,Z2,Z0,Z1,Z3,ZE,Z4,Z0,Z1,Z5,ZF,Z2,Z0,Z1,Z5,ZG,Z4,Z0,Z1,Z3,ZD,Z2,Z0,Z1,ZH,Z0,Z1,Z8,Z3,ZJ,Z2,Z0,Z1,Z3,ZK,Z4,Z0,Z1,Z5,ZM,Z2,Z0,Z1,Z5,ZN,Z4,Z0,Z1,Z3,ZL,Z2,Z0,Z1,ZO,Z0,Z1,Z9,Z8,ZR,Z3,ZS,Z2,Z0,Z1,Z3,ZT,Z4,Z0,Z1,Z5,ZV,Z2,Z0,Z1,Z5,ZW,Z4,Z0,Z1,Z3,ZU,Z2,Z0,Z1,ZX,Z0,Z1],[]⟩
def xU:dR:=⟨21,[.slc 88 0 2 2 1 false,.slc 89 0 2 2 1 false,.slc 105 0 3 3 6 false],[Z3,ZB,Z2,Z0,Z1,Z3,ZE,Z4,Z0,Z1,Z5,ZF,Z2,Z0,Z1,Z5,ZG,Z4,Z0,Z1,Z3,ZD,Z2,Z0,Z1,ZH,Z0,Z1,Z8,Z3,ZJ,Z2,Z0,Z1,Z3,ZK,Z4,Z0,Z1,Z5,ZM,Z2,Z0,Z1,Z5,ZN,Z4,Z0,Z1,Z3,ZL,Z2,Z0,Z1,ZO,Z0,Z1,Z9,Z8,ZR,Z3,ZS,Z2,Z0,Z1,Z3,ZT,Z4,Z0,Z1,Z5,ZV,Z2,Z0,Z1,Z5,ZW,Z4,Z0,Z1,Z3,ZU,Z2,Z0,Z1,ZX,Z0,Z1,Z1,Z0,ZP,Z1D,ZA,Z0,Z1,ZP,Z1E,ZQ,Z0,Z1,Z7,Z14,ZA,Z0,Z1,Z11,Z7,Z15,ZA,Z0,Z1],.int .i64 0,[Z3,ZB,Z2,Z0,Z1,Z3,ZE,Z4,Z0,Z1,Z5,ZF,Z2,Z0,Z1,Z5,ZG,Z4,Z0,Z1,Z3,ZD,Z2,Z0,Z1,ZH,Z0,Z1,Z8,Z3,ZJ,Z2,Z0,Z1,Z3,ZK,Z4,Z0,Z1,Z5,ZM,Z2,Z0,Z1,Z5,ZN,Z4,Z0,Z1,Z3,ZL,Z2,Z0,Z1,ZO,Z0,Z1,Z9,Z8,ZR,Z3,ZS,Z2,Z0,Z1,Z3,ZT,Z4,Z0,Z1,Z5,ZV,Z2,Z0,Z1,Z5,ZW,Z4,Z0,Z1,Z3,ZU,Z2,Z0,Z1,ZX,Z0,Z1,Z1,Z0,ZP,Z1D,ZA,Z0,Z1,ZP,Z1E,ZQ,Z0,Z1,Z7,Z14,ZA,Z0,Z1,Z11,Z7,Z15,ZA,Z0,Z1],[]⟩
def qw:dR:=⟨112,[.slc 88 0 2 2 1 false,.slc 89 0 2 2 1 false,.slc 105 0 3 3 6 false,.agg [.slc 110 0 2 2 1 false,.slc 109 0 2 2 1 false,.slc 108 0 2 2 2 false,.slc 107 0 1 1 2 false,.int .i64 0]],[Z3,ZB,Z2,Z0,Z1,Z3,ZE,Z4,Z0,Z1,Z5,ZF,Z2,Z0,Z1,Z5,ZG,Z4,Z0,Z1,Z3,ZD,Z2,Z0,Z1,ZH,Z0,Z1,Z8,Z3,ZJ,Z2,Z0,Z1,Z3,ZK,Z4,Z0,Z1,Z5,ZM,Z2,Z0,Z1,Z5,ZN,Z4,Z0,Z1,Z3,ZL,Z2,Z0,Z1,ZO,Z0,Z1,Z9,Z8,ZR,Z3,ZS,Z2,Z0,Z1,Z3,ZT,Z4,Z0,Z1,Z5,ZV,Z2,Z0,Z1,Z5,ZW,Z4,Z0,Z1,Z3,ZU,Z2,Z0,Z1,ZX,Z0,Z1,Z1,Z0,ZP,Z1D,ZA,Z0,Z1,ZP,Z1E,ZQ,Z0,Z1,Z7,Z14,ZA,Z0,Z1,Z11,Z7,Z15,ZA,Z0,Z1],.bf [.ptr 112 0 9,.int .i64 0],[Z3,ZB,Z2,Z0,Z1,Z3,ZE,Z4,Z0,Z1,Z5,ZF,Z2,Z0,Z1,Z5,ZG,Z4,Z0,Z1,Z3,ZD,Z2,Z0,Z1,ZH,Z0,Z1,Z8,Z3,ZJ,Z2,Z0,Z1,Z3,ZK,Z4,Z0,Z1,Z5,ZM,Z2,Z0,Z1,Z5,ZN,Z4,Z0,Z1,Z3,ZL,Z2,Z0,Z1,ZO,Z0,Z1,Z9,Z8,ZR,Z3,ZS,Z2,Z0,Z1,Z3,ZT,Z4,Z0,Z1,Z5,ZV,Z2,Z0,Z1,Z5,ZW,Z4,Z0,Z1,Z3,ZU,Z2,Z0,Z1,ZX,Z0,Z1,Z1,Z0,ZP,Z1D,ZA,Z0,Z1,ZP,Z1E,ZQ,Z0,Z1,Z7,Z14,ZA,Z0,Z1,Z11,Z7,Z15,ZA,Z0,Z1,Z1O,Z1N],[]⟩
theorem Uc:iL Tryz.prog T0 4096 60 (.fn 49 [] []) vM.xs vM.h=some vM.r:=by kernel_rfl
theorem Xi:iL Tryz.prog T0 4096 60 (.fn 48 [] []) Ce.xs Ce.h=some Ce.r:=by kernel_rfl
theorem QU:iL Tryz.prog T0 4096 60 (.fn 21 [] []) xU.xs xU.h=some xU.r:=by kernel_rfl
theorem Y9:Tryz.prog.follows .mixedOrders=true:=by kernel_rfl
def eC3:ay:=fun f xs h=>(aW [xU] f xs h).orElse fun _=>vI f xs h
theorem Xj:aj Tryz.prog eC3:=aj.or (aN (bW (T:=T0) Y9 (bn Y9) 60) (List.forall_mem_cons.2 ⟨QU,(List.forall_mem_nil _)⟩)) (bn Y9)
def TC3:Tw.Tab:={ T0 with exts:=[21]++T0.exts,ext:=eC3 }
theorem QV:iL Tryz.prog TC3 4096 60 (.fn 112 [] []) qw.xs qw.h=some qw.r:=by kernel_rfl
theorem kA3:aj Tryz.prog (aW [vM,Ce,xU]):=aN (bW (T:=T0) Y9 (bn Y9) 60) (List.forall_mem_cons.2 ⟨Uc,(List.forall_mem_cons.2 ⟨Xi,(List.forall_mem_cons.2 ⟨QU,(List.forall_mem_nil _)⟩)⟩)⟩)
theorem kW3:aj Tryz.prog (aW [qw]):=aN (bW (T:=TC3) Y9 Xj 60) (List.forall_mem_cons.2 ⟨QV,(List.forall_mem_nil _)⟩)
end Go.Proofs.YtjkgcifieggcpaaGreat
