/- Part 6 of a proof: closed runs of the given program, and the readings of its code that they use. -/
import Derived.Test.YtjkgcifieggcpaaGreatP04
set_option linter.constructorNameAsVariable false
set_option linter.unusedVariables false
set_option linter.unusedSimpArgs false
set_option linter.unusedSectionVars false
namespace Go.Proofs.YtjkgcifieggcpaaGreat
open Go Tw
def vJ:dR:=⟨49,[],[],.agg [.slc 4 0 2 2 1 false,.slc 3 0 2 2 1 false,.slc 2 0 2 2 2 false,.slc 1 0 1 1 2 false,.int .i64 0],[Z3,ZB,Z2,Z0,Z1],[]⟩
def BZ:dR:=⟨48,[.int .i64 4,.agg [.slc 4 0 2 2 1 false,.slc 3 0 2 2 1 false,.slc 2 0 2 2 2 false,.slc 1 0 1 1 2 false,.int .i64 0]],[Z3,ZB,Z2,Z0,Z1],.agg [.slc 27 0 2 2 1 true,.slc 26 0 2 2 1 true,.slc 25 0 4 4 6 true,.slc 4 0 2 2 1 false,.slc 3 0 2 2 1 false,.slc 2 0 2 2 2 false,.slc 1 0 1 1 2 false,.int .i64 0],[Z3,ZB,Z2,Z0,Z1,Z3,ZE,Z4,Z0,Z1,Z5,ZF,Z2,Z0,Z1,Z5,ZG,Z4,Z0,Z1,Z3,ZD,Z2,Z0,Z1,ZH,Z0,Z1],[]⟩
def C9:dR:=⟨21,[.slc 28 0 2 2 1 false,.slc 29 0 2 2 1 false,.slc 50 0 4 4 6 false],[Z3,ZB,Z2,Z0,Z1,Z3,ZE,Z4,Z0,Z1,Z5,ZF,Z2,Z0,Z1,Z5,ZG,Z4,Z0,Z1,Z3,ZD,Z2,Z0,Z1,ZH,Z0,Z1,Z1,Z0,Z7,XT,ZQ,Z0,Z1,ZP,Y0,ZA,Z0,Z1,ZP,Y1,ZQ,Z0,Z1,Z7,XU,ZA,Z0,Z1,XO],.int .i64 0,[Z3,ZB,Z2,Z0,Z1,Z3,ZE,Z4,Z0,Z1,Z5,ZF,Z2,Z0,Z1,Z5,ZG,Z4,Z0,Z1,Z3,ZD,Z2,Z0,Z1,ZH,Z0,Z1,Z1,Z0,Z7,XT,ZQ,Z0,Z1,ZP,Y0,ZA,Z0,Z1,ZP,Y1,ZQ,Z0,Z1,Z7,XU,ZA,Z0,Z1,XO],[]⟩
def xQ:dR:=⟨21,[.slc 28 0 2 2 1 false,.slc 29 0 2 2 1 false,.slc 50 0 4 4 6 false],[Z3,ZB,Z2,Z0,Z1,Z3,ZE,Z4,Z0,Z1,Z5,ZF,Z2,Z0,Z1,Z5,ZG,Z4,Z0,Z1,Z3,ZD,Z2,Z0,Z1,ZH,Z0,Z1,Z1,Z0,Z7,XT,ZQ,Z0,Z1,ZP,Y0,ZA,Z0,Z1,ZP,Y1,ZQ,Z0,Z1,Z7,XU,ZA,Z0,Z1,XO,ZI,Z0,Z1],.int .i64 0,[Z3,ZB,Z2,Z0,Z1,Z3,ZE,Z4,Z0,Z1,Z5,ZF,Z2,Z0,Z1,Z5,ZG,Z4,Z0,Z1,Z3,ZD,Z2,Z0,Z1,ZH,Z0,Z1,Z1,Z0,Z7,XT,ZQ,Z0,Z1,ZP,Y0,ZA,Z0,Z1,ZP,Y1,ZQ,Z0,Z1,Z7,XU,ZA,Z0,Z1,XO,ZI,Z0,Z1],[]⟩
def qo:dR:=⟨112,[.slc 28 0 2 2 1 false,.slc 29 0 2 2 1 false,.slc 50 0 4 4 6 false,.agg [.slc 53 0 2 2 1 false,.slc 52 0 2 2 1 false,.slc 51 0 1 1 2 true,.nil .slc,.int .i64 (-1)]],[Z3,ZB,Z2,Z0,Z1,Z3,ZE,Z4,Z0,Z1,Z5,ZF,Z2,Z0,Z1,Z5,ZG,Z4,Z0,Z1,Z3,ZD,Z2,Z0,Z1,ZH,Z0,Z1,Z1,Z0,Z7,XT,ZQ,Z0,Z1,ZP,Y0,ZA,Z0,Z1,ZP,Y1,ZQ,Z0,Z1,Z7,XU,ZA,Z0,Z1,XO,ZI,Z0,Z1],.bf [.ptr 55 0 9,.int .i64 0],[Z3,ZB,Z2,Z0,Z1,Z3,ZE,Z4,Z0,Z1,Z5,ZF,Z2,Z0,Z1,Z5,ZG,Z4,Z0,Z1,Z3,ZD,Z2,Z0,Z1,ZH,Z0,Z1,Z1,Z0,Z7,XT,ZQ,Z0,Z1,ZP,Y0,ZA,Z0,Z1,ZP,Y1,ZQ,Z0,Z1,Z7,XU,ZA,Z0,Z1,XO,ZI,Z0,Z1,Z1H,Z1L],[]⟩
theorem Ua:iL Tryz.prog T0 4096 60 (.fn 49 [] []) vJ.xs vJ.h=some vJ.r:=by kernel_rfl
theorem Xb:iL Tryz.prog T0 4096 60 (.fn 48 [] []) BZ.xs BZ.h=some BZ.r:=by kernel_rfl
theorem Xc:iL Tryz.prog T0 4096 60 (.fn 21 [] []) C9.xs C9.h=some C9.r:=by kernel_rfl
theorem QM:iL Tryz.prog T0 4096 60 (.fn 21 [] []) xQ.xs xQ.h=some xQ.r:=by kernel_rfl
theorem Xd:Tryz.prog.follows .mixedOrders=true:=by kernel_rfl
def eC1:ay:=fun f xs h=>(aW [xQ] f xs h).orElse fun _=>vI f xs h
theorem Xe:aj Tryz.prog eC1:=aj.or (aN (bW (T:=T0) Xd (bn Xd) 60) (List.forall_mem_cons.2 ⟨QM,(List.forall_mem_nil _)⟩)) (bn Xd)
def TC1:Tw.Tab:={ T0 with exts:=[21]++T0.exts,ext:=eC1 }
theorem QN:iL Tryz.prog TC1 4096 60 (.fn 112 [] []) qo.xs qo.h=some qo.r:=by kernel_rfl
theorem kA1:aj Tryz.prog (aW [vJ,BZ,C9,xQ]):=aN (bW (T:=T0) Xd (bn Xd) 60) (List.forall_mem_cons.2 ⟨Ua,(List.forall_mem_cons.2 ⟨Xb,(List.forall_mem_cons.2 ⟨Xc,(List.forall_mem_cons.2 ⟨QM,(List.forall_mem_nil _)⟩)⟩)⟩)⟩)
theorem kW1:aj Tryz.prog (aW [qo]):=aN (bW (T:=TC1) Xd Xe 60) (List.forall_mem_cons.2 ⟨QN,(List.forall_mem_nil _)⟩)
end Go.Proofs.YtjkgcifieggcpaaGreat
