/- Part 8 of a proof: closed runs of the given program, and the readings of its code that they use. -/
import Derived.Test.YtjkgcifieggcpaaGreatP06
set_option linter.constructorNameAsVariable false
set_option linter.unusedVariables false
set_option linter.unusedSimpArgs false
set_option linter.unusedSectionVars false
namespace Go.Proofs.YtjkgcifieggcpaaGreat
open Go Tw
def zu:fA:=⟨49,[],YE++[Z0,Z1,ZO,Z0,Z1,Z9,Z8,ZR],.agg [.slc 64 0 2 2 1 false,.slc 63 0 2 2 1 false,.slc 62 0 2 2 2 false,.slc 61 0 1 1 2 false,.int .i64 0],YE++[Z0,Z1,ZO,Z0,Z1,Z9,Z8,ZR,Z3,ZS,Z2,Z0,Z1],[]⟩
def Fv:fA:=⟨48,[.int .i64 3,.agg [.slc 64 0 2 2 1 false,.slc 63 0 2 2 1 false,.slc 62 0 2 2 2 false,.slc 61 0 1 1 2 false,.int .i64 0]],YE++[Z0,Z1,ZO,Z0,Z1,Z9,Z8,ZR,Z3,ZS,Z2,Z0,Z1],.agg [.slc 87 0 2 2 1 true,.slc 86 0 2 2 1 true,.slc 85 0 3 4 6 true,.slc 64 0 2 2 1 false,.slc 63 0 2 2 1 false,.slc 62 0 2 2 2 false,.slc 61 0 1 1 2 false,.int .i64 0],YC++[Z3,ZU,Z2,Z0,Z1,ZX,Z0,Z1],[]⟩
def Au:fA:=⟨21,[.slc 88 0 2 2 1 false,.slc 89 0 2 2 1 false,.slc 105 0 3 3 6 false],Y8++[Z7,Z14,ZA,Z0,Z1,Z11,Z7,Z15,ZA,Z0,Z1],.int .i64 0,Y8++[Z7,Z14,ZA,Z0,Z1,Z11,Z7,Z15,ZA,Z0,Z1],[]⟩
def uF:fA:=⟨112,[.slc 88 0 2 2 1 false,.slc 89 0 2 2 1 false,.slc 105 0 3 3 6 false,.agg [.slc 110 0 2 2 1 false,.slc 109 0 2 2 1 false,.slc 108 0 2 2 2 false,.slc 107 0 1 1 2 false,.int .i64 0]],Y8++[Z7,Z14,ZA,Z0,Z1,Z11,Z7,Z15,ZA,Z0,Z1],.bH [.ptr 112 0 9,.int .i64 0],Y8++[Z7,Z14,ZA,Z0,Z1,Z11,Z7,Z15,ZA,Z0,Z1,Z1O,Z1N],[]⟩
theorem YR:jA Tryz.prog T0 4096 60 (.fn 49 [] []) zu.xs zu.h=some zu.r:=by kernel_rfl
theorem a3a:jA Tryz.prog T0 4096 60 (.fn 48 [] []) Fv.xs Fv.h=some Fv.r:=by kernel_rfl
theorem Ws:jA Tryz.prog T0 4096 60 (.fn 21 [] []) Au.xs Au.h=some Au.r:=by kernel_rfl
theorem mx3:Tryz.prog.follows .mixedOrders=true:=by kernel_rfl
def eC3:ay:=fun f xs h=>(bD [Au] f xs h).orElse fun _=>zn f xs h
theorem a3b:aj Tryz.prog eC3:=aj.or (aV (dF (T:=T0) mx3 (bI mx3) 60) (List.forall_mem_cons.2 ⟨Ws,(List.forall_mem_nil _)⟩)) (bI mx3)
def TC3:Tw.iF:={ T0 with exts:=[21]++T0.exts,ext:=eC3 }
theorem Wu:jA Tryz.prog TC3 4096 60 (.fn 112 [] []) uF.xs uF.h=some uF.r:=by kernel_rfl
theorem kA3:aj Tryz.prog (bD [zu,Fv,Au]):=aV (dF (T:=T0) mx3 (bI mx3) 60) (List.forall_mem_cons.2 ⟨YR,(List.forall_mem_cons.2 ⟨a3a,(List.forall_mem_cons.2 ⟨Ws,(List.forall_mem_nil _)⟩)⟩)⟩)
theorem kW3:aj Tryz.prog (bD [uF]):=aV (dF (T:=TC3) mx3 a3b 60) (List.forall_mem_cons.2 ⟨Wu,(List.forall_mem_nil _)⟩)
end Go.Proofs.YtjkgcifieggcpaaGreat
