/- Part 9 of a proof: closed runs of the given program, and the readings of its code that they use. -/
import Derived.Test.YtjkgcifieggcpaaGreatP07
set_option linter.constructorNameAsVariable false
set_option linter.unusedVariables false
set_option linter.unusedSimpArgs false
set_option linter.unusedSectionVars false
namespace Go.Proofs.YtjkgcifieggcpaaGreat
open Go Tw
def zo:eY:=⟨49,[],YC++[Z3,ZU,Z2,Z0,Z1,ZX,Z0,Z1,Z9,Z6,ZY],.agg [.slc 95 0 2 2 1 false,.slc 94 0 2 2 1 false,.slc 93 0 2 2 2 false,.slc 92 0 1 1 2 false,.int .i64 0],YC++[Z3,ZU,Z2,Z0,Z1,ZX,Z0,Z1,Z9,Z6,ZY,Z3,ZZ,Z2,Z0,Z1],[]⟩
def Fj:eY:=⟨48,[.int .i64 2,.agg [.slc 95 0 2 2 1 false,.slc 94 0 2 2 1 false,.slc 93 0 2 2 2 false,.slc 92 0 1 1 2 false,.int .i64 0]],YC++[Z3,ZU,Z2,Z0,Z1,ZX,Z0,Z1,Z9,Z6,ZY,Z3,ZZ,Z2,Z0,Z1],.agg [.slc 118 0 2 2 1 true,.slc 117 0 2 2 1 true,.slc 116 0 2 4 6 true,.slc 95 0 2 2 1 false,.slc 94 0 2 2 1 false,.slc 93 0 2 2 2 false,.slc 92 0 1 1 2 false,.int .i64 0],YK,[]⟩
def Ap:eY:=⟨21,[.slc 119 0 2 2 1 false,.slc 120 0 2 2 1 false,.slc 131 0 2 2 6 false],Y5++[ZA,Z0,Z1,Z12,Z7,Z17,ZA,Z0,Z1],.int .i64 0,Y5++[ZA,Z0,Z1,Z12,Z7,Z17,ZA,Z0,Z1],[]⟩
def uF:eY:=⟨112,[.slc 119 0 2 2 1 false,.slc 120 0 2 2 1 false,.slc 131 0 2 2 6 false,.agg [.slc 136 0 2 2 1 false,.slc 135 0 2 2 1 false,.slc 134 0 2 2 2 false,.slc 133 0 1 1 2 false,.int .i64 0]],Y5++[ZA,Z0,Z1,Z12,Z7,Z17,ZA,Z0,Z1],.bH [.ptr 138 0 9,.int .i64 0],Y5++[ZA,Z0,Z1,Z12,Z7,Z17,ZA,Z0,Z1,Jo,Z1I],[]⟩
theorem Yz:jA Tryz.prog T0 4096 60 (.fn 49 [] []) zo.xs zo.h=some zo.r:=by kernel_rfl
theorem a2T:jA Tryz.prog T0 4096 60 (.fn 48 [] []) Fj.xs Fj.h=some Fj.r:=by kernel_rfl
theorem Wh:jA Tryz.prog T0 4096 60 (.fn 21 [] []) Ap.xs Ap.h=some Ap.r:=by kernel_rfl
theorem mx4:Tryz.prog.follows .mixedOrders=true:=by kernel_rfl
def eC4:ay:=fun f xs h=>(bD [Ap] f xs h).orElse fun _=>zi f xs h
theorem a2U:aj Tryz.prog eC4:=aj.or (aU (dF (T:=T0) mx4 (bI mx4) 60) (List.forall_mem_cons.2 ⟨Wh,(List.forall_mem_nil _)⟩)) (bI mx4)
def TC4:Tw.iF:={ T0 with exts:=[21]++T0.exts,ext:=eC4 }
theorem Wi:jA Tryz.prog TC4 4096 60 (.fn 112 [] []) uF.xs uF.h=some uF.r:=by kernel_rfl
theorem kA4:aj Tryz.prog (bD [zo,Fj,Ap]):=aU (dF (T:=T0) mx4 (bI mx4) 60) (List.forall_mem_cons.2 ⟨Yz,(List.forall_mem_cons.2 ⟨a2T,(List.forall_mem_cons.2 ⟨Wh,(List.forall_mem_nil _)⟩)⟩)⟩)
theorem kW4:aj Tryz.prog (bD [uF]):=aU (dF (T:=TC4) mx4 a2U 60) (List.forall_mem_cons.2 ⟨Wi,(List.forall_mem_nil _)⟩)
end Go.Proofs.YtjkgcifieggcpaaGreat
