/- Part 9 of a proof: closed runs of the given program, and the readings of its code that they use. -/
import Derived.Test.YtjkgcifieggcpaaGreatP07
set_option linter.constructorNameAsVariable false
set_option linter.unusedVariables false
set_option linter.unusedSimpArgs false
set_option linter.unusedSectionVars false
namespace Go.Proofs.YtjkgcifieggcpaaGreat
open Go Tw
def zy:fA:=⟨49,[],YC++[Z3,ZU,Z2,Z0,Z1,ZX,Z0,Z1,Z9,Z6,ZY],.agg [.slc 95 0 2 2 1 false,.slc 94 0 2 2 1 false,.slc 93 0 2 2 2 false,.slc 92 0 1 1 2 false,.int .i64 0],YC++[Z3,ZU,Z2,Z0,Z1,ZX,Z0,Z1,Z9,Z6,ZY,Z3,ZZ,Z2,Z0,Z1],[]⟩
def Fz:fA:=⟨48,[.int .i64 2,.agg [.slc 95 0 2 2 1 false,.slc 94 0 2 2 1 false,.slc 93 0 2 2 2 false,.slc 92 0 1 1 2 false,.int .i64 0]],YC++[Z3,ZU,Z2,Z0,Z1,ZX,Z0,Z1,Z9,Z6,ZY,Z3,ZZ,Z2,Z0,Z1],.agg [.slc 118 0 2 2 1 true,.slc 117 0 2 2 1 true,.slc 116 0 2 4 6 true,.slc 95 0 2 2 1 false,.slc 94 0 2 2 1 false,.slc 93 0 2 2 2 false,.slc 92 0 1 1 2 false,.int .i64 0],YK,[]⟩
def Aw:fA:=⟨21,[.slc 119 0 2 2 1 false,.slc 120 0 2 2 1 false,.slc 131 0 2 2 6 false],Y5++[ZA,Z0,Z1,Z12,Z7,Z17,ZA,Z0,Z1],.int .i64 0,Y5++[ZA,Z0,Z1,Z12,Z7,Z17,ZA,Z0,Z1],[]⟩
def uG:fA:=⟨112,[.slc 119 0 2 2 1 false,.slc 120 0 2 2 1 false,.slc 131 0 2 2 6 false,.agg [.slc 136 0 2 2 1 false,.slc 135 0 2 2 1 false,.slc 134 0 2 2 2 false,.slc 133 0 1 1 2 false,.int .i64 0]],Y5++[ZA,Z0,Z1,Z12,Z7,Z17,ZA,Z0,Z1],.bH [.ptr 138 0 9,.int .i64 0],Y5++[ZA,Z0,Z1,Z12,Z7,Z17,ZA,Z0,Z1,Jr,Z1I],[]⟩
theorem YS:jA Tryz.prog T0 4096 60 (.fn 49 [] []) zy.xs zy.h=some zy.r:=by kernel_rfl
theorem a3c:jA Tryz.prog T0 4096 60 (.fn 48 [] []) Fz.xs Fz.h=some Fz.r:=by kernel_rfl
theorem Wv:jA Tryz.prog T0 4096 60 (.fn 21 [] []) Aw.xs Aw.h=some Aw.r:=by kernel_rfl
theorem mx4:Tryz.prog.follows .mixedOrders=true:=by kernel_rfl
def eC4:ay:=fun f xs h=>(bD [Aw] f xs h).orElse fun _=>zn f xs h
theorem a3d:aj Tryz.prog eC4:=aj.or (aV (dF (T:=T0) mx4 (bI mx4) 60) (List.forall_mem_cons.2 ⟨Wv,(List.forall_mem_nil _)⟩)) (bI mx4)
def TC4:Tw.iF:={ T0 with exts:=[21]++T0.exts,ext:=eC4 }
theorem Wx:jA Tryz.prog TC4 4096 60 (.fn 112 [] []) uG.xs uG.h=some uG.r:=by kernel_rfl
theorem kA4:aj Tryz.prog (bD [zy,Fz,Aw]):=aV (dF (T:=T0) mx4 (bI mx4) 60) (List.forall_mem_cons.2 ⟨YS,(List.forall_mem_cons.2 ⟨a3c,(List.forall_mem_cons.2 ⟨Wv,(List.forall_mem_nil _)⟩)⟩)⟩)
theorem kW4:aj Tryz.prog (bD [uG]):=aV (dF (T:=TC4) mx4 a3d 60) (List.forall_mem_cons.2 ⟨Wx,(List.forall_mem_nil _)⟩)
end Go.Proofs.YtjkgcifieggcpaaGreat
