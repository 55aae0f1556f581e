/- Part 11 of a proof: closed runs of the given program, and the readings of its code that they use. -/
import Derived.Test.YtjkgcifieggcpaaGreatP09
set_option linter.constructorNameAsVariable false
set_option linter.unusedVariables false
set_option linter.unusedSimpArgs false
set_option linter.unusedSectionVars false
namespace Go.Proofs.YtjkgcifieggcpaaGreat
open Go Tw
def zu:eY:=⟨49,[],YJ++[Zr],.agg [.slc 157 0 2 2 1 false,.slc 156 0 2 2 1 false,.slc 155 0 2 2 2 false,.slc 154 0 1 1 2 false,.int .i64 0],YJ++[Zr,Z3,Zs,Z2,Z0,Z1],[]⟩
def Fz:eY:=⟨48,[.int .i64 2,.agg [.slc 157 0 2 2 1 false,.slc 156 0 2 2 1 false,.slc 155 0 2 2 2 false,.slc 154 0 1 1 2 false,.int .i64 0]],YJ++[Zr,Z3,Zs,Z2,Z0,Z1],.agg [.slc 180 0 2 2 1 true,.slc 179 0 2 2 1 true,.slc 178 0 2 4 6 true,.slc 157 0 2 2 1 false,.slc 156 0 2 2 1 false,.slc 155 0 2 2 2 false,.slc 154 0 1 1 2 false,.int .i64 0],Y3++[Z4,Z0,Z1,Z5,Zv,Z2,Z0,Z1,Z5,Zw,Z4,Z0,Z1,Z3,Zu,Z2,Z0,Z1,Zx,Z0,Z1],[]⟩
def Au:eY:=⟨21,[.slc 182 0 2 2 1 false,.slc 183 0 2 2 1 false,.slc 194 0 2 2 6 false],Y1++[Z6],.int .i64 0,Y1++[Z6],[]⟩
def uH:eY:=⟨112,[.slc 182 0 2 2 1 false,.slc 183 0 2 2 1 false,.slc 194 0 2 2 6 false,.agg [.slc 199 0 2 2 1 false,.slc 198 0 2 2 1 false,.slc 197 0 2 2 2 false,.slc 196 0 1 1 2 false,.int .i64 0]],Y1++[Z6],.bH [.ptr 202 0 9,.int .i64 0],Y1++[Z6,Jo,Z0Q],[]⟩
theorem YN:jA Tryz.prog T0 4096 60 (.fn 49 [] []) zu.xs zu.h=some zu.r:=by kernel_rfl
theorem a2Y:jA Tryz.prog T0 4096 60 (.fn 48 [] []) Fz.xs Fz.h=some Fz.r:=by kernel_rfl
theorem Wp:jA Tryz.prog T0 4096 60 (.fn 21 [] []) Au.xs Au.h=some Au.r:=by kernel_rfl
theorem mx6:Tryz.prog.follows .mixedOrders=true:=by kernel_rfl
def eC6:ay:=fun f xs h=>(bD [Au] f xs h).orElse fun _=>zi f xs h
theorem a2Z:aj Tryz.prog eC6:=aj.or (aU (dF (T:=T0) mx6 (bI mx6) 60) (List.forall_mem_cons.2 ⟨Wp,(List.forall_mem_nil _)⟩)) (bI mx6)
def TC6:Tw.iF:={ T0 with exts:=[21]++T0.exts,ext:=eC6 }
theorem Wq:jA Tryz.prog TC6 4096 60 (.fn 112 [] []) uH.xs uH.h=some uH.r:=by kernel_rfl
theorem kA6:aj Tryz.prog (bD [zu,Fz,Au]):=aU (dF (T:=T0) mx6 (bI mx6) 60) (List.forall_mem_cons.2 ⟨YN,(List.forall_mem_cons.2 ⟨a2Y,(List.forall_mem_cons.2 ⟨Wp,(List.forall_mem_nil _)⟩)⟩)⟩)
theorem kW6:aj Tryz.prog (bD [uH]):=aU (dF (T:=TC6) mx6 a2Z 60) (List.forall_mem_cons.2 ⟨Wq,(List.forall_mem_nil _)⟩)
end Go.Proofs.YtjkgcifieggcpaaGreat
