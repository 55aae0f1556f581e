/- Part 11 of a proof: closed runs of the given program, and the readings of its code that they use. -/
import Derived.Test.YtjkgcifieggcpaaGreatP09
set_option linter.constructorNameAsVariable false
set_option linter.unusedVariables false
set_option linter.unusedSimpArgs false
set_option linter.unusedSectionVars false
namespace Go.Proofs.YtjkgcifieggcpaaGreat
open Go Tw
def zB:fA:=⟨49,[],YJ++[Zr],.agg [.slc 157 0 2 2 1 false,.slc 156 0 2 2 1 false,.slc 155 0 2 2 2 false,.slc 154 0 1 1 2 false,.int .i64 0],YJ++[Zr,Z3,Zs,Z2,Z0,Z1],[]⟩
def FD:fA:=⟨48,[.int .i64 2,.agg [.slc 157 0 2 2 1 false,.slc 156 0 2 2 1 false,.slc 155 0 2 2 2 false,.slc 154 0 1 1 2 false,.int .i64 0]],YJ++[Zr,Z3,Zs,Z2,Z0,Z1],.agg [.slc 180 0 2 2 1 true,.slc 179 0 2 2 1 true,.slc 178 0 2 4 6 true,.slc 157 0 2 2 1 false,.slc 156 0 2 2 1 false,.slc 155 0 2 2 2 false,.slc 154 0 1 1 2 false,.int .i64 0],Y3++[Z4,Z0,Z1,Z5,Zv,Z2,Z0,Z1,Z5,Zw,Z4,Z0,Z1,Z3,Zu,Z2,Z0,Z1,Zx,Z0,Z1],[]⟩
def AB:fA:=⟨21,[.slc 182 0 2 2 1 false,.slc 183 0 2 2 1 false,.slc 194 0 2 2 6 false],Y1++[Z6],.int .i64 0,Y1++[Z6],[]⟩
def uI:fA:=⟨112,[.slc 182 0 2 2 1 false,.slc 183 0 2 2 1 false,.slc 194 0 2 2 6 false,.agg [.slc 199 0 2 2 1 false,.slc 198 0 2 2 1 false,.slc 197 0 2 2 2 false,.slc 196 0 1 1 2 false,.int .i64 0]],Y1++[Z6],.bH [.ptr 202 0 9,.int .i64 0],Y1++[Z6,Jr,Z0Q],[]⟩
theorem YU:jA Tryz.prog T0 4096 60 (.fn 49 [] []) zB.xs zB.h=some zB.r:=by kernel_rfl
theorem a3h:jA Tryz.prog T0 4096 60 (.fn 48 [] []) FD.xs FD.h=some FD.r:=by kernel_rfl
theorem WB:jA Tryz.prog T0 4096 60 (.fn 21 [] []) AB.xs AB.h=some AB.r:=by kernel_rfl
theorem mx6:Tryz.prog.follows .mixedOrders=true:=by kernel_rfl
def eC6:ay:=fun f xs h=>(bD [AB] f xs h).orElse fun _=>zn f xs h
theorem a3i:aj Tryz.prog eC6:=aj.or (aV (dF (T:=T0) mx6 (bI mx6) 60) (List.forall_mem_cons.2 ⟨WB,(List.forall_mem_nil _)⟩)) (bI mx6)
def TC6:Tw.iF:={ T0 with exts:=[21]++T0.exts,ext:=eC6 }
theorem WC:jA Tryz.prog TC6 4096 60 (.fn 112 [] []) uI.xs uI.h=some uI.r:=by kernel_rfl
theorem kA6:aj Tryz.prog (bD [zB,FD,AB]):=aV (dF (T:=T0) mx6 (bI mx6) 60) (List.forall_mem_cons.2 ⟨YU,(List.forall_mem_cons.2 ⟨a3h,(List.forall_mem_cons.2 ⟨WB,(List.forall_mem_nil _)⟩)⟩)⟩)
theorem kW6:aj Tryz.prog (bD [uI]):=aV (dF (T:=TC6) mx6 a3i 60) (List.forall_mem_cons.2 ⟨WC,(List.forall_mem_nil _)⟩)
end Go.Proofs.YtjkgcifieggcpaaGreat
