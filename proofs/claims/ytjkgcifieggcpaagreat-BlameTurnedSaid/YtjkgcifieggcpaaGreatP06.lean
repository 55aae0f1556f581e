/- Part 7 of a proof: closed runs of the given program, and the readings of its code that they use. -/
import Derived.Test.YtjkgcifieggcpaaGreatP05
set_option linter.constructorNameAsVariable false
set_option linter.unusedVariables false
set_option linter.unusedSimpArgs false
set_option linter.unusedSectionVars false
namespace Go.Proofs.YtjkgcifieggcpaaGreat
open Go Tw
def zq:fA:=⟨49,[],YI++[ZH,Z0,Z1,Z8],.agg [.slc 33 0 2 2 1 false,.slc 32 0 2 2 1 false,.slc 31 0 2 2 2 false,.slc 30 0 1 1 2 false,.int .i64 0],YI++[ZH,Z0,Z1,Z8,Z3,ZJ,Z2,Z0,Z1],[]⟩
def Fj:fA:=⟨48,[.int .i64 4,.agg [.slc 33 0 2 2 1 false,.slc 32 0 2 2 1 false,.slc 31 0 2 2 2 false,.slc 30 0 1 1 2 false,.int .i64 0]],YI++[ZH,Z0,Z1,Z8,Z3,ZJ,Z2,Z0,Z1],.agg [.slc 56 0 2 2 1 true,.slc 55 0 2 2 1 true,.slc 54 0 4 4 6 true,.slc 33 0 2 2 1 false,.slc 32 0 2 2 1 false,.slc 31 0 2 2 2 false,.slc 30 0 1 1 2 false,.int .i64 0],YE++[Z0,Z1,ZO,Z0,Z1],[]⟩
def Fq:fA:=⟨21,[.slc 57 0 2 2 1 false,.slc 58 0 2 2 1 false,.slc 79 0 4 4 6 false],YB,.int .i64 0,YB,[]⟩
def Aq:fA:=⟨21,[.slc 57 0 2 2 1 false,.slc 58 0 2 2 1 false,.slc 79 0 4 4 6 false],YB++[ZI,Z0,Z1],.int .i64 0,YB++[ZI,Z0,Z1],[]⟩
def uD:fA:=⟨112,[.slc 57 0 2 2 1 false,.slc 58 0 2 2 1 false,.slc 79 0 4 4 6 false,.agg [.slc 82 0 2 2 1 false,.slc 81 0 2 2 1 false,.slc 80 0 1 1 2 true,.nil .slc,.int .i64 (-1)]],YB++[ZI,Z0,Z1],.bH [.ptr 84 0 9,.int .i64 0],YB++[ZI,Z0,Z1,Z1H,Z1M],[]⟩
theorem YQ:jA Tryz.prog T0 4096 60 (.fn 49 [] []) zq.xs zq.h=some zq.r:=by kernel_rfl
theorem a2X:jA Tryz.prog T0 4096 60 (.fn 48 [] []) Fj.xs Fj.h=some Fj.r:=by kernel_rfl
theorem a2Y:jA Tryz.prog T0 4096 60 (.fn 21 [] []) Fq.xs Fq.h=some Fq.r:=by kernel_rfl
theorem Wp:jA Tryz.prog T0 4096 60 (.fn 21 [] []) Aq.xs Aq.h=some Aq.r:=by kernel_rfl
theorem mx2:Tryz.prog.follows .mixedOrders=true:=by kernel_rfl
def eC2:ay:=fun f xs h=>(bD [Aq] f xs h).orElse fun _=>zn f xs h
theorem a2Z:aj Tryz.prog eC2:=aj.or (aV (dF (T:=T0) mx2 (bI mx2) 60) (List.forall_mem_cons.2 ⟨Wp,(List.forall_mem_nil _)⟩)) (bI mx2)
def TC2:Tw.iF:={ T0 with exts:=[21]++T0.exts,ext:=eC2 }
theorem Wq:jA Tryz.prog TC2 4096 60 (.fn 112 [] []) uD.xs uD.h=some uD.r:=by kernel_rfl
theorem kA2:aj Tryz.prog (bD [zq,Fj,Fq,Aq]):=aV (dF (T:=T0) mx2 (bI mx2) 60) (List.forall_mem_cons.2 ⟨YQ,(List.forall_mem_cons.2 ⟨a2X,(List.forall_mem_cons.2 ⟨a2Y,(List.forall_mem_cons.2 ⟨Wp,(List.forall_mem_nil _)⟩)⟩)⟩)⟩)
theorem kW2:aj Tryz.prog (bD [uD]):=aV (dF (T:=TC2) mx2 a2Z 60) (List.forall_mem_cons.2 ⟨Wq,(List.forall_mem_nil _)⟩)
end Go.Proofs.YtjkgcifieggcpaaGreat
