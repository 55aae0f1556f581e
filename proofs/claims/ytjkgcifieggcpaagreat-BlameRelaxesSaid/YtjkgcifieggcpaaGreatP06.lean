/- Part 7 of a proof: closed runs of the given program, and the readings of its code that they use. -/
import Derived.Test.YtjkgcifieggcpaaGreatP05
set_option linter.constructorNameAsVariable false
set_option linter.unusedVariables false
set_option linter.unusedSimpArgs false
set_option linter.unusedSectionVars false
namespace Go.Proofs.YtjkgcifieggcpaaGreat
open Go Tw
def zl:eY:=⟨49,[],YI++[ZH,Z0,Z1,Z8],.agg [.slc 33 0 2 2 1 false,.slc 32 0 2 2 1 false,.slc 31 0 2 2 2 false,.slc 30 0 1 1 2 false,.int .i64 0],YI++[ZH,Z0,Z1,Z8,Z3,ZJ,Z2,Z0,Z1],[]⟩
def Fe:eY:=⟨48,[.int .i64 4,.agg [.slc 33 0 2 2 1 false,.slc 32 0 2 2 1 false,.slc 31 0 2 2 2 false,.slc 30 0 1 1 2 false,.int .i64 0]],YI++[ZH,Z0,Z1,Z8,Z3,ZJ,Z2,Z0,Z1],.agg [.slc 56 0 2 2 1 true,.slc 55 0 2 2 1 true,.slc 54 0 4 4 6 true,.slc 33 0 2 2 1 false,.slc 32 0 2 2 1 false,.slc 31 0 2 2 2 false,.slc 30 0 1 1 2 false,.int .i64 0],YE++[Z0,Z1,ZO,Z0,Z1],[]⟩
def Fg:eY:=⟨21,[.slc 57 0 2 2 1 false,.slc 58 0 2 2 1 false,.slc 79 0 4 4 6 false],YB,.int .i64 0,YB,[]⟩
def Ak:eY:=⟨21,[.slc 57 0 2 2 1 false,.slc 58 0 2 2 1 false,.slc 79 0 4 4 6 false],YB++[ZI,Z0,Z1],.int .i64 0,YB++[ZI,Z0,Z1],[]⟩
def uz:eY:=⟨112,[.slc 57 0 2 2 1 false,.slc 58 0 2 2 1 false,.slc 79 0 4 4 6 false,.agg [.slc 82 0 2 2 1 false,.slc 81 0 2 2 1 false,.slc 80 0 1 1 2 true,.nil .slc,.int .i64 (-1)]],YB++[ZI,Z0,Z1],.bH [.ptr 84 0 9,.int .i64 0],YB++[ZI,Z0,Z1,Z1H,Z1M],[]⟩
theorem Yx:jA Tryz.prog T0 4096 60 (.fn 49 [] []) zl.xs zl.h=some zl.r:=by kernel_rfl
theorem a2O:jA Tryz.prog T0 4096 60 (.fn 48 [] []) Fe.xs Fe.h=some Fe.r:=by kernel_rfl
theorem a2P:jA Tryz.prog T0 4096 60 (.fn 21 [] []) Fg.xs Fg.h=some Fg.r:=by kernel_rfl
theorem VX:jA Tryz.prog T0 4096 60 (.fn 21 [] []) Ak.xs Ak.h=some Ak.r:=by kernel_rfl
theorem mx2:Tryz.prog.follows .mixedOrders=true:=by kernel_rfl
def eC2:ay:=fun f xs h=>(bD [Ak] f xs h).orElse fun _=>zi f xs h
theorem a2Q:aj Tryz.prog eC2:=aj.or (aU (dF (T:=T0) mx2 (bI mx2) 60) (List.forall_mem_cons.2 ⟨VX,(List.forall_mem_nil _)⟩)) (bI mx2)
def TC2:Tw.iF:={ T0 with exts:=[21]++T0.exts,ext:=eC2 }
theorem VY:jA Tryz.prog TC2 4096 60 (.fn 112 [] []) uz.xs uz.h=some uz.r:=by kernel_rfl
theorem kA2:aj Tryz.prog (bD [zl,Fe,Fg,Ak]):=aU (dF (T:=T0) mx2 (bI mx2) 60) (List.forall_mem_cons.2 ⟨Yx,(List.forall_mem_cons.2 ⟨a2O,(List.forall_mem_cons.2 ⟨a2P,(List.forall_mem_cons.2 ⟨VX,(List.forall_mem_nil _)⟩)⟩)⟩)⟩)
theorem kW2:aj Tryz.prog (bD [uz]):=aU (dF (T:=TC2) mx2 a2Q 60) (List.forall_mem_cons.2 ⟨VY,(List.forall_mem_nil _)⟩)
end Go.Proofs.YtjkgcifieggcpaaGreat
