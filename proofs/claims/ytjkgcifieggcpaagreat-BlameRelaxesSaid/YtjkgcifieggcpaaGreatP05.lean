/- Part 6 of a proof: closed runs of the given program, and the readings of its code that they use. -/
import Derived.Test.YtjkgcifieggcpaaGreatP04
set_option linter.constructorNameAsVariable false
set_option linter.unusedVariables false
set_option linter.unusedSimpArgs false
set_option linter.unusedSectionVars false
namespace Go.Proofs.YtjkgcifieggcpaaGreat
open Go Tw
def zk:eY:=⟨49,[],[],.agg [.slc 4 0 2 2 1 false,.slc 3 0 2 2 1 false,.slc 2 0 2 2 2 false,.slc 1 0 1 1 2 false,.int .i64 0],[Z3,ZB,Z2,Z0,Z1],[]⟩
def F9:eY:=⟨48,[.int .i64 4,.agg [.slc 4 0 2 2 1 false,.slc 3 0 2 2 1 false,.slc 2 0 2 2 2 false,.slc 1 0 1 1 2 false,.int .i64 0]],[Z3,ZB,Z2,Z0,Z1],.agg [.slc 27 0 2 2 1 true,.slc 26 0 2 2 1 true,.slc 25 0 4 4 6 true,.slc 4 0 2 2 1 false,.slc 3 0 2 2 1 false,.slc 2 0 2 2 2 false,.slc 1 0 1 1 2 false,.int .i64 0],YI++[ZH,Z0,Z1],[]⟩
def Fb:eY:=⟨21,[.slc 28 0 2 2 1 false,.slc 29 0 2 2 1 false,.slc 50 0 4 4 6 false],YI++[ZH,Z0,Z1,Z1,Z0,Z7,Z0k,ZQ,Z0,Z1,ZP,Z0q,ZA,Z0,Z1,ZP,Z0r,ZQ,Z0,Z1,Z7,Z0l,ZA,Z0,Z1,Z0g],.int .i64 0,YI++[ZH,Z0,Z1,Z1,Z0,Z7,Z0k,ZQ,Z0,Z1,ZP,Z0q,ZA,Z0,Z1,ZP,Z0r,ZQ,Z0,Z1,Z7,Z0l,ZA,Z0,Z1,Z0g],[]⟩
def Aj:eY:=⟨21,[.slc 28 0 2 2 1 false,.slc 29 0 2 2 1 false,.slc 50 0 4 4 6 false],YF++[Z0,Z1],.int .i64 0,YF++[Z0,Z1],[]⟩
def uy:eY:=⟨112,[.slc 28 0 2 2 1 false,.slc 29 0 2 2 1 false,.slc 50 0 4 4 6 false,.agg [.slc 53 0 2 2 1 false,.slc 52 0 2 2 1 false,.slc 51 0 1 1 2 true,.nil .slc,.int .i64 (-1)]],YF++[Z0,Z1],.bH [.ptr 55 0 9,.int .i64 0],YF++[Z0,Z1,Z1H,Z1L],[]⟩
theorem Yw:jA Tryz.prog T0 4096 60 (.fn 49 [] []) zk.xs zk.h=some zk.r:=by kernel_rfl
theorem a2K:jA Tryz.prog T0 4096 60 (.fn 48 [] []) F9.xs F9.h=some F9.r:=by kernel_rfl
theorem a2L:jA Tryz.prog T0 4096 60 (.fn 21 [] []) Fb.xs Fb.h=some Fb.r:=by kernel_rfl
theorem VU:jA Tryz.prog T0 4096 60 (.fn 21 [] []) Aj.xs Aj.h=some Aj.r:=by kernel_rfl
theorem mx1:Tryz.prog.follows .mixedOrders=true:=by kernel_rfl
def eC1:ay:=fun f xs h=>(bD [Aj] f xs h).orElse fun _=>zi f xs h
theorem a2N:aj Tryz.prog eC1:=aj.or (aU (dF (T:=T0) mx1 (bI mx1) 60) (List.forall_mem_cons.2 ⟨VU,(List.forall_mem_nil _)⟩)) (bI mx1)
def TC1:Tw.iF:={ T0 with exts:=[21]++T0.exts,ext:=eC1 }
theorem VW:jA Tryz.prog TC1 4096 60 (.fn 112 [] []) uy.xs uy.h=some uy.r:=by kernel_rfl
theorem kA1:aj Tryz.prog (bD [zk,F9,Fb,Aj]):=aU (dF (T:=T0) mx1 (bI mx1) 60) (List.forall_mem_cons.2 ⟨Yw,(List.forall_mem_cons.2 ⟨a2K,(List.forall_mem_cons.2 ⟨a2L,(List.forall_mem_cons.2 ⟨VU,(List.forall_mem_nil _)⟩)⟩)⟩)⟩)
theorem kW1:aj Tryz.prog (bD [uy]):=aU (dF (T:=TC1) mx1 a2N 60) (List.forall_mem_cons.2 ⟨VW,(List.forall_mem_nil _)⟩)
end Go.Proofs.YtjkgcifieggcpaaGreat
