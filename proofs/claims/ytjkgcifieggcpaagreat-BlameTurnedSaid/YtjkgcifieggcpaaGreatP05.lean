/- Part 6 of a proof: closed runs of the given program, and the readings of its code that they use. -/
import Derived.Test.YtjkgcifieggcpaaGreatP04
set_option linter.constructorNameAsVariable false
set_option linter.unusedVariables false
set_option linter.unusedSimpArgs false
set_option linter.unusedSectionVars false
namespace Go.Proofs.YtjkgcifieggcpaaGreat
open Go Tw
def zo:fA:=⟨49,[],[],.agg [.slc 4 0 2 2 1 false,.slc 3 0 2 2 1 false,.slc 2 0 2 2 2 false,.slc 1 0 1 1 2 false,.int .i64 0],[Z3,ZB,Z2,Z0,Z1],[]⟩
def Fg:fA:=⟨48,[.int .i64 4,.agg [.slc 4 0 2 2 1 false,.slc 3 0 2 2 1 false,.slc 2 0 2 2 2 false,.slc 1 0 1 1 2 false,.int .i64 0]],[Z3,ZB,Z2,Z0,Z1],.agg [.slc 27 0 2 2 1 true,.slc 26 0 2 2 1 true,.slc 25 0 4 4 6 true,.slc 4 0 2 2 1 false,.slc 3 0 2 2 1 false,.slc 2 0 2 2 2 false,.slc 1 0 1 1 2 false,.int .i64 0],YI++[ZH,Z0,Z1],[]⟩
def Fh:fA:=⟨21,[.slc 28 0 2 2 1 false,.slc 29 0 2 2 1 false,.slc 50 0 4 4 6 false],YI++[ZH,Z0,Z1,Z1,Z0,Z7,Z0k,ZQ,Z0,Z1,ZP,Z0q,ZA,Z0,Z1,ZP,Z0r,ZQ,Z0,Z1,Z7,Z0l,ZA,Z0,Z1,Z0g],.int .i64 0,YI++[ZH,Z0,Z1,Z1,Z0,Z7,Z0k,ZQ,Z0,Z1,ZP,Z0q,ZA,Z0,Z1,ZP,Z0r,ZQ,Z0,Z1,Z7,Z0l,ZA,Z0,Z1,Z0g],[]⟩
def Ap:fA:=⟨21,[.slc 28 0 2 2 1 false,.slc 29 0 2 2 1 false,.slc 50 0 4 4 6 false],YF++[Z0,Z1],.int .i64 0,YF++[Z0,Z1],[]⟩
def uz:fA:=⟨112,[.slc 28 0 2 2 1 false,.slc 29 0 2 2 1 false,.slc 50 0 4 4 6 false,.agg [.slc 53 0 2 2 1 false,.slc 52 0 2 2 1 false,.slc 51 0 1 1 2 true,.nil .slc,.int .i64 (-1)]],YF++[Z0,Z1],.bH [.ptr 55 0 9,.int .i64 0],YF++[Z0,Z1,Z1H,Z1L],[]⟩
theorem YP:jA Tryz.prog T0 4096 60 (.fn 49 [] []) zo.xs zo.h=some zo.r:=by kernel_rfl
theorem a2T:jA Tryz.prog T0 4096 60 (.fn 48 [] []) Fg.xs Fg.h=some Fg.r:=by kernel_rfl
theorem a2U:jA Tryz.prog T0 4096 60 (.fn 21 [] []) Fh.xs Fh.h=some Fh.r:=by kernel_rfl
theorem Wj:jA Tryz.prog T0 4096 60 (.fn 21 [] []) Ap.xs Ap.h=some Ap.r:=by kernel_rfl
theorem mx1:Tryz.prog.follows .mixedOrders=true:=by kernel_rfl
def eC1:ay:=fun f xs h=>(bD [Ap] f xs h).orElse fun _=>zn f xs h
theorem a2W:aj Tryz.prog eC1:=aj.or (aV (dF (T:=T0) mx1 (bI mx1) 60) (List.forall_mem_cons.2 ⟨Wj,(List.forall_mem_nil _)⟩)) (bI mx1)
def TC1:Tw.iF:={ T0 with exts:=[21]++T0.exts,ext:=eC1 }
theorem Wn:jA Tryz.prog TC1 4096 60 (.fn 112 [] []) uz.xs uz.h=some uz.r:=by kernel_rfl
theorem kA1:aj Tryz.prog (bD [zo,Fg,Fh,Ap]):=aV (dF (T:=T0) mx1 (bI mx1) 60) (List.forall_mem_cons.2 ⟨YP,(List.forall_mem_cons.2 ⟨a2T,(List.forall_mem_cons.2 ⟨a2U,(List.forall_mem_cons.2 ⟨Wj,(List.forall_mem_nil _)⟩)⟩)⟩)⟩)
theorem kW1:aj Tryz.prog (bD [uz]):=aV (dF (T:=TC1) mx1 a2W 60) (List.forall_mem_cons.2 ⟨Wn,(List.forall_mem_nil _)⟩)
end Go.Proofs.YtjkgcifieggcpaaGreat
