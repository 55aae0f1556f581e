/- Part 15 of a proof: closed runs of the given program, and the readings of its code that they use. -/
import Derived.Test.YtjkgcifieggcpaaGreatP13
set_option linter.constructorNameAsVariable false
set_option linter.unusedVariables false
set_option linter.unusedSimpArgs false
set_option linter.unusedSectionVars false
namespace Go.Proofs.YtjkgcifieggcpaaGreat
open Go Tw
def FI:fA:=⟨48,[.int .i64 2,.agg [.slc 254 0 2 2 1 false,.slc 253 0 2 2 1 false,.slc 252 0 2 2 2 false,.slc 251 0 1 1 2 false,.int .i64 0]],YG++[Z2,Z0,Z1,Z0F,Z0,Z1,Z6,Z3,Z0X,Z2,Z0,Z1],.agg [.slc 277 0 2 2 1 true,.slc 276 0 2 2 1 true,.slc 275 0 2 4 6 true,.slc 254 0 2 2 1 false,.slc 253 0 2 2 1 false,.slc 252 0 2 2 2 false,.slc 251 0 1 1 2 false,.int .i64 0],YD++[Z0,Z1,Z5,Z0d,Z4,Z0,Z1,Z3,Z0a,Z2,Z0,Z1,Z0e,Z0,Z1],[]⟩
def Jj:fA:=⟨21,[.slc 279 0 2 2 1 false,.slc 280 0 2 2 1 false,.slc 291 0 2 2 6 false],Y9++[Z0,Z1,Z7,Z1A,ZA,Z0,Z1,ZC,Z0,Z1,Z10],.int .i64 0,Y9++[Z0,Z1,Z7,Z1A,ZA,Z0,Z1,ZC,Z0,Z1,Z10],[]⟩
def uS:fA:=⟨112,[.slc 279 0 2 2 1 false,.slc 280 0 2 2 1 false,.slc 291 0 2 2 6 false,.agg [.slc 296 0 2 2 1 false,.slc 295 0 2 2 1 false,.slc 294 0 2 2 2 false,.slc 293 0 1 1 2 false,.int .i64 0]],Y9++[Z0,Z1,Z7,Z1A,ZA,Z0,Z1,ZC,Z0,Z1,Z10],.bH [.ptr 311 0 9,.int .i64 0],Y9++[Z0,Z1,Z7,Z1A,ZA,Z0,Z1,ZC,Z0,Z1,Z10,Jr,Z1K],[]⟩
def qG:fA:=⟨35,[.agg [.slc 277 0 2 2 1 true,.slc 276 0 2 2 1 true,.slc 275 0 2 4 6 true,.slc 254 0 2 2 1 false,.slc 253 0 2 2 1 false,.slc 252 0 2 2 2 false,.slc 251 0 1 1 2 false,.int .i64 0],.slc 278 0 1 1 1 true,.slc 193 0 3 3 5 false],YD++[Z0,Z1,Z5,Z0d,Z4,Z0,Z1,Z3,Z0a,Z2,Z0,Z1,Z0e,Z0,Z1,Z0S],.bool false,YD++[Z0,Z1,Z5,Z0d,Z4,Z0,Z1,Z3,Z0a,Z2,Z0,Z1,Z0e,Z0,Z1,Z0S],[]⟩
theorem mx9:Tryz.prog.follows .mixedOrders=true:=by kernel_rfl
theorem a3n:jA Tryz.prog T0 4096 60 (.fn 48 [] []) FI.xs FI.h=some FI.r:=by kernel_rfl
theorem a3o:jA Tryz.prog T0 4096 60 (.fn 21 [] []) Jj.xs Jj.h=some Jj.r:=by kernel_rfl
def eC9:ay:=fun f xs h=>(bD [Jj] f xs h).orElse fun _=>zn f xs h
theorem a3p:aj Tryz.prog eC9:=aj.or (aV (dF (T:=T0) mx9 (bI mx9) 60) (List.forall_mem_cons.2 ⟨a3o,(List.forall_mem_nil _)⟩)) (bI mx9)
def TC9:Tw.iF:={ T0 with exts:=[21]++T0.exts,ext:=eC9 }
theorem WO:jA Tryz.prog TC9 4096 60 (.fn 112 [] []) uS.xs uS.h=some uS.r:=by kernel_rfl
theorem kW9:aj Tryz.prog (bD [uS]):=aV (dF (T:=TC9) mx9 a3p 60) (List.forall_mem_cons.2 ⟨WO,(List.forall_mem_nil _)⟩)
theorem kA9:aj Tryz.prog (bD [FI]):=aV (dF (T:=T0) mx9 (bI mx9) 60) (List.forall_mem_cons.2 ⟨a3n,(List.forall_mem_nil _)⟩)
def eP9:ay:=fun f xs h=>(bD [uS] f xs h).orElse fun _=>zn f xs h
theorem a3q:aj Tryz.prog eP9:=aj.or kW9 (bI mx9)
def TP9:Tw.iF:={ T0 with exts:=[112]++T0.exts,ext:=eP9 }
theorem Si:jA Tryz.prog TP9 4096 60 (.fn 35 [] []) qG.xs qG.h=some qG.r:=by kernel_rfl
theorem kP9:aj Tryz.prog (bD [qG]):=aV (dF (T:=TP9) mx9 a3q 60) (List.forall_mem_cons.2 ⟨Si,(List.forall_mem_nil _)⟩)
end Go.Proofs.YtjkgcifieggcpaaGreat
