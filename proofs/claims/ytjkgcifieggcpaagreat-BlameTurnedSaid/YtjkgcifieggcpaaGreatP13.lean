/- Part 14 of a proof: closed runs of the given program, and the readings of its code that they use. -/
import Derived.Test.YtjkgcifieggcpaaGreatP12
set_option linter.constructorNameAsVariable false
set_option linter.unusedVariables false
set_option linter.unusedSimpArgs false
set_option linter.unusedSectionVars false
namespace Go.Proofs.YtjkgcifieggcpaaGreat
open Go Tw
def FH:fA:=⟨48,[.int .i64 2,.agg [.slc 225 0 2 2 1 false,.slc 224 0 2 2 1 false,.slc 223 0 2 2 2 false,.slc 222 0 1 1 2 false,.int .i64 0]],Y0++[Z07,Z6,Z0,Z01,Z05,Z1,Z08,Z04,ZC,Z0,Z1,Z3,Z02,Z2,Z0,Z1,Z00,ZI,Z0,Z1,Z09,Z3,Z03,Z2,Z0,Z1],.agg [.slc 248 0 2 2 1 true,.slc 247 0 2 2 1 true,.slc 246 0 2 4 6 true,.slc 225 0 2 2 1 false,.slc 224 0 2 2 1 false,.slc 223 0 2 2 2 false,.slc 222 0 1 1 2 false,.int .i64 0],YG++[Z2,Z0,Z1,Z0F,Z0,Z1],[]⟩
def Ji:fA:=⟨21,[.slc 250 0 2 2 1 false,.slc 251 0 2 2 1 false,.slc 262 0 2 2 6 false],YA++[Z1,Wi],.int .i64 0,YA++[Z1,Wi],[]⟩
def uQ:fA:=⟨112,[.slc 250 0 2 2 1 false,.slc 251 0 2 2 1 false,.slc 262 0 2 2 6 false,.agg [.slc 267 0 2 2 1 false,.slc 266 0 2 2 1 false,.slc 265 0 2 2 2 false,.slc 264 0 1 1 2 false,.int .i64 0]],YA++[Z1,Wi],.bH [.ptr 282 0 9,.int .i64 0],YA++[Z1,Wi,Jr,Z0R],[]⟩
def qF:fA:=⟨35,[.agg [.slc 248 0 2 2 1 true,.slc 247 0 2 2 1 true,.slc 246 0 2 4 6 true,.slc 225 0 2 2 1 false,.slc 224 0 2 2 1 false,.slc 223 0 2 2 2 false,.slc 222 0 1 1 2 false,.int .i64 0],.slc 249 0 1 1 1 true,.slc 193 0 3 3 5 false],YG++[Z2,Z0,Z1,Z0F,Z0,Z1,Z6],.bool true,YG++[Z2,Z0,Z1,Z0F,Z0,Z1,Z6],[]⟩
theorem mx8:Tryz.prog.follows .mixedOrders=true:=by kernel_rfl
theorem a3j:jA Tryz.prog T0 4096 60 (.fn 48 [] []) FH.xs FH.h=some FH.r:=by kernel_rfl
theorem a3k:jA Tryz.prog T0 4096 60 (.fn 21 [] []) Ji.xs Ji.h=some Ji.r:=by kernel_rfl
def eC8:ay:=fun f xs h=>(bD [Ji] f xs h).orElse fun _=>zn f xs h
theorem a3l:aj Tryz.prog eC8:=aj.or (aV (dF (T:=T0) mx8 (bI mx8) 60) (List.forall_mem_cons.2 ⟨a3k,(List.forall_mem_nil _)⟩)) (bI mx8)
def TC8:Tw.iF:={ T0 with exts:=[21]++T0.exts,ext:=eC8 }
theorem WM:jA Tryz.prog TC8 4096 60 (.fn 112 [] []) uQ.xs uQ.h=some uQ.r:=by kernel_rfl
theorem kW8:aj Tryz.prog (bD [uQ]):=aV (dF (T:=TC8) mx8 a3l 60) (List.forall_mem_cons.2 ⟨WM,(List.forall_mem_nil _)⟩)
theorem kA8:aj Tryz.prog (bD [FH]):=aV (dF (T:=T0) mx8 (bI mx8) 60) (List.forall_mem_cons.2 ⟨a3j,(List.forall_mem_nil _)⟩)
def eP8:ay:=fun f xs h=>(bD [uQ] f xs h).orElse fun _=>(bD [uN,nN,uO,nO,zD,uP] f xs h).orElse fun _=>zn f xs h
theorem a3m:aj Tryz.prog eP8:=aj.or kW8 (aj.or kQ8 (bI mx8))
def TP8:Tw.iF:={ T0 with exts:=[112,130,149,150,151]++T0.exts,ext:=eP8 }
theorem S9:jA Tryz.prog TP8 4096 60 (.fn 35 [] []) qF.xs qF.h=some qF.r:=by kernel_rfl
theorem kP8:aj Tryz.prog (bD [qF]):=aV (dF (T:=TP8) mx8 a3m 60) (List.forall_mem_cons.2 ⟨S9,(List.forall_mem_nil _)⟩)
end Go.Proofs.YtjkgcifieggcpaaGreat
