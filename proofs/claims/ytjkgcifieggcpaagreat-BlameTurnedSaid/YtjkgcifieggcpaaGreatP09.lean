/- Part 10 of a proof: closed runs of the given program, and the readings of its code that they use. -/
import Derived.Test.YtjkgcifieggcpaaGreatP08
set_option linter.constructorNameAsVariable false
set_option linter.unusedVariables false
set_option linter.unusedSimpArgs false
set_option linter.unusedSectionVars false
namespace Go.Proofs.YtjkgcifieggcpaaGreat
open Go Tw
def zA:fA:=⟨49,[],YK++[Z6],.agg [.slc 124 0 2 2 1 false,.slc 123 0 2 2 1 false,.slc 122 0 2 2 2 false,.slc 121 0 1 1 2 false,.int .i64 0],YK++[Z6,Z3,Zf,Z2,Z0,Z1],[]⟩
def FB:fA:=⟨48,[.int .i64 4,.agg [.slc 124 0 2 2 1 false,.slc 123 0 2 2 1 false,.slc 122 0 2 2 2 false,.slc 121 0 1 1 2 false,.int .i64 0]],YK++[Z6,Z3,Zf,Z2,Z0,Z1],.agg [.slc 147 0 2 2 1 true,.slc 146 0 2 2 1 true,.slc 145 0 4 4 6 true,.slc 124 0 2 2 1 false,.slc 123 0 2 2 1 false,.slc 122 0 2 2 2 false,.slc 121 0 1 1 2 false,.int .i64 0],Y4++[Z0,Z1,Z5,Zi,Z2,Z0,Z1,Z5,Zj,Z4,Z0,Z1,Z3,Zh,Z2,Z0,Z1,Zk,Z0,Z1],[]⟩
def FC:fA:=⟨21,[.slc 148 0 2 2 1 false,.slc 149 0 2 2 1 false,.slc 170 0 4 4 6 false],Y2++[ZP,Z0p,ZQ,Z0,Z1,Z7,Z0j,ZA,Z0,Z1,Z0f],.int .i64 0,Y2++[ZP,Z0p,ZQ,Z0,Z1,Z7,Z0j,ZA,Z0,Z1,Z0f],[]⟩
def Az:fA:=⟨21,[.slc 148 0 2 2 1 false,.slc 149 0 2 2 1 false,.slc 170 0 4 4 6 false],Y2++[ZP,Z0p,ZQ,Z0,Z1,Z7,Z0j,ZA,Z0,Z1,Z0f,ZI,Z0,Z1],.int .i64 0,Y2++[ZP,Z0p,ZQ,Z0,Z1,Z7,Z0j,ZA,Z0,Z1,Z0f,ZI,Z0,Z1],[]⟩
def uH:fA:=⟨112,[.slc 148 0 2 2 1 false,.slc 149 0 2 2 1 false,.slc 170 0 4 4 6 false,.agg [.slc 173 0 2 2 1 false,.slc 172 0 2 2 1 false,.slc 171 0 1 1 2 true,.nil .slc,.int .i64 (-1)]],Y2++[ZP,Z0p,ZQ,Z0,Z1,Z7,Z0j,ZA,Z0,Z1,Z0f,ZI,Z0,Z1],.bH [.ptr 175 0 9,.int .i64 0],Y2++[ZP,Z0p,ZQ,Z0,Z1,Z7,Z0j,ZA,Z0,Z1,Z0f,ZI,Z0,Z1,Z1H,Z1J],[]⟩
theorem YT:jA Tryz.prog T0 4096 60 (.fn 49 [] []) zA.xs zA.h=some zA.r:=by kernel_rfl
theorem a3e:jA Tryz.prog T0 4096 60 (.fn 48 [] []) FB.xs FB.h=some FB.r:=by kernel_rfl
theorem a3f:jA Tryz.prog T0 4096 60 (.fn 21 [] []) FC.xs FC.h=some FC.r:=by kernel_rfl
theorem Wy:jA Tryz.prog T0 4096 60 (.fn 21 [] []) Az.xs Az.h=some Az.r:=by kernel_rfl
theorem mx5:Tryz.prog.follows .mixedOrders=true:=by kernel_rfl
def eC5:ay:=fun f xs h=>(bD [Az] f xs h).orElse fun _=>zn f xs h
theorem a3g:aj Tryz.prog eC5:=aj.or (aV (dF (T:=T0) mx5 (bI mx5) 60) (List.forall_mem_cons.2 ⟨Wy,(List.forall_mem_nil _)⟩)) (bI mx5)
def TC5:Tw.iF:={ T0 with exts:=[21]++T0.exts,ext:=eC5 }
theorem WA:jA Tryz.prog TC5 4096 60 (.fn 112 [] []) uH.xs uH.h=some uH.r:=by kernel_rfl
theorem kA5:aj Tryz.prog (bD [zA,FB,FC,Az]):=aV (dF (T:=T0) mx5 (bI mx5) 60) (List.forall_mem_cons.2 ⟨YT,(List.forall_mem_cons.2 ⟨a3e,(List.forall_mem_cons.2 ⟨a3f,(List.forall_mem_cons.2 ⟨Wy,(List.forall_mem_nil _)⟩)⟩)⟩)⟩)
theorem kW5:aj Tryz.prog (bD [uH]):=aV (dF (T:=TC5) mx5 a3g 60) (List.forall_mem_cons.2 ⟨WA,(List.forall_mem_nil _)⟩)
end Go.Proofs.YtjkgcifieggcpaaGreat
