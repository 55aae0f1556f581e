/- Part 10 of a proof: closed runs of the given program, and the readings of its code that they use. -/
import Derived.Test.YtjkgcifieggcpaaGreatP08
set_option linter.constructorNameAsVariable false
set_option linter.unusedVariables false
set_option linter.unusedSimpArgs false
set_option linter.unusedSectionVars false
namespace Go.Proofs.YtjkgcifieggcpaaGreat
open Go Tw
def zq:eY:=⟨49,[],YK++[Z6],.agg [.slc 124 0 2 2 1 false,.slc 123 0 2 2 1 false,.slc 122 0 2 2 2 false,.slc 121 0 1 1 2 false,.int .i64 0],YK++[Z6,Z3,Zf,Z2,Z0,Z1],[]⟩
def Fq:eY:=⟨48,[.int .i64 4,.agg [.slc 124 0 2 2 1 false,.slc 123 0 2 2 1 false,.slc 122 0 2 2 2 false,.slc 121 0 1 1 2 false,.int .i64 0]],YK++[Z6,Z3,Zf,Z2,Z0,Z1],.agg [.slc 147 0 2 2 1 true,.slc 146 0 2 2 1 true,.slc 145 0 4 4 6 true,.slc 124 0 2 2 1 false,.slc 123 0 2 2 1 false,.slc 122 0 2 2 2 false,.slc 121 0 1 1 2 false,.int .i64 0],Y4++[Z0,Z1,Z5,Zi,Z2,Z0,Z1,Z5,Zj,Z4,Z0,Z1,Z3,Zh,Z2,Z0,Z1,Zk,Z0,Z1],[]⟩
def Fv:eY:=⟨21,[.slc 148 0 2 2 1 false,.slc 149 0 2 2 1 false,.slc 170 0 4 4 6 false],Y2++[ZP,Z0p,ZQ,Z0,Z1,Z7,Z0j,ZA,Z0,Z1,Z0f],.int .i64 0,Y2++[ZP,Z0p,ZQ,Z0,Z1,Z7,Z0j,ZA,Z0,Z1,Z0f],[]⟩
def Aq:eY:=⟨21,[.slc 148 0 2 2 1 false,.slc 149 0 2 2 1 false,.slc 170 0 4 4 6 false],Y2++[ZP,Z0p,ZQ,Z0,Z1,Z7,Z0j,ZA,Z0,Z1,Z0f,ZI,Z0,Z1],.int .i64 0,Y2++[ZP,Z0p,ZQ,Z0,Z1,Z7,Z0j,ZA,Z0,Z1,Z0f,ZI,Z0,Z1],[]⟩
def uG:eY:=⟨112,[.slc 148 0 2 2 1 false,.slc 149 0 2 2 1 false,.slc 170 0 4 4 6 false,.agg [.slc 173 0 2 2 1 false,.slc 172 0 2 2 1 false,.slc 171 0 1 1 2 true,.nil .slc,.int .i64 (-1)]],Y2++[ZP,Z0p,ZQ,Z0,Z1,Z7,Z0j,ZA,Z0,Z1,Z0f,ZI,Z0,Z1],.bH [.ptr 175 0 9,.int .i64 0],Y2++[ZP,Z0p,ZQ,Z0,Z1,Z7,Z0j,ZA,Z0,Z1,Z0f,ZI,Z0,Z1,Z1H,Z1J],[]⟩
theorem YM:jA Tryz.prog T0 4096 60 (.fn 49 [] []) zq.xs zq.h=some zq.r:=by kernel_rfl
theorem a2V:jA Tryz.prog T0 4096 60 (.fn 48 [] []) Fq.xs Fq.h=some Fq.r:=by kernel_rfl
theorem a2W:jA Tryz.prog T0 4096 60 (.fn 21 [] []) Fv.xs Fv.h=some Fv.r:=by kernel_rfl
theorem Wj:jA Tryz.prog T0 4096 60 (.fn 21 [] []) Aq.xs Aq.h=some Aq.r:=by kernel_rfl
theorem mx5:Tryz.prog.follows .mixedOrders=true:=by kernel_rfl
def eC5:ay:=fun f xs h=>(bD [Aq] f xs h).orElse fun _=>zi f xs h
theorem a2X:aj Tryz.prog eC5:=aj.or (aU (dF (T:=T0) mx5 (bI mx5) 60) (List.forall_mem_cons.2 ⟨Wj,(List.forall_mem_nil _)⟩)) (bI mx5)
def TC5:Tw.iF:={ T0 with exts:=[21]++T0.exts,ext:=eC5 }
theorem Wn:jA Tryz.prog TC5 4096 60 (.fn 112 [] []) uG.xs uG.h=some uG.r:=by kernel_rfl
theorem kA5:aj Tryz.prog (bD [zq,Fq,Fv,Aq]):=aU (dF (T:=T0) mx5 (bI mx5) 60) (List.forall_mem_cons.2 ⟨YM,(List.forall_mem_cons.2 ⟨a2V,(List.forall_mem_cons.2 ⟨a2W,(List.forall_mem_cons.2 ⟨Wj,(List.forall_mem_nil _)⟩)⟩)⟩)⟩)
theorem kW5:aj Tryz.prog (bD [uG]):=aU (dF (T:=TC5) mx5 a2X 60) (List.forall_mem_cons.2 ⟨Wn,(List.forall_mem_nil _)⟩)
end Go.Proofs.YtjkgcifieggcpaaGreat
