/- Part 12 of a proof: closed runs of the given program, and the readings of its code that they use. -/
import Derived.Test.YtjkgcifieggcpaaGreatP10
set_option linter.constructorNameAsVariable false
set_option linter.unusedVariables false
set_option linter.unusedSimpArgs false
set_option linter.unusedSectionVars false
namespace Go.Proofs.YtjkgcifieggcpaaGreat
open Go Tw
def uJ:fA:=⟨130,[.slc 182 0 2 2 1 false,.slc 183 0 2 2 1 false,.nil .slc],Y1++[Z6,Jr,Z0Q],.bH [.agg [.slc 205 0 2 2 1 false,.slc 204 0 2 2 1 false,.slc 203 0 1 1 2 true,.nil .slc,.int .i64 (-1)],.int .i64 0],Y1++[Z6,Jr,Z0Q,ZC,Z0,Z1],[]⟩
def nK:fA:=⟨149,[.agg [.slc 193 0 2 2 1 false,.slc 192 0 2 2 1 false,.slc 191 0 2 2 2 false,.slc 190 0 1 1 2 false,.int .i64 0]],Y1++[Z6,Jr,Z0Q,ZC,Z0,Z1,Z0T],.bH [.agg [.slc 211 0 2 2 1 false,.slc 210 0 2 2 1 false,.slc 209 0 2 2 2 false,.slc 208 0 1 1 2 false,.int .i64 0],.int .i64 0],Y1++[Z6,Jr,Z0Q,ZC,Z0,Z1,Z0T,Z7,Z0V,Z2,Z0,Z1],[]⟩
def uK:fA:=⟨150,[.int .u8 15,.agg [.slc 205 0 2 2 1 false,.slc 204 0 2 2 1 false,.slc 203 0 1 1 2 true,.nil .slc,.int .i64 (-1)],.agg [.slc 211 0 2 2 1 false,.slc 210 0 2 2 1 false,.slc 209 0 2 2 2 false,.slc 208 0 1 1 2 false,.int .i64 0]],Y1++[Z6,Jr,Z0Q,ZC,Z0,Z1,Z0T,Z7,Z0V,Z2,Z0,Z1],.bH [.agg [.slc 216 0 2 2 1 false,.slc 215 0 2 2 1 false,.slc 214 0 2 2 2 false,.slc 213 0 1 1 2 false,.int .i64 0],.int .i64 0],YL++[Z0,Z1],[]⟩
def nM:fA:=⟨149,[.agg [.slc 199 0 2 2 1 false,.slc 198 0 2 2 1 false,.slc 197 0 2 2 2 false,.slc 196 0 1 1 2 false,.int .i64 0]],YL++[Z0,Z1,Z0v,Z0u],.bH [.agg [.slc 223 0 2 2 1 false,.slc 222 0 2 2 1 false,.slc 221 0 2 2 2 false,.slc 220 0 1 1 2 false,.int .i64 0],.int .i64 0],YL++[Z0,Z1,Z0v,Z0u,Z7,Z0y,Z2,Z0,Z1],[]⟩
def zC:fA:=⟨151,[.int .u8 6,.agg [.slc 223 0 2 2 1 false,.slc 222 0 2 2 1 false,.slc 221 0 2 2 2 false,.slc 220 0 1 1 2 false,.int .i64 0]],YL++[Z0,Z1,Z0v,Z0u,Z7,Z0y,Z2,Z0,Z1],.bH [.agg [.slc 228 0 2 2 1 false,.slc 227 0 2 2 1 false,.slc 226 0 2 2 2 false,.slc 225 0 1 1 2 false,.int .i64 0],.int .i64 0],YH,[]⟩
def uM:fA:=⟨150,[.int .u8 15,.agg [.slc 216 0 2 2 1 false,.slc 215 0 2 2 1 false,.slc 214 0 2 2 2 false,.slc 213 0 1 1 2 false,.int .i64 0],.agg [.slc 228 0 2 2 1 false,.slc 227 0 2 2 1 false,.slc 226 0 2 2 2 false,.slc 225 0 1 1 2 false,.int .i64 0]],YH,.bH [.agg [.slc 231 0 2 2 1 false,.slc 230 0 2 2 1 false,.slc 229 0 1 1 2 false,.nil .slc,.int .i64 (-1)],.int .i64 0],YH++[ZI,Z0,Z1],[]⟩
theorem WE:jA Tryz.prog T0 4096 60 (.fn 130 [] []) uJ.xs uJ.h=some uJ.r:=by kernel_rfl
theorem Om:jA Tryz.prog T0 4096 60 (.fn 149 [] []) nK.xs nK.h=some nK.r:=by kernel_rfl
theorem WG:jA Tryz.prog T0 4096 60 (.fn 150 [] []) uK.xs uK.h=some uK.r:=by kernel_rfl
theorem Oo:jA Tryz.prog T0 4096 60 (.fn 149 [] []) nM.xs nM.h=some nM.r:=by kernel_rfl
theorem YV:jA Tryz.prog T0 4096 60 (.fn 151 [] []) zC.xs zC.h=some zC.r:=by kernel_rfl
theorem WH:jA Tryz.prog T0 4096 60 (.fn 150 [] []) uM.xs uM.h=some uM.r:=by kernel_rfl
theorem mx7:Tryz.prog.follows .mixedOrders=true:=by kernel_rfl
theorem kA7:aj Tryz.prog (bD [uJ,nK,uK,nM,zC,uM]):=aV (dF (T:=T0) mx7 (bI mx7) 60) (List.forall_mem_cons.2 ⟨WE,(List.forall_mem_cons.2 ⟨Om,(List.forall_mem_cons.2 ⟨WG,(List.forall_mem_cons.2 ⟨Oo,(List.forall_mem_cons.2 ⟨YV,(List.forall_mem_cons.2 ⟨WH,(List.forall_mem_nil _)⟩)⟩)⟩)⟩)⟩)⟩)
end Go.Proofs.YtjkgcifieggcpaaGreat
