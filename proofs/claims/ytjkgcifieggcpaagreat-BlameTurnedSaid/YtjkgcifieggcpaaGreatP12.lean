/- Part 13 of a proof: closed runs of the given program, and the readings of its code that they use. -/
import Derived.Test.YtjkgcifieggcpaaGreatP11
set_option linter.constructorNameAsVariable false
set_option linter.unusedVariables false
set_option linter.unusedSimpArgs false
set_option linter.unusedSectionVars false
namespace Go.Proofs.YtjkgcifieggcpaaGreat
open Go Tw
def uN:fA:=⟨130,[.slc 250 0 2 2 1 false,.slc 251 0 2 2 1 false,.nil .slc],YA++[Z1,Wi,Jr,Z0R],.bH [.agg [.slc 285 0 2 2 1 false,.slc 284 0 2 2 1 false,.slc 283 0 1 1 2 true,.nil .slc,.int .i64 (-1)],.int .i64 0],YA++[Z1,Wi,Jr,Z0R,ZC,Z0,Z1],[]⟩
def nN:fA:=⟨149,[.agg [.slc 261 0 2 2 1 false,.slc 260 0 2 2 1 false,.slc 259 0 2 2 2 false,.slc 258 0 1 1 2 false,.int .i64 0]],YA++[Z1,Wi,Jr,Z0R,ZC,Z0,Z1,Z0U],.bH [.agg [.slc 291 0 2 2 1 false,.slc 290 0 2 2 1 false,.slc 289 0 2 2 2 false,.slc 288 0 1 1 2 false,.int .i64 0],.int .i64 0],YA++[Z1,Wi,Jr,Z0R,ZC,Z0,Z1,Z0U,Z7,Z0W,Z2,Z0,Z1],[]⟩
def uO:fA:=⟨150,[.int .u8 15,.agg [.slc 285 0 2 2 1 false,.slc 284 0 2 2 1 false,.slc 283 0 1 1 2 true,.nil .slc,.int .i64 (-1)],.agg [.slc 291 0 2 2 1 false,.slc 290 0 2 2 1 false,.slc 289 0 2 2 2 false,.slc 288 0 1 1 2 false,.int .i64 0]],YA++[Z1,Wi,Jr,Z0R,ZC,Z0,Z1,Z0U,Z7,Z0W,Z2,Z0,Z1],.bH [.agg [.slc 296 0 2 2 1 false,.slc 295 0 2 2 1 false,.slc 294 0 2 2 2 false,.slc 293 0 1 1 2 false,.int .i64 0],.int .i64 0],YA++[Z1,Wi,Jr,Z0R,ZC,Z0,Z1,Z0U,Z7,Z0W,Z2,Z0,Z1,Z7,Z0b,Z2,Z0,Z1],[]⟩
def nO:fA:=⟨149,[.agg [.slc 267 0 2 2 1 false,.slc 266 0 2 2 1 false,.slc 265 0 2 2 2 false,.slc 264 0 1 1 2 false,.int .i64 0]],Y6,.bH [.agg [.slc 303 0 2 2 1 false,.slc 302 0 2 2 1 false,.slc 301 0 2 2 2 false,.slc 300 0 1 1 2 false,.int .i64 0],.int .i64 0],Y6++[Z7,Z0z,Z2,Z0,Z1],[]⟩
def zD:fA:=⟨151,[.int .u8 6,.agg [.slc 303 0 2 2 1 false,.slc 302 0 2 2 1 false,.slc 301 0 2 2 2 false,.slc 300 0 1 1 2 false,.int .i64 0]],Y6++[Z7,Z0z,Z2,Z0,Z1],.bH [.agg [.slc 308 0 2 2 1 false,.slc 307 0 2 2 1 false,.slc 306 0 2 2 2 false,.slc 305 0 1 1 2 false,.int .i64 0],.int .i64 0],Y6++[Z7,Z0z,Z2,Z0,Z1,Z7,Z1G,Z4,Z0,Z1],[]⟩
def uP:fA:=⟨150,[.int .u8 15,.agg [.slc 296 0 2 2 1 false,.slc 295 0 2 2 1 false,.slc 294 0 2 2 2 false,.slc 293 0 1 1 2 false,.int .i64 0],.agg [.slc 308 0 2 2 1 false,.slc 307 0 2 2 1 false,.slc 306 0 2 2 2 false,.slc 305 0 1 1 2 false,.int .i64 0]],Y6++[Z7,Z0z,Z2,Z0,Z1,Z7,Z1G,Z4,Z0,Z1],.bH [.agg [.slc 311 0 2 2 1 false,.slc 310 0 2 2 1 false,.slc 309 0 1 1 2 false,.nil .slc,.int .i64 (-1)],.int .i64 0],Y6++[Z7,Z0z,Z2,Z0,Z1,Z7,Z1G,Z4,Z0,Z1,ZI,Z0,Z1],[]⟩
theorem WI:jA Tryz.prog T0 4096 60 (.fn 130 [] []) uN.xs uN.h=some uN.r:=by kernel_rfl
theorem Oq:jA Tryz.prog T0 4096 60 (.fn 149 [] []) nN.xs nN.h=some nN.r:=by kernel_rfl
theorem WJ:jA Tryz.prog T0 4096 60 (.fn 150 [] []) uO.xs uO.h=some uO.r:=by kernel_rfl
theorem Ot:jA Tryz.prog T0 4096 60 (.fn 149 [] []) nO.xs nO.h=some nO.r:=by kernel_rfl
theorem YW:jA Tryz.prog T0 4096 60 (.fn 151 [] []) zD.xs zD.h=some zD.r:=by kernel_rfl
theorem WL:jA Tryz.prog T0 4096 60 (.fn 150 [] []) uP.xs uP.h=some uP.r:=by kernel_rfl
theorem a7r:Tryz.prog.follows .mixedOrders=true:=by kernel_rfl
theorem kQ8:aj Tryz.prog (bD [uN,nN,uO,nO,zD,uP]):=aV (dF (T:=T0) a7r (bI a7r) 60) (List.forall_mem_cons.2 ⟨WI,(List.forall_mem_cons.2 ⟨Oq,(List.forall_mem_cons.2 ⟨WJ,(List.forall_mem_cons.2 ⟨Ot,(List.forall_mem_cons.2 ⟨YW,(List.forall_mem_cons.2 ⟨WL,(List.forall_mem_nil _)⟩)⟩)⟩)⟩)⟩)⟩)
end Go.Proofs.YtjkgcifieggcpaaGreat
