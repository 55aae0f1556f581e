/- Part 16 of a proof: closed runs of the given program, and the readings of its code that they use. -/
import Derived.Test.YtjkgcifieggcpaaGreatP14
set_option linter.constructorNameAsVariable false
set_option linter.unusedVariables false
set_option linter.unusedSimpArgs false
set_option linter.unusedSectionVars false
namespace Go.Proofs.YtjkgcifieggcpaaGreat
open Go Tw
def xM7:ay:=fun f xs h=>(bD [uJ,nK,uK,nM,zC,uM] f xs h).orElse fun _=>zn f xs h
theorem a3r:aj Tryz.prog xM7:=aj.or kA7 (bI mx1)
def a7s:ay:=fun f xs h=>(bD [qG] f xs h).orElse fun _=>xM7 f xs h
theorem YX:aj Tryz.prog a7s:=aj.or kP9 a3r
def a7t:ay:=fun f xs h=>(bD [FI] f xs h).orElse fun _=>a7s f xs h
theorem YZ:aj Tryz.prog a7t:=aj.or kA9 YX
def a7u:ay:=fun f xs h=>(bD [qF] f xs h).orElse fun _=>a7t f xs h
theorem a00:aj Tryz.prog a7u:=aj.or kP8 YZ
def a7v:ay:=fun f xs h=>(bD [FH] f xs h).orElse fun _=>a7u f xs h
theorem a01:aj Tryz.prog a7v:=aj.or kA8 a00
def a7w:ay:=fun f xs h=>(bD [uI] f xs h).orElse fun _=>a7v f xs h
theorem a02:aj Tryz.prog a7w:=aj.or kW6 a01
def a7x:ay:=fun f xs h=>(bD [zB,FD,AB] f xs h).orElse fun _=>a7w f xs h
theorem a03:aj Tryz.prog a7x:=aj.or kA6 a02
def a7y:ay:=fun f xs h=>(bD [uH] f xs h).orElse fun _=>a7x f xs h
theorem a04:aj Tryz.prog a7y:=aj.or kW5 a03
def a7z:ay:=fun f xs h=>(bD [zA,FB,FC,Az] f xs h).orElse fun _=>a7y f xs h
theorem a05:aj Tryz.prog a7z:=aj.or kA5 a04
def a7A:ay:=fun f xs h=>(bD [uG] f xs h).orElse fun _=>a7z f xs h
theorem a06:aj Tryz.prog a7A:=aj.or kW4 a05
def a7B:ay:=fun f xs h=>(bD [zy,Fz,Aw] f xs h).orElse fun _=>a7A f xs h
theorem a07:aj Tryz.prog a7B:=aj.or kA4 a06
def a7C:ay:=fun f xs h=>(bD [uF] f xs h).orElse fun _=>a7B f xs h
theorem a08:aj Tryz.prog a7C:=aj.or kW3 a07
def a7D:ay:=fun f xs h=>(bD [zu,Fv,Au] f xs h).orElse fun _=>a7C f xs h
theorem a09:aj Tryz.prog a7D:=aj.or kA3 a08
def a7E:ay:=fun f xs h=>(bD [uD] f xs h).orElse fun _=>a7D f xs h
theorem a0a:aj Tryz.prog a7E:=aj.or kW2 a09
def a7F:ay:=fun f xs h=>(bD [zq,Fj,Fq,Aq] f xs h).orElse fun _=>a7E f xs h
theorem a0b:aj Tryz.prog a7F:=aj.or kA2 a0a
def a7G:ay:=fun f xs h=>(bD [uz] f xs h).orElse fun _=>a7F f xs h
theorem a0c:aj Tryz.prog a7G:=aj.or kW1 a0b
def a7H:ay:=fun f xs h=>(bD [zo,Fg,Fh,Ap] f xs h).orElse fun _=>a7G f xs h
theorem a0d:aj Tryz.prog a7H:=aj.or kA1 a0c
def TM:Tw.iF:={ T0 with exts:=[21,35,48,112,130,149,150,151]++T0.exts,ext:=a7H }
def Aw1:St:=⟨[],[],[],[]⟩
def Aw2:St:=⟨[(1,.val (.slc 28 0 2 2 1 false)),(2,.val (.int .i64 0))],[],YI++[ZH,Z0,Z1,Z8],[]⟩
def Aw3:St:=⟨[(1,.val (.slc 28 0 2 2 1 false)),(2,.val (.int .i64 0)),(3,.val (.slc 59 0 2 2 1 false)),(4,.val (.int .i64 0))],[],YE++[Z0,Z1,ZO,Z0,Z1,Z9,Z8,ZR],[]⟩
def Aw4:St:=⟨[(1,.val (.slc 28 0 2 2 1 false)),(2,.val (.int .i64 0)),(3,.val (.slc 59 0 2 2 1 false)),(4,.val (.int .i64 0)),(5,.val (.slc 90 0 2 2 1 false)),(6,.val (.int .i64 0))],[],YC++[Z3,ZU,Z2,Z0,Z1,ZX,Z0,Z1,Z9,Z6,ZY],[]⟩
def Aw5:St:=⟨[(1,.val (.slc 28 0 2 2 1 false)),(2,.val (.int .i64 0)),(3,.val (.slc 59 0 2 2 1 false)),(4,.val (.int .i64 0)),(5,.val (.slc 90 0 2 2 1 false)),(6,.val (.int .i64 0)),(7,.val (.slc 119 0 1 1 1 false)),(8,.val (.int .i64 0))],[],YK++[Z6],[]⟩
def Aw6:St:=⟨[(1,.val (.slc 28 0 2 2 1 false)),(2,.val (.int .i64 0)),(3,.val (.slc 59 0 2 2 1 false)),(4,.val (.int .i64 0)),(5,.val (.slc 90 0 2 2 1 false)),(6,.val (.int .i64 0)),(7,.val (.slc 119 0 1 1 1 false)),(8,.val (.int .i64 0)),(9,.val (.slc 152 0 4 4 1 false)),(10,.val (.int .i64 0))],[],YJ++[Zr],[]⟩
def Aw7:St:=⟨[(1,.val (.slc 28 0 2 2 1 false)),(2,.val (.int .i64 0)),(3,.val (.slc 59 0 2 2 1 false)),(4,.val (.int .i64 0)),(5,.val (.slc 90 0 2 2 1 false)),(6,.val (.int .i64 0)),(7,.val (.slc 119 0 1 1 1 false)),(8,.val (.int .i64 0)),(9,.val (.slc 152 0 4 4 1 false)),(10,.val (.int .i64 0)),(11,.val (.slc 193 0 3 3 5 false)),(12,.val (.int .i64 0))],[],Y3++[Z4,Z0,Z1,Z5,Zv,Z2,Z0,Z1,Z5,Zw,Z4,Z0,Z1,Z3,Zu,Z2,Z0,Z1,Zx,Z0,Z1,Z6,ZI,Z0,Z1,Z7,Zz,Z2,Z0,Z1,ZC,Z0,Z1,Zy],[]⟩
theorem abm:Fe Tryz.prog TM (jA Tryz.prog TM 4096 60) 4096 17 (W9 Tryz.prog 17) 1 (VZ Tryz.prog 17) ⟨[],[],[],[]⟩=some Aw1:=by kernel_rfl
theorem abn:Fe Tryz.prog TM (jA Tryz.prog TM 4096 60) 4096 17 (W9 Tryz.prog 17) 1 (sH 1 (VZ Tryz.prog 17)) Aw1=some Aw2:=by kernel_rfl
theorem abo:Fe Tryz.prog TM (jA Tryz.prog TM 4096 60) 4096 17 (W9 Tryz.prog 17) 1 (sH 1 (sH 1 (VZ Tryz.prog 17))) Aw2=some Aw3:=by kernel_rfl
theorem abp:Fe Tryz.prog TM (jA Tryz.prog TM 4096 60) 4096 17 (W9 Tryz.prog 17) 1 (sH 1 (sH 1 (sH 1 (VZ Tryz.prog 17)))) Aw3=some Aw4:=by kernel_rfl
theorem abq:Fe Tryz.prog TM (jA Tryz.prog TM 4096 60) 4096 17 (W9 Tryz.prog 17) 1 (sH 1 (sH 1 (sH 1 (sH 1 (VZ Tryz.prog 17))))) Aw4=some Aw5:=by kernel_rfl
theorem abr:Fe Tryz.prog TM (jA Tryz.prog TM 4096 60) 4096 17 (W9 Tryz.prog 17) 1 (sH 1 (sH 1 (sH 1 (sH 1 (sH 1 (VZ Tryz.prog 17)))))) Aw5=some Aw6:=by kernel_rfl
theorem abt:Fe Tryz.prog TM (jA Tryz.prog TM 4096 60) 4096 17 (W9 Tryz.prog 17) 1 (sH 1 (sH 1 (sH 1 (sH 1 (sH 1 (sH 1 (VZ Tryz.prog 17))))))) Aw6=some Aw7:=by kernel_rfl
theorem a3s:a2P Tryz.prog 17 (rU Tryz.prog TM (jA Tryz.prog TM 4096 60) 4096 17 false 0 (W9 Tryz.prog 17) (sH 1 (sH 1 (sH 1 (sH 1 (sH 1 (sH 1 (sH 1 (VZ Tryz.prog 17)))))))) Aw7)=true:=by kernel_rfl
theorem adI:isT (RY Tryz.prog TM (jA Tryz.prog TM 4096 60) 4096 17 [] [])=true:=YM (oK abm (oK abn (oK abo (oK abp (oK abq (oK abr (oK abt (Eq.refl (rU Tryz.prog TM (jA Tryz.prog TM 4096 60) 4096 17 false 0 (W9 Tryz.prog 17) (sH 1 (sH 1 (sH 1 (sH 1 (sH 1 (sH 1 (sH 1 (VZ Tryz.prog 17)))))))) Aw7))))))))) a3s
theorem abu:aj Tryz.prog TM.ext:=a0d
end Go.Proofs.YtjkgcifieggcpaaGreat
