/- Part 16 of a proof: closed runs of the given program, and the readings of its code that they use. -/
import Derived.Test.YtjkgcifieggcpaaGreatP14
set_option linter.constructorNameAsVariable false
set_option linter.unusedVariables false
set_option linter.unusedSimpArgs false
set_option linter.unusedSectionVars false
namespace Go.Proofs.YtjkgcifieggcpaaGreat
open Go Tw
def xM7:ay:=fun f xs h=>(bD [uI,nJ,uJ,nK,zy,uK] f xs h).orElse fun _=>zi f xs h
theorem a3i:aj Tryz.prog xM7:=aj.or kA7 (bI mx1)
def a7j:ay:=fun f xs h=>(bD [qA] f xs h).orElse fun _=>xM7 f xs h
theorem YQ:aj Tryz.prog a7j:=aj.or kP9 a3i
def a7k:ay:=fun f xs h=>(bD [FC] f xs h).orElse fun _=>a7j f xs h
theorem YR:aj Tryz.prog a7k:=aj.or kA9 YQ
def a7l:ay:=fun f xs h=>(bD [qy] f xs h).orElse fun _=>a7k f xs h
theorem YS:aj Tryz.prog a7l:=aj.or kP8 YR
def a7m:ay:=fun f xs h=>(bD [FB] f xs h).orElse fun _=>a7l f xs h
theorem YT:aj Tryz.prog a7m:=aj.or kA8 YS
def a7n:ay:=fun f xs h=>(bD [uH] f xs h).orElse fun _=>a7m f xs h
theorem YU:aj Tryz.prog a7n:=aj.or kW6 YT
def a7o:ay:=fun f xs h=>(bD [zu,Fz,Au] f xs h).orElse fun _=>a7n f xs h
theorem YV:aj Tryz.prog a7o:=aj.or kA6 YU
def a7p:ay:=fun f xs h=>(bD [uG] f xs h).orElse fun _=>a7o f xs h
theorem YW:aj Tryz.prog a7p:=aj.or kW5 YV
def a7q:ay:=fun f xs h=>(bD [zq,Fq,Fv,Aq] f xs h).orElse fun _=>a7p f xs h
theorem YX:aj Tryz.prog a7q:=aj.or kA5 YW
def a7r:ay:=fun f xs h=>(bD [uF] f xs h).orElse fun _=>a7q f xs h
theorem YZ:aj Tryz.prog a7r:=aj.or kW4 YX
def a7s:ay:=fun f xs h=>(bD [zo,Fj,Ap] f xs h).orElse fun _=>a7r f xs h
theorem a00:aj Tryz.prog a7s:=aj.or kA4 YZ
def a7t:ay:=fun f xs h=>(bD [uD] f xs h).orElse fun _=>a7s f xs h
theorem a01:aj Tryz.prog a7t:=aj.or kW3 a00
def a7u:ay:=fun f xs h=>(bD [zn,Fh,Am] f xs h).orElse fun _=>a7t f xs h
theorem a02:aj Tryz.prog a7u:=aj.or kA3 a01
def a7v:ay:=fun f xs h=>(bD [uz] f xs h).orElse fun _=>a7u f xs h
theorem a03:aj Tryz.prog a7v:=aj.or kW2 a02
def a7w:ay:=fun f xs h=>(bD [zl,Fe,Fg,Ak] f xs h).orElse fun _=>a7v f xs h
theorem a04:aj Tryz.prog a7w:=aj.or kA2 a03
def a7x:ay:=fun f xs h=>(bD [uy] f xs h).orElse fun _=>a7w f xs h
theorem a05:aj Tryz.prog a7x:=aj.or kW1 a04
def a7y:ay:=fun f xs h=>(bD [zk,F9,Fb,Aj] f xs h).orElse fun _=>a7x f xs h
theorem a06:aj Tryz.prog a7y:=aj.or kA1 a05
def TM:Tw.iF:={ T0 with exts:=[21,35,48,112,130,149,150,151]++T0.exts,ext:=a7y }
def Aw1:St:=⟨[],[],[],[]⟩
def Aw2:St:=⟨[(1,.val (.slc 28 0 2 2 1 false)),(2,.val (.int .i64 0))],[],YI++[ZH,Z0,Z1,Z8],[]⟩
def Aw3:St:=⟨[(1,.val (.slc 28 0 2 2 1 false)),(2,.val (.int .i64 0)),(3,.val (.slc 59 0 2 2 1 false)),(4,.val (.int .i64 0))],[],YE++[Z0,Z1,ZO,Z0,Z1,Z9,Z8,ZR],[]⟩
def Aw4:St:=⟨[(1,.val (.slc 28 0 2 2 1 false)),(2,.val (.int .i64 0)),(3,.val (.slc 59 0 2 2 1 false)),(4,.val (.int .i64 0)),(5,.val (.slc 90 0 2 2 1 false)),(6,.val (.int .i64 0))],[],YC++[Z3,ZU,Z2,Z0,Z1,ZX,Z0,Z1,Z9,Z6,ZY],[]⟩
def Aw5:St:=⟨[(1,.val (.slc 28 0 2 2 1 false)),(2,.val (.int .i64 0)),(3,.val (.slc 59 0 2 2 1 false)),(4,.val (.int .i64 0)),(5,.val (.slc 90 0 2 2 1 false)),(6,.val (.int .i64 0)),(7,.val (.slc 119 0 1 1 1 false)),(8,.val (.int .i64 0))],[],YK++[Z6],[]⟩
def Aw6:St:=⟨[(1,.val (.slc 28 0 2 2 1 false)),(2,.val (.int .i64 0)),(3,.val (.slc 59 0 2 2 1 false)),(4,.val (.int .i64 0)),(5,.val (.slc 90 0 2 2 1 false)),(6,.val (.int .i64 0)),(7,.val (.slc 119 0 1 1 1 false)),(8,.val (.int .i64 0)),(9,.val (.slc 152 0 4 4 1 false)),(10,.val (.int .i64 0))],[],YJ++[Zr],[]⟩
def Aw7:St:=⟨[(1,.val (.slc 28 0 2 2 1 false)),(2,.val (.int .i64 0)),(3,.val (.slc 59 0 2 2 1 false)),(4,.val (.int .i64 0)),(5,.val (.slc 90 0 2 2 1 false)),(6,.val (.int .i64 0)),(7,.val (.slc 119 0 1 1 1 false)),(8,.val (.int .i64 0)),(9,.val (.slc 152 0 4 4 1 false)),(10,.val (.int .i64 0)),(11,.val (.slc 193 0 3 3 5 false)),(12,.val (.int .i64 0))],[],Y3++[Z4,Z0,Z1,Z5,Zv,Z2,Z0,Z1,Z5,Zw,Z4,Z0,Z1,Z3,Zu,Z2,Z0,Z1,Zx,Z0,Z1,Z6,ZI,Z0,Z1,Z7,Zz,Z2,Z0,Z1,ZC,Z0,Z1,Zy],[]⟩
theorem ab8:F8 Tryz.prog TM (jA Tryz.prog TM 4096 60) 4096 17 (VP Tryz.prog 17) 1 (VO Tryz.prog 17) ⟨[],[],[],[]⟩=some Aw1:=by kernel_rfl
theorem ab9:F8 Tryz.prog TM (jA Tryz.prog TM 4096 60) 4096 17 (VP Tryz.prog 17) 1 (sF 1 (VO Tryz.prog 17)) Aw1=some Aw2:=by kernel_rfl
theorem abb:F8 Tryz.prog TM (jA Tryz.prog TM 4096 60) 4096 17 (VP Tryz.prog 17) 1 (sF 1 (sF 1 (VO Tryz.prog 17))) Aw2=some Aw3:=by kernel_rfl
theorem abd:F8 Tryz.prog TM (jA Tryz.prog TM 4096 60) 4096 17 (VP Tryz.prog 17) 1 (sF 1 (sF 1 (sF 1 (VO Tryz.prog 17)))) Aw3=some Aw4:=by kernel_rfl
theorem abe:F8 Tryz.prog TM (jA Tryz.prog TM 4096 60) 4096 17 (VP Tryz.prog 17) 1 (sF 1 (sF 1 (sF 1 (sF 1 (VO Tryz.prog 17))))) Aw4=some Aw5:=by kernel_rfl
theorem abf:F8 Tryz.prog TM (jA Tryz.prog TM 4096 60) 4096 17 (VP Tryz.prog 17) 1 (sF 1 (sF 1 (sF 1 (sF 1 (sF 1 (VO Tryz.prog 17)))))) Aw5=some Aw6:=by kernel_rfl
theorem abg:F8 Tryz.prog TM (jA Tryz.prog TM 4096 60) 4096 17 (VP Tryz.prog 17) 1 (sF 1 (sF 1 (sF 1 (sF 1 (sF 1 (sF 1 (VO Tryz.prog 17))))))) Aw6=some Aw7:=by kernel_rfl
theorem a3j:a2G Tryz.prog 17 (rP Tryz.prog TM (jA Tryz.prog TM 4096 60) 4096 17 false 0 (VP Tryz.prog 17) (sF 1 (sF 1 (sF 1 (sF 1 (sF 1 (sF 1 (sF 1 (VO Tryz.prog 17)))))))) Aw7)=true:=by kernel_rfl
theorem adx:isT (RP Tryz.prog TM (jA Tryz.prog TM 4096 60) 4096 17 [] [])=true:=Yt (oJ ab8 (oJ ab9 (oJ abb (oJ abd (oJ abe (oJ abf (oJ abg (Eq.refl (rP Tryz.prog TM (jA Tryz.prog TM 4096 60) 4096 17 false 0 (VP Tryz.prog 17) (sF 1 (sF 1 (sF 1 (sF 1 (sF 1 (sF 1 (sF 1 (VO Tryz.prog 17)))))))) Aw7))))))))) a3j
theorem abh:aj Tryz.prog TM.ext:=a06
end Go.Proofs.YtjkgcifieggcpaaGreat
