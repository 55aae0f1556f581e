/- Part 16 of a proof: closed runs of the given program, and the readings of its code that they use. -/
import Derived.Test.YtjkgcifieggcpaaGreatP14
set_option linter.constructorNameAsVariable false
set_option linter.unusedVariables false
set_option linter.unusedSimpArgs false
set_option linter.unusedSectionVars false
namespace Go.Proofs.YtjkgcifieggcpaaGreat
open Go Tw
def xM7:ay:=fun f xs h=>(aW [qC,kZ,qF,l7,vS,qG] f xs h).orElse fun _=>vI f xs h
theorem XA:aj Tryz.prog xM7:=aj.or kA7 (bn Xd)
def a1c:ay:=fun f xs h=>(aW [nG] f xs h).orElse fun _=>xM7 f xs h
theorem Ui:aj Tryz.prog a1c:=aj.or kP9 XA
def a1d:ay:=fun f xs h=>(aW [CJ] f xs h).orElse fun _=>a1c f xs h
theorem Uj:aj Tryz.prog a1d:=aj.or kA9 Ui
def a1e:ay:=fun f xs h=>(aW [nD] f xs h).orElse fun _=>a1d f xs h
theorem Uk:aj Tryz.prog a1e:=aj.or kP8 Uj
def a1f:ay:=fun f xs h=>(aW [CG] f xs h).orElse fun _=>a1e f xs h
theorem Ul:aj Tryz.prog a1f:=aj.or kA8 Uk
def a1g:ay:=fun f xs h=>(aW [qA] f xs h).orElse fun _=>a1f f xs h
theorem Um:aj Tryz.prog a1g:=aj.or kW6 Ul
def a1h:ay:=fun f xs h=>(aW [vP,CB,xY] f xs h).orElse fun _=>a1g f xs h
theorem Un:aj Tryz.prog a1h:=aj.or kA6 Um
def a1i:ay:=fun f xs h=>(aW [qy] f xs h).orElse fun _=>a1h f xs h
theorem Uo:aj Tryz.prog a1i:=aj.or kW5 Un
def a1j:ay:=fun f xs h=>(aW [vO,Cj,Cm,xX] f xs h).orElse fun _=>a1i f xs h
theorem Ur:aj Tryz.prog a1j:=aj.or kA5 Uo
def a1k:ay:=fun f xs h=>(aW [qx] f xs h).orElse fun _=>a1j f xs h
theorem Us:aj Tryz.prog a1k:=aj.or kW4 Ur
def a1l:ay:=fun f xs h=>(aW [vN,Ci,xW] f xs h).orElse fun _=>a1k f xs h
theorem Ut:aj Tryz.prog a1l:=aj.or kA4 Us
def a1m:ay:=fun f xs h=>(aW [qw] f xs h).orElse fun _=>a1l f xs h
theorem Uu:aj Tryz.prog a1m:=aj.or kW3 Ut
def a1n:ay:=fun f xs h=>(aW [vM,Ce,xU] f xs h).orElse fun _=>a1m f xs h
theorem Uw:aj Tryz.prog a1n:=aj.or kA3 Uu
def a1o:ay:=fun f xs h=>(aW [qp] f xs h).orElse fun _=>a1n f xs h
theorem Ux:aj Tryz.prog a1o:=aj.or kW2 Uw
def a1p:ay:=fun f xs h=>(aW [vK,Cb,Cc,xR] f xs h).orElse fun _=>a1o f xs h
theorem Uy:aj Tryz.prog a1p:=aj.or kA2 Ux
def a1q:ay:=fun f xs h=>(aW [qo] f xs h).orElse fun _=>a1p f xs h
theorem Uz:aj Tryz.prog a1q:=aj.or kW1 Uy
def a1r:ay:=fun f xs h=>(aW [vJ,BZ,C9,xQ] f xs h).orElse fun _=>a1q f xs h
theorem UA:aj Tryz.prog a1r:=aj.or kA1 Uz
def TM:Tw.Tab:={ T0 with exts:=[21,35,48,112,130,149,150,151]++T0.exts,ext:=a1r }
def Aw1:St:=⟨[],[],[],[]⟩
def Aw2:St:=⟨[(1,.val (.slc 28 0 2 2 1 false)),(2,.val (.int .i64 0))],[],[Z3,ZB,Z2,Z0,Z1,Z3,ZE,Z4,Z0,Z1,Z5,ZF,Z2,Z0,Z1,Z5,ZG,Z4,Z0,Z1,Z3,ZD,Z2,Z0,Z1,ZH,Z0,Z1,Z8],[]⟩
def Aw3:St:=⟨[(1,.val (.slc 28 0 2 2 1 false)),(2,.val (.int .i64 0)),(3,.val (.slc 59 0 2 2 1 false)),(4,.val (.int .i64 0))],[],[Z3,ZB,Z2,Z0,Z1,Z3,ZE,Z4,Z0,Z1,Z5,ZF,Z2,Z0,Z1,Z5,ZG,Z4,Z0,Z1,Z3,ZD,Z2,Z0,Z1,ZH,Z0,Z1,Z8,Z3,ZJ,Z2,Z0,Z1,Z3,ZK,Z4,Z0,Z1,Z5,ZM,Z2,Z0,Z1,Z5,ZN,Z4,Z0,Z1,Z3,ZL,Z2,Z0,Z1,ZO,Z0,Z1,Z9,Z8,ZR],[]⟩
def Aw4:St:=⟨[(1,.val (.slc 28 0 2 2 1 false)),(2,.val (.int .i64 0)),(3,.val (.slc 59 0 2 2 1 false)),(4,.val (.int .i64 0)),(5,.val (.slc 90 0 2 2 1 false)),(6,.val (.int .i64 0))],[],[Z3,ZB,Z2,Z0,Z1,Z3,ZE,Z4,Z0,Z1,Z5,ZF,Z2,Z0,Z1,Z5,ZG,Z4,Z0,Z1,Z3,ZD,Z2,Z0,Z1,ZH,Z0,Z1,Z8,Z3,ZJ,Z2,Z0,Z1,Z3,ZK,Z4,Z0,Z1,Z5,ZM,Z2,Z0,Z1,Z5,ZN,Z4,Z0,Z1,Z3,ZL,Z2,Z0,Z1,ZO,Z0,Z1,Z9,Z8,ZR,Z3,ZS,Z2,Z0,Z1,Z3,ZT,Z4,Z0,Z1,Z5,ZV,Z2,Z0,Z1,Z5,ZW,Z4,Z0,Z1,Z3,ZU,Z2,Z0,Z1,ZX,Z0,Z1,Z9,Z6,ZY],[]⟩
def Aw5:St:=⟨[(1,.val (.slc 28 0 2 2 1 false)),(2,.val (.int .i64 0)),(3,.val (.slc 59 0 2 2 1 false)),(4,.val (.int .i64 0)),(5,.val (.slc 90 0 2 2 1 false)),(6,.val (.int .i64 0)),(7,.val (.slc 119 0 1 1 1 false)),(8,.val (.int .i64 0))],[],[Z3,ZB,Z2,Z0,Z1,Z3,ZE,Z4,Z0,Z1,Z5,ZF,Z2,Z0,Z1,Z5,ZG,Z4,Z0,Z1,Z3,ZD,Z2,Z0,Z1,ZH,Z0,Z1,Z8,Z3,ZJ,Z2,Z0,Z1,Z3,ZK,Z4,Z0,Z1,Z5,ZM,Z2,Z0,Z1,Z5,ZN,Z4,Z0,Z1,Z3,ZL,Z2,Z0,Z1,ZO,Z0,Z1,Z9,Z8,ZR,Z3,ZS,Z2,Z0,Z1,Z3,ZT,Z4,Z0,Z1,Z5,ZV,Z2,Z0,Z1,Z5,ZW,Z4,Z0,Z1,Z3,ZU,Z2,Z0,Z1,ZX,Z0,Z1,Z9,Z6,ZY,Z3,ZZ,Z2,Z0,Z1,Z3,Zb,Z4,Z0,Z1,Z5,Zc,Z2,Z0,Z1,Z5,Zd,Z4,Z0,Z1,Z3,Za,Z2,Z0,Z1,Ze,Z0,Z1,Z6],[]⟩
def Aw6:St:=⟨[(1,.val (.slc 28 0 2 2 1 false)),(2,.val (.int .i64 0)),(3,.val (.slc 59 0 2 2 1 false)),(4,.val (.int .i64 0)),(5,.val (.slc 90 0 2 2 1 false)),(6,.val (.int .i64 0)),(7,.val (.slc 119 0 1 1 1 false)),(8,.val (.int .i64 0)),(9,.val (.slc 152 0 4 4 1 false)),(10,.val (.int .i64 0))],[],[Z3,ZB,Z2,Z0,Z1,Z3,ZE,Z4,Z0,Z1,Z5,ZF,Z2,Z0,Z1,Z5,ZG,Z4,Z0,Z1,Z3,ZD,Z2,Z0,Z1,ZH,Z0,Z1,Z8,Z3,ZJ,Z2,Z0,Z1,Z3,ZK,Z4,Z0,Z1,Z5,ZM,Z2,Z0,Z1,Z5,ZN,Z4,Z0,Z1,Z3,ZL,Z2,Z0,Z1,ZO,Z0,Z1,Z9,Z8,ZR,Z3,ZS,Z2,Z0,Z1,Z3,ZT,Z4,Z0,Z1,Z5,ZV,Z2,Z0,Z1,Z5,ZW,Z4,Z0,Z1,Z3,ZU,Z2,Z0,Z1,ZX,Z0,Z1,Z9,Z6,ZY,Z3,ZZ,Z2,Z0,Z1,Z3,Zb,Z4,Z0,Z1,Z5,Zc,Z2,Z0,Z1,Z5,Zd,Z4,Z0,Z1,Z3,Za,Z2,Z0,Z1,Ze,Z0,Z1,Z6,Z3,Zf,Z2,Z0,Z1,Z3,Zg,Z4,Z0,Z1,Z5,Zi,Z2,Z0,Z1,Z5,Zj,Z4,Z0,Z1,Z3,Zh,Z2,Z0,Z1,Zk,Z0,Z1,Zq,Zp,Zo,Zn,Zr],[]⟩
def Aw7:St:=⟨[(1,.val (.slc 28 0 2 2 1 false)),(2,.val (.int .i64 0)),(3,.val (.slc 59 0 2 2 1 false)),(4,.val (.int .i64 0)),(5,.val (.slc 90 0 2 2 1 false)),(6,.val (.int .i64 0)),(7,.val (.slc 119 0 1 1 1 false)),(8,.val (.int .i64 0)),(9,.val (.slc 152 0 4 4 1 false)),(10,.val (.int .i64 0)),(11,.val (.slc 193 0 3 3 5 false)),(12,.val (.int .i64 0))],[],[Z3,ZB,Z2,Z0,Z1,Z3,ZE,Z4,Z0,Z1,Z5,ZF,Z2,Z0,Z1,Z5,ZG,Z4,Z0,Z1,Z3,ZD,Z2,Z0,Z1,ZH,Z0,Z1,Z8,Z3,ZJ,Z2,Z0,Z1,Z3,ZK,Z4,Z0,Z1,Z5,ZM,Z2,Z0,Z1,Z5,ZN,Z4,Z0,Z1,Z3,ZL,Z2,Z0,Z1,ZO,Z0,Z1,Z9,Z8,ZR,Z3,ZS,Z2,Z0,Z1,Z3,ZT,Z4,Z0,Z1,Z5,ZV,Z2,Z0,Z1,Z5,ZW,Z4,Z0,Z1,Z3,ZU,Z2,Z0,Z1,ZX,Z0,Z1,Z9,Z6,ZY,Z3,ZZ,Z2,Z0,Z1,Z3,Zb,Z4,Z0,Z1,Z5,Zc,Z2,Z0,Z1,Z5,Zd,Z4,Z0,Z1,Z3,Za,Z2,Z0,Z1,Ze,Z0,Z1,Z6,Z3,Zf,Z2,Z0,Z1,Z3,Zg,Z4,Z0,Z1,Z5,Zi,Z2,Z0,Z1,Z5,Zj,Z4,Z0,Z1,Z3,Zh,Z2,Z0,Z1,Zk,Z0,Z1,Zq,Zp,Zo,Zn,Zr,Z3,Zs,Z2,Z0,Z1,Z3,Zt,Z4,Z0,Z1,Z5,Zv,Z2,Z0,Z1,Z5,Zw,Z4,Z0,Z1,Z3,Zu,Z2,Z0,Z1,Zx,Z0,Z1,Z6,ZI,Z0,Z1,Z7,Zz,Z2,Z0,Z1,ZC,Z0,Z1,Zy],[]⟩
theorem a4c:BX Tryz.prog TM (iL Tryz.prog TM 4096 60) 4096 17 (QK Tryz.prog 17) 1 (QJ Tryz.prog 17) ⟨[],[],[],[]⟩=some Aw1:=by kernel_rfl
theorem a4d:BX Tryz.prog TM (iL Tryz.prog TM 4096 60) 4096 17 (QK Tryz.prog 17) 1 (oM 1 (QJ Tryz.prog 17)) Aw1=some Aw2:=by kernel_rfl
theorem a4e:BX Tryz.prog TM (iL Tryz.prog TM 4096 60) 4096 17 (QK Tryz.prog 17) 1 (oM 1 (oM 1 (QJ Tryz.prog 17))) Aw2=some Aw3:=by kernel_rfl
theorem a4f:BX Tryz.prog TM (iL Tryz.prog TM 4096 60) 4096 17 (QK Tryz.prog 17) 1 (oM 1 (oM 1 (oM 1 (QJ Tryz.prog 17)))) Aw3=some Aw4:=by kernel_rfl
theorem a4g:BX Tryz.prog TM (iL Tryz.prog TM 4096 60) 4096 17 (QK Tryz.prog 17) 1 (oM 1 (oM 1 (oM 1 (oM 1 (QJ Tryz.prog 17))))) Aw4=some Aw5:=by kernel_rfl
theorem a4h:BX Tryz.prog TM (iL Tryz.prog TM 4096 60) 4096 17 (QK Tryz.prog 17) 1 (oM 1 (oM 1 (oM 1 (oM 1 (oM 1 (QJ Tryz.prog 17)))))) Aw5=some Aw6:=by kernel_rfl
theorem a4i:BX Tryz.prog TM (iL Tryz.prog TM 4096 60) 4096 17 (QK Tryz.prog 17) 1 (oM 1 (oM 1 (oM 1 (oM 1 (oM 1 (oM 1 (QJ Tryz.prog 17))))))) Aw6=some Aw7:=by kernel_rfl
theorem XB:WX Tryz.prog 17 (oG Tryz.prog TM (iL Tryz.prog TM 4096 60) 4096 17 false 0 (QK Tryz.prog 17) (oM 1 (oM 1 (oM 1 (oM 1 (oM 1 (oM 1 (oM 1 (QJ Tryz.prog 17)))))))) Aw7)=true:=by kernel_rfl
theorem a5G:isT (NR Tryz.prog TM (iL Tryz.prog TM 4096 60) 4096 17 [] [])=true:=U5 (lU a4c (lU a4d (lU a4e (lU a4f (lU a4g (lU a4h (lU a4i (Eq.refl (oG Tryz.prog TM (iL Tryz.prog TM 4096 60) 4096 17 false 0 (QK Tryz.prog 17) (oM 1 (oM 1 (oM 1 (oM 1 (oM 1 (oM 1 (oM 1 (QJ Tryz.prog 17)))))))) Aw7))))))))) XB
theorem a4j:aj Tryz.prog TM.ext:=UA
end Go.Proofs.YtjkgcifieggcpaaGreat
