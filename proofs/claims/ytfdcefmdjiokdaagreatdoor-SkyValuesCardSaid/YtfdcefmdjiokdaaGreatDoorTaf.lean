import Derived.Test.YtfdcefmdjiokdaaGreatDoorTae
import Derived.Test.YtfdcefmdjiokdaaGreatDoorTad
import Derived.Test.YtfdcefmdjiokdaaGreatDoorTab
set_option linter.all false
set_option maxRecDepth 100000
open Int renaming reduceNegSucc→yb,reduceOfNat→ye
section
set_option maxHeartbeats 4000000
namespace VE
open nd (cc)
noncomputable section
def abO:au:=ak (a:=cc 202) (by conv=>{lhs;reduce;try simp only [ye,yb]})
def Ie:VC:=ak (a:=bG abO [0] []) (by conv=>{lhs;reduce;try simp only [ye,yb]})
def eY:au:=ak (a:=fun a=>fnv abO [a]) (by conv=>{lhs;reduce;try simp only [ye,yb]}) Ie
def Jh:au:=ak (a:=cc 228) (by conv=>{lhs;reduce;try simp only [ye,yb]})
def EW:au:=ak (a:=cc 229) (by conv=>{lhs;reduce;try simp only [ye,yb]})
def ND:au:=ak (a:=cc 230) (by conv=>{lhs;reduce;try simp only [ye,yb]})
def Ji:au:=ak (a:=cc 241) (by conv=>{lhs;reduce;try simp only [ye,yb]})
def NE:au:=ak (a:=cc 243) (by conv=>{lhs;reduce;try simp only [ye,yb]})
def S9:au:=ak (a:=cc 245) (by conv=>{lhs;reduce;try simp only [ye,yb]})
def Ta:au:=ak (a:=cc 246) (by conv=>{lhs;reduce;try simp only [ye,yb]})
def Tb:au:=ak (a:=cc 247) (by conv=>{lhs;reduce;try simp only [ye,yb]})
def Tc:au:=ak (a:=cc 252) (by conv=>{lhs;reduce;try simp only [ye,yb]})
end
end VE
end
section
set_option maxHeartbeats 4000000
namespace VE
open nd (cc)
noncomputable section
def CS:au:=ak (a:=cc 255) (by conv=>{lhs;reduce;try simp only [ye,yb]})
def abP:au:=ak (a:=cc 261) (by conv=>{lhs;reduce;try simp only [ye,yb]})
def Ei:VC:=ak (a:=bG abP [0] []) (by conv=>{lhs;reduce;try simp only [ye,yb]})
def EX:au:=ak (a:=fun a=>fnv abP [a]) (by conv=>{lhs;reduce;try simp only [ye,yb]}) Ei
def Jj:au:=ak (a:=cc 262) (by conv=>{lhs;reduce;try simp only [ye,yb]})
def dl:au:=ak (a:=cc 263) (by conv=>{lhs;reduce;try simp only [ye,yb]})
def Jk:au:=ak (a:=cc 264) (by conv=>{lhs;reduce;try simp only [ye,yb]})
def EY:au:=ak (a:=cc 265) (by conv=>{lhs;reduce;try simp only [ye,yb]})
def NG:au:=ak (a:=cc 266) (by conv=>{lhs;reduce;try simp only [ye,yb]})
def Jl:au:=ak (a:=cc 267) (by conv=>{lhs;reduce;try simp only [ye,yb]})
def Jm:au:=ak (a:=cc 268) (by conv=>{lhs;reduce;try simp only [ye,yb]})
def Jn:au:=ak (a:=cc 269) (by conv=>{lhs;reduce;try simp only [ye,yb]})
def Td:au:=ak (a:=cc 271) (by conv=>{lhs;reduce;try simp only [ye,yb]})
def abQ:au:=ak (a:=cc 272) (by conv=>{lhs;reduce;try simp only [ye,yb]})
def Ej:VC:=ak (a:=bG abQ [0] []) (by conv=>{lhs;reduce;try simp only [ye,yb]})
def Jo:au:=ak (a:=fun a=>fnv abQ [a]) (by conv=>{lhs;reduce;try simp only [ye,yb]}) Ej
def CT:au:=ak (a:=cc 273) (by conv=>{lhs;reduce;try simp only [ye,yb]})
def NH:au:=ak (a:=cc 274) (by conv=>{lhs;reduce;try simp only [ye,yb]})
def abR:au:=ak (a:=cc 275) (by conv=>{lhs;reduce;try simp only [ye,yb]})
def Ig:VC:=ak (a:=bG abR [0] []) (by conv=>{lhs;reduce;try simp only [ye,yb]})
def NI:au:=ak (a:=fun a=>fnv abR [a]) (by conv=>{lhs;reduce;try simp only [ye,yb]}) Ig
def oR:au:=ak (a:=cc 276) (by conv=>{lhs;reduce;try simp only [ye,yb]})
def CU:au:=ak (a:=cc 277) (by conv=>{lhs;reduce;try simp only [ye,yb]})
def NJ:au:=ak (a:=cc 278) (by conv=>{lhs;reduce;try simp only [ye,yb]})
def EZ:au:=ak (a:=cc 279) (by conv=>{lhs;reduce;try simp only [ye,yb]})
def nJ:au:=ak (a:=cc 280) (by conv=>{lhs;reduce;try simp only [ye,yb]})
def abS:au:=ak (a:=cc 281) (by conv=>{lhs;reduce;try simp only [ye,yb]})
def qX:VC:=ak (a:=bG abS [0] []) (by conv=>{lhs;reduce;try simp only [ye,yb]})
def NK:au:=ak (a:=fun a=>fnv abS [a]) (by conv=>{lhs;reduce;try simp only [ye,yb]}) qX
def abT:au:=ak (a:=cc 282) (by conv=>{lhs;reduce;try simp only [ye,yb]})
def Ih:VC:=ak (a:=bG abT [0] []) (by conv=>{lhs;reduce;try simp only [ye,yb]})
def Jp:au:=ak (a:=fun a=>fnv abT [a]) (by conv=>{lhs;reduce;try simp only [ye,yb]}) Ih
def CV:au:=ak (a:=cc 283) (by conv=>{lhs;reduce;try simp only [ye,yb]})
def Tf:au:=ak (a:=cc 284) (by conv=>{lhs;reduce;try simp only [ye,yb]})
def NL:au:=ak (a:=cc 285) (by conv=>{lhs;reduce;try simp only [ye,yb]})
def NM:au:=ak (a:=cc 286) (by conv=>{lhs;reduce;try simp only [ye,yb]})
def abU:au:=ak (a:=cc 287) (by conv=>{lhs;reduce;try simp only [ye,yb]})
def Co:VC:=ak (a:=bG abU [0] []) (by conv=>{lhs;reduce;try simp only [ye,yb]})
def Jq:au:=ak (a:=fun a=>fnv abU [a]) (by conv=>{lhs;reduce;try simp only [ye,yb]}) Co
def abV:au:=ak (a:=cc 288) (by conv=>{lhs;reduce;try simp only [ye,yb]})
def sZ:VC:=ak (a:=bG abV [0] []) (by conv=>{lhs;reduce;try simp only [ye,yb]})
def NN:au:=ak (a:=fun a=>fnv abV [a]) (by conv=>{lhs;reduce;try simp only [ye,yb]}) sZ
def IS:au:=ak (a:=cc 289) (by conv=>{lhs;reduce;try simp only [ye,yb]})
def Ii:VC:=ak (a:=bG IS [0] []) (by conv=>{lhs;reduce;try simp only [ye,yb]})
def Ek:VC:=ak (a:=bG IS [1,0] []) (by conv=>{lhs;reduce;try simp only [ye,yb]})
def Ij:VC:=ak (a:=bG IS [1,1] []) (by conv=>{lhs;reduce;try simp only [ye,yb]})
def Ik:VC:=ak (a:=fun a b=>bG IS [1] [a,b]) (by conv=>{lhs;reduce;try simp only [ye,yb]}) Ek Ij
def rA:au:=ak (a:=fun a b=>fnv IS [a,b]) (by conv=>{lhs;reduce;try simp only [ye,yb]}) Ii Ik
def abW:au:=ak (a:=cc 290) (by conv=>{lhs;reduce;try simp only [ye,yb]})
def Il:VC:=ak (a:=bG abW [0] []) (by conv=>{lhs;reduce;try simp only [ye,yb]})
def E0:au:=ak (a:=fun a=>fnv abW [a]) (by conv=>{lhs;reduce;try simp only [ye,yb]}) Il
def abX:au:=ak (a:=cc 291) (by conv=>{lhs;reduce;try simp only [ye,yb]})
def Im:VC:=ak (a:=bG abX [0] []) (by conv=>{lhs;reduce;try simp only [ye,yb]})
def Jr:au:=ak (a:=fun a=>fnv abX [a]) (by conv=>{lhs;reduce;try simp only [ye,yb]}) Im
def abY:au:=ak (a:=cc 292) (by conv=>{lhs;reduce;try simp only [ye,yb]})
def nD:VC:=ak (a:=bG abY [0] []) (by conv=>{lhs;reduce;try simp only [ye,yb]})
def zp:au:=ak (a:=fun a=>fnv abY [a]) (by conv=>{lhs;reduce;try simp only [ye,yb]}) nD
def Sf:au:=ak (a:=cc 293) (by conv=>{lhs;reduce;try simp only [ye,yb]})
def Io:VC:=ak (a:=bG Sf [0,0] []) (by conv=>{lhs;reduce;try simp only [ye,yb]})
def Ip:VC:=ak (a:=fun a=>bG Sf [0] [a]) (by conv=>{lhs;reduce;try simp only [ye,yb]}) Io
def A1:au:=ak (a:=fun a=>fnv Sf [a]) (by conv=>{lhs;reduce;try simp only [ye,yb]}) Ip
def A2:au:=ak (a:=cc 294) (by conv=>{lhs;reduce;try simp only [ye,yb]})
def abZ:au:=ak (a:=cc 295) (by conv=>{lhs;reduce;try simp only [ye,yb]})
def oG:VC:=ak (a:=bG abZ [0] []) (by conv=>{lhs;reduce;try simp only [ye,yb]})
def Js:au:=ak (a:=fun a=>fnv abZ [a]) (by conv=>{lhs;reduce;try simp only [ye,yb]}) oG
def ab0:au:=ak (a:=cc 296) (by conv=>{lhs;reduce;try simp only [ye,yb]})
def Cp:VC:=ak (a:=bG ab0 [0] []) (by conv=>{lhs;reduce;try simp only [ye,yb]})
def rB:au:=ak (a:=fun a=>fnv ab0 [a]) (by conv=>{lhs;reduce;try simp only [ye,yb]}) Cp
def ab1:au:=ak (a:=cc 297) (by conv=>{lhs;reduce;try simp only [ye,yb]})
def qY:VC:=ak (a:=bG ab1 [0] []) (by conv=>{lhs;reduce;try simp only [ye,yb]})
def Jt:au:=ak (a:=fun a=>fnv ab1 [a]) (by conv=>{lhs;reduce;try simp only [ye,yb]}) qY
def NO:au:=ak (a:=cc 298) (by conv=>{lhs;reduce;try simp only [ye,yb]})
def ab2:au:=ak (a:=cc 299) (by conv=>{lhs;reduce;try simp only [ye,yb]})
def Iq:VC:=ak (a:=bG ab2 [0] []) (by conv=>{lhs;reduce;try simp only [ye,yb]})
def A3:au:=ak (a:=fun a=>fnv ab2 [a]) (by conv=>{lhs;reduce;try simp only [ye,yb]}) Iq
def ab3:au:=ak (a:=cc 300) (by conv=>{lhs;reduce;try simp only [ye,yb]})
def Cq:VC:=ak (a:=bG ab3 [0] []) (by conv=>{lhs;reduce;try simp only [ye,yb]})
def lJ:au:=ak (a:=fun a=>fnv ab3 [a]) (by conv=>{lhs;reduce;try simp only [ye,yb]}) Cq
def ab4:au:=ak (a:=cc 301) (by conv=>{lhs;reduce;try simp only [ye,yb]})
def AD:VC:=ak (a:=bG ab4 [0] []) (by conv=>{lhs;reduce;try simp only [ye,yb]})
def zq:au:=ak (a:=fun a=>fnv ab4 [a]) (by conv=>{lhs;reduce;try simp only [ye,yb]}) AD
def rC:au:=ak (a:=cc 302) (by conv=>{lhs;reduce;try simp only [ye,yb]})
end
end VE
end
section
set_option maxHeartbeats 4000000
namespace VE
open nd (cc)
noncomputable section
def ab5:au:=ak (a:=cc 305) (by conv=>{lhs;reduce;try simp only [ye,yb]})
def El:VC:=ak (a:=bG ab5 [0] []) (by conv=>{lhs;reduce;try simp only [ye,yb]})
def NP:au:=ak (a:=fun a=>fnv ab5 [a]) (by conv=>{lhs;reduce;try simp only [ye,yb]}) El
def NQ:au:=ak (a:=cc 308) (by conv=>{lhs;reduce;try simp only [ye,yb]})
def NR:au:=ak (a:=cc 315) (by conv=>{lhs;reduce;try simp only [ye,yb]})
def NS:au:=ak (a:=cc 319) (by conv=>{lhs;reduce;try simp only [ye,yb]})
def Tg:au:=ak (a:=cc 334) (by conv=>{lhs;reduce;try simp only [ye,yb]})
def CW:au:=ak (a:=cc 336) (by conv=>{lhs;reduce;try simp only [ye,yb]})
def NT:au:=ak (a:=cc 337) (by conv=>{lhs;reduce;try simp only [ye,yb]})
def zt:au:=ak (a:=cc 338) (by conv=>{lhs;reduce;try simp only [ye,yb]})
def zu:au:=ak (a:=cc 339) (by conv=>{lhs;reduce;try simp only [ye,yb]})
def ab6:au:=ak (a:=cc 340) (by conv=>{lhs;reduce;try simp only [ye,yb]})
def RF:VC:=ak (a:=bG ab6 [0] []) (by conv=>{lhs;reduce;try simp only [ye,yb]})
def CX:au:=ak (a:=fun a=>fnv ab6 [a]) (by conv=>{lhs;reduce;try simp only [ye,yb]}) RF
def ab7:au:=ak (a:=cc 377) (by conv=>{lhs;reduce;try simp only [ye,yb]})
def Ir:VC:=ak (a:=bG ab7 [0] []) (by conv=>{lhs;reduce;try simp only [ye,yb]})
def Th:au:=ak (a:=fun a=>fnv ab7 [a]) (by conv=>{lhs;reduce;try simp only [ye,yb]}) Ir
def Sg:au:=ak (a:=cc 382) (by conv=>{lhs;reduce;try simp only [ye,yb]})
def Cr:VC:=ak (a:=bG Sg [0,0] []) (by conv=>{lhs;reduce;try simp only [ye,yb]})
def Is:VC:=ak (a:=fun a=>bG Sg [0] [a]) (by conv=>{lhs;reduce;try simp only [ye,yb]}) Cr
def mW:au:=ak (a:=fun a=>fnv Sg [a]) (by conv=>{lhs;reduce;try simp only [ye,yb]}) Is
def Ju:au:=ak (a:=cc 383) (by conv=>{lhs;reduce;try simp only [ye,yb]})
def Sh:au:=ak (a:=cc 384) (by conv=>{lhs;reduce;try simp only [ye,yb]})
def Em:VC:=ak (a:=bG Sh [0,0] []) (by conv=>{lhs;reduce;try simp only [ye,yb]})
def It:VC:=ak (a:=fun a=>bG Sh [0] [a]) (by conv=>{lhs;reduce;try simp only [ye,yb]}) Em
def NU:au:=ak (a:=fun a=>fnv Sh [a]) (by conv=>{lhs;reduce;try simp only [ye,yb]}) It
def ab8:au:=ak (a:=cc 385) (by conv=>{lhs;reduce;try simp only [ye,yb]})
def Iu:VC:=ak (a:=bG ab8 [0] []) (by conv=>{lhs;reduce;try simp only [ye,yb]})
def Jv:au:=ak (a:=fun a=>fnv ab8 [a]) (by conv=>{lhs;reduce;try simp only [ye,yb]}) Iu
def Jw:au:=ak (a:=cc 386) (by conv=>{lhs;reduce;try simp only [ye,yb]})
def Si:au:=ak (a:=cc 387) (by conv=>{lhs;reduce;try simp only [ye,yb]})
def AE:VC:=ak (a:=bG Si [0] []) (by conv=>{lhs;reduce;try simp only [ye,yb]})
def AF:VC:=ak (a:=bG Si [1] []) (by conv=>{lhs;reduce;try simp only [ye,yb]})
def NV:au:=ak (a:=fun a b=>fnv Si [a,b]) (by conv=>{lhs;reduce;try simp only [ye,yb]}) AE AF
def Sj:au:=ak (a:=cc 388) (by conv=>{lhs;reduce;try simp only [ye,yb]})
def Iv:VC:=ak (a:=bG Sj [0] []) (by conv=>{lhs;reduce;try simp only [ye,yb]})
def En:VC:=ak (a:=bG Sj [1] []) (by conv=>{lhs;reduce;try simp only [ye,yb]})
def cX:au:=ak (a:=fun a b=>fnv Sj [a,b]) (by conv=>{lhs;reduce;try simp only [ye,yb]}) Iv En
def ab9:au:=ak (a:=cc 389) (by conv=>{lhs;reduce;try simp only [ye,yb]})
def Eo:VC:=ak (a:=bG ab9 [0] []) (by conv=>{lhs;reduce;try simp only [ye,yb]})
def E1:au:=ak (a:=fun a=>fnv ab9 [a]) (by conv=>{lhs;reduce;try simp only [ye,yb]}) Eo
def Sk:au:=ak (a:=cc 390) (by conv=>{lhs;reduce;try simp only [ye,yb]})
def Iw:VC:=ak (a:=bG Sk [0] []) (by conv=>{lhs;reduce;try simp only [ye,yb]})
def Ix:VC:=ak (a:=bG Sk [1] []) (by conv=>{lhs;reduce;try simp only [ye,yb]})
def NW:au:=ak (a:=fun a b=>fnv Sk [a,b]) (by conv=>{lhs;reduce;try simp only [ye,yb]}) Iw Ix
end
end VE
end
section
namespace VE
open nd (cc)
noncomputable def Sl:Tr au:=(.n 120 (cc 120) (.n 63 c63 (.n 34 c34 (.n 20 c20 (.n 11 OO (.n 4 c4 (.n 2 c2 (.n 1 (cc 1) .l .l) (.n 3 c3 .l .l)) (.n 9 c9 (.n 5 (cc 5) .l .l) .l)) (.n 17 (cc 17) (.n 15 (cc 15) (.n 14 (cc 14) .l .l) (.n 16 (cc 16) .l .l)) (.n 19 OP (.n 18 (cc 18) .l .l) .l))) (.n 27 (cc 27) (.n 24 c24 (.n 22 (cc 22) (.n 21 (cc 21) .l .l) (.n 23 (cc 23) .l .l)) (.n 26 (cc 26) (.n 25 (cc 25) .l .l) .l)) (.n 31 Fw (.n 29 (cc 29) (.n 28 (cc 28) .l .l) (.n 30 Dq .l .l)) (.n 33 Fx (.n 32 U5 .l .l) .l)))) (.n 49 c49 (.n 41 c41 (.n 38 (cc 38) (.n 36 (cc 36) (.n 35 (cc 35) .l .l) (.n 37 (cc 37) .l .l)) (.n 40 c40 (.n 39 (cc 39) .l .l) .l)) (.n 46 OQ (.n 44 (cc 44) (.n 42 Ki .l .l) (.n 45 (cc 45) .l .l)) (.n 48 (cc 48) (.n 47 (cc 47) .l .l) .l))) (.n 56 U9 (.n 53 U7 (.n 51 c51 (.n 50 U6 .l .l) (.n 52 (cc 52) .l .l)) (.n 55 OR (.n 54 U8 .l .l) .l)) (.n 60 c60 (.n 58 c58 (.n 57 Fy .l .l) (.n 59 (cc 59) .l .l)) (.n 62 OS (.n 61 c61 .l .l) .l))))) (.n 91 (cc 91) (.n 77 (cc 77) (.n 70 Vb (.n 67 c67 (.n 65 c65 (.n 64 c64 .l .l) (.n 66 c66 .l .l)) (.n 69 Va (.n 68 c68 .l .l) .l)) (.n 74 Kj (.n 72 (cc 72) (.n 71 Vc .l .l) (.n 73 Vd .l .l)) (.n 76 (cc 76) (.n 75 c75 .l .l) .l))) (.n 84 (cc 84) (.n 81 (cc 81) (.n 79 (cc 79) (.n 78 (cc 78) .l .l) (.n 80 (cc 80) .l .l)) (.n 83 (cc 83) (.n 82 (cc 82) .l .l) .l)) (.n 88 (cc 88) (.n 86 fe (.n 85 (cc 85) .l .l) (.n 87 (cc 87) .l .l)) (.n 90 (cc 90) (.n 89 (cc 89) .l .l) .l)))) (.n 106 Nr (.n 99 Dr (.n 96 OU (.n 94 FA (.n 92 (cc 92) .l .l) (.n 95 OT .l .l)) (.n 98 OV (.n 97 c97 .l .l) .l)) (.n 103 I8 (.n 101 mV (.n 100 mo .l .l) (.n 102 SY .l .l)) (.n 105 Nq (.n 104 Np .l .l) .l))) (.n 114 adf (.n 111 S3 (.n 108 SZ (.n 107 Ns .l .l) (.n 110 Nt .l .l)) (.n 113 ade (.n 112 adb .l .l) .l)) (.n 117 Nv (.n 116 adh (.n 115 adg .l .l) .l) (.n 119 c119 (.n 118 CR .l .l) .l)))))) (.n 267 Jl (.n 158 EV (.n 136 Jb (.n 127 (cc 127) (.n 124 ER (.n 122 (cc 122) (.n 121 (cc 121) .l .l) (.n 123 (cc 123) .l .l)) (.n 126 (cc 126) (.n 125 Nw .l .l) .l)) (.n 132 I9 (.n 130 S4 (.n 129 ES .l .l) (.n 131 (cc 131) .l .l)) (.n 134 ET (.n 133 Ja .l .l) .l))) (.n 148 S6 (.n 145 zo (.n 142 Nx (.n 137 Jc .l .l) (.n 144 Ny .l .l)) (.n 147 Jd (.n 146 S5 .l .l) .l)) (.n 155 EU (.n 150 AZ (.n 149 S7 .l .l) (.n 151 Nz .l .l)) (.n 157 Je (.n 156 S8 .l .l) .l)))) (.n 230 ND (.n 166 A0 (.n 163 NB (.n 160 (cc 160) (.n 159 NA .l .l) (.n 161 (cc 161) .l .l)) (.n 165 Jf (.n 164 mq .l .l) .l)) (.n 202 eY (.n 169 rz (.n 168 NC .l .l) (.n 172 Jg .l .l)) (.n 229 EW (.n 228 Jh .l .l) .l))) (.n 255 CS (.n 246 Ta (.n 243 NE (.n 241 Ji .l .l) (.n 245 S9 .l .l)) (.n 252 Tc (.n 247 Tb .l .l) .l)) (.n 264 Jk (.n 262 Jj (.n 261 EX .l .l) (.n 263 dl .l .l)) (.n 266 NG (.n 265 EY .l .l) .l))))) (.n 296 rB (.n 282 Jp (.n 275 NI (.n 272 Jo (.n 269 Jn (.n 268 Jm .l .l) (.n 271 Td .l .l)) (.n 274 NH (.n 273 CT .l .l) .l)) (.n 279 EZ (.n 277 CU (.n 276 oR .l .l) (.n 278 NJ .l .l)) (.n 281 NK (.n 280 nJ .l .l) .l))) (.n 289 rA (.n 286 NM (.n 284 Tf (.n 283 CV .l .l) (.n 285 NL .l .l)) (.n 288 NN (.n 287 Jq .l .l) .l)) (.n 293 A1 (.n 291 Jr (.n 290 E0 .l .l) (.n 292 zp .l .l)) (.n 295 Js (.n 294 A2 .l .l) .l)))) (.n 338 zt (.n 305 NP (.n 300 lJ (.n 298 NO (.n 297 Jt .l .l) (.n 299 A3 .l .l)) (.n 302 rC (.n 301 zq .l .l) .l)) (.n 334 Tg (.n 315 NR (.n 308 NQ .l .l) (.n 319 NS .l .l)) (.n 337 NT (.n 336 CW .l .l) .l))) (.n 385 Jv (.n 382 mW (.n 340 CX (.n 339 zu .l .l) (.n 377 Th .l .l)) (.n 384 NU (.n 383 Ju .l .l) .l)) (.n 388 cX (.n 387 NV (.n 386 Jw .l .l) .l) (.n 390 NW (.n 389 E1 .l .l) .l)))))))
def adi:Tr (List AV->Option AV):=(.n 154 IP (.n 139 At (.n 135 IN (.n 128 Lc (.n 109 Nk .l .l) .l) (.n 138 Ac .l .l)) (.n 152 Ld (.n 143 qW .l .l) (.n 153 K0 .l .l))) (.n 173 Az (.n 167 EF (.n 162 trimS .l .l) (.n 171 nC .l .l)) (.n 248 LS (.n 175 HY .l .l) (.n 251 KW .l .l))))
noncomputable def prog:aG:=Sl.find
def aX:Lib:=⟨adi.find,fun _=>none⟩
end VE
end
section
namespace VE
namespace nd
open Go
open Go.Proofs
def anA:Sl.kX (RE Tryz.prog ae bU hd):=by
 delta Sl
 repeat' first | exact Tr.iZ | refine Tr.jK (ai6 (by kernel_rfl) (by kernel_rfl)) ?_ ?_
end nd
end VE
end
