import Derived.Test.YtfdcefmdjiokdaaGreatDoorUae
import Derived.Test.YtfdcefmdjiokdaaGreatDoorUad
import Derived.Test.YtfdcefmdjiokdaaGreatDoorUab
set_option linter.all false
set_option maxRecDepth 100000
open Int renaming reduceNegSucc→yc,reduceOfNat→ye
section
set_option maxHeartbeats 4000000
namespace VE
open mU (cc)
noncomputable section
def aau:ax:=ao (a:=cc 202) (by conv=>{lhs;reduce;try simp only [ye,yc]})
def Hv:VC:=ao (a:=bY aau [0] []) (by conv=>{lhs;reduce;try simp only [ye,yc]})
def eK:ax:=ao (a:=fun a=>fnv aau [a]) (by conv=>{lhs;reduce;try simp only [ye,yc]}) Hv
def Iq:ax:=ao (a:=cc 228) (by conv=>{lhs;reduce;try simp only [ye,yc]})
def Eg:ax:=ao (a:=cc 229) (by conv=>{lhs;reduce;try simp only [ye,yc]})
def MP:ax:=ao (a:=cc 230) (by conv=>{lhs;reduce;try simp only [ye,yc]})
def Ir:ax:=ao (a:=cc 241) (by conv=>{lhs;reduce;try simp only [ye,yc]})
def MQ:ax:=ao (a:=cc 243) (by conv=>{lhs;reduce;try simp only [ye,yc]})
def R6:ax:=ao (a:=cc 245) (by conv=>{lhs;reduce;try simp only [ye,yc]})
def R7:ax:=ao (a:=cc 246) (by conv=>{lhs;reduce;try simp only [ye,yc]})
def R8:ax:=ao (a:=cc 247) (by conv=>{lhs;reduce;try simp only [ye,yc]})
def R9:ax:=ao (a:=cc 252) (by conv=>{lhs;reduce;try simp only [ye,yc]})
end
end VE
end
section
set_option maxHeartbeats 4000000
namespace VE
open mU (cc)
noncomputable section
def aav:ax:=ao (a:=cc 261) (by conv=>{lhs;reduce;try simp only [ye,yc]})
def DI:VC:=ao (a:=bY aav [0] []) (by conv=>{lhs;reduce;try simp only [ye,yc]})
def Is:ax:=ao (a:=fun a=>fnv aav [a]) (by conv=>{lhs;reduce;try simp only [ye,yc]}) DI
def It:ax:=ao (a:=cc 262) (by conv=>{lhs;reduce;try simp only [ye,yc]})
def dc:ax:=ao (a:=cc 263) (by conv=>{lhs;reduce;try simp only [ye,yc]})
def Iu:ax:=ao (a:=cc 264) (by conv=>{lhs;reduce;try simp only [ye,yc]})
def Eh:ax:=ao (a:=cc 265) (by conv=>{lhs;reduce;try simp only [ye,yc]})
def Iv:ax:=ao (a:=cc 267) (by conv=>{lhs;reduce;try simp only [ye,yc]})
def Iw:ax:=ao (a:=cc 268) (by conv=>{lhs;reduce;try simp only [ye,yc]})
def Sa:ax:=ao (a:=cc 271) (by conv=>{lhs;reduce;try simp only [ye,yc]})
def aaw:ax:=ao (a:=cc 272) (by conv=>{lhs;reduce;try simp only [ye,yc]})
def DJ:VC:=ao (a:=bY aaw [0] []) (by conv=>{lhs;reduce;try simp only [ye,yc]})
def Ix:ax:=ao (a:=fun a=>fnv aaw [a]) (by conv=>{lhs;reduce;try simp only [ye,yc]}) DJ
def Cn:ax:=ao (a:=cc 273) (by conv=>{lhs;reduce;try simp only [ye,yc]})
def MR:ax:=ao (a:=cc 274) (by conv=>{lhs;reduce;try simp only [ye,yc]})
def aax:ax:=ao (a:=cc 275) (by conv=>{lhs;reduce;try simp only [ye,yc]})
def Hw:VC:=ao (a:=bY aax [0] []) (by conv=>{lhs;reduce;try simp only [ye,yc]})
def MS:ax:=ao (a:=fun a=>fnv aax [a]) (by conv=>{lhs;reduce;try simp only [ye,yc]}) Hw
def oI:ax:=ao (a:=cc 276) (by conv=>{lhs;reduce;try simp only [ye,yc]})
def AL:ax:=ao (a:=cc 277) (by conv=>{lhs;reduce;try simp only [ye,yc]})
def MT:ax:=ao (a:=cc 278) (by conv=>{lhs;reduce;try simp only [ye,yc]})
def Ei:ax:=ao (a:=cc 279) (by conv=>{lhs;reduce;try simp only [ye,yc]})
def nD:ax:=ao (a:=cc 280) (by conv=>{lhs;reduce;try simp only [ye,yc]})
def aay:ax:=ao (a:=cc 281) (by conv=>{lhs;reduce;try simp only [ye,yc]})
def qP:VC:=ao (a:=bY aay [0] []) (by conv=>{lhs;reduce;try simp only [ye,yc]})
def MU:ax:=ao (a:=fun a=>fnv aay [a]) (by conv=>{lhs;reduce;try simp only [ye,yc]}) qP
def aaz:ax:=ao (a:=cc 282) (by conv=>{lhs;reduce;try simp only [ye,yc]})
def Hx:VC:=ao (a:=bY aaz [0] []) (by conv=>{lhs;reduce;try simp only [ye,yc]})
def Iy:ax:=ao (a:=fun a=>fnv aaz [a]) (by conv=>{lhs;reduce;try simp only [ye,yc]}) Hx
def Sb:ax:=ao (a:=cc 284) (by conv=>{lhs;reduce;try simp only [ye,yc]})
def MV:ax:=ao (a:=cc 285) (by conv=>{lhs;reduce;try simp only [ye,yc]})
def MW:ax:=ao (a:=cc 286) (by conv=>{lhs;reduce;try simp only [ye,yc]})
def aaA:ax:=ao (a:=cc 287) (by conv=>{lhs;reduce;try simp only [ye,yc]})
def BX:VC:=ao (a:=bY aaA [0] []) (by conv=>{lhs;reduce;try simp only [ye,yc]})
def Iz:ax:=ao (a:=fun a=>fnv aaA [a]) (by conv=>{lhs;reduce;try simp only [ye,yc]}) BX
def aaB:ax:=ao (a:=cc 288) (by conv=>{lhs;reduce;try simp only [ye,yc]})
def sQ:VC:=ao (a:=bY aaB [0] []) (by conv=>{lhs;reduce;try simp only [ye,yc]})
def MX:ax:=ao (a:=fun a=>fnv aaB [a]) (by conv=>{lhs;reduce;try simp only [ye,yc]}) sQ
def HY:ax:=ao (a:=cc 289) (by conv=>{lhs;reduce;try simp only [ye,yc]})
def Hy:VC:=ao (a:=bY HY [0] []) (by conv=>{lhs;reduce;try simp only [ye,yc]})
def DK:VC:=ao (a:=bY HY [1,0] []) (by conv=>{lhs;reduce;try simp only [ye,yc]})
def Hz:VC:=ao (a:=bY HY [1,1] []) (by conv=>{lhs;reduce;try simp only [ye,yc]})
def HA:VC:=ao (a:=fun a b=>bY HY [1] [a,b]) (by conv=>{lhs;reduce;try simp only [ye,yc]}) DK Hz
def rh:ax:=ao (a:=fun a b=>fnv HY [a,b]) (by conv=>{lhs;reduce;try simp only [ye,yc]}) Hy HA
def aaC:ax:=ao (a:=cc 290) (by conv=>{lhs;reduce;try simp only [ye,yc]})
def HB:VC:=ao (a:=bY aaC [0] []) (by conv=>{lhs;reduce;try simp only [ye,yc]})
def Ej:ax:=ao (a:=fun a=>fnv aaC [a]) (by conv=>{lhs;reduce;try simp only [ye,yc]}) HB
def aaD:ax:=ao (a:=cc 291) (by conv=>{lhs;reduce;try simp only [ye,yc]})
def HC:VC:=ao (a:=bY aaD [0] []) (by conv=>{lhs;reduce;try simp only [ye,yc]})
def IA:ax:=ao (a:=fun a=>fnv aaD [a]) (by conv=>{lhs;reduce;try simp only [ye,yc]}) HC
def aaE:ax:=ao (a:=cc 292) (by conv=>{lhs;reduce;try simp only [ye,yc]})
def ns:VC:=ao (a:=bY aaE [0] []) (by conv=>{lhs;reduce;try simp only [ye,yc]})
def zh:ax:=ao (a:=fun a=>fnv aaE [a]) (by conv=>{lhs;reduce;try simp only [ye,yc]}) ns
def Re:ax:=ao (a:=cc 293) (by conv=>{lhs;reduce;try simp only [ye,yc]})
def HE:VC:=ao (a:=bY Re [0,0] []) (by conv=>{lhs;reduce;try simp only [ye,yc]})
def HF:VC:=ao (a:=fun a=>bY Re [0] [a]) (by conv=>{lhs;reduce;try simp only [ye,yc]}) HE
def AM:ax:=ao (a:=fun a=>fnv Re [a]) (by conv=>{lhs;reduce;try simp only [ye,yc]}) HF
def AN:ax:=ao (a:=cc 294) (by conv=>{lhs;reduce;try simp only [ye,yc]})
def aaF:ax:=ao (a:=cc 295) (by conv=>{lhs;reduce;try simp only [ye,yc]})
def oA:VC:=ao (a:=bY aaF [0] []) (by conv=>{lhs;reduce;try simp only [ye,yc]})
def IB:ax:=ao (a:=fun a=>fnv aaF [a]) (by conv=>{lhs;reduce;try simp only [ye,yc]}) oA
def aaG:ax:=ao (a:=cc 296) (by conv=>{lhs;reduce;try simp only [ye,yc]})
def BY:VC:=ao (a:=bY aaG [0] []) (by conv=>{lhs;reduce;try simp only [ye,yc]})
def ri:ax:=ao (a:=fun a=>fnv aaG [a]) (by conv=>{lhs;reduce;try simp only [ye,yc]}) BY
def aaH:ax:=ao (a:=cc 297) (by conv=>{lhs;reduce;try simp only [ye,yc]})
def qQ:VC:=ao (a:=bY aaH [0] []) (by conv=>{lhs;reduce;try simp only [ye,yc]})
def IC:ax:=ao (a:=fun a=>fnv aaH [a]) (by conv=>{lhs;reduce;try simp only [ye,yc]}) qQ
def MY:ax:=ao (a:=cc 298) (by conv=>{lhs;reduce;try simp only [ye,yc]})
def aaI:ax:=ao (a:=cc 299) (by conv=>{lhs;reduce;try simp only [ye,yc]})
def HG:VC:=ao (a:=bY aaI [0] []) (by conv=>{lhs;reduce;try simp only [ye,yc]})
def AO:ax:=ao (a:=fun a=>fnv aaI [a]) (by conv=>{lhs;reduce;try simp only [ye,yc]}) HG
def aaJ:ax:=ao (a:=cc 300) (by conv=>{lhs;reduce;try simp only [ye,yc]})
def BZ:VC:=ao (a:=bY aaJ [0] []) (by conv=>{lhs;reduce;try simp only [ye,yc]})
def lD:ax:=ao (a:=fun a=>fnv aaJ [a]) (by conv=>{lhs;reduce;try simp only [ye,yc]}) BZ
def aaK:ax:=ao (a:=cc 301) (by conv=>{lhs;reduce;try simp only [ye,yc]})
def Ao:VC:=ao (a:=bY aaK [0] []) (by conv=>{lhs;reduce;try simp only [ye,yc]})
def zi:ax:=ao (a:=fun a=>fnv aaK [a]) (by conv=>{lhs;reduce;try simp only [ye,yc]}) Ao
def rk:ax:=ao (a:=cc 302) (by conv=>{lhs;reduce;try simp only [ye,yc]})
end
end VE
end
section
set_option maxHeartbeats 4000000
namespace VE
open mU (cc)
noncomputable section
def MZ:ax:=ao (a:=cc 315) (by conv=>{lhs;reduce;try simp only [ye,yc]})
def M0:ax:=ao (a:=cc 319) (by conv=>{lhs;reduce;try simp only [ye,yc]})
def ID:ax:=ao (a:=cc 336) (by conv=>{lhs;reduce;try simp only [ye,yc]})
def Ek:ax:=ao (a:=cc 338) (by conv=>{lhs;reduce;try simp only [ye,yc]})
def Co:ax:=ao (a:=cc 339) (by conv=>{lhs;reduce;try simp only [ye,yc]})
def IE:ax:=ao (a:=cc 358) (by conv=>{lhs;reduce;try simp only [ye,yc]})
def rm:ax:=ao (a:=cc 359) (by conv=>{lhs;reduce;try simp only [ye,yc]})
def IF:ax:=ao (a:=cc 383) (by conv=>{lhs;reduce;try simp only [ye,yc]})
def IG:ax:=ao (a:=cc 386) (by conv=>{lhs;reduce;try simp only [ye,yc]})
def Rg:ax:=ao (a:=cc 387) (by conv=>{lhs;reduce;try simp only [ye,yc]})
def Ap:VC:=ao (a:=bY Rg [0] []) (by conv=>{lhs;reduce;try simp only [ye,yc]})
def Aq:VC:=ao (a:=bY Rg [1] []) (by conv=>{lhs;reduce;try simp only [ye,yc]})
def M1:ax:=ao (a:=fun a b=>fnv Rg [a,b]) (by conv=>{lhs;reduce;try simp only [ye,yc]}) Ap Aq
def Rh:ax:=ao (a:=cc 391) (by conv=>{lhs;reduce;try simp only [ye,yc]})
def DL:VC:=ao (a:=bY Rh [0,0] []) (by conv=>{lhs;reduce;try simp only [ye,yc]})
def HH:VC:=ao (a:=fun a=>bY Rh [0] [a]) (by conv=>{lhs;reduce;try simp only [ye,yc]}) DL
def nE:ax:=ao (a:=fun a=>fnv Rh [a]) (by conv=>{lhs;reduce;try simp only [ye,yc]}) HH
end
end VE
end
section
namespace VE
open mU (cc)
noncomputable def Ri:Tr ax:=(.n 115 abN (.n 62 N3 (.n 34 c34 (.n 21 (cc 21) (.n 15 (cc 15) (.n 5 (cc 5) (.n 3 c3 (.n 1 (cc 1) .l .l) (.n 4 c4 .l .l)) (.n 14 NY (.n 9 c9 .l .l) .l)) (.n 18 (cc 18) (.n 17 (cc 17) (.n 16 (cc 16) .l .l) .l) (.n 20 c20 (.n 19 NZ .l .l) .l))) (.n 28 (cc 28) (.n 25 (cc 25) (.n 23 (cc 23) (.n 22 (cc 22) .l .l) (.n 24 c24 .l .l)) (.n 27 (cc 27) (.n 26 (cc 26) .l .l) .l)) (.n 31 EN (.n 30 CR (.n 29 (cc 29) .l .l) .l) (.n 33 EO (.n 32 TL .l .l) .l)))) (.n 49 c49 (.n 41 c41 (.n 38 (cc 38) (.n 36 (cc 36) (.n 35 (cc 35) .l .l) (.n 37 (cc 37) .l .l)) (.n 40 c40 (.n 39 (cc 39) .l .l) .l)) (.n 46 N1 (.n 45 (cc 45) (.n 44 (cc 44) .l .l) .l) (.n 48 (cc 48) (.n 47 (cc 47) .l .l) .l))) (.n 56 TP (.n 53 TN (.n 51 c51 (.n 50 TM .l .l) (.n 52 (cc 52) .l .l)) (.n 55 N2 (.n 54 TO .l .l) .l)) (.n 59 (cc 59) (.n 58 c58 (.n 57 EP .l .l) .l) (.n 61 c61 (.n 60 c60 .l .l) .l))))) (.n 88 (cc 88) (.n 75 c75 (.n 69 TQ (.n 66 c66 (.n 64 c64 (.n 63 c63 .l .l) (.n 65 c65 .l .l)) (.n 68 c68 (.n 67 c67 .l .l) .l)) (.n 72 (cc 72) (.n 71 TS (.n 70 TR .l .l) .l) (.n 74 Jp (.n 73 TU .l .l) .l))) (.n 82 (cc 82) (.n 79 (cc 79) (.n 77 (cc 77) (.n 76 (cc 76) .l .l) (.n 78 (cc 78) .l .l)) (.n 81 (cc 81) (.n 80 (cc 80) .l .l) .l)) (.n 85 (cc 85) (.n 84 (cc 84) (.n 83 (cc 83) .l .l) .l) (.n 87 (cc 87) (.n 86 eP .l .l) .l)))) (.n 102 RY (.n 96 N5 (.n 92 (cc 92) (.n 90 (cc 90) (.n 89 (cc 89) .l .l) (.n 91 (cc 91) .l .l)) (.n 95 N4 (.n 94 EQ .l .l) .l)) (.n 99 CS (.n 98 N6 (.n 97 c97 .l .l) .l) (.n 101 mM (.n 100 mb .l .l) .l))) (.n 108 RZ (.n 105 MD (.n 104 MC (.n 103 Ig .l .l) .l) (.n 107 MF (.n 106 ME .l .l) .l)) (.n 112 abK (.n 111 R0 (.n 110 MG .l .l) .l) (.n 114 abM (.n 113 abL .l .l) .l)))))) (.n 247 R8 (.n 148 R3 (.n 129 Ec (.n 122 (cc 122) (.n 119 c119 (.n 117 MH (.n 116 abO .l .l) (.n 118 Cm .l .l)) (.n 121 (cc 121) (.n 120 (cc 120) .l .l) .l)) (.n 125 MI (.n 124 Eb (.n 123 (cc 123) .l .l) .l) (.n 127 (cc 127) (.n 126 (cc 126) .l .l) .l))) (.n 137 Ik (.n 133 Ii (.n 131 (cc 131) (.n 130 R1 .l .l) (.n 132 Ih .l .l)) (.n 136 Ij (.n 134 Ed .l .l) .l)) (.n 145 zg (.n 144 MK (.n 142 MJ .l .l) .l) (.n 147 Il (.n 146 R2 .l .l) .l)))) (.n 165 Io (.n 158 Ef (.n 155 Ee (.n 150 AJ (.n 149 R4 .l .l) (.n 151 ML .l .l)) (.n 157 Im (.n 156 R5 .l .l) .l)) (.n 161 (cc 161) (.n 160 (cc 160) (.n 159 MM .l .l) .l) (.n 164 mc (.n 163 MN .l .l) .l))) (.n 229 Eg (.n 172 Ip (.n 168 MO (.n 166 AK .l .l) (.n 169 re .l .l)) (.n 228 Iq (.n 202 eK .l .l) .l)) (.n 243 MQ (.n 241 Ir (.n 230 MP .l .l) .l) (.n 246 R7 (.n 245 R6 .l .l) .l))))) (.n 289 rh (.n 275 MS (.n 267 Iv (.n 263 dc (.n 261 Is (.n 252 R9 .l .l) (.n 262 It .l .l)) (.n 265 Eh (.n 264 Iu .l .l) .l)) (.n 272 Ix (.n 271 Sa (.n 268 Iw .l .l) .l) (.n 274 MR (.n 273 Cn .l .l) .l))) (.n 282 Iy (.n 279 Ei (.n 277 AL (.n 276 oI .l .l) (.n 278 MT .l .l)) (.n 281 MU (.n 280 nD .l .l) .l)) (.n 286 MW (.n 285 MV (.n 284 Sb .l .l) .l) (.n 288 MX (.n 287 Iz .l .l) .l)))) (.n 302 rk (.n 296 ri (.n 293 AM (.n 291 IA (.n 290 Ej .l .l) (.n 292 zh .l .l)) (.n 295 IB (.n 294 AN .l .l) .l)) (.n 299 AO (.n 298 MY (.n 297 IC .l .l) .l) (.n 301 zi (.n 300 lD .l .l) .l))) (.n 358 IE (.n 336 ID (.n 319 M0 (.n 315 MZ .l .l) .l) (.n 339 Co (.n 338 Ek .l .l) .l)) (.n 386 IG (.n 383 IF (.n 359 rm .l .l) .l) (.n 391 nE (.n 387 M1 .l .l) .l)))))))
def abP:Tr (List AV->Option AV):=(.n 154 HV (.n 139 Ag (.n 135 HU (.n 128 Ke (.n 109 My .l .l) .l) (.n 138 zU .l .l)) (.n 152 Kf (.n 143 qO .l .l) (.n 153 J5 .l .l))) (.n 173 Al (.n 167 DZ (.n 162 trimS .l .l) (.n 171 nn .l .l)) (.n 248 KR (.n 175 Hg .l .l) (.n 251 J0 .l .l))))
noncomputable def prog:aF:=Ri.find
def aX:Lib:=⟨abP.find,fun _=>none⟩
end VE
end
section
namespace VE
namespace mU
open Go
open Go.Proofs
def amf:Ri.kL (QE Tryz.prog ab bS hd):=by
 delta Ri
 repeat' first | exact Tr.iT | refine Tr.jy (ahG (by kernel_rfl) (by kernel_rfl)) ?_ ?_
end mU
end VE
end
