import Derived.Test.YtpdlhopnhojpjaaGreatDoorTag
import Derived.Test.YtpdlhopnhojpjaaGreatDoorTaf
import Derived.Test.YtpdlhopnhojpjaaGreatDoorTad
set_option linter.all false
set_option maxRecDepth 100000
open Int renaming reduceNegSucc→yb,reduceOfNat→yc
section
set_option maxHeartbeats 4000000
namespace VE
open pP (cc)
noncomputable section
def afo:av:=ap (a:=cc 261) (by conv=>{lhs;reduce;try simp only [yc,yb]})
def FW:VC:=ap (a:=bn afo [0] []) (by conv=>{lhs;reduce;try simp only [yc,yb]})
def La:av:=ap (a:=fun a=>b5 afo [a]) (by conv=>{lhs;reduce;try simp only [yc,yb]}) FW
def Lb:av:=ap (a:=cc 262) (by conv=>{lhs;reduce;try simp only [yc,yb]})
def dB:av:=ap (a:=cc 263) (by conv=>{lhs;reduce;try simp only [yc,yb]})
def Lc:av:=ap (a:=cc 264) (by conv=>{lhs;reduce;try simp only [yc,yb]})
def Ld:av:=ap (a:=cc 267) (by conv=>{lhs;reduce;try simp only [yc,yb]})
def Lf:av:=ap (a:=cc 268) (by conv=>{lhs;reduce;try simp only [yc,yb]})
def Lg:av:=ap (a:=cc 269) (by conv=>{lhs;reduce;try simp only [yc,yb]})
def VO:av:=ap (a:=cc 271) (by conv=>{lhs;reduce;try simp only [yc,yb]})
def afp:av:=ap (a:=cc 272) (by conv=>{lhs;reduce;try simp only [yc,yb]})
def FX:VC:=ap (a:=bn afp [0] []) (by conv=>{lhs;reduce;try simp only [yc,yb]})
def Lh:av:=ap (a:=fun a=>b5 afp [a]) (by conv=>{lhs;reduce;try simp only [yc,yb]}) FX
def Ed:av:=ap (a:=cc 273) (by conv=>{lhs;reduce;try simp only [yc,yb]})
def P1:av:=ap (a:=cc 274) (by conv=>{lhs;reduce;try simp only [yc,yb]})
def afq:av:=ap (a:=cc 275) (by conv=>{lhs;reduce;try simp only [yc,yb]})
def J6:VC:=ap (a:=bn afq [0] []) (by conv=>{lhs;reduce;try simp only [yc,yb]})
def P2:av:=ap (a:=fun a=>b5 afq [a]) (by conv=>{lhs;reduce;try simp only [yc,yb]}) J6
def qR:av:=ap (a:=cc 276) (by conv=>{lhs;reduce;try simp only [yc,yb]})
def Ee:av:=ap (a:=cc 277) (by conv=>{lhs;reduce;try simp only [yc,yb]})
def P3:av:=ap (a:=cc 278) (by conv=>{lhs;reduce;try simp only [yc,yb]})
def GM:av:=ap (a:=cc 279) (by conv=>{lhs;reduce;try simp only [yc,yb]})
def pw:av:=ap (a:=cc 280) (by conv=>{lhs;reduce;try simp only [yc,yb]})
def afr:av:=ap (a:=cc 281) (by conv=>{lhs;reduce;try simp only [yc,yb]})
def adn:VC:=ap (a:=bn afr [0] []) (by conv=>{lhs;reduce;try simp only [yc,yb]})
def VP:av:=ap (a:=fun a=>b5 afr [a]) (by conv=>{lhs;reduce;try simp only [yc,yb]}) adn
def afs:av:=ap (a:=cc 282) (by conv=>{lhs;reduce;try simp only [yc,yb]})
def J7:VC:=ap (a:=bn afs [0] []) (by conv=>{lhs;reduce;try simp only [yc,yb]})
def Li:av:=ap (a:=fun a=>b5 afs [a]) (by conv=>{lhs;reduce;try simp only [yc,yb]}) J7
def P4:av:=ap (a:=cc 283) (by conv=>{lhs;reduce;try simp only [yc,yb]})
def VQ:av:=ap (a:=cc 284) (by conv=>{lhs;reduce;try simp only [yc,yb]})
def P5:av:=ap (a:=cc 285) (by conv=>{lhs;reduce;try simp only [yc,yb]})
def P6:av:=ap (a:=cc 286) (by conv=>{lhs;reduce;try simp only [yc,yb]})
def aft:av:=ap (a:=cc 287) (by conv=>{lhs;reduce;try simp only [yc,yb]})
def DK:VC:=ap (a:=bn aft [0] []) (by conv=>{lhs;reduce;try simp only [yc,yb]})
def Lj:av:=ap (a:=fun a=>b5 aft [a]) (by conv=>{lhs;reduce;try simp only [yc,yb]}) DK
def afu:av:=ap (a:=cc 288) (by conv=>{lhs;reduce;try simp only [yc,yb]})
def As:VC:=ap (a:=bn afu [0] []) (by conv=>{lhs;reduce;try simp only [yc,yb]})
def P7:av:=ap (a:=fun a=>b5 afu [a]) (by conv=>{lhs;reduce;try simp only [yc,yb]}) As
def KK:av:=ap (a:=cc 289) (by conv=>{lhs;reduce;try simp only [yc,yb]})
def J8:VC:=ap (a:=bn KK [0] []) (by conv=>{lhs;reduce;try simp only [yc,yb]})
def FY:VC:=ap (a:=bn KK [1,0] []) (by conv=>{lhs;reduce;try simp only [yc,yb]})
def J9:VC:=ap (a:=bn KK [1,1] []) (by conv=>{lhs;reduce;try simp only [yc,yb]})
def Ka:VC:=ap (a:=fun a b=>bn KK [1] [a,b]) (by conv=>{lhs;reduce;try simp only [yc,yb]}) FY J9
def zb:av:=ap (a:=fun a b=>b5 KK [a,b]) (by conv=>{lhs;reduce;try simp only [yc,yb]}) J8 Ka
def afv:av:=ap (a:=cc 290) (by conv=>{lhs;reduce;try simp only [yc,yb]})
def Kb:VC:=ap (a:=bn afv [0] []) (by conv=>{lhs;reduce;try simp only [yc,yb]})
def GN:av:=ap (a:=fun a=>b5 afv [a]) (by conv=>{lhs;reduce;try simp only [yc,yb]}) Kb
def afw:av:=ap (a:=cc 291) (by conv=>{lhs;reduce;try simp only [yc,yb]})
def Kc:VC:=ap (a:=bn afw [0] []) (by conv=>{lhs;reduce;try simp only [yc,yb]})
def Lk:av:=ap (a:=fun a=>b5 afw [a]) (by conv=>{lhs;reduce;try simp only [yc,yb]}) Kc
def afx:av:=ap (a:=cc 292) (by conv=>{lhs;reduce;try simp only [yc,yb]})
def pg:VC:=ap (a:=bn afx [0] []) (by conv=>{lhs;reduce;try simp only [yc,yb]})
def AN:av:=ap (a:=fun a=>b5 afx [a]) (by conv=>{lhs;reduce;try simp only [yc,yb]}) pg
def UR:av:=ap (a:=cc 293) (by conv=>{lhs;reduce;try simp only [yc,yb]})
def Kd:VC:=ap (a:=bn UR [0,0] []) (by conv=>{lhs;reduce;try simp only [yc,yb]})
def Ke:VC:=ap (a:=fun a=>bn UR [0] [a]) (by conv=>{lhs;reduce;try simp only [yc,yb]}) Kd
def Cm:av:=ap (a:=fun a=>b5 UR [a]) (by conv=>{lhs;reduce;try simp only [yc,yb]}) Ke
def Cn:av:=ap (a:=cc 294) (by conv=>{lhs;reduce;try simp only [yc,yb]})
def afy:av:=ap (a:=cc 295) (by conv=>{lhs;reduce;try simp only [yc,yb]})
def qD:VC:=ap (a:=bn afy [0] []) (by conv=>{lhs;reduce;try simp only [yc,yb]})
def Ll:av:=ap (a:=fun a=>b5 afy [a]) (by conv=>{lhs;reduce;try simp only [yc,yb]}) qD
def afz:av:=ap (a:=cc 296) (by conv=>{lhs;reduce;try simp only [yc,yb]})
def DL:VC:=ap (a:=bn afz [0] []) (by conv=>{lhs;reduce;try simp only [yc,yb]})
def zc:av:=ap (a:=fun a=>b5 afz [a]) (by conv=>{lhs;reduce;try simp only [yc,yb]}) DL
def afA:av:=ap (a:=cc 297) (by conv=>{lhs;reduce;try simp only [yc,yb]})
def sO:VC:=ap (a:=bn afA [0] []) (by conv=>{lhs;reduce;try simp only [yc,yb]})
def Lm:av:=ap (a:=fun a=>b5 afA [a]) (by conv=>{lhs;reduce;try simp only [yc,yb]}) sO
def P8:av:=ap (a:=cc 298) (by conv=>{lhs;reduce;try simp only [yc,yb]})
def afB:av:=ap (a:=cc 299) (by conv=>{lhs;reduce;try simp only [yc,yb]})
def Kf:VC:=ap (a:=bn afB [0] []) (by conv=>{lhs;reduce;try simp only [yc,yb]})
def Co:av:=ap (a:=fun a=>b5 afB [a]) (by conv=>{lhs;reduce;try simp only [yc,yb]}) Kf
def afC:av:=ap (a:=cc 300) (by conv=>{lhs;reduce;try simp only [yc,yb]})
def DM:VC:=ap (a:=bn afC [0] []) (by conv=>{lhs;reduce;try simp only [yc,yb]})
def mJ:av:=ap (a:=fun a=>b5 afC [a]) (by conv=>{lhs;reduce;try simp only [yc,yb]}) DM
def afD:av:=ap (a:=cc 301) (by conv=>{lhs;reduce;try simp only [yc,yb]})
def BY:VC:=ap (a:=bn afD [0] []) (by conv=>{lhs;reduce;try simp only [yc,yb]})
def AO:av:=ap (a:=fun a=>b5 afD [a]) (by conv=>{lhs;reduce;try simp only [yc,yb]}) BY
def zd:av:=ap (a:=cc 302) (by conv=>{lhs;reduce;try simp only [yc,yb]})
end
end VE
end
section
set_option maxHeartbeats 4000000
namespace VE
open pP (cc)
noncomputable section
def Ef:av:=ap (a:=cc 314) (by conv=>{lhs;reduce;try simp only [yc,yb]})
def afE:av:=ap (a:=cc 316) (by conv=>{lhs;reduce;try simp only [yc,yb]})
def FZ:VC:=ap (a:=bn afE [0] []) (by conv=>{lhs;reduce;try simp only [yc,yb]})
def GO:av:=ap (a:=fun a=>b5 afE [a]) (by conv=>{lhs;reduce;try simp only [yc,yb]}) FZ
def afF:av:=ap (a:=cc 332) (by conv=>{lhs;reduce;try simp only [yc,yb]})
def F0:VC:=ap (a:=bn afF [0] []) (by conv=>{lhs;reduce;try simp only [yc,yb]})
def GP:av:=ap (a:=fun a=>b5 afF [a]) (by conv=>{lhs;reduce;try simp only [yc,yb]}) F0
def US:av:=ap (a:=cc 341) (by conv=>{lhs;reduce;try simp only [yc,yb]})
def DN:VC:=ap (a:=bn US [0,0] []) (by conv=>{lhs;reduce;try simp only [yc,yb]})
def At:VC:=ap (a:=fun a=>bn US [0] [a]) (by conv=>{lhs;reduce;try simp only [yc,yb]}) DN
def lz:av:=ap (a:=fun a=>b5 US [a]) (by conv=>{lhs;reduce;try simp only [yc,yb]}) At
def afG:av:=ap (a:=cc 342) (by conv=>{lhs;reduce;try simp only [yc,yb]})
def F1:VC:=ap (a:=bn afG [0] []) (by conv=>{lhs;reduce;try simp only [yc,yb]})
def Ln:av:=ap (a:=fun a=>b5 afG [a]) (by conv=>{lhs;reduce;try simp only [yc,yb]}) F1
def afH:av:=ap (a:=cc 343) (by conv=>{lhs;reduce;try simp only [yc,yb]})
def Au:VC:=ap (a:=bn afH [0] []) (by conv=>{lhs;reduce;try simp only [yc,yb]})
def GQ:av:=ap (a:=fun a=>b5 afH [a]) (by conv=>{lhs;reduce;try simp only [yc,yb]}) Au
def P9:av:=ap (a:=cc 344) (by conv=>{lhs;reduce;try simp only [yc,yb]})
def Cp:av:=ap (a:=cc 345) (by conv=>{lhs;reduce;try simp only [yc,yb]})
def afI:av:=ap (a:=cc 346) (by conv=>{lhs;reduce;try simp only [yc,yb]})
def Kg:VC:=ap (a:=bn afI [0] []) (by conv=>{lhs;reduce;try simp only [yc,yb]})
def Qa:av:=ap (a:=fun a=>b5 afI [a]) (by conv=>{lhs;reduce;try simp only [yc,yb]}) Kg
def UT:av:=ap (a:=cc 347) (by conv=>{lhs;reduce;try simp only [yc,yb]})
def DO:VC:=ap (a:=bn UT [0,0] []) (by conv=>{lhs;reduce;try simp only [yc,yb]})
def F2:VC:=ap (a:=fun a=>bn UT [0] [a]) (by conv=>{lhs;reduce;try simp only [yc,yb]}) DO
def Eg:av:=ap (a:=fun a=>b5 UT [a]) (by conv=>{lhs;reduce;try simp only [yc,yb]}) F2
def afJ:av:=ap (a:=cc 348) (by conv=>{lhs;reduce;try simp only [yc,yb]})
def F3:VC:=ap (a:=bn afJ [0] []) (by conv=>{lhs;reduce;try simp only [yc,yb]})
def Cq:av:=ap (a:=fun a=>b5 afJ [a]) (by conv=>{lhs;reduce;try simp only [yc,yb]}) F3
def afK:av:=ap (a:=cc 349) (by conv=>{lhs;reduce;try simp only [yc,yb]})
def F5:VC:=ap (a:=bn afK [0] []) (by conv=>{lhs;reduce;try simp only [yc,yb]})
def Eh:av:=ap (a:=fun a=>b5 afK [a]) (by conv=>{lhs;reduce;try simp only [yc,yb]}) F5
def UU:av:=ap (a:=cc 350) (by conv=>{lhs;reduce;try simp only [yc,yb]})
def F6:VC:=ap (a:=bn UU [0] []) (by conv=>{lhs;reduce;try simp only [yc,yb]})
def F7:VC:=ap (a:=bn UU [1] []) (by conv=>{lhs;reduce;try simp only [yc,yb]})
def ze:av:=ap (a:=fun a b=>b5 UU [a,b]) (by conv=>{lhs;reduce;try simp only [yc,yb]}) F6 F7
def nv:av:=ap (a:=cc 351) (by conv=>{lhs;reduce;try simp only [yc,yb]})
def afL:av:=ap (a:=cc 352) (by conv=>{lhs;reduce;try simp only [yc,yb]})
def Kh:VC:=ap (a:=bn afL [0] []) (by conv=>{lhs;reduce;try simp only [yc,yb]})
def Cr:av:=ap (a:=fun a=>b5 afL [a]) (by conv=>{lhs;reduce;try simp only [yc,yb]}) Kh
def Gt:av:=ap (a:=cc 353) (by conv=>{lhs;reduce;try simp only [yc,yb]})
def DP:VC:=ap (a:=bn Gt [0,0] []) (by conv=>{lhs;reduce;try simp only [yc,yb]})
def Ki:VC:=ap (a:=bn Gt [0,1] []) (by conv=>{lhs;reduce;try simp only [yc,yb]})
def Kj:VC:=ap (a:=bn Gt [0,2,0] []) (by conv=>{lhs;reduce;try simp only [yc,yb]})
def DQ:VC:=ap (a:=fun a=>bn Gt [0,2] [a]) (by conv=>{lhs;reduce;try simp only [yc,yb]}) Kj
def DR:VC:=ap (a:=fun a b c=>bn Gt [0] [a,b,c]) (by conv=>{lhs;reduce;try simp only [yc,yb]}) DP Ki DQ
def AP:av:=ap (a:=fun a=>b5 Gt [a]) (by conv=>{lhs;reduce;try simp only [yc,yb]}) DR
def afM:av:=ap (a:=cc 354) (by conv=>{lhs;reduce;try simp only [yc,yb]})
def F8:VC:=ap (a:=bn afM [0] []) (by conv=>{lhs;reduce;try simp only [yc,yb]})
def AQ:av:=ap (a:=fun a=>b5 afM [a]) (by conv=>{lhs;reduce;try simp only [yc,yb]}) F8
def zg:av:=ap (a:=cc 355) (by conv=>{lhs;reduce;try simp only [yc,yb]})
end
end VE
end
section
namespace VE
open pP (cc)
noncomputable def UW:Tr av:=(.n 113 ahO (.n 61 EK (.n 34 c34 (.n 20 c20 (.n 14 (cc 14) (.n 9 c9 (.n 4 c4 (.n 1 (cc 1) .l .l) (.n 5 (cc 5) .l .l)) (.n 13 lF (.n 11 ja .l .l) .l)) (.n 17 (cc 17) (.n 16 (cc 16) (.n 15 (cc 15) .l .l) .l) (.n 19 (cc 19) (.n 18 (cc 18) .l .l) .l))) (.n 27 zI (.n 24 c24 (.n 22 (cc 22) (.n 21 (cc 21) .l .l) (.n 23 (cc 23) .l .l)) (.n 26 (cc 26) (.n 25 (cc 25) .l .l) .l)) (.n 31 CP (.n 29 Mi (.n 28 (cc 28) .l .l) .l) (.n 33 Hs (.n 32 c32 .l .l) .l)))) (.n 48 (cc 48) (.n 41 c41 (.n 38 (cc 38) (.n 36 (cc 36) (.n 35 (cc 35) .l .l) (.n 37 (cc 37) .l .l)) (.n 40 c40 (.n 39 (cc 39) .l .l) .l)) (.n 45 (cc 45) (.n 44 (cc 44) (.n 42 Mj .l .l) .l) (.n 47 (cc 47) (.n 46 QR .l .l) .l))) (.n 55 c55 (.n 52 (cc 52) (.n 50 Xl (.n 49 c49 .l .l) (.n 51 c51 .l .l)) (.n 54 c54 (.n 53 c53 .l .l) .l)) (.n 58 c58 (.n 57 c57 (.n 56 c56 .l .l) .l) (.n 60 c60 (.n 59 (cc 59) .l .l) .l))))) (.n 87 QU (.n 74 Mk (.n 68 c68 (.n 65 c65 (.n 63 c63 (.n 62 QS .l .l) (.n 64 c64 .l .l)) (.n 67 c67 (.n 66 c66 .l .l) .l)) (.n 71 c71 (.n 70 Xn (.n 69 Xm .l .l) .l) (.n 73 Xo (.n 72 (cc 72) .l .l) .l))) (.n 81 (cc 81) (.n 78 (cc 78) (.n 76 (cc 76) (.n 75 c75 .l .l) (.n 77 (cc 77) .l .l)) (.n 80 (cc 80) (.n 79 (cc 79) .l .l) .l)) (.n 84 Ht (.n 83 Ml (.n 82 (cc 82) .l .l) .l) (.n 86 fJ (.n 85 QT .l .l) .l)))) (.n 100 ns (.n 94 c94 (.n 91 QW (.n 89 QV (.n 88 Hu .l .l) (.n 90 Bc .l .l)) (.n 93 QY (.n 92 QX .l .l) .l)) (.n 97 c97 (.n 96 c96 (.n 95 c95 .l .l) .l) (.n 99 EL (.n 98 QZ .l .l) .l))) (.n 106 ahM (.n 103 ahJ (.n 102 VG (.n 101 oh .l .l) .l) (.n 105 ahL (.n 104 ahK .l .l) .l)) (.n 110 PQ (.n 108 VH (.n 107 PP .l .l) .l) (.n 112 ahN (.n 111 VI .l .l) .l)))))) (.n 269 Lg (.n 146 VL (.n 126 K3 (.n 120 (cc 120) (.n 117 PR (.n 115 ahQ (.n 114 ahP .l .l) (.n 116 ahR .l .l)) (.n 119 c119 (.n 118 Ec .l .l) .l)) (.n 123 K2 (.n 122 K1 (.n 121 (cc 121) .l .l) .l) (.n 125 PS (.n 124 GH .l .l) .l))) (.n 134 VK (.n 131 Cj (.n 129 GI (.n 127 K4 .l .l) (.n 130 VJ .l .l)) (.n 133 ahT (.n 132 ahS .l .l) .l)) (.n 142 PT (.n 137 K6 (.n 136 K5 .l .l) .l) (.n 145 AM (.n 144 PU .l .l) .l)))) (.n 163 PY (.n 156 VN (.n 150 ahV (.n 148 VM (.n 147 K7 .l .l) (.n 149 ahU .l .l)) (.n 155 PW (.n 151 PV .l .l) .l)) (.n 159 PX (.n 158 GJ (.n 157 K8 .l .l) .l) (.n 161 GL (.n 160 GK .l .l) .l))) (.n 261 La (.n 168 PZ (.n 165 K9 (.n 164 nt .l .l) (.n 166 Cl .l .l)) (.n 172 P0 (.n 169 za .l .l) .l)) (.n 264 Lc (.n 263 dB (.n 262 Lb .l .l) .l) (.n 268 Lf (.n 267 Ld .l .l) .l))))) (.n 296 zc (.n 283 P4 (.n 277 Ee (.n 274 P1 (.n 272 Lh (.n 271 VO .l .l) (.n 273 Ed .l .l)) (.n 276 qR (.n 275 P2 .l .l) .l)) (.n 280 pw (.n 279 GM (.n 278 P3 .l .l) .l) (.n 282 Li (.n 281 VP .l .l) .l))) (.n 290 GN (.n 287 Lj (.n 285 P5 (.n 284 VQ .l .l) (.n 286 P6 .l .l)) (.n 289 zb (.n 288 P7 .l .l) .l)) (.n 293 Cm (.n 292 AN (.n 291 Lk .l .l) .l) (.n 295 Ll (.n 294 Cn .l .l) .l)))) (.n 344 P9 (.n 314 Ef (.n 300 mJ (.n 298 P8 (.n 297 Lm .l .l) (.n 299 Co .l .l)) (.n 302 zd (.n 301 AO .l .l) .l)) (.n 341 lz (.n 332 GP (.n 316 GO .l .l) .l) (.n 343 GQ (.n 342 Ln .l .l) .l))) (.n 350 ze (.n 347 Eg (.n 346 Qa (.n 345 Cp .l .l) .l) (.n 349 Eh (.n 348 Cq .l .l) .l)) (.n 353 AP (.n 352 Cr (.n 351 nv .l .l) .l) (.n 355 zg (.n 354 AQ .l .l) .l)))))))
def ahW:Tr (List AV->Option AV):=(.n 153 No (.n 138 Bw (.n 128 NA (.n 109 PN .l .l) (.n 135 Kz .l .l)) (.n 143 sN (.n 139 BP .l .l) (.n 152 NB .l .l))) (.n 171 pc (.n 162 trimS (.n 154 KA .l .l) (.n 167 Gn .l .l)) (.n 175 JR (.n 173 BV .l .l) .l)))
noncomputable def prog:aM:=UW.find
def aS:Lib:=⟨ahW.find,fun _=>none⟩
end VE
end
section
namespace VE
namespace pP
open Go
open Go.Proofs
def arz:UW.mQ (Ul Tryz.prog ae b8 hd):=by
 delta UW
 repeat' first | exact Tr.j8 | refine Tr.lX (anC (by kernel_rfl) (by kernel_rfl)) ?_ ?_
end pP
end VE
end
