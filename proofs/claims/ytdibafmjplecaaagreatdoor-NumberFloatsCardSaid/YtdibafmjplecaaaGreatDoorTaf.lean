import Derived.Test.YtdibafmjplecaaaGreatDoorTae
import Derived.Test.YtdibafmjplecaaaGreatDoorTad
import Derived.Test.YtdibafmjplecaaaGreatDoorTab
set_option linter.all false
set_option maxRecDepth 100000
open Int renaming reduceNegSucc→yc,reduceOfNat→ye
section
set_option maxHeartbeats 4000000
namespace VE
open lF (cc)
noncomputable section
def ahB:aD:=av (a:=cc 188) (by conv=>{lhs;reduce;try simp only [ye,yc]})
def ahC:aD:=av (a:=cc 189) (by conv=>{lhs;reduce;try simp only [ye,yc]})
def ahD:aD:=⟨[.t 4,.t 5],.g [qb 2 2 0,qb 3 2 1,qk 4 0,qk 5 0] (.q (.g [qL 7 2 2,Cm 8 210 7,qL 9 2 3,Cm 10 210 9,Rq 11 (.lf 2 1 [.i 0,.i 0] [(0,1,.t 8),(1,1,.t 10)]),Cm 12 125 11,qm 6 12] (.g [qm 13 6,qN 14 13 0] (.i 14 (.e [qm 15 6,qk 4 0,qm 5 15])))) (.q (.dj 0 (.g [qo 17 1 2,ql 18 1 17,Cm 19 62 18,qo 20 0 3,ql 21 1 20,Cm 22 62 21,qc2 23 71 19 22,Rq 24 (.y .lss 23 0),qm 16 24] (.cond (.t 16) (.e [qk 4 (-1),qk 5 0]) (.g [qo 26 0 2,ql 27 1 26,Cm 28 62 27,qo 29 1 3,ql 30 1 29,Cm 31 62 30,qc2 32 71 28 31,Rq 33 (.y .gtr 32 0),qm 25 33] (.cond (.t 25) (.e [qk 4 1,qk 5 0]) (.g [qL 35 2 2,qL 36 2 3,Rq 37 (.eq false (.ag [2,2]) (.t 35) (.t 36)),qm 38 37,Rt 39 38 (.off 0 (.t 2)),Rt 40 38 (.ld 1 false (.t 39)),Rt 41 38 (.off 1 (.t 2)),Rt 42 38 (.ld 1 false (.t 41)),Rt 43 38 (.z .eql 40 42),qq 44 38 43,qm 34 44] (.i 34 (.e [qk 4 0,qk 5 0])))))))) (.e [qk 4 0,qk 5 24])))⟩
def agh:aD:=av (a:=cc 202) (by conv=>{lhs;reduce;try simp only [ye,yc]})
def GG:VC:=av (a:=bZ agh [0] []) (by conv=>{lhs;reduce;try simp only [ye,yc]})
def eG:aD:=av (a:=fun a=>cK agh [a]) (by conv=>{lhs;reduce;try simp only [ye,yc]}) GG
def Dv:aD:=av (a:=cc 203) (by conv=>{lhs;reduce;try simp only [ye,yc]})
def ahE:aD:=av (a:=cc 209) (by conv=>{lhs;reduce;try simp only [ye,yc]})
def ahF:aD:=av (a:=cc 210) (by conv=>{lhs;reduce;try simp only [ye,yc]})
def QB:aD:=av (a:=cc 211) (by conv=>{lhs;reduce;try simp only [ye,yc]})
def aty:VC:=av (a:=bZ QB [0,0] []) (by conv=>{lhs;reduce;try simp only [ye,yc]})
def atz:VC:=av (a:=fun a=>bZ QB [0] [a]) (by conv=>{lhs;reduce;try simp only [ye,yc]}) aty
def ahG:aD:=av (a:=fun a=>cK QB [a]) (by conv=>{lhs;reduce;try simp only [ye,yc]}) atz
def ahH:aD:=av (a:=cc 214) (by conv=>{lhs;reduce;try simp only [ye,yc]})
def Dw:aD:=av (a:=cc 228) (by conv=>{lhs;reduce;try simp only [ye,yc]})
def Dx:aD:=av (a:=cc 229) (by conv=>{lhs;reduce;try simp only [ye,yc]})
def LL:aD:=av (a:=cc 230) (by conv=>{lhs;reduce;try simp only [ye,yc]})
def QC:aD:=av (a:=cc 232) (by conv=>{lhs;reduce;try simp only [ye,yc]})
def GH:VC:=av (a:=bZ QC [0] []) (by conv=>{lhs;reduce;try simp only [ye,yc]})
def GI:VC:=av (a:=bZ QC [1] []) (by conv=>{lhs;reduce;try simp only [ye,yc]})
def lm:aD:=av (a:=fun a b=>cK QC [a,b]) (by conv=>{lhs;reduce;try simp only [ye,yc]}) GH GI
def agi:aD:=av (a:=cc 233) (by conv=>{lhs;reduce;try simp only [ye,yc]})
def atA:VC:=av (a:=bZ agi [0] []) (by conv=>{lhs;reduce;try simp only [ye,yc]})
def ahI:aD:=av (a:=fun a=>cK agi [a]) (by conv=>{lhs;reduce;try simp only [ye,yc]}) atA
def agj:aD:=av (a:=cc 234) (by conv=>{lhs;reduce;try simp only [ye,yc]})
def atB:VC:=av (a:=bZ agj [0] []) (by conv=>{lhs;reduce;try simp only [ye,yc]})
def ahJ:aD:=av (a:=fun a=>cK agj [a]) (by conv=>{lhs;reduce;try simp only [ye,yc]}) atB
def Dy:aD:=av (a:=cc 241) (by conv=>{lhs;reduce;try simp only [ye,yc]})
def LM:aD:=av (a:=cc 243) (by conv=>{lhs;reduce;try simp only [ye,yc]})
def RA:aD:=av (a:=cc 245) (by conv=>{lhs;reduce;try simp only [ye,yc]})
def RB:aD:=av (a:=cc 246) (by conv=>{lhs;reduce;try simp only [ye,yc]})
def RC:aD:=av (a:=cc 247) (by conv=>{lhs;reduce;try simp only [ye,yc]})
def RD:aD:=av (a:=cc 252) (by conv=>{lhs;reduce;try simp only [ye,yc]})
end
end VE
end
section
set_option maxHeartbeats 4000000
namespace VE
open lF (cc)
noncomputable section
def HC:aD:=av (a:=cc 262) (by conv=>{lhs;reduce;try simp only [ye,yc]})
def cR:aD:=av (a:=cc 263) (by conv=>{lhs;reduce;try simp only [ye,yc]})
def HE:aD:=av (a:=cc 264) (by conv=>{lhs;reduce;try simp only [ye,yc]})
def LO:aD:=av (a:=cc 265) (by conv=>{lhs;reduce;try simp only [ye,yc]})
def HF:aD:=av (a:=cc 267) (by conv=>{lhs;reduce;try simp only [ye,yc]})
def HG:aD:=av (a:=cc 268) (by conv=>{lhs;reduce;try simp only [ye,yc]})
def HH:aD:=av (a:=cc 269) (by conv=>{lhs;reduce;try simp only [ye,yc]})
def RE:aD:=av (a:=cc 271) (by conv=>{lhs;reduce;try simp only [ye,yc]})
def agk:aD:=av (a:=cc 272) (by conv=>{lhs;reduce;try simp only [ye,yc]})
def C3:VC:=av (a:=bZ agk [0] []) (by conv=>{lhs;reduce;try simp only [ye,yc]})
def HI:aD:=av (a:=fun a=>cK agk [a]) (by conv=>{lhs;reduce;try simp only [ye,yc]}) C3
def BN:aD:=av (a:=cc 273) (by conv=>{lhs;reduce;try simp only [ye,yc]})
def LP:aD:=av (a:=cc 274) (by conv=>{lhs;reduce;try simp only [ye,yc]})
def agl:aD:=av (a:=cc 275) (by conv=>{lhs;reduce;try simp only [ye,yc]})
def GJ:VC:=av (a:=bZ agl [0] []) (by conv=>{lhs;reduce;try simp only [ye,yc]})
def LQ:aD:=av (a:=fun a=>cK agl [a]) (by conv=>{lhs;reduce;try simp only [ye,yc]}) GJ
def nZ:aD:=av (a:=cc 276) (by conv=>{lhs;reduce;try simp only [ye,yc]})
def BO:aD:=av (a:=cc 277) (by conv=>{lhs;reduce;try simp only [ye,yc]})
def LR:aD:=av (a:=cc 278) (by conv=>{lhs;reduce;try simp only [ye,yc]})
def Dz:aD:=av (a:=cc 279) (by conv=>{lhs;reduce;try simp only [ye,yc]})
def mH:aD:=av (a:=cc 280) (by conv=>{lhs;reduce;try simp only [ye,yc]})
def agm:aD:=av (a:=cc 281) (by conv=>{lhs;reduce;try simp only [ye,yc]})
def p9:VC:=av (a:=bZ agm [0] []) (by conv=>{lhs;reduce;try simp only [ye,yc]})
def LS:aD:=av (a:=fun a=>cK agm [a]) (by conv=>{lhs;reduce;try simp only [ye,yc]}) p9
def agn:aD:=av (a:=cc 282) (by conv=>{lhs;reduce;try simp only [ye,yc]})
def GK:VC:=av (a:=bZ agn [0] []) (by conv=>{lhs;reduce;try simp only [ye,yc]})
def HJ:aD:=av (a:=fun a=>cK agn [a]) (by conv=>{lhs;reduce;try simp only [ye,yc]}) GK
def HK:aD:=av (a:=cc 283) (by conv=>{lhs;reduce;try simp only [ye,yc]})
def RF:aD:=av (a:=cc 284) (by conv=>{lhs;reduce;try simp only [ye,yc]})
def LU:aD:=av (a:=cc 285) (by conv=>{lhs;reduce;try simp only [ye,yc]})
def LV:aD:=av (a:=cc 286) (by conv=>{lhs;reduce;try simp only [ye,yc]})
def ago:aD:=av (a:=cc 287) (by conv=>{lhs;reduce;try simp only [ye,yc]})
def Bl:VC:=av (a:=bZ ago [0] []) (by conv=>{lhs;reduce;try simp only [ye,yc]})
def HL:aD:=av (a:=fun a=>cK ago [a]) (by conv=>{lhs;reduce;try simp only [ye,yc]}) Bl
def agp:aD:=av (a:=cc 288) (by conv=>{lhs;reduce;try simp only [ye,yc]})
def rP:VC:=av (a:=bZ agp [0] []) (by conv=>{lhs;reduce;try simp only [ye,yc]})
def LW:aD:=av (a:=fun a=>cK agp [a]) (by conv=>{lhs;reduce;try simp only [ye,yc]}) rP
def Hh:aD:=av (a:=cc 289) (by conv=>{lhs;reduce;try simp only [ye,yc]})
def GL:VC:=av (a:=bZ Hh [0] []) (by conv=>{lhs;reduce;try simp only [ye,yc]})
def C4:VC:=av (a:=bZ Hh [1,0] []) (by conv=>{lhs;reduce;try simp only [ye,yc]})
def GM:VC:=av (a:=bZ Hh [1,1] []) (by conv=>{lhs;reduce;try simp only [ye,yc]})
def GN:VC:=av (a:=fun a b=>bZ Hh [1] [a,b]) (by conv=>{lhs;reduce;try simp only [ye,yc]}) C4 GM
def qC:aD:=av (a:=fun a b=>cK Hh [a,b]) (by conv=>{lhs;reduce;try simp only [ye,yc]}) GL GN
def agq:aD:=av (a:=cc 290) (by conv=>{lhs;reduce;try simp only [ye,yc]})
def GO:VC:=av (a:=bZ agq [0] []) (by conv=>{lhs;reduce;try simp only [ye,yc]})
def DA:aD:=av (a:=fun a=>cK agq [a]) (by conv=>{lhs;reduce;try simp only [ye,yc]}) GO
def agr:aD:=av (a:=cc 291) (by conv=>{lhs;reduce;try simp only [ye,yc]})
def GP:VC:=av (a:=bZ agr [0] []) (by conv=>{lhs;reduce;try simp only [ye,yc]})
def HM:aD:=av (a:=fun a=>cK agr [a]) (by conv=>{lhs;reduce;try simp only [ye,yc]}) GP
def ags:aD:=av (a:=cc 292) (by conv=>{lhs;reduce;try simp only [ye,yc]})
def mB:VC:=av (a:=bZ ags [0] []) (by conv=>{lhs;reduce;try simp only [ye,yc]})
def sf:aD:=av (a:=fun a=>cK ags [a]) (by conv=>{lhs;reduce;try simp only [ye,yc]}) mB
def QD:aD:=av (a:=cc 293) (by conv=>{lhs;reduce;try simp only [ye,yc]})
def GQ:VC:=av (a:=bZ QD [0,0] []) (by conv=>{lhs;reduce;try simp only [ye,yc]})
def GR:VC:=av (a:=fun a=>bZ QD [0] [a]) (by conv=>{lhs;reduce;try simp only [ye,yc]}) GQ
def zX:aD:=av (a:=fun a=>cK QD [a]) (by conv=>{lhs;reduce;try simp only [ye,yc]}) GR
def zY:aD:=av (a:=cc 294) (by conv=>{lhs;reduce;try simp only [ye,yc]})
def agt:aD:=av (a:=cc 295) (by conv=>{lhs;reduce;try simp only [ye,yc]})
def nO:VC:=av (a:=bZ agt [0] []) (by conv=>{lhs;reduce;try simp only [ye,yc]})
def HN:aD:=av (a:=fun a=>cK agt [a]) (by conv=>{lhs;reduce;try simp only [ye,yc]}) nO
def agu:aD:=av (a:=cc 296) (by conv=>{lhs;reduce;try simp only [ye,yc]})
def Bm:VC:=av (a:=bZ agu [0] []) (by conv=>{lhs;reduce;try simp only [ye,yc]})
def qD:aD:=av (a:=fun a=>cK agu [a]) (by conv=>{lhs;reduce;try simp only [ye,yc]}) Bm
def agv:aD:=av (a:=cc 297) (by conv=>{lhs;reduce;try simp only [ye,yc]})
def qc:VC:=av (a:=bZ agv [0] []) (by conv=>{lhs;reduce;try simp only [ye,yc]})
def HO:aD:=av (a:=fun a=>cK agv [a]) (by conv=>{lhs;reduce;try simp only [ye,yc]}) qc
def LX:aD:=av (a:=cc 298) (by conv=>{lhs;reduce;try simp only [ye,yc]})
def agw:aD:=av (a:=cc 299) (by conv=>{lhs;reduce;try simp only [ye,yc]})
def GS:VC:=av (a:=bZ agw [0] []) (by conv=>{lhs;reduce;try simp only [ye,yc]})
def zZ:aD:=av (a:=fun a=>cK agw [a]) (by conv=>{lhs;reduce;try simp only [ye,yc]}) GS
def agx:aD:=av (a:=cc 300) (by conv=>{lhs;reduce;try simp only [ye,yc]})
def Bn:VC:=av (a:=bZ agx [0] []) (by conv=>{lhs;reduce;try simp only [ye,yc]})
def kC:aD:=av (a:=fun a=>cK agx [a]) (by conv=>{lhs;reduce;try simp only [ye,yc]}) Bn
def agy:aD:=av (a:=cc 301) (by conv=>{lhs;reduce;try simp only [ye,yc]})
def zH:VC:=av (a:=bZ agy [0] []) (by conv=>{lhs;reduce;try simp only [ye,yc]})
def sh:aD:=av (a:=fun a=>cK agy [a]) (by conv=>{lhs;reduce;try simp only [ye,yc]}) zH
def qF:aD:=av (a:=cc 302) (by conv=>{lhs;reduce;try simp only [ye,yc]})
end
end VE
end
section
set_option maxHeartbeats 4000000
namespace VE
open lF (cc)
noncomputable section
def LY:aD:=av (a:=cc 315) (by conv=>{lhs;reduce;try simp only [ye,yc]})
def LZ:aD:=av (a:=cc 319) (by conv=>{lhs;reduce;try simp only [ye,yc]})
def HP:aD:=av (a:=cc 336) (by conv=>{lhs;reduce;try simp only [ye,yc]})
def BP:aD:=av (a:=cc 338) (by conv=>{lhs;reduce;try simp only [ye,yc]})
def BQ:aD:=av (a:=cc 339) (by conv=>{lhs;reduce;try simp only [ye,yc]})
def agz:aD:=av (a:=cc 340) (by conv=>{lhs;reduce;try simp only [ye,yc]})
def Qa:VC:=av (a:=bZ agz [0] []) (by conv=>{lhs;reduce;try simp only [ye,yc]})
def HQ:aD:=av (a:=fun a=>cK agz [a]) (by conv=>{lhs;reduce;try simp only [ye,yc]}) Qa
def QE:aD:=av (a:=cc 388) (by conv=>{lhs;reduce;try simp only [ye,yc]})
def GU:VC:=av (a:=bZ QE [0] []) (by conv=>{lhs;reduce;try simp only [ye,yc]})
def C5:VC:=av (a:=bZ QE [1] []) (by conv=>{lhs;reduce;try simp only [ye,yc]})
def cL:aD:=av (a:=fun a b=>cK QE [a,b]) (by conv=>{lhs;reduce;try simp only [ye,yc]}) GU C5
def agA:aD:=av (a:=cc 389) (by conv=>{lhs;reduce;try simp only [ye,yc]})
def C6:VC:=av (a:=bZ agA [0] []) (by conv=>{lhs;reduce;try simp only [ye,yc]})
def DB:aD:=av (a:=fun a=>cK agA [a]) (by conv=>{lhs;reduce;try simp only [ye,yc]}) C6
def QF:aD:=av (a:=cc 390) (by conv=>{lhs;reduce;try simp only [ye,yc]})
def GV:VC:=av (a:=bZ QF [0] []) (by conv=>{lhs;reduce;try simp only [ye,yc]})
def GW:VC:=av (a:=bZ QF [1] []) (by conv=>{lhs;reduce;try simp only [ye,yc]})
def L2:aD:=av (a:=fun a b=>cK QF [a,b]) (by conv=>{lhs;reduce;try simp only [ye,yc]}) GV GW
end
end VE
end
section
set_option maxHeartbeats 4000000
namespace VE
open lF (cc)
noncomputable section
def agB:aD:=av (a:=cc 393) (by conv=>{lhs;reduce;try simp only [ye,yc]})
def C7:VC:=av (a:=bZ agB [0] []) (by conv=>{lhs;reduce;try simp only [ye,yc]})
def L3:aD:=av (a:=fun a=>cK agB [a]) (by conv=>{lhs;reduce;try simp only [ye,yc]}) C7
def L4:aD:=av (a:=cc 429) (by conv=>{lhs;reduce;try simp only [ye,yc]})
def QG:aD:=av (a:=cc 430) (by conv=>{lhs;reduce;try simp only [ye,yc]})
def GX:VC:=av (a:=bZ QG [0] []) (by conv=>{lhs;reduce;try simp only [ye,yc]})
def GY:VC:=av (a:=bZ QG [1] []) (by conv=>{lhs;reduce;try simp only [ye,yc]})
def L5:aD:=av (a:=fun a b=>cK QG [a,b]) (by conv=>{lhs;reduce;try simp only [ye,yc]}) GX GY
def gi:aD:=av (a:=cc 459) (by conv=>{lhs;reduce;try simp only [ye,yc]})
def BR:aD:=av (a:=cc 460) (by conv=>{lhs;reduce;try simp only [ye,yc]})
def HR:aD:=av (a:=cc 461) (by conv=>{lhs;reduce;try simp only [ye,yc]})
def agC:aD:=av (a:=cc 462) (by conv=>{lhs;reduce;try simp only [ye,yc]})
def C8:VC:=av (a:=bZ agC [0] []) (by conv=>{lhs;reduce;try simp only [ye,yc]})
def HS:aD:=av (a:=fun a=>cK agC [a]) (by conv=>{lhs;reduce;try simp only [ye,yc]}) C8
def agD:aD:=av (a:=cc 463) (by conv=>{lhs;reduce;try simp only [ye,yc]})
def KK:VC:=av (a:=bZ agD [0] []) (by conv=>{lhs;reduce;try simp only [ye,yc]})
def HT:aD:=av (a:=fun a=>cK agD [a]) (by conv=>{lhs;reduce;try simp only [ye,yc]}) KK
def DC:aD:=av (a:=cc 464) (by conv=>{lhs;reduce;try simp only [ye,yc]})
end
end VE
end
section
namespace VE
open lF (cc)
noncomputable def QH:Tr aD:=(.n 215 (cc 215) (.n 151 ahz (.n 110 LB (.n 74 sQ (.n 59 (cc 59) (.n 46 re (.n 29 (cc 29) (.n 28 (cc 28) .l .l) .l) (.n 50 Es (.n 49 c49 .l .l) .l)) (.n 70 IY (.n 69 IX (.n 62 Et .l .l) .l) (.n 73 Aw (.n 71 Cn .l .l) .l))) (.n 100 lk (.n 88 jR (.n 86 dl (.n 84 (cc 84) .l .l) .l) (.n 99 Co (.n 98 NN .l .l) .l)) (.n 107 ahy (.n 102 Rk (.n 101 lW .l .l) .l) (.n 108 Ro .l .l)))) (.n 130 Ru (.n 124 sd (.n 118 BL (.n 117 LC (.n 111 Rr .l .l) .l) (.n 123 (cc 123) (.n 119 c119 .l .l) .l)) (.n 127 (cc 127) (.n 126 (cc 126) (.n 125 LD .l .l) .l) (.n 129 Dt .l .l))) (.n 146 Rv (.n 142 LF (.n 137 Hx (.n 136 Hw .l .l) .l) (.n 145 se (.n 144 LH .l .l) .l)) (.n 149 Rx (.n 148 Rw (.n 147 Hy .l .l) .l) (.n 150 Hz .l .l))))) (.n 192 (cc 192) (.n 169 qB (.n 161 ahA (.n 157 HA (.n 156 Ry (.n 155 BM .l .l) .l) (.n 159 LI (.n 158 Du .l .l) .l)) (.n 165 HB (.n 164 ll (.n 163 LJ .l .l) .l) (.n 168 LK (.n 166 zW .l .l) .l))) (.n 187 (cc 187) (.n 180 (cc 180) (.n 179 (cc 179) (.n 172 Rz .l .l) .l) (.n 186 (cc 186) (.n 185 (cc 185) .l .l) .l)) (.n 190 (cc 190) (.n 189 ahC (.n 188 ahB .l .l) .l) (.n 191 ahD .l .l)))) (.n 203 Dv (.n 198 (cc 198) (.n 195 (cc 195) (.n 194 (cc 194) (.n 193 (cc 193) .l .l) .l) (.n 197 (cc 197) (.n 196 (cc 196) .l .l) .l)) (.n 201 (cc 201) (.n 200 (cc 200) (.n 199 (cc 199) .l .l) .l) (.n 202 eG .l .l))) (.n 210 ahF (.n 206 (cc 206) (.n 205 (cc 205) (.n 204 (cc 204) .l .l) .l) (.n 209 ahE (.n 208 (cc 208) .l .l) .l)) (.n 213 (cc 213) (.n 212 (cc 212) (.n 211 ahG .l .l) .l) (.n 214 ahH .l .l)))))) (.n 276 nZ (.n 238 (cc 238) (.n 227 (cc 227) (.n 221 (cc 221) (.n 218 (cc 218) (.n 217 (cc 217) (.n 216 (cc 216) .l .l) .l) (.n 220 (cc 220) (.n 219 (cc 219) .l .l) .l)) (.n 224 (cc 224) (.n 223 (cc 223) (.n 222 (cc 222) .l .l) .l) (.n 226 (cc 226) (.n 225 (cc 225) .l .l) .l))) (.n 233 ahI (.n 230 LL (.n 229 Dx (.n 228 Dw .l .l) .l) (.n 232 lm (.n 231 (cc 231) .l .l) .l)) (.n 236 (cc 236) (.n 235 (cc 235) (.n 234 ahJ .l .l) .l) (.n 237 (cc 237) .l .l)))) (.n 263 cR (.n 245 RA (.n 241 Dy (.n 240 (cc 240) (.n 239 (cc 239) .l .l) .l) (.n 244 (cc 244) (.n 243 LM .l .l) .l)) (.n 252 RD (.n 247 RC (.n 246 RB .l .l) .l) (.n 262 HC .l .l))) (.n 271 RE (.n 267 HF (.n 265 LO (.n 264 HE .l .l) .l) (.n 269 HH (.n 268 HG .l .l) .l)) (.n 274 LP (.n 273 BN (.n 272 HI .l .l) .l) (.n 275 LQ .l .l))))) (.n 299 zZ (.n 288 LW (.n 282 HJ (.n 279 Dz (.n 278 LR (.n 277 BO .l .l) .l) (.n 281 LS (.n 280 mH .l .l) .l)) (.n 285 LU (.n 284 RF (.n 283 HK .l .l) .l) (.n 287 HL (.n 286 LV .l .l) .l))) (.n 294 zY (.n 291 HM (.n 290 DA (.n 289 qC .l .l) .l) (.n 293 zX (.n 292 sf .l .l) .l)) (.n 297 HO (.n 296 qD (.n 295 HN .l .l) .l) (.n 298 LX .l .l)))) (.n 389 DB (.n 336 HP (.n 302 qF (.n 301 sh (.n 300 kC .l .l) .l) (.n 319 LZ (.n 315 LY .l .l) .l)) (.n 340 HQ (.n 339 BQ (.n 338 BP .l .l) .l) (.n 388 cL .l .l))) (.n 460 BR (.n 429 L4 (.n 393 L3 (.n 390 L2 .l .l) .l) (.n 459 gi (.n 430 L5 .l .l) .l)) (.n 463 HT (.n 462 HS (.n 461 HR .l .l) .l) (.n 464 DC .l .l)))))))
def ahK:Tr (List AV->Option AV):=(.n 154 He (.n 139 zy (.n 135 Hd (.n 128 JK (.n 109 Lz .l .l) .l) (.n 138 zd .l .l)) (.n 152 JL (.n 143 p8 .l .l) (.n 153 JA .l .l))) (.n 173 zE (.n 167 Dk (.n 162 trimS .l .l) (.n 171 mA .l .l)) (.n 248 Ke (.n 175 Gw .l .l) (.n 251 Jy .l .l))))
noncomputable def prog:aK:=QH.find
def az:Lib:=⟨ahK.find,fun _=>none⟩
end VE
end
section
namespace VE
namespace lF
open Go
open Go.Proofs
def arn:QH.kL (P9 Tryz.prog af bT hd):=by
 delta QH
 repeat' first | exact Tr.ib | refine Tr.iW (anw (by kernel_rfl) (by kernel_rfl)) ?_ ?_
end lF
end VE
end
