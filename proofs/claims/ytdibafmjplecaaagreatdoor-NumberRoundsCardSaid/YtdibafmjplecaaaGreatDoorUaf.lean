import Derived.Test.YtdibafmjplecaaaGreatDoorUae
import Derived.Test.YtdibafmjplecaaaGreatDoorUad
import Derived.Test.YtdibafmjplecaaaGreatDoorUab
set_option linter.all false
set_option maxRecDepth 100000
open Int renaming reduceNegSucc→yc,reduceOfNat→ye
section
set_option maxHeartbeats 4000000
namespace VE
open lL (cc)
noncomputable section
def ahl:aE:=ax (a:=cc 188) (by conv=>{lhs;reduce;try simp only [ye,yc]})
def ahm:aE:=ax (a:=cc 189) (by conv=>{lhs;reduce;try simp only [ye,yc]})
def ahn:aE:=⟨[.t 4,.t 5],.g [qb 2 2 0,qb 3 2 1,qk 4 0,qk 5 0] (.q (.g [qL 7 2 2,Ch 8 210 7,qL 9 2 3,Ch 10 210 9,Rq 11 (.lm 2 1 [.i 0,.i 0] [(0,1,.t 8),(1,1,.t 10)]),Ch 12 125 11,qm 6 12] (.g [qm 13 6,qN 14 13 0] (.i 14 (.e [qm 15 6,qk 4 0,qm 5 15])))) (.q (.dz 0 (.g [qo 17 1 2,ql 18 1 17,Ch 19 62 18,qo 20 0 3,ql 21 1 20,Ch 22 62 21,qc2 23 71 19 22,Rq 24 (.y .lss 23 0),qm 16 24] (.cond (.t 16) (.e [qk 4 (-1),qk 5 0]) (.g [qo 26 0 2,ql 27 1 26,Ch 28 62 27,qo 29 1 3,ql 30 1 29,Ch 31 62 30,qc2 32 71 28 31,Rq 33 (.y .gtr 32 0),qm 25 33] (.cond (.t 25) (.e [qk 4 1,qk 5 0]) (.g [qL 35 2 2,qL 36 2 3,Rq 37 (.eq false (.ag [2,2]) (.t 35) (.t 36)),qm 38 37,Rt 39 38 (.off 0 (.t 2)),Rt 40 38 (.ld 1 false (.t 39)),Rt 41 38 (.off 1 (.t 2)),Rt 42 38 (.ld 1 false (.t 41)),Rt 43 38 (.z .eql 40 42),qq 44 38 43,qm 34 44] (.i 34 (.e [qk 4 0,qk 5 0])))))))) (.e [qk 4 0,qk 5 24])))⟩
def af3:aE:=ax (a:=cc 202) (by conv=>{lhs;reduce;try simp only [ye,yc]})
def Gu:VC:=ax (a:=ck af3 [0] []) (by conv=>{lhs;reduce;try simp only [ye,yc]})
def eO:aE:=ax (a:=fun a=>dd af3 [a]) (by conv=>{lhs;reduce;try simp only [ye,yc]}) Gu
def LA:aE:=ax (a:=cc 203) (by conv=>{lhs;reduce;try simp only [ye,yc]})
def aho:aE:=ax (a:=cc 209) (by conv=>{lhs;reduce;try simp only [ye,yc]})
def ahp:aE:=ax (a:=cc 210) (by conv=>{lhs;reduce;try simp only [ye,yc]})
def Qi:aE:=ax (a:=cc 211) (by conv=>{lhs;reduce;try simp only [ye,yc]})
def ato:VC:=ax (a:=ck Qi [0,0] []) (by conv=>{lhs;reduce;try simp only [ye,yc]})
def atp:VC:=ax (a:=fun a=>ck Qi [0] [a]) (by conv=>{lhs;reduce;try simp only [ye,yc]}) ato
def ahq:aE:=ax (a:=fun a=>dd Qi [a]) (by conv=>{lhs;reduce;try simp only [ye,yc]}) atp
def ahr:aE:=ax (a:=cc 214) (by conv=>{lhs;reduce;try simp only [ye,yc]})
def Dk:aE:=ax (a:=cc 228) (by conv=>{lhs;reduce;try simp only [ye,yc]})
def Dl:aE:=ax (a:=cc 229) (by conv=>{lhs;reduce;try simp only [ye,yc]})
def LB:aE:=ax (a:=cc 230) (by conv=>{lhs;reduce;try simp only [ye,yc]})
def Qj:aE:=ax (a:=cc 232) (by conv=>{lhs;reduce;try simp only [ye,yc]})
def Gv:VC:=ax (a:=ck Qj [0] []) (by conv=>{lhs;reduce;try simp only [ye,yc]})
def Gw:VC:=ax (a:=ck Qj [1] []) (by conv=>{lhs;reduce;try simp only [ye,yc]})
def lF:aE:=ax (a:=fun a b=>dd Qj [a,b]) (by conv=>{lhs;reduce;try simp only [ye,yc]}) Gv Gw
def af4:aE:=ax (a:=cc 233) (by conv=>{lhs;reduce;try simp only [ye,yc]})
def atq:VC:=ax (a:=ck af4 [0] []) (by conv=>{lhs;reduce;try simp only [ye,yc]})
def ahs:aE:=ax (a:=fun a=>dd af4 [a]) (by conv=>{lhs;reduce;try simp only [ye,yc]}) atq
def af5:aE:=ax (a:=cc 234) (by conv=>{lhs;reduce;try simp only [ye,yc]})
def atr:VC:=ax (a:=ck af5 [0] []) (by conv=>{lhs;reduce;try simp only [ye,yc]})
def aht:aE:=ax (a:=fun a=>dd af5 [a]) (by conv=>{lhs;reduce;try simp only [ye,yc]}) atr
def Dm:aE:=ax (a:=cc 241) (by conv=>{lhs;reduce;try simp only [ye,yc]})
def LC:aE:=ax (a:=cc 243) (by conv=>{lhs;reduce;try simp only [ye,yc]})
def Q6:aE:=ax (a:=cc 245) (by conv=>{lhs;reduce;try simp only [ye,yc]})
def Q7:aE:=ax (a:=cc 246) (by conv=>{lhs;reduce;try simp only [ye,yc]})
def Q8:aE:=ax (a:=cc 247) (by conv=>{lhs;reduce;try simp only [ye,yc]})
def Q9:aE:=ax (a:=cc 252) (by conv=>{lhs;reduce;try simp only [ye,yc]})
end
end VE
end
section
set_option maxHeartbeats 4000000
namespace VE
open lL (cc)
noncomputable section
def Hs:aE:=ax (a:=cc 262) (by conv=>{lhs;reduce;try simp only [ye,yc]})
def cU:aE:=ax (a:=cc 263) (by conv=>{lhs;reduce;try simp only [ye,yc]})
def Ht:aE:=ax (a:=cc 264) (by conv=>{lhs;reduce;try simp only [ye,yc]})
def LD:aE:=ax (a:=cc 265) (by conv=>{lhs;reduce;try simp only [ye,yc]})
def Hu:aE:=ax (a:=cc 267) (by conv=>{lhs;reduce;try simp only [ye,yc]})
def Hv:aE:=ax (a:=cc 268) (by conv=>{lhs;reduce;try simp only [ye,yc]})
def Rc:aE:=ax (a:=cc 271) (by conv=>{lhs;reduce;try simp only [ye,yc]})
def af6:aE:=ax (a:=cc 272) (by conv=>{lhs;reduce;try simp only [ye,yc]})
def CY:VC:=ax (a:=ck af6 [0] []) (by conv=>{lhs;reduce;try simp only [ye,yc]})
def Hw:aE:=ax (a:=fun a=>dd af6 [a]) (by conv=>{lhs;reduce;try simp only [ye,yc]}) CY
def BN:aE:=ax (a:=cc 273) (by conv=>{lhs;reduce;try simp only [ye,yc]})
def LF:aE:=ax (a:=cc 274) (by conv=>{lhs;reduce;try simp only [ye,yc]})
def af7:aE:=ax (a:=cc 275) (by conv=>{lhs;reduce;try simp only [ye,yc]})
def Gx:VC:=ax (a:=ck af7 [0] []) (by conv=>{lhs;reduce;try simp only [ye,yc]})
def LG:aE:=ax (a:=fun a=>dd af7 [a]) (by conv=>{lhs;reduce;try simp only [ye,yc]}) Gx
def n8:aE:=ax (a:=cc 276) (by conv=>{lhs;reduce;try simp only [ye,yc]})
def BO:aE:=ax (a:=cc 277) (by conv=>{lhs;reduce;try simp only [ye,yc]})
def LH:aE:=ax (a:=cc 278) (by conv=>{lhs;reduce;try simp only [ye,yc]})
def Dp:aE:=ax (a:=cc 279) (by conv=>{lhs;reduce;try simp only [ye,yc]})
def mO:aE:=ax (a:=cc 280) (by conv=>{lhs;reduce;try simp only [ye,yc]})
def af8:aE:=ax (a:=cc 281) (by conv=>{lhs;reduce;try simp only [ye,yc]})
def p7:VC:=ax (a:=ck af8 [0] []) (by conv=>{lhs;reduce;try simp only [ye,yc]})
def LI:aE:=ax (a:=fun a=>dd af8 [a]) (by conv=>{lhs;reduce;try simp only [ye,yc]}) p7
def af9:aE:=ax (a:=cc 282) (by conv=>{lhs;reduce;try simp only [ye,yc]})
def Gy:VC:=ax (a:=ck af9 [0] []) (by conv=>{lhs;reduce;try simp only [ye,yc]})
def Hx:aE:=ax (a:=fun a=>dd af9 [a]) (by conv=>{lhs;reduce;try simp only [ye,yc]}) Gy
def Hy:aE:=ax (a:=cc 283) (by conv=>{lhs;reduce;try simp only [ye,yc]})
def Re:aE:=ax (a:=cc 284) (by conv=>{lhs;reduce;try simp only [ye,yc]})
def Dq:aE:=ax (a:=cc 285) (by conv=>{lhs;reduce;try simp only [ye,yc]})
def LJ:aE:=ax (a:=cc 286) (by conv=>{lhs;reduce;try simp only [ye,yc]})
def aga:aE:=ax (a:=cc 287) (by conv=>{lhs;reduce;try simp only [ye,yc]})
def Bm:VC:=ax (a:=ck aga [0] []) (by conv=>{lhs;reduce;try simp only [ye,yc]})
def Hz:aE:=ax (a:=fun a=>dd aga [a]) (by conv=>{lhs;reduce;try simp only [ye,yc]}) Bm
def agb:aE:=ax (a:=cc 288) (by conv=>{lhs;reduce;try simp only [ye,yc]})
def rP:VC:=ax (a:=ck agb [0] []) (by conv=>{lhs;reduce;try simp only [ye,yc]})
def LK:aE:=ax (a:=fun a=>dd agb [a]) (by conv=>{lhs;reduce;try simp only [ye,yc]}) rP
def G6:aE:=ax (a:=cc 289) (by conv=>{lhs;reduce;try simp only [ye,yc]})
def Gz:VC:=ax (a:=ck G6 [0] []) (by conv=>{lhs;reduce;try simp only [ye,yc]})
def CZ:VC:=ax (a:=ck G6 [1,0] []) (by conv=>{lhs;reduce;try simp only [ye,yc]})
def GA:VC:=ax (a:=ck G6 [1,1] []) (by conv=>{lhs;reduce;try simp only [ye,yc]})
def GB:VC:=ax (a:=fun a b=>ck G6 [1] [a,b]) (by conv=>{lhs;reduce;try simp only [ye,yc]}) CZ GA
def qB:aE:=ax (a:=fun a b=>dd G6 [a,b]) (by conv=>{lhs;reduce;try simp only [ye,yc]}) Gz GB
def agc:aE:=ax (a:=cc 290) (by conv=>{lhs;reduce;try simp only [ye,yc]})
def GC:VC:=ax (a:=ck agc [0] []) (by conv=>{lhs;reduce;try simp only [ye,yc]})
def Dr:aE:=ax (a:=fun a=>dd agc [a]) (by conv=>{lhs;reduce;try simp only [ye,yc]}) GC
def agd:aE:=ax (a:=cc 291) (by conv=>{lhs;reduce;try simp only [ye,yc]})
def GD:VC:=ax (a:=ck agd [0] []) (by conv=>{lhs;reduce;try simp only [ye,yc]})
def HA:aE:=ax (a:=fun a=>dd agd [a]) (by conv=>{lhs;reduce;try simp only [ye,yc]}) GD
def age:aE:=ax (a:=cc 292) (by conv=>{lhs;reduce;try simp only [ye,yc]})
def mI:VC:=ax (a:=ck age [0] []) (by conv=>{lhs;reduce;try simp only [ye,yc]})
def sc:aE:=ax (a:=fun a=>dd age [a]) (by conv=>{lhs;reduce;try simp only [ye,yc]}) mI
def Qk:aE:=ax (a:=cc 293) (by conv=>{lhs;reduce;try simp only [ye,yc]})
def GF:VC:=ax (a:=ck Qk [0,0] []) (by conv=>{lhs;reduce;try simp only [ye,yc]})
def GG:VC:=ax (a:=fun a=>ck Qk [0] [a]) (by conv=>{lhs;reduce;try simp only [ye,yc]}) GF
def zV:aE:=ax (a:=fun a=>dd Qk [a]) (by conv=>{lhs;reduce;try simp only [ye,yc]}) GG
def zW:aE:=ax (a:=cc 294) (by conv=>{lhs;reduce;try simp only [ye,yc]})
def agf:aE:=ax (a:=cc 295) (by conv=>{lhs;reduce;try simp only [ye,yc]})
def nT:VC:=ax (a:=ck agf [0] []) (by conv=>{lhs;reduce;try simp only [ye,yc]})
def HB:aE:=ax (a:=fun a=>dd agf [a]) (by conv=>{lhs;reduce;try simp only [ye,yc]}) nT
def agh:aE:=ax (a:=cc 296) (by conv=>{lhs;reduce;try simp only [ye,yc]})
def Bn:VC:=ax (a:=ck agh [0] []) (by conv=>{lhs;reduce;try simp only [ye,yc]})
def qC:aE:=ax (a:=fun a=>dd agh [a]) (by conv=>{lhs;reduce;try simp only [ye,yc]}) Bn
def agi:aE:=ax (a:=cc 297) (by conv=>{lhs;reduce;try simp only [ye,yc]})
def p8:VC:=ax (a:=ck agi [0] []) (by conv=>{lhs;reduce;try simp only [ye,yc]})
def HC:aE:=ax (a:=fun a=>dd agi [a]) (by conv=>{lhs;reduce;try simp only [ye,yc]}) p8
def LL:aE:=ax (a:=cc 298) (by conv=>{lhs;reduce;try simp only [ye,yc]})
def agj:aE:=ax (a:=cc 299) (by conv=>{lhs;reduce;try simp only [ye,yc]})
def GH:VC:=ax (a:=ck agj [0] []) (by conv=>{lhs;reduce;try simp only [ye,yc]})
def zX:aE:=ax (a:=fun a=>dd agj [a]) (by conv=>{lhs;reduce;try simp only [ye,yc]}) GH
def agk:aE:=ax (a:=cc 300) (by conv=>{lhs;reduce;try simp only [ye,yc]})
def Bo:VC:=ax (a:=ck agk [0] []) (by conv=>{lhs;reduce;try simp only [ye,yc]})
def kK:aE:=ax (a:=fun a=>dd agk [a]) (by conv=>{lhs;reduce;try simp only [ye,yc]}) Bo
def agl:aE:=ax (a:=cc 301) (by conv=>{lhs;reduce;try simp only [ye,yc]})
def zD:VC:=ax (a:=ck agl [0] []) (by conv=>{lhs;reduce;try simp only [ye,yc]})
def sd:aE:=ax (a:=fun a=>dd agl [a]) (by conv=>{lhs;reduce;try simp only [ye,yc]}) zD
def qD:aE:=ax (a:=cc 302) (by conv=>{lhs;reduce;try simp only [ye,yc]})
end
end VE
end
section
set_option maxHeartbeats 4000000
namespace VE
open lL (cc)
noncomputable section
def LM:aE:=ax (a:=cc 315) (by conv=>{lhs;reduce;try simp only [ye,yc]})
def LN:aE:=ax (a:=cc 319) (by conv=>{lhs;reduce;try simp only [ye,yc]})
def zY:aE:=ax (a:=cc 359) (by conv=>{lhs;reduce;try simp only [ye,yc]})
def agm:aE:=ax (a:=cc 389) (by conv=>{lhs;reduce;try simp only [ye,yc]})
def C0:VC:=ax (a:=ck agm [0] []) (by conv=>{lhs;reduce;try simp only [ye,yc]})
def Ds:aE:=ax (a:=fun a=>dd agm [a]) (by conv=>{lhs;reduce;try simp only [ye,yc]}) C0
def Ql:aE:=ax (a:=cc 390) (by conv=>{lhs;reduce;try simp only [ye,yc]})
def GI:VC:=ax (a:=ck Ql [0] []) (by conv=>{lhs;reduce;try simp only [ye,yc]})
def GJ:VC:=ax (a:=ck Ql [1] []) (by conv=>{lhs;reduce;try simp only [ye,yc]})
def HE:aE:=ax (a:=fun a b=>dd Ql [a,b]) (by conv=>{lhs;reduce;try simp only [ye,yc]}) GI GJ
end
end VE
end
section
set_option maxHeartbeats 4000000
namespace VE
open lL (cc)
noncomputable section
def ek:aE:=ax (a:=cc 426) (by conv=>{lhs;reduce;try simp only [ye,yc]})
def Qm:aE:=ax (a:=cc 428) (by conv=>{lhs;reduce;try simp only [ye,yc]})
def C1:VC:=ax (a:=ck Qm [0] []) (by conv=>{lhs;reduce;try simp only [ye,yc]})
def GK:VC:=ax (a:=ck Qm [1] []) (by conv=>{lhs;reduce;try simp only [ye,yc]})
def fL:aE:=ax (a:=fun a b=>dd Qm [a,b]) (by conv=>{lhs;reduce;try simp only [ye,yc]}) C1 GK
def LO:aE:=ax (a:=cc 429) (by conv=>{lhs;reduce;try simp only [ye,yc]})
def Qn:aE:=ax (a:=cc 430) (by conv=>{lhs;reduce;try simp only [ye,yc]})
def GL:VC:=ax (a:=ck Qn [0] []) (by conv=>{lhs;reduce;try simp only [ye,yc]})
def GM:VC:=ax (a:=ck Qn [1] []) (by conv=>{lhs;reduce;try simp only [ye,yc]})
def HF:aE:=ax (a:=fun a b=>dd Qn [a,b]) (by conv=>{lhs;reduce;try simp only [ye,yc]}) GL GM
end
end VE
end
section
namespace VE
open lL (cc)
noncomputable def Qo:Tr aE:=(.n 210 ahp (.n 149 Q3 (.n 108 QY (.n 73 Aw (.n 59 (cc 59) (.n 46 q8 (.n 29 (cc 29) (.n 28 (cc 28) .l .l) .l) (.n 50 Eh (.n 49 c49 .l .l) .l)) (.n 70 II (.n 69 IG (.n 62 Ei .l .l) .l) (.n 71 Ci .l .l))) (.n 99 Cj (.n 86 dA (.n 84 (cc 84) (.n 74 sL .l .l) .l) (.n 98 Nw (.n 88 jW .l .l) .l)) (.n 102 QX (.n 101 mc (.n 100 lD .l .l) .l) (.n 107 ahi .l .l)))) (.n 129 Di (.n 123 (cc 123) (.n 117 Lt (.n 111 QZ (.n 110 Ls .l .l) .l) (.n 119 c119 (.n 118 BL .l .l) .l)) (.n 126 (cc 126) (.n 125 Lu (.n 124 Dh .l .l) .l) (.n 127 (cc 127) .l .l))) (.n 144 Lw (.n 137 Hl (.n 136 Hk (.n 130 Q0 .l .l) .l) (.n 142 Lv .l .l)) (.n 147 Hm (.n 146 Q1 (.n 145 r9 .l .l) .l) (.n 148 Q2 .l .l))))) (.n 188 ahl (.n 165 Hr (.n 158 Dj (.n 155 BM (.n 151 ahj (.n 150 Hn .l .l) .l) (.n 157 Ho (.n 156 Q4 .l .l) .l)) (.n 163 Ly (.n 161 ahk (.n 159 Lx .l .l) .l) (.n 164 lE .l .l))) (.n 179 (cc 179) (.n 169 qw (.n 168 Lz (.n 166 zU .l .l) .l) (.n 172 Q5 .l .l)) (.n 186 (cc 186) (.n 185 (cc 185) (.n 180 (cc 180) .l .l) .l) (.n 187 (cc 187) .l .l)))) (.n 199 (cc 199) (.n 194 (cc 194) (.n 191 ahn (.n 190 (cc 190) (.n 189 ahm .l .l) .l) (.n 193 (cc 193) (.n 192 (cc 192) .l .l) .l)) (.n 197 (cc 197) (.n 196 (cc 196) (.n 195 (cc 195) .l .l) .l) (.n 198 (cc 198) .l .l))) (.n 204 (cc 204) (.n 202 eO (.n 201 (cc 201) (.n 200 (cc 200) .l .l) .l) (.n 203 LA .l .l)) (.n 208 (cc 208) (.n 206 (cc 206) (.n 205 (cc 205) .l .l) .l) (.n 209 aho .l .l)))))) (.n 268 Hv (.n 232 lF (.n 221 (cc 221) (.n 216 (cc 216) (.n 213 (cc 213) (.n 212 (cc 212) (.n 211 ahq .l .l) .l) (.n 215 (cc 215) (.n 214 ahr .l .l) .l)) (.n 219 (cc 219) (.n 218 (cc 218) (.n 217 (cc 217) .l .l) .l) (.n 220 (cc 220) .l .l))) (.n 227 (cc 227) (.n 224 (cc 224) (.n 223 (cc 223) (.n 222 (cc 222) .l .l) .l) (.n 226 (cc 226) (.n 225 (cc 225) .l .l) .l)) (.n 230 LB (.n 229 Dl (.n 228 Dk .l .l) .l) (.n 231 (cc 231) .l .l)))) (.n 244 (cc 244) (.n 238 (cc 238) (.n 235 (cc 235) (.n 234 aht (.n 233 ahs .l .l) .l) (.n 237 (cc 237) (.n 236 (cc 236) .l .l) .l)) (.n 241 Dm (.n 240 (cc 240) (.n 239 (cc 239) .l .l) .l) (.n 243 LC .l .l))) (.n 262 Hs (.n 247 Q8 (.n 246 Q7 (.n 245 Q6 .l .l) .l) (.n 252 Q9 .l .l)) (.n 265 LD (.n 264 Ht (.n 263 cU .l .l) .l) (.n 267 Hu .l .l))))) (.n 291 HA (.n 281 LI (.n 276 n8 (.n 273 BN (.n 272 Hw (.n 271 Rc .l .l) .l) (.n 275 LG (.n 274 LF .l .l) .l)) (.n 279 Dp (.n 278 LH (.n 277 BO .l .l) .l) (.n 280 mO .l .l))) (.n 286 LJ (.n 284 Re (.n 283 Hy (.n 282 Hx .l .l) .l) (.n 285 Dq .l .l)) (.n 289 qB (.n 288 LK (.n 287 Hz .l .l) .l) (.n 290 Dr .l .l)))) (.n 302 qD (.n 297 HC (.n 294 zW (.n 293 zV (.n 292 sc .l .l) .l) (.n 296 qC (.n 295 HB .l .l) .l)) (.n 300 kK (.n 299 zX (.n 298 LL .l .l) .l) (.n 301 sd .l .l))) (.n 390 HE (.n 359 zY (.n 319 LN (.n 315 LM .l .l) .l) (.n 389 Ds .l .l)) (.n 429 LO (.n 428 fL (.n 426 ek .l .l) .l) (.n 430 HF .l .l)))))))
def ahu:Tr (List AV->Option AV):=(.n 154 G3 (.n 139 zq (.n 135 G2 (.n 128 Jv (.n 109 Lq .l .l) .l) (.n 138 sX .l .l)) (.n 152 Jw (.n 143 p6 .l .l) (.n 153 Jl .l .l))) (.n 173 zA (.n 167 Db (.n 162 trimS .l .l) (.n 171 mH .l .l)) (.n 248 JZ (.n 175 Gk .l .l) (.n 251 Jj .l .l))))
noncomputable def prog:aM:=Qo.find
def az:Lib:=⟨ahu.find,fun _=>none⟩
end VE
end
section
namespace VE
namespace lL
open Go
open Go.Proofs
def arb:Qo.kS (PQ Tryz.prog af bX hd):=by
 delta Qo
 repeat' first | exact Tr.ig | refine Tr.iV (ank (by kernel_rfl) (by kernel_rfl)) ?_ ?_
end lL
end VE
end
