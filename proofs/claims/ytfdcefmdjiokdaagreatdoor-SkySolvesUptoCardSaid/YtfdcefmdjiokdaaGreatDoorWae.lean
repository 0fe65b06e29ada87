import Derived.Test.YtfdcefmdjiokdaaGreatDoorWad
set_option linter.all false
set_option maxRecDepth 100000
set_option maxHeartbeats 4000000
namespace VE
open sS (cc)
noncomputable section
def m3F:aw:=an (a:=cc 3) (by conv=>lhs;reduce;simp)
def Uq:VC:=an (a:=bh m3F [0,0] []) (by conv=>lhs;reduce;simp)
def Ur:VC:=an (a:=fun a=>bh m3F [0] [a]) (by conv=>lhs;reduce;simp) Uq
def c3:aw:=an (a:=fun a=>bT m3F [a]) (by conv=>lhs;reduce;simp) Ur
def c4:aw:=an (a:=cc 4) (by conv=>lhs;reduce;simp)
def c9:aw:=an (a:=cc 9) (by conv=>lhs;reduce;simp)
def c20:aw:=an (a:=cc 20) (by conv=>lhs;reduce;simp)
def c24:aw:=an (a:=cc 24) (by conv=>lhs;reduce;simp)
def aaJ:aw:=an (a:=cc 26) (by conv=>lhs;reduce;simp)
def G4:VC:=an (a:=bh aaJ [0,0] []) (by conv=>lhs;reduce;simp)
def JG:VC:=an (a:=fun a=>bh aaJ [0] [a]) (by conv=>lhs;reduce;simp) G4
def HR:aw:=an (a:=fun a=>bT aaJ [a]) (by conv=>lhs;reduce;simp) JG
def aaK:aw:=an (a:=cc 27) (by conv=>lhs;reduce;simp)
def JH:VC:=an (a:=bh aaK [0,0] []) (by conv=>lhs;reduce;simp)
def Oi:VC:=an (a:=fun a=>bh aaK [0] [a]) (by conv=>lhs;reduce;simp) JH
def DF:aw:=an (a:=fun a=>bT aaK [a]) (by conv=>lhs;reduce;simp) Oi
def alN:aw:=an (a:=cc 29) (by conv=>lhs;reduce;simp)
def Oj:VC:=an (a:=bh alN [0] []) (by conv=>lhs;reduce;simp)
def V1:aw:=an (a:=fun a=>bT alN [a]) (by conv=>lhs;reduce;simp) Oj
def DG:aw:=an (a:=cc 30) (by conv=>lhs;reduce;simp)
def Cj:aw:=an (a:=cc 31) (by conv=>lhs;reduce;simp)
def alO:aw:=an (a:=cc 32) (by conv=>lhs;reduce;simp)
def Tv:VC:=an (a:=bh alO [0] []) (by conv=>lhs;reduce;simp)
def c32:aw:=an (a:=fun a=>bT alO [a]) (by conv=>lhs;reduce;simp) Tv
def alP:aw:=an (a:=cc 33) (by conv=>lhs;reduce;simp)
def Tw:VC:=an (a:=bh alP [0] []) (by conv=>lhs;reduce;simp)
def KR:aw:=an (a:=fun a=>bT alP [a]) (by conv=>lhs;reduce;simp) Tw
def HS:aw:=an (a:=cc 34) (by conv=>lhs;reduce;simp)
def alQ:aw:=an (a:=cc 37) (by conv=>lhs;reduce;simp)
def Ol:VC:=an (a:=bh alQ [0] []) (by conv=>lhs;reduce;simp)
def V2:aw:=an (a:=fun a=>bT alQ [a]) (by conv=>lhs;reduce;simp) Ol
def aaL:aw:=an (a:=cc 40) (by conv=>lhs;reduce;simp)
def aBj:VC:=an (a:=bh aaL [0] []) (by conv=>lhs;reduce)
def aBk:VC:=an (a:=bh aaL [1] []) (by conv=>lhs;reduce;simp)
def c40:aw:=an (a:=fun a b=>bT aaL [a,b]) (by conv=>lhs;reduce) aBj aBk
def aaM:aw:=an (a:=cc 41) (by conv=>lhs;reduce;simp)
def aBl:VC:=an (a:=bh aaM [0] []) (by conv=>lhs;reduce)
def aBm:VC:=an (a:=bh aaM [1] []) (by conv=>lhs;reduce)
def c41:aw:=an (a:=fun a b=>bT aaM [a,b]) (by conv=>lhs;reduce;simp) aBl aBm
def alR:aw:=an (a:=cc 42) (by conv=>lhs;reduce;simp)
def Tz:VC:=an (a:=bh alR [0] []) (by conv=>lhs;reduce;simp)
def V3:aw:=an (a:=fun a=>bT alR [a]) (by conv=>lhs;reduce;simp) Tz
def V4:aw:=an (a:=cc 46) (by conv=>lhs;reduce)
def c49:aw:=an (a:=cc 49) (by conv=>lhs;reduce;simp)
def c50:aw:=an (a:=cc 50) (by conv=>lhs;reduce;simp)
def V5:aw:=an (a:=cc 51) (by conv=>lhs;reduce;simp)
def c53:aw:=an (a:=cc 53) (by conv=>lhs;reduce;simp)
def c54:aw:=an (a:=cc 54) (by conv=>lhs;reduce;simp)
def V6:aw:=an (a:=cc 55) (by conv=>lhs;reduce;simp)
def alS:aw:=an (a:=cc 56) (by conv=>lhs;reduce;simp)
def JI:VC:=an (a:=bh alS [0] []) (by conv=>lhs;reduce;simp)
def c56:aw:=an (a:=fun a=>bT alS [a]) (by conv=>lhs;reduce;simp) JI
def c57:aw:=an (a:=cc 57) (by conv=>lhs;reduce;simp)
def c58:aw:=an (a:=cc 58) (by conv=>lhs;reduce;simp)
def c60:aw:=an (a:=cc 60) (by conv=>lhs;reduce;simp)
def Cl:aw:=an (a:=cc 61) (by conv=>lhs;reduce;simp)
def V7:aw:=an (a:=cc 62) (by conv=>lhs;reduce;simp)
def P0:aw:=an (a:=cc 63) (by conv=>lhs;reduce;simp)
def V8:aw:=an (a:=cc 64) (by conv=>lhs;reduce;simp)
def c65:aw:=an (a:=cc 65) (by conv=>lhs;reduce;simp)
def c66:aw:=an (a:=cc 66) (by conv=>lhs;reduce;simp)
def c67:aw:=an (a:=cc 67) (by conv=>lhs;reduce;simp)
def c68:aw:=⟨[.t 2],.g [qb 1 3 0,qf 2] (.e [qL 3 3 1,qo 4 0 1,qL 5 2 4,Rq 6 (.EA [.str [],.str [],.str []] [(0,2,.t 5),(2,1,.s [48])]),Rq 7 (.eq false (.ag [2,2,2]) (.t 3) (.t 6)),qm 2 7])⟩
def c69:aw:=an (a:=cc 69) (by conv=>lhs;reduce;simp)
def c70:aw:=an (a:=cc 70) (by conv=>lhs;reduce;simp)
def c71:aw:=an (a:=cc 71) (by conv=>lhs;reduce;simp)
def c73:aw:=an (a:=cc 73) (by conv=>lhs;reduce;simp)
def P1:aw:=an (a:=cc 74) (by conv=>lhs;reduce;simp)
def c75:aw:=an (a:=cc 75) (by conv=>lhs;reduce;simp)
def P2:aw:=an (a:=cc 76) (by conv=>lhs;reduce;simp)
def alT:aw:=an (a:=cc 77) (by conv=>lhs;reduce;simp)
def G5:VC:=an (a:=bh alT [0] []) (by conv=>lhs;reduce;simp)
def V9:aw:=an (a:=fun a=>bT alT [a]) (by conv=>lhs;reduce;simp) G5
def P3:aw:=an (a:=cc 78) (by conv=>lhs;reduce;simp)
def alU:aw:=an (a:=cc 79) (by conv=>lhs;reduce;simp)
def G6:VC:=an (a:=bh alU [0] []) (by conv=>lhs;reduce;simp)
def Wa:aw:=an (a:=fun a=>bT alU [a]) (by conv=>lhs;reduce;simp) G6
def Wb:aw:=an (a:=cc 80) (by conv=>lhs;reduce;simp)
def P4:aw:=an (a:=cc 81) (by conv=>lhs;reduce;simp)
def OC:aw:=an (a:=cc 82) (by conv=>lhs;reduce;simp)
def JJ:VC:=an (a:=bh OC [0,0] []) (by conv=>lhs;reduce;simp)
def EH:VC:=an (a:=bh OC [0,1] []) (by conv=>lhs;reduce;simp)
def JK:VC:=an (a:=fun a b=>bh OC [0] [a,b]) (by conv=>lhs;reduce;simp) JJ EH
def EI:VC:=an (a:=bh OC [1] []) (by conv=>lhs;reduce;simp)
def KS:aw:=an (a:=fun a b=>bT OC [a,b]) (by conv=>lhs;reduce;simp) JK EI
def KT:aw:=an (a:=cc 83) (by conv=>lhs;reduce;simp)
def KU:aw:=an (a:=cc 84) (by conv=>lhs;reduce;simp)
def alV:aw:=an (a:=cc 85) (by conv=>lhs;reduce;simp)
def G7:VC:=an (a:=bh alV [0] []) (by conv=>lhs;reduce;simp)
def Wc:aw:=an (a:=fun a=>bT alV [a]) (by conv=>lhs;reduce;simp) G7
def gL:aw:=an (a:=cc 86) (by conv=>lhs;reduce;simp)
def alW:aw:=an (a:=cc 87) (by conv=>lhs;reduce;simp)
def JL:VC:=an (a:=bh alW [0] []) (by conv=>lhs;reduce;simp)
def We:aw:=an (a:=fun a=>bT alW [a]) (by conv=>lhs;reduce;simp) JL
def alX:aw:=an (a:=cc 88) (by conv=>lhs;reduce;simp)
def Om:VC:=an (a:=bh alX [0] []) (by conv=>lhs;reduce;simp)
def KV:aw:=an (a:=fun a=>bT alX [a]) (by conv=>lhs;reduce;simp) Om
def aaN:aw:=an (a:=cc 89) (by conv=>lhs;reduce;simp)
def C2:VC:=an (a:=bh aaN [0,0] []) (by conv=>lhs;reduce;simp)
def JM:VC:=an (a:=fun a=>bh aaN [0] [a]) (by conv=>lhs;reduce;simp) C2
def Wf:aw:=an (a:=fun a=>bT aaN [a]) (by conv=>lhs;reduce;simp) JM
def JZ:aw:=an (a:=cc 90) (by conv=>lhs;reduce;simp)
def On:VC:=an (a:=bh JZ [0] []) (by conv=>lhs;reduce;simp)
def Oo:VC:=an (a:=bh JZ [1,0,0] []) (by conv=>lhs;reduce;simp)
def G8:VC:=an (a:=fun a=>bh JZ [1,0] [a]) (by conv=>lhs;reduce;simp) Oo
def Oq:VC:=an (a:=fun a=>bh JZ [1] [a]) (by conv=>lhs;reduce;simp) G8
def Ot:VC:=an (a:=bh JZ [2] []) (by conv=>lhs;reduce;simp)
def DH:aw:=an (a:=fun a b c=>bT JZ [a,b,c]) (by conv=>lhs;reduce;simp) On Oq Ot
def Wg:aw:=an (a:=cc 91) (by conv=>lhs;reduce;simp)
def alY:aw:=an (a:=cc 92) (by conv=>lhs;reduce;simp)
def JN:VC:=an (a:=bh alY [0] []) (by conv=>lhs;reduce;simp)
def Wh:aw:=an (a:=fun a=>bT alY [a]) (by conv=>lhs;reduce;simp) JN
def Wi:aw:=an (a:=cc 93) (by conv=>lhs;reduce;simp)
def KW:aw:=an (a:=cc 94) (by conv=>lhs;reduce)
def Wj:aw:=an (a:=cc 95) (by conv=>lhs;reduce;simp)
def c96:aw:=an (a:=cc 96) (by conv=>lhs;reduce)
def c97:aw:=an (a:=cc 97) (by conv=>lhs;reduce;simp)
def Wk:aw:=an (a:=cc 98) (by conv=>lhs;reduce;simp)
def aaO:aw:=an (a:=cc 99) (by conv=>lhs;reduce;simp)
def zO:VC:=an (a:=bh aaO [0] []) (by conv=>lhs;reduce;simp)
def aBn:VC:=an (a:=bh aaO [1] []) (by conv=>lhs;reduce;simp)
def HT:aw:=an (a:=fun a b=>bT aaO [a,b]) (by conv=>lhs;reduce;simp) zO aBn
def qu:aw:=an (a:=cc 100) (by conv=>lhs;reduce;simp)
def rD:aw:=an (a:=cc 101) (by conv=>lhs;reduce;simp)
def aaP:aw:=an (a:=cc 102) (by conv=>lhs;reduce;simp)
def OD:aw:=an (a:=cc 103) (by conv=>lhs;reduce;simp)
def Us:aw:=an (a:=cc 104) (by conv=>lhs;reduce;simp)
def Ut:aw:=an (a:=cc 105) (by conv=>lhs;reduce;simp)
def akf:aw:=an (a:=cc 106) (by conv=>lhs;reduce;simp)
def Nz:VC:=an (a:=bh akf [0] []) (by conv=>lhs;reduce;simp)
def Uu:aw:=an (a:=fun a=>bT akf [a]) (by conv=>lhs;reduce;simp) Nz
def Uv:aw:=an (a:=cc 107) (by conv=>lhs;reduce)
def aaQ:aw:=an (a:=cc 108) (by conv=>lhs;reduce;simp)
def akg:aw:=an (a:=cc 110) (by conv=>lhs;reduce;simp)
def Ja:VC:=an (a:=bh akg [0] []) (by conv=>lhs;reduce;simp)
def Uw:aw:=an (a:=fun a=>bT akg [a]) (by conv=>lhs;reduce;simp) Ja
def aaR:aw:=an (a:=cc 111) (by conv=>lhs;reduce;simp)
def aaS:aw:=an (a:=cc 112) (by conv=>lhs;reduce;simp)
def alZ:aw:=an (a:=cc 113) (by conv=>lhs;reduce)
def al0:aw:=an (a:=cc 114) (by conv=>lhs;reduce)
def aaT:aw:=an (a:=cc 115) (by conv=>lhs;reduce;simp)
def Ux:aw:=an (a:=cc 116) (by conv=>lhs;reduce;simp)
def Uy:aw:=an (a:=cc 117) (by conv=>lhs;reduce;simp)
def Hi:aw:=an (a:=cc 118) (by conv=>lhs;reduce;simp)
def c119:aw:=an (a:=cc 119) (by conv=>lhs;reduce;simp)
def akh:aw:=an (a:=cc 120) (by conv=>lhs;reduce;simp)
def Gz:VC:=an (a:=bh akh [0] []) (by conv=>lhs;reduce;simp)
def OE:aw:=an (a:=fun a=>bT akh [a]) (by conv=>lhs;reduce;simp) Gz
def aki:aw:=an (a:=cc 121) (by conv=>lhs;reduce;simp)
def GA:VC:=an (a:=bh aki [0] []) (by conv=>lhs;reduce;simp)
def OF:aw:=an (a:=fun a=>bT aki [a]) (by conv=>lhs;reduce;simp) GA
def J0:aw:=an (a:=cc 122) (by conv=>lhs;reduce;simp)
def akj:aw:=an (a:=cc 123) (by conv=>lhs;reduce;simp)
def NA:VC:=an (a:=bh akj [0] []) (by conv=>lhs;reduce;simp)
def J3:aw:=an (a:=fun a=>bT akj [a]) (by conv=>lhs;reduce;simp) NA
def J4:aw:=an (a:=cc 124) (by conv=>lhs;reduce;simp)
def akk:aw:=an (a:=cc 125) (by conv=>lhs;reduce;simp)
def SY:VC:=an (a:=bh akk [0] []) (by conv=>lhs;reduce;simp)
def Uz:aw:=an (a:=fun a=>bT akk [a]) (by conv=>lhs;reduce;simp) SY
def OG:aw:=an (a:=cc 126) (by conv=>lhs;reduce;simp)
def akl:aw:=an (a:=cc 127) (by conv=>lhs;reduce;simp)
def SZ:VC:=an (a:=bh akl [0] []) (by conv=>lhs;reduce;simp)
def OH:aw:=an (a:=fun a=>bT akl [a]) (by conv=>lhs;reduce;simp) SZ
def J5:aw:=an (a:=cc 129) (by conv=>lhs;reduce;simp)
def akm:aw:=an (a:=cc 130) (by conv=>lhs;reduce;simp)
def NB:VC:=an (a:=bh akm [0] []) (by conv=>lhs;reduce;simp)
def aaU:aw:=an (a:=fun a=>bT akm [a]) (by conv=>lhs;reduce;simp) NB
def akn:aw:=an (a:=cc 131) (by conv=>lhs;reduce;simp)
def NC:VC:=an (a:=bh akn [0] []) (by conv=>lhs;reduce;simp)
def EX:aw:=an (a:=fun a=>bT akn [a]) (by conv=>lhs;reduce;simp) NC
def ako:aw:=an (a:=cc 132) (by conv=>lhs;reduce;simp)
def S3:VC:=an (a:=bh ako [0] []) (by conv=>lhs;reduce;simp)
def OI:aw:=an (a:=fun a=>bT ako [a]) (by conv=>lhs;reduce;simp) S3
def Z0:aw:=an (a:=cc 133) (by conv=>lhs;reduce;simp)
def ayG:VC:=an (a:=bh Z0 [0,0] []) (by conv=>lhs;reduce;simp)
def ayH:VC:=an (a:=fun a=>bh Z0 [0] [a]) (by conv=>lhs;reduce;simp) ayG
def al1:aw:=an (a:=fun a=>bT Z0 [a]) (by conv=>lhs;reduce;simp) ayH
def J6:aw:=an (a:=cc 134) (by conv=>lhs;reduce;simp)
def OJ:aw:=an (a:=cc 136) (by conv=>lhs;reduce;simp)
def TA:aw:=an (a:=cc 137) (by conv=>lhs;reduce;simp)
def ND:VC:=an (a:=bh TA [0] []) (by conv=>lhs;reduce;simp)
def NE:VC:=an (a:=bh TA [1] []) (by conv=>lhs;reduce;simp)
def Jb:VC:=an (a:=bh TA [2] []) (by conv=>lhs;reduce;simp)
def OK:aw:=an (a:=fun a b c=>bT TA [a,b,c]) (by conv=>lhs;reduce;simp) ND NE Jb
def UA:aw:=an (a:=cc 142) (by conv=>lhs;reduce;simp)
def Z1:aw:=an (a:=cc 144) (by conv=>lhs;reduce;simp)
def NF:VC:=an (a:=bh Z1 [0,0] []) (by conv=>lhs;reduce;simp)
def NG:VC:=an (a:=fun a=>bh Z1 [0] [a]) (by conv=>lhs;reduce;simp) NF
def UB:aw:=an (a:=fun a=>bT Z1 [a]) (by conv=>lhs;reduce;simp) NG
def De:aw:=an (a:=cc 145) (by conv=>lhs;reduce;simp)
def aaV:aw:=an (a:=cc 146) (by conv=>lhs;reduce;simp)
def OL:aw:=an (a:=cc 147) (by conv=>lhs;reduce;simp)
def aaW:aw:=an (a:=cc 148) (by conv=>lhs;reduce;simp)
def aaX:aw:=an (a:=cc 149) (by conv=>lhs;reduce;simp)
def J7:aw:=an (a:=cc 150) (by conv=>lhs;reduce;simp)
def UC:aw:=an (a:=cc 151) (by conv=>lhs;reduce;simp)
def akp:aw:=an (a:=cc 155) (by conv=>lhs;reduce;simp)
def GB:VC:=an (a:=bh akp [0] []) (by conv=>lhs;reduce;simp)
def UD:aw:=an (a:=fun a=>bT akp [a]) (by conv=>lhs;reduce;simp) GB
def aaY:aw:=an (a:=cc 156) (by conv=>lhs;reduce;simp)
def akq:aw:=an (a:=cc 157) (by conv=>lhs;reduce;simp)
def GC:VC:=an (a:=bh akq [0] []) (by conv=>lhs;reduce;simp)
def OM:aw:=an (a:=fun a=>bT akq [a]) (by conv=>lhs;reduce;simp) GC
def akr:aw:=an (a:=cc 158) (by conv=>lhs;reduce;simp)
def GD:VC:=an (a:=bh akr [0] []) (by conv=>lhs;reduce;simp)
def J8:aw:=an (a:=fun a=>bT akr [a]) (by conv=>lhs;reduce;simp) GD
def aks:aw:=an (a:=cc 159) (by conv=>lhs;reduce;simp)
def Jc:VC:=an (a:=bh aks [0] []) (by conv=>lhs;reduce;simp)
def UE:aw:=an (a:=fun a=>bT aks [a]) (by conv=>lhs;reduce;simp) Jc
def akt:aw:=an (a:=cc 160) (by conv=>lhs;reduce;simp)
def Jd:VC:=an (a:=bh akt [0] []) (by conv=>lhs;reduce;simp)
def Hj:aw:=an (a:=fun a=>bT akt [a]) (by conv=>lhs;reduce;simp) Jd
def aku:aw:=an (a:=cc 161) (by conv=>lhs;reduce;simp)
def S4:VC:=an (a:=bh aku [0] []) (by conv=>lhs;reduce;simp)
def J9:aw:=an (a:=fun a=>bT aku [a]) (by conv=>lhs;reduce;simp) S4
def UF:aw:=an (a:=cc 163) (by conv=>lhs;reduce;simp)
def qv:aw:=an (a:=cc 164) (by conv=>lhs;reduce;simp)
def Z2:aw:=an (a:=cc 165) (by conv=>lhs;reduce;simp)
def Eo:VC:=an (a:=bh Z2 [0] []) (by conv=>lhs;reduce;simp)
def Ep:VC:=an (a:=bh Z2 [1] []) (by conv=>lhs;reduce;simp)
def ON:aw:=an (a:=fun a b=>bT Z2 [a,b]) (by conv=>lhs;reduce;simp) Eo Ep
def akv:aw:=an (a:=cc 166) (by conv=>lhs;reduce;simp)
def GF:VC:=an (a:=bh akv [0] []) (by conv=>lhs;reduce;simp)
def EY:aw:=an (a:=fun a=>bT akv [a]) (by conv=>lhs;reduce) GF
def akw:aw:=an (a:=cc 168) (by conv=>lhs;reduce;simp)
def Je:VC:=an (a:=bh akw [0] []) (by conv=>lhs;reduce;simp)
def UG:aw:=an (a:=fun a=>bT akw [a]) (by conv=>lhs;reduce;simp) Je
def TB:aw:=an (a:=cc 169) (by conv=>lhs;reduce;simp)
def CT:VC:=an (a:=bh TB [0] []) (by conv=>lhs;reduce;simp)
def NH:VC:=an (a:=bh TB [1] []) (by conv=>lhs;reduce;simp)
def NI:VC:=an (a:=bh TB [2] []) (by conv=>lhs;reduce;simp)
def BU:aw:=an (a:=fun a b c=>bT TB [a,b,c]) (by conv=>lhs;reduce;simp) CT NH NI
def UH:aw:=an (a:=cc 172) (by conv=>lhs;reduce;simp)
end
end VE
