import Derived.Test.YtabhmepaflffeaaGreatDoorXad
set_option linter.all false
set_option maxRecDepth 100000
set_option maxHeartbeats 4000000
namespace VE
open nT (cc)
noncomputable section
def TE:aw:=ao (a:=cc 46) (by conv=>lhs;reduce)
def c49:aw:=ao (a:=cc 49) (by conv=>lhs;reduce;simp)
def c50:aw:=ao (a:=cc 50) (by conv=>lhs;reduce;simp)
def TF:aw:=ao (a:=cc 62) (by conv=>lhs;reduce;simp)
def c69:aw:=ao (a:=cc 69) (by conv=>lhs;reduce;simp)
def c70:aw:=ao (a:=cc 70) (by conv=>lhs;reduce;simp)
def c71:aw:=ao (a:=cc 71) (by conv=>lhs;reduce;simp)
def c73:aw:=ao (a:=cc 73) (by conv=>lhs;reduce;simp)
def NK:aw:=ao (a:=cc 74) (by conv=>lhs;reduce;simp)
def fV:aw:=ao (a:=cc 86) (by conv=>lhs;reduce;simp)
def TG:aw:=ao (a:=cc 98) (by conv=>lhs;reduce;simp)
def Yk:aw:=ao (a:=cc 99) (by conv=>lhs;reduce;simp)
def sJ:VC:=ao (a:=bq Yk [0] []) (by conv=>lhs;reduce;simp)
def azW:VC:=ao (a:=bq Yk [1] []) (by conv=>lhs;reduce;simp)
def Gs:aw:=ao (a:=fun a b=>ck Yk [a,b]) (by conv=>lhs;reduce;simp) sJ azW
def oG:aw:=ao (a:=cc 100) (by conv=>lhs;reduce;simp)
def pT:aw:=ao (a:=cc 101) (by conv=>lhs;reduce;simp)
def Yl:aw:=ao (a:=cc 102) (by conv=>lhs;reduce;simp)
def Ry:aw:=ao (a:=cc 107) (by conv=>lhs;reduce)
def Ym:aw:=ao (a:=cc 108) (by conv=>lhs;reduce;simp)
def ag9:aw:=ao (a:=cc 110) (by conv=>lhs;reduce;simp)
def Hl:VC:=ao (a:=bq ag9 [0] []) (by conv=>lhs;reduce;simp)
def Rz:aw:=ao (a:=fun a=>ck ag9 [a]) (by conv=>lhs;reduce;simp) Hl
def Yn:aw:=ao (a:=cc 111) (by conv=>lhs;reduce;simp)
def RA:aw:=ao (a:=cc 117) (by conv=>lhs;reduce;simp)
def FR:aw:=ao (a:=cc 118) (by conv=>lhs;reduce;simp)
def c119:aw:=ao (a:=cc 119) (by conv=>lhs;reduce;simp)
def aiQ:aw:=ao (a:=cc 122) (by conv=>lhs;reduce;simp)
def aha:aw:=ao (a:=cc 123) (by conv=>lhs;reduce;simp)
def av1:VC:=ao (a:=bq aha [0] []) (by conv=>lhs;reduce;simp)
def aiR:aw:=ao (a:=fun a=>ck aha [a]) (by conv=>lhs;reduce;simp) av1
def H6:aw:=ao (a:=cc 124) (by conv=>lhs;reduce;simp)
def ahb:aw:=ao (a:=cc 125) (by conv=>lhs;reduce;simp)
def Qm:VC:=ao (a:=bq ahb [0] []) (by conv=>lhs;reduce;simp)
def RB:aw:=ao (a:=fun a=>ck ahb [a]) (by conv=>lhs;reduce;simp) Qm
def H7:aw:=ao (a:=cc 129) (by conv=>lhs;reduce;simp)
def ahc:aw:=ao (a:=cc 130) (by conv=>lhs;reduce;simp)
def K5:VC:=ao (a:=bq ahc [0] []) (by conv=>lhs;reduce;simp)
def Yo:aw:=ao (a:=fun a=>ck ahc [a]) (by conv=>lhs;reduce;simp) K5
def Mk:aw:=ao (a:=cc 136) (by conv=>lhs;reduce;simp)
def QP:aw:=ao (a:=cc 137) (by conv=>lhs;reduce;simp)
def K6:VC:=ao (a:=bq QP [0] []) (by conv=>lhs;reduce;simp)
def K7:VC:=ao (a:=bq QP [1] []) (by conv=>lhs;reduce;simp)
def Hm:VC:=ao (a:=bq QP [2] []) (by conv=>lhs;reduce;simp)
def Ml:aw:=ao (a:=fun a b c=>ck QP [a,b,c]) (by conv=>lhs;reduce;simp) K6 K7 Hm
def RC:aw:=ao (a:=cc 142) (by conv=>lhs;reduce;simp)
def Xu:aw:=ao (a:=cc 144) (by conv=>lhs;reduce;simp)
def K8:VC:=ao (a:=bq Xu [0,0] []) (by conv=>lhs;reduce;simp)
def K9:VC:=ao (a:=fun a=>bq Xu [0] [a]) (by conv=>lhs;reduce;simp) K8
def RD:aw:=ao (a:=fun a=>ck Xu [a]) (by conv=>lhs;reduce;simp) K9
def Ci:aw:=ao (a:=cc 145) (by conv=>lhs;reduce;simp)
def Yp:aw:=ao (a:=cc 146) (by conv=>lhs;reduce;simp)
def Mm:aw:=ao (a:=cc 147) (by conv=>lhs;reduce;simp)
def Yq:aw:=ao (a:=cc 148) (by conv=>lhs;reduce;simp)
def Yr:aw:=ao (a:=cc 149) (by conv=>lhs;reduce;simp)
def Mn:aw:=ao (a:=cc 150) (by conv=>lhs;reduce;simp)
def RE:aw:=ao (a:=cc 151) (by conv=>lhs;reduce;simp)
def ahd:aw:=ao (a:=cc 155) (by conv=>lhs;reduce;simp)
def Fa:VC:=ao (a:=bq ahd [0] []) (by conv=>lhs;reduce;simp)
def FT:aw:=ao (a:=fun a=>ck ahd [a]) (by conv=>lhs;reduce;simp) Fa
def Ys:aw:=ao (a:=cc 156) (by conv=>lhs;reduce;simp)
def ahe:aw:=ao (a:=cc 157) (by conv=>lhs;reduce;simp)
def Fb:VC:=ao (a:=bq ahe [0] []) (by conv=>lhs;reduce;simp)
def Mo:aw:=ao (a:=fun a=>ck ahe [a]) (by conv=>lhs;reduce;simp) Fb
def ahf:aw:=ao (a:=cc 158) (by conv=>lhs;reduce;simp)
def Fc:VC:=ao (a:=bq ahf [0] []) (by conv=>lhs;reduce;simp)
def H8:aw:=ao (a:=fun a=>ck ahf [a]) (by conv=>lhs;reduce;simp) Fc
def ahg:aw:=ao (a:=cc 159) (by conv=>lhs;reduce;simp)
def Hn:VC:=ao (a:=bq ahg [0] []) (by conv=>lhs;reduce;simp)
def RF:aw:=ao (a:=fun a=>ck ahg [a]) (by conv=>lhs;reduce;simp) Hn
def ahh:aw:=ao (a:=cc 160) (by conv=>lhs;reduce;simp)
def av2:VC:=ao (a:=bq ahh [0] []) (by conv=>lhs;reduce;simp)
def aiS:aw:=ao (a:=fun a=>ck ahh [a]) (by conv=>lhs;reduce;simp) av2
def RG:aw:=ao (a:=cc 163) (by conv=>lhs;reduce;simp)
def oI:aw:=ao (a:=cc 164) (by conv=>lhs;reduce;simp)
def Xv:aw:=ao (a:=cc 165) (by conv=>lhs;reduce;simp)
def Dr:VC:=ao (a:=bq Xv [0] []) (by conv=>lhs;reduce;simp)
def Ds:VC:=ao (a:=bq Xv [1] []) (by conv=>lhs;reduce;simp)
def Mq:aw:=ao (a:=fun a b=>ck Xv [a,b]) (by conv=>lhs;reduce;simp) Dr Ds
def ahi:aw:=ao (a:=cc 166) (by conv=>lhs;reduce;simp)
def Fe:VC:=ao (a:=bq ahi [0] []) (by conv=>lhs;reduce;simp)
def DJ:aw:=ao (a:=fun a=>ck ahi [a]) (by conv=>lhs;reduce) Fe
def ahj:aw:=ao (a:=cc 168) (by conv=>lhs;reduce;simp)
def Ho:VC:=ao (a:=bq ahj [0] []) (by conv=>lhs;reduce;simp)
def RH:aw:=ao (a:=fun a=>ck ahj [a]) (by conv=>lhs;reduce;simp) Ho
def QQ:aw:=ao (a:=cc 169) (by conv=>lhs;reduce;simp)
def BX:VC:=ao (a:=bq QQ [0] []) (by conv=>lhs;reduce;simp)
def La:VC:=ao (a:=bq QQ [1] []) (by conv=>lhs;reduce;simp)
def Lb:VC:=ao (a:=bq QQ [2] []) (by conv=>lhs;reduce;simp)
def A2:aw:=ao (a:=fun a b c=>ck QQ [a,b,c]) (by conv=>lhs;reduce;simp) BX La Lb
def Mr:aw:=ao (a:=cc 172) (by conv=>lhs;reduce;simp)
end
end VE
