import Derived.Test.YtabhmepaflffeaaGreatDoorWad
set_option linter.all false
set_option maxRecDepth 100000
set_option maxHeartbeats 4000000
namespace VE
open mP (cc)
noncomputable section
def SE:ax:=ao (a:=cc 46) (by conv=>lhs;reduce)
def c49:ax:=ao (a:=cc 49) (by conv=>lhs;reduce;simp)
def ZD:ax:=ao (a:=cc 50) (by conv=>lhs;reduce;simp)
def SF:ax:=ao (a:=cc 62) (by conv=>lhs;reduce;simp)
def ZE:ax:=ao (a:=cc 69) (by conv=>lhs;reduce;simp)
def ZF:ax:=ao (a:=cc 70) (by conv=>lhs;reduce;simp)
def ZG:ax:=ao (a:=cc 71) (by conv=>lhs;reduce;simp)
def ZH:ax:=ao (a:=cc 73) (by conv=>lhs;reduce;simp)
def Nf:ax:=ao (a:=cc 74) (by conv=>lhs;reduce;simp)
def fQ:ax:=ao (a:=cc 86) (by conv=>lhs;reduce;simp)
def SG:ax:=ao (a:=cc 98) (by conv=>lhs;reduce;simp)
def Xs:ax:=ao (a:=cc 99) (by conv=>lhs;reduce;simp)
def rZ:VC:=ao (a:=bi Xs [0] []) (by conv=>lhs;reduce;simp)
def azd:VC:=ao (a:=bi Xs [1] []) (by conv=>lhs;reduce;simp)
def F6:ax:=ao (a:=fun a b=>b8 Xs [a,b]) (by conv=>lhs;reduce;simp) rZ azd
def oc:ax:=ao (a:=cc 100) (by conv=>lhs;reduce;simp)
def ph:ax:=ao (a:=cc 101) (by conv=>lhs;reduce;simp)
def Xt:ax:=ao (a:=cc 102) (by conv=>lhs;reduce;simp)
def QQ:ax:=ao (a:=cc 107) (by conv=>lhs;reduce)
def Xu:ax:=ao (a:=cc 108) (by conv=>lhs;reduce;simp)
def ago:ax:=ao (a:=cc 110) (by conv=>lhs;reduce;simp)
def GS:VC:=ao (a:=bi ago [0] []) (by conv=>lhs;reduce;simp)
def QR:ax:=ao (a:=fun a=>b8 ago [a]) (by conv=>lhs;reduce;simp) GS
def Xv:ax:=ao (a:=cc 111) (by conv=>lhs;reduce;simp)
def QS:ax:=ao (a:=cc 117) (by conv=>lhs;reduce;simp)
def Fq:ax:=ao (a:=cc 118) (by conv=>lhs;reduce;simp)
def c119:ax:=ao (a:=cc 119) (by conv=>lhs;reduce;simp)
def ah2:ax:=ao (a:=cc 122) (by conv=>lhs;reduce;simp)
def agp:ax:=ao (a:=cc 123) (by conv=>lhs;reduce;simp)
def avi:VC:=ao (a:=bi agp [0] []) (by conv=>lhs;reduce;simp)
def ah3:ax:=ao (a:=fun a=>b8 agp [a]) (by conv=>lhs;reduce;simp) avi
def HA:ax:=ao (a:=cc 124) (by conv=>lhs;reduce;simp)
def agq:ax:=ao (a:=cc 125) (by conv=>lhs;reduce;simp)
def PQ:VC:=ao (a:=bi agq [0] []) (by conv=>lhs;reduce;simp)
def QT:ax:=ao (a:=fun a=>b8 agq [a]) (by conv=>lhs;reduce;simp) PQ
def HB:ax:=ao (a:=cc 129) (by conv=>lhs;reduce;simp)
def agr:ax:=ao (a:=cc 130) (by conv=>lhs;reduce;simp)
def KH:VC:=ao (a:=bi agr [0] []) (by conv=>lhs;reduce;simp)
def Xw:ax:=ao (a:=fun a=>b8 agr [a]) (by conv=>lhs;reduce;simp) KH
def LU:ax:=ao (a:=cc 136) (by conv=>lhs;reduce;simp)
def Qf:ax:=ao (a:=cc 137) (by conv=>lhs;reduce;simp)
def KI:VC:=ao (a:=bi Qf [0] []) (by conv=>lhs;reduce;simp)
def KJ:VC:=ao (a:=bi Qf [1] []) (by conv=>lhs;reduce;simp)
def GU:VC:=ao (a:=bi Qf [2] []) (by conv=>lhs;reduce;simp)
def LV:ax:=ao (a:=fun a b c=>b8 Qf [a,b,c]) (by conv=>lhs;reduce;simp) KI KJ GU
def QU:ax:=ao (a:=cc 142) (by conv=>lhs;reduce;simp)
def Wt:ax:=ao (a:=cc 144) (by conv=>lhs;reduce;simp)
def KK:VC:=ao (a:=bi Wt [0,0] []) (by conv=>lhs;reduce;simp)
def KL:VC:=ao (a:=fun a=>bi Wt [0] [a]) (by conv=>lhs;reduce;simp) KK
def QV:ax:=ao (a:=fun a=>b8 Wt [a]) (by conv=>lhs;reduce;simp) KL
def BS:ax:=ao (a:=cc 145) (by conv=>lhs;reduce;simp)
def Xx:ax:=ao (a:=cc 146) (by conv=>lhs;reduce;simp)
def LW:ax:=ao (a:=cc 147) (by conv=>lhs;reduce;simp)
def Xy:ax:=ao (a:=cc 148) (by conv=>lhs;reduce;simp)
def Xz:ax:=ao (a:=cc 149) (by conv=>lhs;reduce;simp)
def LX:ax:=ao (a:=cc 150) (by conv=>lhs;reduce;simp)
def QW:ax:=ao (a:=cc 151) (by conv=>lhs;reduce;simp)
def ags:ax:=ao (a:=cc 155) (by conv=>lhs;reduce;simp)
def EK:VC:=ao (a:=bi ags [0] []) (by conv=>lhs;reduce;simp)
def Ft:ax:=ao (a:=fun a=>b8 ags [a]) (by conv=>lhs;reduce;simp) EK
def XA:ax:=ao (a:=cc 156) (by conv=>lhs;reduce;simp)
def agt:ax:=ao (a:=cc 157) (by conv=>lhs;reduce;simp)
def EL:VC:=ao (a:=bi agt [0] []) (by conv=>lhs;reduce;simp)
def LY:ax:=ao (a:=fun a=>b8 agt [a]) (by conv=>lhs;reduce;simp) EL
def agu:ax:=ao (a:=cc 158) (by conv=>lhs;reduce;simp)
def EM:VC:=ao (a:=bi agu [0] []) (by conv=>lhs;reduce;simp)
def HC:ax:=ao (a:=fun a=>b8 agu [a]) (by conv=>lhs;reduce;simp) EM
def agv:ax:=ao (a:=cc 159) (by conv=>lhs;reduce;simp)
def GV:VC:=ao (a:=bi agv [0] []) (by conv=>lhs;reduce;simp)
def QX:ax:=ao (a:=fun a=>b8 agv [a]) (by conv=>lhs;reduce;simp) GV
def agw:ax:=ao (a:=cc 160) (by conv=>lhs;reduce;simp)
def avj:VC:=ao (a:=bi agw [0] []) (by conv=>lhs;reduce;simp)
def ah4:ax:=ao (a:=fun a=>b8 agw [a]) (by conv=>lhs;reduce;simp) avj
def QY:ax:=ao (a:=cc 163) (by conv=>lhs;reduce;simp)
def od:ax:=ao (a:=cc 164) (by conv=>lhs;reduce;simp)
def Wu:ax:=ao (a:=cc 165) (by conv=>lhs;reduce;simp)
def CW:VC:=ao (a:=bi Wu [0] []) (by conv=>lhs;reduce;simp)
def CX:VC:=ao (a:=bi Wu [1] []) (by conv=>lhs;reduce;simp)
def LZ:ax:=ao (a:=fun a b=>b8 Wu [a,b]) (by conv=>lhs;reduce;simp) CW CX
def agx:ax:=ao (a:=cc 166) (by conv=>lhs;reduce;simp)
def EN:VC:=ao (a:=bi agx [0] []) (by conv=>lhs;reduce;simp)
def Dm:ax:=ao (a:=fun a=>b8 agx [a]) (by conv=>lhs;reduce) EN
def agy:ax:=ao (a:=cc 168) (by conv=>lhs;reduce;simp)
def GW:VC:=ao (a:=bi agy [0] []) (by conv=>lhs;reduce;simp)
def QZ:ax:=ao (a:=fun a=>b8 agy [a]) (by conv=>lhs;reduce;simp) GW
def Qg:ax:=ao (a:=cc 169) (by conv=>lhs;reduce;simp)
def Bz:VC:=ao (a:=bi Qg [0] []) (by conv=>lhs;reduce;simp)
def KM:VC:=ao (a:=bi Qg [1] []) (by conv=>lhs;reduce;simp)
def KN:VC:=ao (a:=bi Qg [2] []) (by conv=>lhs;reduce;simp)
def AI:ax:=ao (a:=fun a b c=>b8 Qg [a,b,c]) (by conv=>lhs;reduce;simp) Bz KM KN
def L2:ax:=ao (a:=cc 172) (by conv=>lhs;reduce;simp)
end
end VE
