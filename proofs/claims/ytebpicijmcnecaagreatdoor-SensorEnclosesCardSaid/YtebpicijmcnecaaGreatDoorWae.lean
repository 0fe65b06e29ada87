import Derived.Test.YtebpicijmcnecaaGreatDoorWad
set_option linter.all false
set_option maxRecDepth 100000
set_option maxHeartbeats 4000000
namespace VE
open mG (cc)
noncomputable section
def Rw:aD:=au (a:=cc 46) (by conv=>lhs;reduce)
def c49:aD:=au (a:=cc 49) (by conv=>lhs;reduce;simp)
def XW:aD:=au (a:=cc 50) (by conv=>lhs;reduce;simp)
def Rx:aD:=au (a:=cc 62) (by conv=>lhs;reduce;simp)
def XX:aD:=au (a:=cc 69) (by conv=>lhs;reduce;simp)
def XY:aD:=au (a:=cc 70) (by conv=>lhs;reduce;simp)
def XZ:aD:=au (a:=cc 71) (by conv=>lhs;reduce;simp)
def X0:aD:=au (a:=cc 73) (by conv=>lhs;reduce;simp)
def MF:aD:=au (a:=cc 74) (by conv=>lhs;reduce;simp)
def fD:aD:=au (a:=cc 86) (by conv=>lhs;reduce;simp)
def Ry:aD:=au (a:=cc 98) (by conv=>lhs;reduce;simp)
def V4:aD:=au (a:=cc 99) (by conv=>lhs;reduce;simp)
def rJ:VC:=au (a:=bU V4 [0] []) (by conv=>lhs;reduce;simp)
def aw6:VC:=au (a:=bU V4 [1] []) (by conv=>lhs;reduce;simp)
def FH:aD:=au (a:=fun a b=>cY V4 [a,b]) (by conv=>lhs;reduce;simp) rJ aw6
def nU:aD:=au (a:=cc 100) (by conv=>lhs;reduce;simp)
def oV:aD:=au (a:=cc 101) (by conv=>lhs;reduce;simp)
def V5:aD:=au (a:=cc 102) (by conv=>lhs;reduce;simp)
def PX:aD:=au (a:=cc 107) (by conv=>lhs;reduce)
def V6:aD:=au (a:=cc 108) (by conv=>lhs;reduce;simp)
def aeQ:aD:=au (a:=cc 110) (by conv=>lhs;reduce;simp)
def Gz:VC:=au (a:=bU aeQ [0] []) (by conv=>lhs;reduce;simp)
def PY:aD:=au (a:=fun a=>cY aeQ [a]) (by conv=>lhs;reduce;simp) Gz
def V7:aD:=au (a:=cc 111) (by conv=>lhs;reduce;simp)
def PZ:aD:=au (a:=cc 117) (by conv=>lhs;reduce;simp)
def E6:aD:=au (a:=cc 118) (by conv=>lhs;reduce;simp)
def c119:aD:=au (a:=cc 119) (by conv=>lhs;reduce;simp)
def Lf:aD:=au (a:=cc 122) (by conv=>lhs;reduce;simp)
def aeR:aD:=au (a:=cc 123) (by conv=>lhs;reduce;simp)
def Kj:VC:=au (a:=bU aeR [0] []) (by conv=>lhs;reduce;simp)
def Lg:aD:=au (a:=fun a=>cY aeR [a]) (by conv=>lhs;reduce;simp) Kj
def Hd:aD:=au (a:=cc 124) (by conv=>lhs;reduce;simp)
def aeS:aD:=au (a:=cc 125) (by conv=>lhs;reduce;simp)
def OT:VC:=au (a:=bU aeS [0] []) (by conv=>lhs;reduce;simp)
def P0:aD:=au (a:=fun a=>cY aeS [a]) (by conv=>lhs;reduce;simp) OT
def He:aD:=au (a:=cc 129) (by conv=>lhs;reduce;simp)
def aeT:aD:=au (a:=cc 130) (by conv=>lhs;reduce;simp)
def Kk:VC:=au (a:=bU aeT [0] []) (by conv=>lhs;reduce;simp)
def V8:aD:=au (a:=fun a=>cY aeT [a]) (by conv=>lhs;reduce;simp) Kk
def Lh:aD:=au (a:=cc 136) (by conv=>lhs;reduce;simp)
def Pq:aD:=au (a:=cc 137) (by conv=>lhs;reduce;simp)
def Kl:VC:=au (a:=bU Pq [0] []) (by conv=>lhs;reduce;simp)
def Km:VC:=au (a:=bU Pq [1] []) (by conv=>lhs;reduce;simp)
def GA:VC:=au (a:=bU Pq [2] []) (by conv=>lhs;reduce;simp)
def Li:aD:=au (a:=fun a b c=>cY Pq [a,b,c]) (by conv=>lhs;reduce;simp) Kl Km GA
def P1:aD:=au (a:=cc 142) (by conv=>lhs;reduce;simp)
def Vh:aD:=au (a:=cc 144) (by conv=>lhs;reduce;simp)
def Kn:VC:=au (a:=bU Vh [0,0] []) (by conv=>lhs;reduce;simp)
def Ko:VC:=au (a:=fun a=>bU Vh [0] [a]) (by conv=>lhs;reduce;simp) Kn
def P2:aD:=au (a:=fun a=>cY Vh [a]) (by conv=>lhs;reduce;simp) Ko
def BF:aD:=au (a:=cc 145) (by conv=>lhs;reduce;simp)
def V9:aD:=au (a:=cc 146) (by conv=>lhs;reduce;simp)
def Lj:aD:=au (a:=cc 147) (by conv=>lhs;reduce;simp)
def Wa:aD:=au (a:=cc 148) (by conv=>lhs;reduce;simp)
def agu:aD:=au (a:=cc 149) (by conv=>lhs;reduce;simp)
def P3:aD:=au (a:=cc 151) (by conv=>lhs;reduce;simp)
def aeU:aD:=au (a:=cc 155) (by conv=>lhs;reduce;simp)
def Ey:VC:=au (a:=bU aeU [0] []) (by conv=>lhs;reduce;simp)
def E7:aD:=au (a:=fun a=>cY aeU [a]) (by conv=>lhs;reduce;simp) Ey
def Wb:aD:=au (a:=cc 156) (by conv=>lhs;reduce;simp)
def aeV:aD:=au (a:=cc 157) (by conv=>lhs;reduce;simp)
def Ez:VC:=au (a:=bU aeV [0] []) (by conv=>lhs;reduce;simp)
def Lk:aD:=au (a:=fun a=>cY aeV [a]) (by conv=>lhs;reduce;simp) Ez
def aeW:aD:=au (a:=cc 158) (by conv=>lhs;reduce;simp)
def EA:VC:=au (a:=bU aeW [0] []) (by conv=>lhs;reduce;simp)
def Hf:aD:=au (a:=fun a=>cY aeW [a]) (by conv=>lhs;reduce;simp) EA
def aeX:aD:=au (a:=cc 159) (by conv=>lhs;reduce;simp)
def GB:VC:=au (a:=bU aeX [0] []) (by conv=>lhs;reduce;simp)
def P4:aD:=au (a:=fun a=>cY aeX [a]) (by conv=>lhs;reduce;simp) GB
def aeY:aD:=au (a:=cc 160) (by conv=>lhs;reduce;simp)
def GC:VC:=au (a:=bU aeY [0] []) (by conv=>lhs;reduce;simp)
def Hg:aD:=au (a:=fun a=>cY aeY [a]) (by conv=>lhs;reduce;simp) GC
def P5:aD:=au (a:=cc 163) (by conv=>lhs;reduce;simp)
def nV:aD:=au (a:=cc 164) (by conv=>lhs;reduce;simp)
def Vi:aD:=au (a:=cc 165) (by conv=>lhs;reduce;simp)
def CD:VC:=au (a:=bU Vi [0] []) (by conv=>lhs;reduce;simp)
def CE:VC:=au (a:=bU Vi [1] []) (by conv=>lhs;reduce;simp)
def Ll:aD:=au (a:=fun a b=>cY Vi [a,b]) (by conv=>lhs;reduce;simp) CD CE
def aeZ:aD:=au (a:=cc 166) (by conv=>lhs;reduce;simp)
def EB:VC:=au (a:=bU aeZ [0] []) (by conv=>lhs;reduce;simp)
def C3:aD:=au (a:=fun a=>cY aeZ [a]) (by conv=>lhs;reduce) EB
def ae0:aD:=au (a:=cc 168) (by conv=>lhs;reduce;simp)
def GD:VC:=au (a:=bU ae0 [0] []) (by conv=>lhs;reduce;simp)
def P6:aD:=au (a:=fun a=>cY ae0 [a]) (by conv=>lhs;reduce;simp) GD
def Pr:aD:=au (a:=cc 169) (by conv=>lhs;reduce;simp)
def Bo:VC:=au (a:=bU Pr [0] []) (by conv=>lhs;reduce;simp)
def Kp:VC:=au (a:=bU Pr [1] []) (by conv=>lhs;reduce;simp)
def Kq:VC:=au (a:=bU Pr [2] []) (by conv=>lhs;reduce;simp)
def At:aD:=au (a:=fun a b c=>cY Pr [a,b,c]) (by conv=>lhs;reduce;simp) Bo Kp Kq
def P7:aD:=au (a:=cc 172) (by conv=>lhs;reduce;simp)
end
end VE
