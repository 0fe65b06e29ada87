import Derived.Test.YtdibafmjplecaaaGreatDoorUad
set_option linter.all false
set_option maxRecDepth 100000
set_option maxHeartbeats 4000000
open Int renaming reduceNegSucc→yc,reduceOfNat→ye
namespace VE
open lL (cc)
noncomputable section
def q8:aE:=ax (a:=cc 46) (by conv=>{lhs;reduce;try simp only [ye,yc]})
def c49:aE:=ax (a:=cc 49) (by conv=>{lhs;reduce;try simp only [ye,yc]})
def Eh:aE:=ax (a:=cc 50) (by conv=>{lhs;reduce;try simp only [ye,yc]})
def Ei:aE:=ax (a:=cc 62) (by conv=>{lhs;reduce;try simp only [ye,yc]})
def IG:aE:=ax (a:=cc 69) (by conv=>{lhs;reduce;try simp only [ye,yc]})
def II:aE:=ax (a:=cc 70) (by conv=>{lhs;reduce;try simp only [ye,yc]})
def Ci:aE:=ax (a:=cc 71) (by conv=>{lhs;reduce;try simp only [ye,yc]})
def Aw:aE:=ax (a:=cc 73) (by conv=>{lhs;reduce;try simp only [ye,yc]})
def sL:aE:=ax (a:=cc 74) (by conv=>{lhs;reduce;try simp only [ye,yc]})
def dA:aE:=ax (a:=cc 86) (by conv=>{lhs;reduce;try simp only [ye,yc]})
def ahh:aE:=ax (a:=cc 88) (by conv=>{lhs;reduce;try simp only [ye,yc]})
def axp:VC:=ax (a:=ck ahh [0] []) (by conv=>{lhs;reduce;try simp only [ye,yc]})
def jW:aE:=ax (a:=fun a=>dd ahh [a]) (by conv=>{lhs;reduce;try simp only [ye,yc]}) axp
def Nw:aE:=ax (a:=cc 98) (by conv=>{lhs;reduce;try simp only [ye,yc]})
def QW:aE:=ax (a:=cc 99) (by conv=>{lhs;reduce;try simp only [ye,yc]})
def nY:VC:=ax (a:=ck QW [0] []) (by conv=>{lhs;reduce;try simp only [ye,yc]})
def axq:VC:=ax (a:=ck QW [1] []) (by conv=>{lhs;reduce;try simp only [ye,yc]})
def Cj:aE:=ax (a:=fun a b=>dd QW [a,b]) (by conv=>{lhs;reduce;try simp only [ye,yc]}) nY axq
def lD:aE:=ax (a:=cc 100) (by conv=>{lhs;reduce;try simp only [ye,yc]})
def mc:aE:=ax (a:=cc 101) (by conv=>{lhs;reduce;try simp only [ye,yc]})
def QX:aE:=ax (a:=cc 102) (by conv=>{lhs;reduce;try simp only [ye,yc]})
def ahi:aE:=ax (a:=cc 107) (by conv=>{lhs;reduce;try simp only [ye,yc]})
def QY:aE:=ax (a:=cc 108) (by conv=>{lhs;reduce;try simp only [ye,yc]})
def afT:aE:=ax (a:=cc 110) (by conv=>{lhs;reduce;try simp only [ye,yc]})
def CU:VC:=ax (a:=ck afT [0] []) (by conv=>{lhs;reduce;try simp only [ye,yc]})
def Ls:aE:=ax (a:=fun a=>dd afT [a]) (by conv=>{lhs;reduce;try simp only [ye,yc]}) CU
def QZ:aE:=ax (a:=cc 111) (by conv=>{lhs;reduce;try simp only [ye,yc]})
def Lt:aE:=ax (a:=cc 117) (by conv=>{lhs;reduce;try simp only [ye,yc]})
def BL:aE:=ax (a:=cc 118) (by conv=>{lhs;reduce;try simp only [ye,yc]})
def c119:aE:=ax (a:=cc 119) (by conv=>{lhs;reduce;try simp only [ye,yc]})
def Dh:aE:=ax (a:=cc 124) (by conv=>{lhs;reduce;try simp only [ye,yc]})
def afU:aE:=ax (a:=cc 125) (by conv=>{lhs;reduce;try simp only [ye,yc]})
def Kx:VC:=ax (a:=ck afU [0] []) (by conv=>{lhs;reduce;try simp only [ye,yc]})
def Lu:aE:=ax (a:=fun a=>dd afU [a]) (by conv=>{lhs;reduce;try simp only [ye,yc]}) Kx
def Di:aE:=ax (a:=cc 129) (by conv=>{lhs;reduce;try simp only [ye,yc]})
def afV:aE:=ax (a:=cc 130) (by conv=>{lhs;reduce;try simp only [ye,yc]})
def Gm:VC:=ax (a:=ck afV [0] []) (by conv=>{lhs;reduce;try simp only [ye,yc]})
def Q0:aE:=ax (a:=fun a=>dd afV [a]) (by conv=>{lhs;reduce;try simp only [ye,yc]}) Gm
def Hk:aE:=ax (a:=cc 136) (by conv=>{lhs;reduce;try simp only [ye,yc]})
def KT:aE:=ax (a:=cc 137) (by conv=>{lhs;reduce;try simp only [ye,yc]})
def Gn:VC:=ax (a:=ck KT [0] []) (by conv=>{lhs;reduce;try simp only [ye,yc]})
def Gp:VC:=ax (a:=ck KT [1] []) (by conv=>{lhs;reduce;try simp only [ye,yc]})
def CV:VC:=ax (a:=ck KT [2] []) (by conv=>{lhs;reduce;try simp only [ye,yc]})
def Hl:aE:=ax (a:=fun a b c=>dd KT [a,b,c]) (by conv=>{lhs;reduce;try simp only [ye,yc]}) Gn Gp CV
def Lv:aE:=ax (a:=cc 142) (by conv=>{lhs;reduce;try simp only [ye,yc]})
def Qg:aE:=ax (a:=cc 144) (by conv=>{lhs;reduce;try simp only [ye,yc]})
def Gq:VC:=ax (a:=ck Qg [0,0] []) (by conv=>{lhs;reduce;try simp only [ye,yc]})
def Gr:VC:=ax (a:=fun a=>ck Qg [0] [a]) (by conv=>{lhs;reduce;try simp only [ye,yc]}) Gq
def Lw:aE:=ax (a:=fun a=>dd Qg [a]) (by conv=>{lhs;reduce;try simp only [ye,yc]}) Gr
def r9:aE:=ax (a:=cc 145) (by conv=>{lhs;reduce;try simp only [ye,yc]})
def Q1:aE:=ax (a:=cc 146) (by conv=>{lhs;reduce;try simp only [ye,yc]})
def Hm:aE:=ax (a:=cc 147) (by conv=>{lhs;reduce;try simp only [ye,yc]})
def Q2:aE:=ax (a:=cc 148) (by conv=>{lhs;reduce;try simp only [ye,yc]})
def Q3:aE:=ax (a:=cc 149) (by conv=>{lhs;reduce;try simp only [ye,yc]})
def Hn:aE:=ax (a:=cc 150) (by conv=>{lhs;reduce;try simp only [ye,yc]})
def ahj:aE:=ax (a:=cc 151) (by conv=>{lhs;reduce;try simp only [ye,yc]})
def afW:aE:=ax (a:=cc 155) (by conv=>{lhs;reduce;try simp only [ye,yc]})
def Bi:VC:=ax (a:=ck afW [0] []) (by conv=>{lhs;reduce;try simp only [ye,yc]})
def BM:aE:=ax (a:=fun a=>dd afW [a]) (by conv=>{lhs;reduce;try simp only [ye,yc]}) Bi
def Q4:aE:=ax (a:=cc 156) (by conv=>{lhs;reduce;try simp only [ye,yc]})
def afX:aE:=ax (a:=cc 157) (by conv=>{lhs;reduce;try simp only [ye,yc]})
def Bj:VC:=ax (a:=ck afX [0] []) (by conv=>{lhs;reduce;try simp only [ye,yc]})
def Ho:aE:=ax (a:=fun a=>dd afX [a]) (by conv=>{lhs;reduce;try simp only [ye,yc]}) Bj
def afY:aE:=ax (a:=cc 158) (by conv=>{lhs;reduce;try simp only [ye,yc]})
def Bk:VC:=ax (a:=ck afY [0] []) (by conv=>{lhs;reduce;try simp only [ye,yc]})
def Dj:aE:=ax (a:=fun a=>dd afY [a]) (by conv=>{lhs;reduce;try simp only [ye,yc]}) Bk
def afZ:aE:=ax (a:=cc 159) (by conv=>{lhs;reduce;try simp only [ye,yc]})
def CW:VC:=ax (a:=ck afZ [0] []) (by conv=>{lhs;reduce;try simp only [ye,yc]})
def Lx:aE:=ax (a:=fun a=>dd afZ [a]) (by conv=>{lhs;reduce;try simp only [ye,yc]}) CW
def af0:aE:=ax (a:=cc 161) (by conv=>{lhs;reduce;try simp only [ye,yc]})
def atn:VC:=ax (a:=ck af0 [0] []) (by conv=>{lhs;reduce;try simp only [ye,yc]})
def ahk:aE:=ax (a:=fun a=>dd af0 [a]) (by conv=>{lhs;reduce;try simp only [ye,yc]}) atn
def Ly:aE:=ax (a:=cc 163) (by conv=>{lhs;reduce;try simp only [ye,yc]})
def lE:aE:=ax (a:=cc 164) (by conv=>{lhs;reduce;try simp only [ye,yc]})
def Qh:aE:=ax (a:=cc 165) (by conv=>{lhs;reduce;try simp only [ye,yc]})
def zB:VC:=ax (a:=ck Qh [0] []) (by conv=>{lhs;reduce;try simp only [ye,yc]})
def zC:VC:=ax (a:=ck Qh [1] []) (by conv=>{lhs;reduce;try simp only [ye,yc]})
def Hr:aE:=ax (a:=fun a b=>dd Qh [a,b]) (by conv=>{lhs;reduce;try simp only [ye,yc]}) zB zC
def af1:aE:=ax (a:=cc 166) (by conv=>{lhs;reduce;try simp only [ye,yc]})
def Bl:VC:=ax (a:=ck af1 [0] []) (by conv=>{lhs;reduce;try simp only [ye,yc]})
def zU:aE:=ax (a:=fun a=>dd af1 [a]) (by conv=>{lhs;reduce;try simp only [ye,yc]}) Bl
def af2:aE:=ax (a:=cc 168) (by conv=>{lhs;reduce;try simp only [ye,yc]})
def CX:VC:=ax (a:=ck af2 [0] []) (by conv=>{lhs;reduce;try simp only [ye,yc]})
def Lz:aE:=ax (a:=fun a=>dd af2 [a]) (by conv=>{lhs;reduce;try simp only [ye,yc]}) CX
def KU:aE:=ax (a:=cc 169) (by conv=>{lhs;reduce;try simp only [ye,yc]})
def rO:VC:=ax (a:=ck KU [0] []) (by conv=>{lhs;reduce;try simp only [ye,yc]})
def Gs:VC:=ax (a:=ck KU [1] []) (by conv=>{lhs;reduce;try simp only [ye,yc]})
def Gt:VC:=ax (a:=ck KU [2] []) (by conv=>{lhs;reduce;try simp only [ye,yc]})
def qw:aE:=ax (a:=fun a b c=>dd KU [a,b,c]) (by conv=>{lhs;reduce;try simp only [ye,yc]}) rO Gs Gt
def Q5:aE:=ax (a:=cc 172) (by conv=>{lhs;reduce;try simp only [ye,yc]})
end
end VE
