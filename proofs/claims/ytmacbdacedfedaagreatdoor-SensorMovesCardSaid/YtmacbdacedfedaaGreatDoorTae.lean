import Derived.Test.YtmacbdacedfedaaGreatDoorTad
set_option linter.all false
set_option maxRecDepth 100000
set_option maxHeartbeats 4000000
namespace VE
open nA (cc)
noncomputable section
def Qd:aC:=aw (a:=cc 46) (by conv=>lhs;reduce)
def c49:aC:=aw (a:=cc 49) (by conv=>lhs;reduce;simp)
def c50:aC:=aw (a:=cc 50) (by conv=>lhs;reduce;simp)
def Qe:aC:=aw (a:=cc 62) (by conv=>lhs;reduce;simp)
def WI:aC:=aw (a:=cc 69) (by conv=>lhs;reduce;simp)
def WJ:aC:=aw (a:=cc 70) (by conv=>lhs;reduce;simp)
def c71:aC:=aw (a:=cc 71) (by conv=>lhs;reduce;simp)
def WK:aC:=aw (a:=cc 73) (by conv=>lhs;reduce;simp)
def LA:aC:=aw (a:=cc 74) (by conv=>lhs;reduce;simp)
def c86:aC:=aw (a:=cc 86) (by conv=>lhs;reduce;simp)
def Qf:aC:=aw (a:=cc 98) (by conv=>lhs;reduce;simp)
def UY:aC:=aw (a:=cc 99) (by conv=>lhs;reduce;simp)
def qK:VC:=aw (a:=bP UY [0] []) (by conv=>lhs;reduce;simp)
def avM:VC:=aw (a:=bP UY [1] []) (by conv=>lhs;reduce;simp)
def E5:aC:=aw (a:=fun a b=>cR UY [a,b]) (by conv=>lhs;reduce;simp) qK avM
def nd:aC:=aw (a:=cc 100) (by conv=>lhs;reduce;simp)
def od:aC:=aw (a:=cc 101) (by conv=>lhs;reduce;simp)
def aeV:aC:=aw (a:=cc 102) (by conv=>lhs;reduce;simp)
def OS:aC:=aw (a:=cc 107) (by conv=>lhs;reduce)
def UZ:aC:=aw (a:=cc 108) (by conv=>lhs;reduce;simp)
def adj:aC:=aw (a:=cc 110) (by conv=>lhs;reduce;simp)
def F2:VC:=aw (a:=bP adj [0] []) (by conv=>lhs;reduce;simp)
def OT:aC:=aw (a:=fun a=>cR adj [a]) (by conv=>lhs;reduce;simp) F2
def U1:aC:=aw (a:=cc 111) (by conv=>lhs;reduce;simp)
def OU:aC:=aw (a:=cc 117) (by conv=>lhs;reduce;simp)
def aeW:aC:=aw (a:=cc 118) (by conv=>lhs;reduce;simp)
def c119:aC:=aw (a:=cc 119) (by conv=>lhs;reduce;simp)
def Kp:aC:=aw (a:=cc 122) (by conv=>lhs;reduce;simp)
def adk:aC:=aw (a:=cc 123) (by conv=>lhs;reduce;simp)
def Js:VC:=aw (a:=bP adk [0] []) (by conv=>lhs;reduce;simp)
def Kq:aC:=aw (a:=fun a=>cR adk [a]) (by conv=>lhs;reduce;simp) Js
def aeX:aC:=aw (a:=cc 124) (by conv=>lhs;reduce;simp)
def adl:aC:=aw (a:=cc 125) (by conv=>lhs;reduce;simp)
def ar0:VC:=aw (a:=bP adl [0] []) (by conv=>lhs;reduce;simp)
def aeY:aC:=aw (a:=fun a=>cR adl [a]) (by conv=>lhs;reduce;simp) ar0
def aeZ:aC:=aw (a:=cc 129) (by conv=>lhs;reduce;simp)
def adm:aC:=aw (a:=cc 130) (by conv=>lhs;reduce;simp)
def Jt:VC:=aw (a:=bP adm [0] []) (by conv=>lhs;reduce;simp)
def U2:aC:=aw (a:=fun a=>cR adm [a]) (by conv=>lhs;reduce;simp) Jt
def Kr:aC:=aw (a:=cc 136) (by conv=>lhs;reduce;simp)
def Ol:aC:=aw (a:=cc 137) (by conv=>lhs;reduce;simp)
def Ju:VC:=aw (a:=bP Ol [0] []) (by conv=>lhs;reduce;simp)
def Jv:VC:=aw (a:=bP Ol [1] []) (by conv=>lhs;reduce;simp)
def F3:VC:=aw (a:=bP Ol [2] []) (by conv=>lhs;reduce;simp)
def Ks:aC:=aw (a:=fun a b c=>cR Ol [a,b,c]) (by conv=>lhs;reduce;simp) Ju Jv F3
def OV:aC:=aw (a:=cc 142) (by conv=>lhs;reduce;simp)
def Ui:aC:=aw (a:=cc 144) (by conv=>lhs;reduce;simp)
def Jw:VC:=aw (a:=bP Ui [0,0] []) (by conv=>lhs;reduce;simp)
def Jx:VC:=aw (a:=fun a=>bP Ui [0] [a]) (by conv=>lhs;reduce;simp) Jw
def OW:aC:=aw (a:=fun a=>cR Ui [a]) (by conv=>lhs;reduce;simp) Jx
def A7:aC:=aw (a:=cc 145) (by conv=>lhs;reduce;simp)
def U3:aC:=aw (a:=cc 146) (by conv=>lhs;reduce;simp)
def Kt:aC:=aw (a:=cc 147) (by conv=>lhs;reduce;simp)
def U4:aC:=aw (a:=cc 148) (by conv=>lhs;reduce;simp)
def ae0:aC:=aw (a:=cc 149) (by conv=>lhs;reduce;simp)
def OX:aC:=aw (a:=cc 151) (by conv=>lhs;reduce;simp)
def adn:aC:=aw (a:=cc 155) (by conv=>lhs;reduce;simp)
def DW:VC:=aw (a:=bP adn [0] []) (by conv=>lhs;reduce;simp)
def EA:aC:=aw (a:=fun a=>cR adn [a]) (by conv=>lhs;reduce;simp) DW
def U5:aC:=aw (a:=cc 156) (by conv=>lhs;reduce;simp)
def ado:aC:=aw (a:=cc 157) (by conv=>lhs;reduce;simp)
def DX:VC:=aw (a:=bP ado [0] []) (by conv=>lhs;reduce;simp)
def Ku:aC:=aw (a:=fun a=>cR ado [a]) (by conv=>lhs;reduce;simp) DX
def adp:aC:=aw (a:=cc 158) (by conv=>lhs;reduce;simp)
def DY:VC:=aw (a:=bP adp [0] []) (by conv=>lhs;reduce;simp)
def GA:aC:=aw (a:=fun a=>cR adp [a]) (by conv=>lhs;reduce;simp) DY
def adq:aC:=aw (a:=cc 159) (by conv=>lhs;reduce;simp)
def F5:VC:=aw (a:=bP adq [0] []) (by conv=>lhs;reduce;simp)
def OY:aC:=aw (a:=fun a=>cR adq [a]) (by conv=>lhs;reduce;simp) F5
def adr:aC:=aw (a:=cc 160) (by conv=>lhs;reduce;simp)
def F6:VC:=aw (a:=bP adr [0] []) (by conv=>lhs;reduce;simp)
def GB:aC:=aw (a:=fun a=>cR adr [a]) (by conv=>lhs;reduce;simp) F6
def OZ:aC:=aw (a:=cc 163) (by conv=>lhs;reduce;simp)
def nf:aC:=aw (a:=cc 164) (by conv=>lhs;reduce;simp)
def Uj:aC:=aw (a:=cc 165) (by conv=>lhs;reduce;simp)
def B9:VC:=aw (a:=bP Uj [0] []) (by conv=>lhs;reduce;simp)
def Ca:VC:=aw (a:=bP Uj [1] []) (by conv=>lhs;reduce;simp)
def Kv:aC:=aw (a:=fun a b=>cR Uj [a,b]) (by conv=>lhs;reduce;simp) B9 Ca
def ads:aC:=aw (a:=cc 166) (by conv=>lhs;reduce;simp)
def DZ:VC:=aw (a:=bP ads [0] []) (by conv=>lhs;reduce;simp)
def Cy:aC:=aw (a:=fun a=>cR ads [a]) (by conv=>lhs;reduce) DZ
def adt:aC:=aw (a:=cc 168) (by conv=>lhs;reduce;simp)
def F7:VC:=aw (a:=bP adt [0] []) (by conv=>lhs;reduce;simp)
def O0:aC:=aw (a:=fun a=>cR adt [a]) (by conv=>lhs;reduce;simp) F7
def Om:aC:=aw (a:=cc 169) (by conv=>lhs;reduce;simp)
def AN:VC:=aw (a:=bP Om [0] []) (by conv=>lhs;reduce;simp)
def Jy:VC:=aw (a:=bP Om [1] []) (by conv=>lhs;reduce;simp)
def Jz:VC:=aw (a:=bP Om [2] []) (by conv=>lhs;reduce;simp)
def zP:aC:=aw (a:=fun a b c=>cR Om [a,b,c]) (by conv=>lhs;reduce;simp) AN Jy Jz
def O1:aC:=aw (a:=cc 172) (by conv=>lhs;reduce;simp)
end
end VE
