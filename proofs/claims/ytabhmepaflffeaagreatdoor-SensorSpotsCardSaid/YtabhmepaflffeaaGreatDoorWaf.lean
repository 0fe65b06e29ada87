import Derived.Test.YtabhmepaflffeaaGreatDoorWae
set_option linter.all false
set_option maxRecDepth 100000
section
set_option maxHeartbeats 4000000
namespace VE
open mP (cc)
noncomputable section
def agz:ax:=ao (a:=cc 202) (by conv=>lhs;reduce;simp)
def KO:VC:=ao (a:=bi agz [0] []) (by conv=>lhs;reduce;simp)
def fO:ax:=ao (a:=fun a=>b8 agz [a]) (by conv=>lhs;reduce;simp) KO
def Q0:ax:=ao (a:=cc 203) (by conv=>lhs;reduce;simp)
def HE:ax:=ao (a:=cc 228) (by conv=>lhs;reduce;simp)
def HF:ax:=ao (a:=cc 229) (by conv=>lhs;reduce;simp)
def Q1:ax:=ao (a:=cc 230) (by conv=>lhs;reduce)
def L3:ax:=ao (a:=cc 231) (by conv=>lhs;reduce)
def Wv:ax:=ao (a:=cc 232) (by conv=>lhs;reduce;simp)
def KQ:VC:=ao (a:=bi Wv [0] []) (by conv=>lhs;reduce;simp)
def KR:VC:=ao (a:=bi Wv [1] []) (by conv=>lhs;reduce;simp)
def oe:ax:=ao (a:=fun a b=>b8 Wv [a,b]) (by conv=>lhs;reduce;simp) KQ KR
def HG:ax:=ao (a:=cc 241) (by conv=>lhs;reduce;simp)
def Q2:ax:=ao (a:=cc 243) (by conv=>lhs;reduce;simp)
def XB:ax:=ao (a:=cc 245) (by conv=>lhs;reduce;simp)
def XC:ax:=ao (a:=cc 246) (by conv=>lhs;reduce)
def XD:ax:=ao (a:=cc 247) (by conv=>lhs;reduce;simp)
def XE:ax:=ao (a:=cc 252) (by conv=>lhs;reduce;simp)
end
end VE
end
section
set_option maxHeartbeats 4000000
namespace VE
open mP (cc)
noncomputable section
def L4:ax:=ao (a:=cc 262) (by conv=>lhs;reduce;simp)
def dF:ax:=ao (a:=cc 263) (by conv=>lhs;reduce;simp)
def L5:ax:=ao (a:=cc 264) (by conv=>lhs;reduce)
def Q3:ax:=ao (a:=cc 265) (by conv=>lhs;reduce)
def Q4:ax:=ao (a:=cc 266) (by conv=>lhs;reduce)
def L6:ax:=ao (a:=cc 267) (by conv=>lhs;reduce)
def L7:ax:=ao (a:=cc 268) (by conv=>lhs;reduce;simp)
def XF:ax:=ao (a:=cc 271) (by conv=>lhs;reduce)
def agA:ax:=ao (a:=cc 272) (by conv=>lhs;reduce;simp)
def GX:VC:=ao (a:=bi agA [0] []) (by conv=>lhs;reduce;simp)
def L8:ax:=ao (a:=fun a=>b8 agA [a]) (by conv=>lhs;reduce;simp) GX
def Fu:ax:=ao (a:=cc 273) (by conv=>lhs;reduce;simp)
def Q5:ax:=ao (a:=cc 274) (by conv=>lhs;reduce;simp)
def agB:ax:=ao (a:=cc 275) (by conv=>lhs;reduce;simp)
def KS:VC:=ao (a:=bi agB [0] []) (by conv=>lhs;reduce;simp)
def Q6:ax:=ao (a:=fun a=>b8 agB [a]) (by conv=>lhs;reduce) KS
def sj:ax:=ao (a:=cc 276) (by conv=>lhs;reduce;simp)
def Fv:ax:=ao (a:=cc 277) (by conv=>lhs;reduce;simp)
def Q7:ax:=ao (a:=cc 278) (by conv=>lhs;reduce)
def HH:ax:=ao (a:=cc 279) (by conv=>lhs;reduce;simp)
def qB:ax:=ao (a:=cc 280) (by conv=>lhs;reduce;simp)
def agC:ax:=ao (a:=cc 281) (by conv=>lhs;reduce;simp)
def Aw:VC:=ao (a:=bi agC [0] []) (by conv=>lhs;reduce;simp)
def Q8:ax:=ao (a:=fun a=>b8 agC [a]) (by conv=>lhs;reduce;simp) Aw
def agD:ax:=ao (a:=cc 282) (by conv=>lhs;reduce;simp)
def KT:VC:=ao (a:=bi agD [0] []) (by conv=>lhs;reduce;simp)
def L9:ax:=ao (a:=fun a=>b8 agD [a]) (by conv=>lhs;reduce;simp) KT
def Fw:ax:=ao (a:=cc 283) (by conv=>lhs;reduce)
def Q9:ax:=ao (a:=cc 285) (by conv=>lhs;reduce;simp)
def agE:ax:=ao (a:=cc 287) (by conv=>lhs;reduce;simp)
def EO:VC:=ao (a:=bi agE [0] []) (by conv=>lhs;reduce;simp)
def Ma:ax:=ao (a:=fun a=>b8 agE [a]) (by conv=>lhs;reduce;simp) EO
def agF:ax:=ao (a:=cc 288) (by conv=>lhs;reduce;simp)
def BA:VC:=ao (a:=bi agF [0] []) (by conv=>lhs;reduce;simp)
def Rc:ax:=ao (a:=fun a=>b8 agF [a]) (by conv=>lhs;reduce;simp) BA
def LI:ax:=ao (a:=cc 289) (by conv=>lhs;reduce;simp)
def KU:VC:=ao (a:=bi LI [0] []) (by conv=>lhs;reduce;simp)
def GY:VC:=ao (a:=bi LI [1,0] []) (by conv=>lhs;reduce;simp)
def KV:VC:=ao (a:=bi LI [1,1] []) (by conv=>lhs;reduce;simp)
def KW:VC:=ao (a:=fun a b=>bi LI [1] [a,b]) (by conv=>lhs;reduce;simp) GY KV
def AJ:ax:=ao (a:=fun a b=>b8 LI [a,b]) (by conv=>lhs;reduce;simp) KU KW
def agG:ax:=ao (a:=cc 290) (by conv=>lhs;reduce;simp)
def KX:VC:=ao (a:=bi agG [0] []) (by conv=>lhs;reduce;simp)
def HI:ax:=ao (a:=fun a=>b8 agG [a]) (by conv=>lhs;reduce;simp) KX
def agH:ax:=ao (a:=cc 291) (by conv=>lhs;reduce;simp)
def KY:VC:=ao (a:=bi agH [0] []) (by conv=>lhs;reduce;simp)
def Mb:ax:=ao (a:=fun a=>b8 agH [a]) (by conv=>lhs;reduce;simp) KY
def agI:ax:=ao (a:=cc 292) (by conv=>lhs;reduce;simp)
def p7:VC:=ao (a:=bi agI [0] []) (by conv=>lhs;reduce;simp)
def BT:ax:=ao (a:=fun a=>b8 agI [a]) (by conv=>lhs;reduce) p7
def Ww:ax:=ao (a:=cc 293) (by conv=>lhs;reduce;simp)
def KZ:VC:=ao (a:=bi Ww [0,0] []) (by conv=>lhs;reduce;simp)
def K0:VC:=ao (a:=fun a=>bi Ww [0] [a]) (by conv=>lhs;reduce;simp) KZ
def Dp:ax:=ao (a:=fun a=>b8 Ww [a]) (by conv=>lhs;reduce;simp) K0
def Dq:ax:=ao (a:=cc 294) (by conv=>lhs;reduce;simp)
def agJ:ax:=ao (a:=cc 295) (by conv=>lhs;reduce;simp)
def rV:VC:=ao (a:=bi agJ [0] []) (by conv=>lhs;reduce;simp)
def Mc:ax:=ao (a:=fun a=>b8 agJ [a]) (by conv=>lhs;reduce;simp) rV
def agK:ax:=ao (a:=cc 296) (by conv=>lhs;reduce;simp)
def EP:VC:=ao (a:=bi agK [0] []) (by conv=>lhs;reduce;simp)
def AK:ax:=ao (a:=fun a=>b8 agK [a]) (by conv=>lhs;reduce;simp) EP
def agL:ax:=ao (a:=cc 297) (by conv=>lhs;reduce;simp)
def Ax:VC:=ao (a:=bi agL [0] []) (by conv=>lhs;reduce;simp)
def Me:ax:=ao (a:=fun a=>b8 agL [a]) (by conv=>lhs;reduce;simp) Ax
def Re:ax:=ao (a:=cc 298) (by conv=>lhs;reduce)
def agM:ax:=ao (a:=cc 299) (by conv=>lhs;reduce;simp)
def K4:VC:=ao (a:=bi agM [0] []) (by conv=>lhs;reduce;simp)
def Dr:ax:=ao (a:=fun a=>b8 agM [a]) (by conv=>lhs;reduce;simp) K4
def agN:ax:=ao (a:=cc 300) (by conv=>lhs;reduce;simp)
def EQ:VC:=ao (a:=bi agN [0] []) (by conv=>lhs;reduce;simp)
def nk:ax:=ao (a:=fun a=>b8 agN [a]) (by conv=>lhs;reduce) EQ
def agO:ax:=ao (a:=cc 301) (by conv=>lhs;reduce;simp)
def CY:VC:=ao (a:=bi agO [0] []) (by conv=>lhs;reduce;simp)
def BU:ax:=ao (a:=fun a=>b8 agO [a]) (by conv=>lhs;reduce;simp) CY
def AL:ax:=ao (a:=cc 302) (by conv=>lhs;reduce;simp)
end
end VE
end
section
set_option maxHeartbeats 4000000
namespace VE
open mP (cc)
noncomputable section
def FA:ax:=ao (a:=cc 315) (by conv=>lhs;reduce;simp)
def Rg:ax:=ao (a:=cc 319) (by conv=>lhs;reduce)
def Mf:ax:=ao (a:=cc 336) (by conv=>lhs;reduce)
def FB:ax:=ao (a:=cc 338) (by conv=>lhs;reduce)
def FC:ax:=ao (a:=cc 339) (by conv=>lhs;reduce;simp)
def agP:ax:=ao (a:=cc 340) (by conv=>lhs;reduce;simp)
def VV:VC:=ao (a:=bi agP [0] []) (by conv=>lhs;reduce;simp)
def Mg:ax:=ao (a:=fun a=>b8 agP [a]) (by conv=>lhs;reduce;simp) VV
def Wx:ax:=ao (a:=cc 388) (by conv=>lhs;reduce;simp)
def K5:VC:=ao (a:=bi Wx [0] []) (by conv=>lhs;reduce;simp)
def GZ:VC:=ao (a:=bi Wx [1] []) (by conv=>lhs;reduce;simp)
def di:ax:=ao (a:=fun a b=>b8 Wx [a,b]) (by conv=>lhs;reduce;simp) K5 GZ
def agQ:ax:=ao (a:=cc 389) (by conv=>lhs;reduce;simp)
def G0:VC:=ao (a:=bi agQ [0] []) (by conv=>lhs;reduce;simp)
def HJ:ax:=ao (a:=fun a=>b8 agQ [a]) (by conv=>lhs;reduce;simp) G0
def Wy:ax:=ao (a:=cc 390) (by conv=>lhs;reduce;simp)
def K6:VC:=ao (a:=bi Wy [0] []) (by conv=>lhs;reduce;simp)
def K7:VC:=ao (a:=bi Wy [1] []) (by conv=>lhs;reduce;simp)
def Rh:ax:=ao (a:=fun a b=>b8 Wy [a,b]) (by conv=>lhs;reduce;simp) K6 K7
end
end VE
end
section
set_option maxHeartbeats 4000000
namespace VE
open mP (cc)
noncomputable section
def Ri:ax:=ao (a:=cc 429) (by conv=>lhs;reduce)
def Wz:ax:=ao (a:=cc 430) (by conv=>lhs;reduce;simp)
def K8:VC:=ao (a:=bi Wz [0] []) (by conv=>lhs;reduce;simp)
def K9:VC:=ao (a:=bi Wz [1] []) (by conv=>lhs;reduce;simp)
def Rj:ax:=ao (a:=fun a b=>b8 Wz [a,b]) (by conv=>lhs;reduce;simp) K8 K9
def HK:ax:=ao (a:=cc 449) (by conv=>lhs;reduce;simp)
end
end VE
end
section
set_option maxHeartbeats 4000000
namespace VE
open mP (cc)
noncomputable section
def Rk:ax:=ao (a:=cc 634) (by conv=>lhs;reduce;simp)
def agR:ax:=ao (a:=cc 636) (by conv=>lhs;reduce;simp)
def G1:VC:=ao (a:=bi agR [0] []) (by conv=>lhs;reduce;simp)
def Mh:ax:=ao (a:=fun a=>b8 agR [a]) (by conv=>lhs;reduce;simp) G1
def agS:ax:=ao (a:=cc 639) (by conv=>lhs;reduce;simp)
def ER:VC:=ao (a:=bi agS [0] []) (by conv=>lhs;reduce;simp)
def Rl:ax:=ao (a:=fun a=>b8 agS [a]) (by conv=>lhs;reduce;simp) ER
def XG:ax:=ao (a:=cc 641) (by conv=>lhs;reduce;simp)
def Mi:ax:=ao (a:=cc 642) (by conv=>lhs;reduce;simp)
def ah5:ax:=ao (a:=cc 643) (by conv=>lhs;reduce;simp)
def ah6:ax:=ao (a:=cc 644) (by conv=>lhs;reduce;simp)
def agT:ax:=ao (a:=cc 647) (by conv=>lhs;reduce;simp)
def PR:VC:=ao (a:=bi agT [0] []) (by conv=>lhs;reduce;simp)
def HL:ax:=ao (a:=fun a=>b8 agT [a]) (by conv=>lhs;reduce;simp) PR
def XH:ax:=ao (a:=cc 648) (by conv=>lhs;reduce;simp)
def WA:ax:=ao (a:=cc 650) (by conv=>lhs;reduce;simp)
def La:VC:=ao (a:=bi WA [0,0] []) (by conv=>lhs;reduce;simp)
def Lb:VC:=ao (a:=fun a=>bi WA [0] [a]) (by conv=>lhs;reduce;simp) La
def Ro:ax:=ao (a:=fun a=>b8 WA [a]) (by conv=>lhs;reduce;simp) Lb
def WB:ax:=ao (a:=cc 651) (by conv=>lhs;reduce;simp)
def G2:VC:=ao (a:=bi WB [0,0] []) (by conv=>lhs;reduce;simp)
def Lc:VC:=ao (a:=fun a=>bi WB [0] [a]) (by conv=>lhs;reduce;simp) G2
def Rr:ax:=ao (a:=fun a=>b8 WB [a]) (by conv=>lhs;reduce;simp) Lc
def ah7:ax:=ao (a:=cc 654) (by conv=>lhs;reduce;simp)
def ah8:ax:=ao (a:=cc 655) (by conv=>lhs;reduce;simp)
def Hr:ax:=ao (a:=cc 657) (by conv=>lhs;reduce;simp)
def Ld:VC:=ao (a:=bi Hr [0] []) (by conv=>lhs;reduce;simp)
def iI:VC:=ao (a:=bi Hr [2,0] []) (by conv=>lhs;reduce;simp)
def ir:VC:=ao (a:=bi Hr [2,1] []) (by conv=>lhs;reduce;simp)
def p8:VC:=ao (a:=bi Hr [1] []) (by conv=>lhs;reduce;simp)
def p9:VC:=ao (a:=fun a b=>bi Hr [2] [a,b]) (by conv=>lhs;reduce) iI ir
def Mj:ax:=ao (a:=fun a b c=>b8 Hr [a,b,c]) (by conv=>lhs;reduce;simp) Ld p8 p9
def Qh:ax:=ao (a:=cc 668) (by conv=>lhs;reduce;simp)
def G3:VC:=ao (a:=bi Qh [0,0,0] []) (by conv=>lhs;reduce;simp)
def ES:VC:=ao (a:=fun a=>bi Qh [0,0] [a]) (by conv=>lhs;reduce;simp) G3
def G4:VC:=ao (a:=fun a=>bi Qh [0] [a]) (by conv=>lhs;reduce;simp) ES
def Mk:ax:=ao (a:=fun a=>b8 Qh [a]) (by conv=>lhs;reduce;simp) G4
def Ru:ax:=ao (a:=cc 670) (by conv=>lhs;reduce;simp)
def Rv:ax:=ao (a:=cc 672) (by conv=>lhs;reduce)
def XI:ax:=ao (a:=cc 673) (by conv=>lhs;reduce)
def WC:ax:=ao (a:=cc 675) (by conv=>lhs;reduce;simp)
def BB:VC:=ao (a:=bi WC [0,0] []) (by conv=>lhs;reduce;simp)
def ET:VC:=ao (a:=fun a=>bi WC [0] [a]) (by conv=>lhs;reduce;simp) BB
def XJ:ax:=ao (a:=fun a=>b8 WC [a]) (by conv=>lhs;reduce;simp) ET
def HM:ax:=ao (a:=cc 676) (by conv=>lhs;reduce;simp)
def agU:ax:=ao (a:=cc 677) (by conv=>lhs;reduce;simp)
def PS:VC:=ao (a:=bi agU [0] []) (by conv=>lhs;reduce;simp)
def Rw:ax:=ao (a:=fun a=>b8 agU [a]) (by conv=>lhs;reduce;simp) PS
def Ml:ax:=ao (a:=cc 678) (by conv=>lhs;reduce;simp)
def WD:ax:=ao (a:=cc 680) (by conv=>lhs;reduce;simp)
def G5:VC:=ao (a:=bi WD [0,0] []) (by conv=>lhs;reduce;simp)
def G6:VC:=ao (a:=fun a=>bi WD [0] [a]) (by conv=>lhs;reduce;simp) G5
def Rx:ax:=ao (a:=fun a=>b8 WD [a]) (by conv=>lhs;reduce;simp) G6
def WE:ax:=ao (a:=cc 684) (by conv=>lhs;reduce;simp)
def BC:VC:=ao (a:=bi WE [0,0] []) (by conv=>lhs;reduce;simp)
def EU:VC:=ao (a:=fun a=>bi WE [0] [a]) (by conv=>lhs;reduce;simp) BC
def Ry:ax:=ao (a:=fun a=>b8 WE [a]) (by conv=>lhs;reduce;simp) EU
def Rz:ax:=ao (a:=cc 685) (by conv=>lhs;reduce;simp)
def ah9:ax:=ao (a:=cc 686) (by conv=>lhs;reduce;simp)
def aia:ax:=ao (a:=cc 687) (by conv=>lhs;reduce;simp)
def Qi:ax:=ao (a:=cc 688) (by conv=>lhs;reduce;simp)
def avk:VC:=ao (a:=bi Qi [0] []) (by conv=>lhs;reduce;simp)
def avl:VC:=ao (a:=bi Qi [1] []) (by conv=>lhs;reduce;simp)
def avm:VC:=ao (a:=bi Qi [2] []) (by conv=>lhs;reduce;simp)
def aib:ax:=ao (a:=fun a b c=>b8 Qi [a,b,c]) (by conv=>lhs;reduce;simp) avk avl avm
def Mm:ax:=ao (a:=cc 689) (by conv=>lhs;reduce;simp)
def aic:ax:=ao (a:=cc 690) (by conv=>lhs;reduce;simp)
def Mn:ax:=ao (a:=cc 691) (by conv=>lhs;reduce;simp)
def FD:ax:=ao (a:=cc 692) (by conv=>lhs;reduce;simp)
def agV:ax:=ao (a:=cc 694) (by conv=>lhs;reduce;simp)
def CZ:VC:=ao (a:=bi agV [0] []) (by conv=>lhs;reduce;simp)
def RA:ax:=ao (a:=fun a=>b8 agV [a]) (by conv=>lhs;reduce;simp) CZ
def agW:ax:=ao (a:=cc 695) (by conv=>lhs;reduce;simp)
def G7:VC:=ao (a:=bi agW [0] []) (by conv=>lhs;reduce;simp)
def RB:ax:=ao (a:=fun a=>b8 agW [a]) (by conv=>lhs;reduce;simp) G7
def RC:ax:=ao (a:=cc 696) (by conv=>lhs;reduce;simp)
def agX:ax:=ao (a:=cc 715) (by conv=>lhs;reduce;simp)
def PT:VC:=ao (a:=bi agX [0] []) (by conv=>lhs;reduce;simp)
def RD:ax:=ao (a:=fun a=>b8 agX [a]) (by conv=>lhs;reduce;simp) PT
def XK:ax:=ao (a:=cc 716) (by conv=>lhs;reduce;simp)
def agY:ax:=ao (a:=cc 717) (by conv=>lhs;reduce;simp)
def PU:VC:=ao (a:=bi agY [0] []) (by conv=>lhs;reduce;simp)
def RE:ax:=ao (a:=fun a=>b8 agY [a]) (by conv=>lhs;reduce;simp) PU
def agZ:ax:=ao (a:=cc 718) (by conv=>lhs;reduce;simp)
def G8:VC:=ao (a:=bi agZ [0] []) (by conv=>lhs;reduce;simp)
def HN:ax:=ao (a:=fun a=>b8 agZ [a]) (by conv=>lhs;reduce;simp) G8
def WG:ax:=ao (a:=cc 719) (by conv=>lhs;reduce;simp)
def Lf:VC:=ao (a:=bi WG [0,0] []) (by conv=>lhs;reduce;simp)
def Lg:VC:=ao (a:=fun a=>bi WG [0] [a]) (by conv=>lhs;reduce;simp) Lf
def Mo:ax:=ao (a:=fun a=>b8 WG [a]) (by conv=>lhs;reduce;simp) Lg
def ag0:ax:=ao (a:=cc 721) (by conv=>lhs;reduce;simp)
def avn:VC:=ao (a:=bi ag0 [0] []) (by conv=>lhs;reduce;simp)
def RF:ax:=ao (a:=fun a=>b8 ag0 [a]) (by conv=>lhs;reduce;simp) avn
def WH:ax:=ao (a:=cc 724) (by conv=>lhs;reduce;simp)
def avo:VC:=ao (a:=bi WH [0] []) (by conv=>lhs;reduce;simp)
def avp:VC:=ao (a:=bi WH [1] []) (by conv=>lhs;reduce;simp)
def aid:ax:=ao (a:=fun a b=>b8 WH [a,b]) (by conv=>lhs;reduce;simp) avo avp
def RG:ax:=ao (a:=cc 725) (by conv=>lhs;reduce;simp)
def XL:ax:=ao (a:=cc 741) (by conv=>lhs;reduce;simp)
def XM:ax:=ao (a:=cc 742) (by conv=>lhs;reduce)
def ag1:ax:=ao (a:=cc 752) (by conv=>lhs;reduce;simp)
def G9:VC:=ao (a:=bi ag1 [0] []) (by conv=>lhs;reduce;simp)
def RH:ax:=ao (a:=fun a=>b8 ag1 [a]) (by conv=>lhs;reduce;simp) G9
end
end VE
end
section
set_option maxHeartbeats 4000000
namespace VE
open mP (cc)
noncomputable section
def ag2:ax:=ao (a:=cc 758) (by conv=>lhs;reduce;simp)
def C0:VC:=ao (a:=bi ag2 [0] []) (by conv=>lhs;reduce;simp)
def AM:ax:=ao (a:=fun a=>b8 ag2 [a]) (by conv=>lhs;reduce;simp) C0
def ag3:ax:=ao (a:=cc 765) (by conv=>lhs;reduce;simp)
def C1:VC:=ao (a:=bi ag3 [0] []) (by conv=>lhs;reduce;simp)
def HO:ax:=ao (a:=fun a=>b8 ag3 [a]) (by conv=>lhs;reduce;simp) C1
def HP:ax:=ao (a:=cc 769) (by conv=>lhs;reduce;simp)
def WI:ax:=ao (a:=cc 775) (by conv=>lhs;reduce;simp)
def EV:VC:=ao (a:=bi WI [0,0] []) (by conv=>lhs;reduce;simp)
def Ha:VC:=ao (a:=fun a=>bi WI [0] [a]) (by conv=>lhs;reduce;simp) EV
def RI:ax:=ao (a:=fun a=>b8 WI [a]) (by conv=>lhs;reduce;simp) Ha
def WJ:ax:=ao (a:=cc 776) (by conv=>lhs;reduce;simp)
def C2:VC:=ao (a:=bi WJ [0,0] []) (by conv=>lhs;reduce;simp)
def Hb:VC:=ao (a:=fun a=>bi WJ [0] [a]) (by conv=>lhs;reduce;simp) C2
def XN:ax:=ao (a:=fun a=>b8 WJ [a]) (by conv=>lhs;reduce;simp) Hb
def ag4:ax:=ao (a:=cc 777) (by conv=>lhs;reduce;simp)
def Hc:VC:=ao (a:=bi ag4 [0] []) (by conv=>lhs;reduce;simp)
def Mq:ax:=ao (a:=fun a=>b8 ag4 [a]) (by conv=>lhs;reduce;simp) Hc
def Qj:ax:=ao (a:=cc 778) (by conv=>lhs;reduce;simp)
def Hd:VC:=ao (a:=bi Qj [0,0,0] []) (by conv=>lhs;reduce;simp)
def EW:VC:=ao (a:=fun a=>bi Qj [0,0] [a]) (by conv=>lhs;reduce;simp) Hd
def He:VC:=ao (a:=fun a=>bi Qj [0] [a]) (by conv=>lhs;reduce;simp) EW
def XO:ax:=ao (a:=fun a=>b8 Qj [a]) (by conv=>lhs;reduce;simp) He
def XP:ax:=ao (a:=cc 793) (by conv=>lhs;reduce)
def RJ:ax:=ao (a:=cc 801) (by conv=>lhs;reduce;simp)
end
end VE
end
section
namespace VE
open mP (cc)
noncomputable def WK:Tr ax:=Ix 9 [(29,cc 29),(46,SE),(49,c49),(50,ZD),(62,SF),(69,ZE),(70,ZF),(71,ZG),(73,ZH),(74,Nf),(86,fQ),(88,cc 88),(98,SG),(99,F6),(100,oc),(101,ph),(102,Xt),(107,QQ),(108,Xu),(110,QR),(111,Xv),(117,QS),(118,Fq),(119,c119),(122,ah2),(123,ah3),(124,HA),(125,QT),(129,HB),(130,Xw),(136,LU),(137,LV),(142,QU),(144,QV),(145,BS),(146,Xx),(147,LW),(148,Xy),(149,Xz),(150,LX),(151,QW),(155,Ft),(156,XA),(157,LY),(158,HC),(159,QX),(160,ah4),(163,QY),(164,od),(165,LZ),(166,Dm),(168,QZ),(169,AI),(172,L2),(202,fO),(203,Q0),(228,HE),(229,HF),(230,Q1),(231,L3),(232,oe),(241,HG),(243,Q2),(245,XB),(246,XC),(247,XD),(252,XE),(262,L4),(263,dF),(264,L5),(265,Q3),(266,Q4),(267,L6),(268,L7),(271,XF),(272,L8),(273,Fu),(274,Q5),(275,Q6),(276,sj),(277,Fv),(278,Q7),(279,HH),(280,qB),(281,Q8),(282,L9),(283,Fw),(285,Q9),(287,Ma),(288,Rc),(289,AJ),(290,HI),(291,Mb),(292,BT),(293,Dp),(294,Dq),(295,Mc),(296,AK),(297,Me),(298,Re),(299,Dr),(300,nk),(301,BU),(302,AL),(315,FA),(319,Rg),(336,Mf),(338,FB),(339,FC),(340,Mg),(388,di),(389,HJ),(390,Rh),(429,Ri),(430,Rj),(449,HK),(634,Rk),(636,Mh),(637,cc 637),(639,Rl),(640,cc 640),(641,XG),(642,Mi),(643,ah5),(644,ah6),(645,cc 645),(647,HL),(648,XH),(650,Ro),(651,Rr),(652,cc 652),(653,cc 653),(654,ah7),(655,ah8),(656,cc 656),(657,Mj),(658,cc 658),(659,cc 659),(660,cc 660),(661,cc 661),(662,cc 662),(663,cc 663),(664,cc 664),(665,cc 665),(666,cc 666),(667,cc 667),(668,Mk),(669,cc 669),(670,Ru),(671,cc 671),(672,Rv),(673,XI),(674,cc 674),(675,XJ),(676,HM),(677,Rw),(678,Ml),(679,cc 679),(680,Rx),(684,Ry),(685,Rz),(686,ah9),(687,aia),(688,aib),(689,Mm),(690,aic),(691,Mn),(692,FD),(693,cc 693),(694,RA),(695,RB),(696,RC),(697,cc 697),(698,cc 698),(699,cc 699),(700,cc 700),(701,cc 701),(702,cc 702),(703,cc 703),(704,cc 704),(705,cc 705),(709,cc 709),(710,cc 710),(711,cc 711),(712,cc 712),(713,cc 713),(715,RD),(716,XK),(717,RE),(718,HN),(719,Mo),(720,cc 720),(721,RF),(722,cc 722),(723,cc 723),(724,aid),(725,RG),(726,cc 726),(727,cc 727),(728,cc 728),(729,cc 729),(735,cc 735),(736,cc 736),(737,cc 737),(738,cc 738),(741,XL),(742,XM),(744,cc 744),(745,cc 745),(746,cc 746),(749,cc 749),(750,cc 750),(751,cc 751),(752,RH),(753,cc 753),(758,AM),(765,HO),(769,HP),(775,RI),(776,XN),(777,Mq),(778,XO),(793,XP),(801,RJ)]
def aie:Tr (List AV->Option AV):=(.n 154 LD (.n 139 CR (.n 135 LC (.n 128 Oo (.n 109 QN .l .l) .l) (.n 138 Cz .l .l)) (.n 152 Oq (.n 143 Av .l .l) (.n 153 Oa .l .l))) (.n 173 CV (.n 167 Ho (.n 162 trimS .l .l) (.n 171 p6 .l .l)) (.n 248 OZ (.n 175 KF .l .l) (.n 251 N6 .l .l))))
noncomputable def prog:aF:=WK.find
def aJ:Lib:=⟨aie.find,fun _=>none⟩
end VE
end
section
namespace VE
namespace mP
open Go
open Go.Proofs
def asG:WK.mO (VU Tryz.prog ae br hd):=by
 delta WK
 repeat' first | exact Tr.jX | refine Tr.lA (aov (by kernel_rfl) (by kernel_rfl)) ?_ ?_
end mP
end VE
end
