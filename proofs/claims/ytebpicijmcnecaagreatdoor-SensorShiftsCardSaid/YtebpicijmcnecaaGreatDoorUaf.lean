import Derived.Test.YtebpicijmcnecaaGreatDoorUae
set_option linter.all false
set_option maxRecDepth 100000
section
set_option maxHeartbeats 4000000
namespace VE
open kD (cc)
noncomputable section
def Nr:az:=ao (a:=cc 203) (by conv=>lhs;reduce;simp)
def I1:az:=ao (a:=cc 228) (by conv=>lhs;reduce;simp)
def I2:az:=ao (a:=cc 231) (by conv=>lhs;reduce)
def R9:az:=ao (a:=cc 232) (by conv=>lhs;reduce;simp)
def HW:VC:=ao (a:=bA R9 [0] []) (by conv=>lhs;reduce;simp)
def HX:VC:=ao (a:=bA R9 [1] []) (by conv=>lhs;reduce;simp)
def mu:az:=ao (a:=fun a b=>cw R9 [a,b]) (by conv=>lhs;reduce;simp) HW HX
def I3:az:=ao (a:=cc 241) (by conv=>lhs;reduce;simp)
end
end VE
end
section
set_option maxHeartbeats 4000000
namespace VE
open kD (cc)
noncomputable section
def I4:az:=ao (a:=cc 262) (by conv=>lhs;reduce;simp)
def ac2:az:=ao (a:=cc 263) (by conv=>lhs;reduce;simp)
def I5:az:=ao (a:=cc 264) (by conv=>lhs;reduce)
def Ns:az:=ao (a:=cc 265) (by conv=>lhs;reduce)
def I6:az:=ao (a:=cc 267) (by conv=>lhs;reduce)
def I7:az:=ao (a:=cc 268) (by conv=>lhs;reduce;simp)
def SZ:az:=ao (a:=cc 271) (by conv=>lhs;reduce)
def aby:az:=ao (a:=cc 272) (by conv=>lhs;reduce;simp)
def EE:VC:=ao (a:=bA aby [0] []) (by conv=>lhs;reduce;simp)
def I8:az:=ao (a:=fun a=>cw aby [a]) (by conv=>lhs;reduce;simp) EE
def ac3:az:=ao (a:=cc 273) (by conv=>lhs;reduce;simp)
def Nt:az:=ao (a:=cc 274) (by conv=>lhs;reduce;simp)
def abz:az:=ao (a:=cc 275) (by conv=>lhs;reduce;simp)
def HY:VC:=ao (a:=bA abz [0] []) (by conv=>lhs;reduce;simp)
def Nv:az:=ao (a:=fun a=>cw abz [a]) (by conv=>lhs;reduce) HY
def pK:az:=ao (a:=cc 276) (by conv=>lhs;reduce;simp)
def Dq:az:=ao (a:=cc 277) (by conv=>lhs;reduce;simp)
def Nw:az:=ao (a:=cc 278) (by conv=>lhs;reduce)
def E4:az:=ao (a:=cc 279) (by conv=>lhs;reduce;simp)
def n7:az:=ao (a:=cc 280) (by conv=>lhs;reduce;simp)
def abA:az:=ao (a:=cc 281) (by conv=>lhs;reduce;simp)
def rX:VC:=ao (a:=bA abA [0] []) (by conv=>lhs;reduce;simp)
def Nx:az:=ao (a:=fun a=>cw abA [a]) (by conv=>lhs;reduce;simp) rX
def abB:az:=ao (a:=cc 282) (by conv=>lhs;reduce;simp)
def HZ:VC:=ao (a:=bA abB [0] []) (by conv=>lhs;reduce;simp)
def I9:az:=ao (a:=fun a=>cw abB [a]) (by conv=>lhs;reduce;simp) HZ
def Ja:az:=ao (a:=cc 283) (by conv=>lhs;reduce)
def ac4:az:=ao (a:=cc 284) (by conv=>lhs;reduce)
def ac5:az:=ao (a:=cc 285) (by conv=>lhs;reduce;simp)
def ac6:az:=ao (a:=cc 286) (by conv=>lhs;reduce;simp)
def abC:az:=ao (a:=cc 287) (by conv=>lhs;reduce;simp)
def apm:VC:=ao (a:=bA abC [0] []) (by conv=>lhs;reduce;simp)
def ac7:az:=ao (a:=fun a=>cw abC [a]) (by conv=>lhs;reduce;simp) apm
def abD:az:=ao (a:=cc 288) (by conv=>lhs;reduce;simp)
def zL:VC:=ao (a:=bA abD [0] []) (by conv=>lhs;reduce;simp)
def Ny:az:=ao (a:=fun a=>cw abD [a]) (by conv=>lhs;reduce;simp) zL
def II:az:=ao (a:=cc 289) (by conv=>lhs;reduce;simp)
def H4:VC:=ao (a:=bA II [0] []) (by conv=>lhs;reduce;simp)
def EF:VC:=ao (a:=bA II [1,0] []) (by conv=>lhs;reduce;simp)
def H5:VC:=ao (a:=bA II [1,1] []) (by conv=>lhs;reduce;simp)
def H6:VC:=ao (a:=fun a b=>bA II [1] [a,b]) (by conv=>lhs;reduce;simp) EF H5
def sr:az:=ao (a:=fun a b=>cw II [a,b]) (by conv=>lhs;reduce;simp) H4 H6
def abE:az:=ao (a:=cc 290) (by conv=>lhs;reduce;simp)
def H7:VC:=ao (a:=bA abE [0] []) (by conv=>lhs;reduce;simp)
def E5:az:=ao (a:=fun a=>cw abE [a]) (by conv=>lhs;reduce;simp) H7
def abF:az:=ao (a:=cc 291) (by conv=>lhs;reduce;simp)
def H8:VC:=ao (a:=bA abF [0] []) (by conv=>lhs;reduce;simp)
def Jb:az:=ao (a:=fun a=>cw abF [a]) (by conv=>lhs;reduce;simp) H8
def abG:az:=ao (a:=cc 292) (by conv=>lhs;reduce;simp)
def nR:VC:=ao (a:=bA abG [0] []) (by conv=>lhs;reduce;simp)
def Ah:az:=ao (a:=fun a=>cw abG [a]) (by conv=>lhs;reduce) nR
def Sa:az:=ao (a:=cc 293) (by conv=>lhs;reduce;simp)
def H9:VC:=ao (a:=bA Sa [0,0] []) (by conv=>lhs;reduce;simp)
def Ia:VC:=ao (a:=fun a=>bA Sa [0] [a]) (by conv=>lhs;reduce;simp) H9
def BE:az:=ao (a:=fun a=>cw Sa [a]) (by conv=>lhs;reduce;simp) Ia
def BF:az:=ao (a:=cc 294) (by conv=>lhs;reduce;simp)
def abH:az:=ao (a:=cc 295) (by conv=>lhs;reduce;simp)
def po:VC:=ao (a:=bA abH [0] []) (by conv=>lhs;reduce;simp)
def Jc:az:=ao (a:=fun a=>cw abH [a]) (by conv=>lhs;reduce;simp) po
def abI:az:=ao (a:=cc 296) (by conv=>lhs;reduce;simp)
def CT:VC:=ao (a:=bA abI [0] []) (by conv=>lhs;reduce;simp)
def ss:az:=ao (a:=fun a=>cw abI [a]) (by conv=>lhs;reduce;simp) CT
def abJ:az:=ao (a:=cc 297) (by conv=>lhs;reduce;simp)
def rY:VC:=ao (a:=bA abJ [0] []) (by conv=>lhs;reduce;simp)
def Jd:az:=ao (a:=fun a=>cw abJ [a]) (by conv=>lhs;reduce;simp) rY
def Nz:az:=ao (a:=cc 298) (by conv=>lhs;reduce)
def abK:az:=ao (a:=cc 299) (by conv=>lhs;reduce;simp)
def Ib:VC:=ao (a:=bA abK [0] []) (by conv=>lhs;reduce;simp)
def BG:az:=ao (a:=fun a=>cw abK [a]) (by conv=>lhs;reduce;simp) Ib
def abL:az:=ao (a:=cc 300) (by conv=>lhs;reduce;simp)
def CU:VC:=ao (a:=bA abL [0] []) (by conv=>lhs;reduce;simp)
def lE:az:=ao (a:=fun a=>cw abL [a]) (by conv=>lhs;reduce) CU
def abM:az:=ao (a:=cc 301) (by conv=>lhs;reduce;simp)
def Bi:VC:=ao (a:=bA abM [0] []) (by conv=>lhs;reduce;simp)
def Ai:az:=ao (a:=fun a=>cw abM [a]) (by conv=>lhs;reduce;simp) Bi
def su:az:=ao (a:=cc 302) (by conv=>lhs;reduce;simp)
end
end VE
end
section
set_option maxHeartbeats 4000000
namespace VE
open kD (cc)
noncomputable section
def Je:az:=ao (a:=cc 315) (by conv=>lhs;reduce;simp)
def abN:az:=ao (a:=cc 389) (by conv=>lhs;reduce;simp)
def EG:VC:=ao (a:=bA abN [0] []) (by conv=>lhs;reduce;simp)
def E6:az:=ao (a:=fun a=>cw abN [a]) (by conv=>lhs;reduce;simp) EG
end
end VE
end
section
set_option maxHeartbeats 4000000
namespace VE
open kD (cc)
noncomputable section
def NA:az:=ao (a:=cc 429) (by conv=>lhs;reduce)
def Sb:az:=ao (a:=cc 430) (by conv=>lhs;reduce;simp)
def Ic:VC:=ao (a:=bA Sb [0] []) (by conv=>lhs;reduce;simp)
def Ie:VC:=ao (a:=bA Sb [1] []) (by conv=>lhs;reduce;simp)
def NB:az:=ao (a:=fun a b=>cw Sb [a,b]) (by conv=>lhs;reduce;simp) Ic Ie
end
end VE
end
section
set_option maxHeartbeats 4000000
namespace VE
open kD (cc)
noncomputable section
def NC:az:=ao (a:=cc 634) (by conv=>lhs;reduce;simp)
def abO:az:=ao (a:=cc 636) (by conv=>lhs;reduce;simp)
def EH:VC:=ao (a:=bA abO [0] []) (by conv=>lhs;reduce;simp)
def Jf:az:=ao (a:=fun a=>cw abO [a]) (by conv=>lhs;reduce;simp) EH
def abP:az:=ao (a:=cc 639) (by conv=>lhs;reduce;simp)
def CV:VC:=ao (a:=bA abP [0] []) (by conv=>lhs;reduce;simp)
def ND:az:=ao (a:=fun a=>cw abP [a]) (by conv=>lhs;reduce;simp) CV
def S3:az:=ao (a:=cc 641) (by conv=>lhs;reduce;simp)
def NE:az:=ao (a:=cc 642) (by conv=>lhs;reduce;simp)
def NF:az:=ao (a:=cc 643) (by conv=>lhs;reduce;simp)
def NG:az:=ao (a:=cc 644) (by conv=>lhs;reduce;simp)
def abQ:az:=ao (a:=cc 647) (by conv=>lhs;reduce;simp)
def Mj:VC:=ao (a:=bA abQ [0] []) (by conv=>lhs;reduce;simp)
def Jg:az:=ao (a:=fun a=>cw abQ [a]) (by conv=>lhs;reduce;simp) Mj
def S4:az:=ao (a:=cc 648) (by conv=>lhs;reduce;simp)
def ac8:az:=ao (a:=cc 654) (by conv=>lhs;reduce;simp)
def ac9:az:=ao (a:=cc 655) (by conv=>lhs;reduce;simp)
def EW:az:=ao (a:=cc 660) (by conv=>lhs;reduce;simp)
def er:VC:=ao (a:=bA EW [1,0,0] []) (by conv=>lhs;reduce;simp)
def dN:VC:=ao (a:=bA EW [1,0,1] []) (by conv=>lhs;reduce;simp)
def pq:VC:=ao (a:=fun a b=>bA EW [1,0] [a,b]) (by conv=>lhs;reduce;simp) er dN
def nS:VC:=ao (a:=bA EW [0] []) (by conv=>lhs;reduce;simp)
def nT:VC:=ao (a:=fun a=>bA EW [1] [a]) (by conv=>lhs;reduce;simp) pq
def Jh:az:=ao (a:=fun a b=>cw EW [a,b]) (by conv=>lhs;reduce;simp) nS nT
def Ig:VC:=.q (.g [qm 11 5,qm 12 0,qn 13 1 12,qT 14 11 13] (.cond (.t 14) .skip (.exit 0))) (.q (.dz 1 (.g [qm 17 0,qm 18 5,qi 19 2 17 18,qL 20 2 19,qm 21 1,qm 22 5,qi 23 2 21 22,qL 24 2 23,Rq 25 (.eq true (.ag [1,1]) (.t 20) (.t 24))] (.i 25 (.e [qf 4])))) (.nm [qm 15 5,qa 16 15 1,qm 5 16]))
def NH:az:=⟨[.t 4],.g [qf 4] (.h [qm 6 0,qn 7 1 6,qm 8 1,qn 9 1 8,Rq 10 (.z .neq 7 9)] 10 (.e [qf 4]) (.q (.g [qk 5 0] (.q (.dz 0 (.loop [0,1,5] Ig)) (.kp []))) (.e [Rq 4 (.pU (.c (.bool true)))])))⟩
def NI:az:=ao (a:=cc 670) (by conv=>lhs;reduce;simp)
def NJ:az:=ao (a:=cc 672) (by conv=>lhs;reduce)
def S5:az:=ao (a:=cc 673) (by conv=>lhs;reduce)
def E7:az:=ao (a:=cc 676) (by conv=>lhs;reduce;simp)
def abR:az:=ao (a:=cc 677) (by conv=>lhs;reduce;simp)
def Mk:VC:=ao (a:=bA abR [0] []) (by conv=>lhs;reduce;simp)
def NK:az:=ao (a:=fun a=>cw abR [a]) (by conv=>lhs;reduce;simp) Mk
def Ji:az:=ao (a:=cc 678) (by conv=>lhs;reduce;simp)
def Sc:az:=ao (a:=cc 680) (by conv=>lhs;reduce;simp)
def EI:VC:=ao (a:=bA Sc [0,0] []) (by conv=>lhs;reduce;simp)
def EJ:VC:=ao (a:=fun a=>bA Sc [0] [a]) (by conv=>lhs;reduce;simp) EI
def NL:az:=ao (a:=fun a=>cw Sc [a]) (by conv=>lhs;reduce;simp) EJ
def NM:az:=ao (a:=cc 685) (by conv=>lhs;reduce;simp)
def ada:az:=ao (a:=cc 686) (by conv=>lhs;reduce;simp)
def adb:az:=ao (a:=cc 687) (by conv=>lhs;reduce;simp)
def MN:az:=ao (a:=cc 688) (by conv=>lhs;reduce;simp)
def apo:VC:=ao (a:=bA MN [0] []) (by conv=>lhs;reduce;simp)
def apq:VC:=ao (a:=bA MN [1] []) (by conv=>lhs;reduce;simp)
def apr:VC:=ao (a:=bA MN [2] []) (by conv=>lhs;reduce;simp)
def ade:az:=ao (a:=fun a b c=>cw MN [a,b,c]) (by conv=>lhs;reduce;simp) apo apq apr
def adf:az:=ao (a:=cc 689) (by conv=>lhs;reduce;simp)
def adg:az:=ao (a:=cc 690) (by conv=>lhs;reduce;simp)
def adh:az:=ao (a:=cc 691) (by conv=>lhs;reduce;simp)
def E8:az:=ao (a:=cc 692) (by conv=>lhs;reduce;simp)
def S6:az:=ao (a:=cc 699) (by conv=>lhs;reduce;simp)
def S7:az:=ao (a:=cc 716) (by conv=>lhs;reduce;simp)
def abS:az:=ao (a:=cc 717) (by conv=>lhs;reduce;simp)
def Ml:VC:=ao (a:=bA abS [0] []) (by conv=>lhs;reduce;simp)
def NN:az:=ao (a:=fun a=>cw abS [a]) (by conv=>lhs;reduce;simp) Ml
def abT:az:=ao (a:=cc 718) (by conv=>lhs;reduce;simp)
def EK:VC:=ao (a:=bA abT [0] []) (by conv=>lhs;reduce;simp)
def E9:az:=ao (a:=fun a=>cw abT [a]) (by conv=>lhs;reduce;simp) EK
def Sd:az:=ao (a:=cc 719) (by conv=>lhs;reduce;simp)
def Ih:VC:=ao (a:=bA Sd [0,0] []) (by conv=>lhs;reduce;simp)
def Ii:VC:=ao (a:=fun a=>bA Sd [0] [a]) (by conv=>lhs;reduce;simp) Ih
def Jj:az:=ao (a:=fun a=>cw Sd [a]) (by conv=>lhs;reduce;simp) Ii
def Se:az:=ao (a:=cc 724) (by conv=>lhs;reduce;simp)
def aps:VC:=ao (a:=bA Se [0] []) (by conv=>lhs;reduce;simp)
def apt:VC:=ao (a:=bA Se [1] []) (by conv=>lhs;reduce;simp)
def adi:az:=ao (a:=fun a b=>cw Se [a,b]) (by conv=>lhs;reduce;simp) aps apt
def adj:az:=ao (a:=cc 725) (by conv=>lhs;reduce;simp)
def S8:az:=ao (a:=cc 727) (by conv=>lhs;reduce;simp)
def NO:az:=ao (a:=cc 741) (by conv=>lhs;reduce;simp)
def S9:az:=ao (a:=cc 742) (by conv=>lhs;reduce)
def Ta:az:=ao (a:=cc 746) (by conv=>lhs;reduce)
def abU:az:=ao (a:=cc 752) (by conv=>lhs;reduce;simp)
def EL:VC:=ao (a:=bA abU [0] []) (by conv=>lhs;reduce;simp)
def NP:az:=ao (a:=fun a=>cw abU [a]) (by conv=>lhs;reduce;simp) EL
end
end VE
end
section
set_option maxHeartbeats 4000000
namespace VE
open kD (cc)
noncomputable section
def sB:az:=ao (a:=cc 756) (by conv=>lhs;reduce;simp)
def MO:az:=ao (a:=cc 773) (by conv=>lhs;reduce;simp)
def py:VC:=ao (a:=bA MO [0,0,0] []) (by conv=>lhs;reduce;simp)
def CW:VC:=ao (a:=fun a=>bA MO [0,0] [a]) (by conv=>lhs;reduce;simp) py
def zM:VC:=ao (a:=fun a=>bA MO [0] [a]) (by conv=>lhs;reduce;simp) CW
def Tb:az:=ao (a:=fun a=>cw MO [a]) (by conv=>lhs;reduce;simp) zM
def Sf:az:=ao (a:=cc 791) (by conv=>lhs;reduce;simp)
def zN:VC:=ao (a:=bA Sf [0,0] []) (by conv=>lhs;reduce;simp)
def Ij:VC:=ao (a:=fun a=>bA Sf [0] [a]) (by conv=>lhs;reduce;simp) zN
def Tc:az:=ao (a:=fun a=>cw Sf [a]) (by conv=>lhs;reduce;simp) Ij
end
end VE
end
section
set_option maxHeartbeats 4000000
namespace VE
open kD (cc)
noncomputable section
def Sg:az:=ao (a:=cc 788) (by conv=>lhs;reduce;simp)
def EM:VC:=ao (a:=bA Sg [0,0] []) (by conv=>lhs;reduce;simp)
def Ik:VC:=ao (a:=fun a=>bA Sg [0] [a]) (by conv=>lhs;reduce;simp) EM
def Jk:az:=ao (a:=fun a=>cw Sg [a]) (by conv=>lhs;reduce;simp) Ik
end
end VE
end
section
namespace VE
open kD (cc)
noncomputable def Sh:Tr az:=FG 9 [(29,cc 29),(46,OK),(49,c49),(50,c50),(62,OL),(69,UT),(70,c70),(71,UU),(73,UW),(74,Ka),(86,c86),(88,cc 88),(98,OM),(99,DQ),(100,mq),(101,ni),(102,acQ),(107,acR),(108,acS),(110,Nj),(111,SU),(117,Nk),(118,Dn),(119,c119),(122,acT),(123,acU),(124,acV),(125,acW),(129,acX),(130,SV),(136,IW),(137,IX),(142,Nl),(144,Nn),(145,Ag),(146,SW),(147,IY),(148,SX),(149,acY),(150,cc 150),(151,acZ),(155,Dp),(156,SY),(157,IZ),(158,E3),(159,No),(160,ac0),(163,Np),(164,mr),(165,I0),(166,BD),(168,Nq),(169,sq),(172,ac1),(202,cc 202),(203,Nr),(228,I1),(229,cc 229),(230,cc 230),(231,I2),(232,mu),(241,I3),(243,cc 243),(245,cc 245),(246,cc 246),(247,cc 247),(252,cc 252),(262,I4),(263,ac2),(264,I5),(265,Ns),(267,I6),(268,I7),(271,SZ),(272,I8),(273,ac3),(274,Nt),(275,Nv),(276,pK),(277,Dq),(278,Nw),(279,E4),(280,n7),(281,Nx),(282,I9),(283,Ja),(284,ac4),(285,ac5),(286,ac6),(287,ac7),(288,Ny),(289,sr),(290,E5),(291,Jb),(292,Ah),(293,BE),(294,BF),(295,Jc),(296,ss),(297,Jd),(298,Nz),(299,BG),(300,lE),(301,Ai),(302,su),(315,Je),(389,E6),(429,NA),(430,NB),(634,NC),(636,Jf),(637,cc 637),(639,ND),(640,cc 640),(641,S3),(642,NE),(643,NF),(644,NG),(645,cc 645),(647,Jg),(648,S4),(650,cc 650),(652,cc 652),(653,cc 653),(654,ac8),(655,ac9),(656,cc 656),(657,cc 657),(658,cc 658),(659,cc 659),(660,Jh),(661,cc 661),(662,cc 662),(663,cc 663),(664,cc 664),(665,NH),(666,cc 666),(667,cc 667),(668,cc 668),(669,cc 669),(670,NI),(671,cc 671),(672,NJ),(673,S5),(674,cc 674),(675,cc 675),(676,E7),(677,NK),(678,Ji),(679,cc 679),(680,NL),(685,NM),(686,ada),(687,adb),(688,ade),(689,adf),(690,adg),(691,adh),(692,E8),(693,cc 693),(694,cc 694),(695,cc 695),(696,cc 696),(697,cc 697),(698,cc 698),(699,S6),(700,cc 700),(701,cc 701),(702,cc 702),(703,cc 703),(704,cc 704),(705,cc 705),(709,cc 709),(710,cc 710),(711,cc 711),(712,cc 712),(713,cc 713),(715,cc 715),(716,S7),(717,NN),(718,E9),(719,Jj),(720,cc 720),(721,cc 721),(722,cc 722),(723,cc 723),(724,adi),(725,adj),(726,cc 726),(727,S8),(728,cc 728),(729,cc 729),(735,cc 735),(736,cc 736),(737,cc 737),(738,cc 738),(741,NO),(742,S9),(744,cc 744),(745,cc 745),(746,Ta),(749,cc 749),(750,cc 750),(751,cc 751),(752,NP),(753,cc 753),(756,sB),(773,Tb),(788,Jk),(791,Tc)]
def adk:Tr (List AV->Option AV):=(.n 154 IE (.n 139 Ba (.n 135 ID (.n 128 K2 (.n 109 Ng .l .l) .l) (.n 138 AQ .l .l)) (.n 152 K3 (.n 143 rW .l .l) (.n 153 KP .l .l))) (.n 173 Bf (.n 167 EV (.n 162 trimS .l .l) (.n 171 nQ .l .l)) (.n 248 Qx (.n 175 Mi .l .l) (.n 251 Pq .l .l))))
noncomputable def prog:aE:=Sh.find
def aG:Lib:=⟨adk.find,fun _=>none⟩
end VE
end
section
namespace VE
namespace kD
open Go
open Go.Proofs
def amV:Sh.kU (RD Tryz.prog ab bi hd):=by
 delta Sh
 repeat' first | exact Tr.iW | refine Tr.jH (aiX (by kernel_rfl) (by kernel_rfl)) ?_ ?_
end kD
end VE
end
