import Derived.Test.YtmacbdacedfedaaGreatDoorUae
set_option linter.all false
set_option maxRecDepth 100000
section
set_option maxHeartbeats 4000000
namespace VE
open lY (cc)
noncomputable section
def QY:az:=ao (a:=cc 203) (by conv=>lhs;reduce;simp)
def LW:az:=ao (a:=cc 228) (by conv=>lhs;reduce;simp)
def LX:az:=ao (a:=cc 231) (by conv=>lhs;reduce)
def Wi:az:=ao (a:=cc 232) (by conv=>lhs;reduce;simp)
def KO:VC:=ao (a:=bG Wi [0] []) (by conv=>lhs;reduce;simp)
def KP:VC:=ao (a:=bG Wi [1] []) (by conv=>lhs;reduce;simp)
def nM:az:=ao (a:=fun a b=>cy Wi [a,b]) (by conv=>lhs;reduce;simp) KO KP
def LY:az:=ao (a:=cc 241) (by conv=>lhs;reduce;simp)
end
end VE
end
section
set_option maxHeartbeats 4000000
namespace VE
open lY (cc)
noncomputable section
def LZ:az:=ao (a:=cc 262) (by conv=>lhs;reduce;simp)
def dB:az:=ao (a:=cc 263) (by conv=>lhs;reduce;simp)
def L2:az:=ao (a:=cc 264) (by conv=>lhs;reduce)
def QZ:az:=ao (a:=cc 265) (by conv=>lhs;reduce)
def Q0:az:=ao (a:=cc 266) (by conv=>lhs;reduce)
def L3:az:=ao (a:=cc 267) (by conv=>lhs;reduce)
def L4:az:=ao (a:=cc 268) (by conv=>lhs;reduce;simp)
def L5:az:=ao (a:=cc 269) (by conv=>lhs;reduce;simp)
def HC:az:=ao (a:=cc 271) (by conv=>lhs;reduce)
def afZ:az:=ao (a:=cc 272) (by conv=>lhs;reduce;simp)
def G3:VC:=ao (a:=bG afZ [0] []) (by conv=>lhs;reduce;simp)
def L6:az:=ao (a:=fun a=>cy afZ [a]) (by conv=>lhs;reduce;simp) G3
def Fj:az:=ao (a:=cc 273) (by conv=>lhs;reduce;simp)
def Q1:az:=ao (a:=cc 274) (by conv=>lhs;reduce;simp)
def af0:az:=ao (a:=cc 275) (by conv=>lhs;reduce;simp)
def KQ:VC:=ao (a:=bG af0 [0] []) (by conv=>lhs;reduce;simp)
def Q2:az:=ao (a:=fun a=>cy af0 [a]) (by conv=>lhs;reduce) KQ
def rF:az:=ao (a:=cc 276) (by conv=>lhs;reduce;simp)
def Fk:az:=ao (a:=cc 277) (by conv=>lhs;reduce;simp)
def Q3:az:=ao (a:=cc 278) (by conv=>lhs;reduce)
def HE:az:=ao (a:=cc 279) (by conv=>lhs;reduce;simp)
def pQ:az:=ao (a:=cc 280) (by conv=>lhs;reduce;simp)
def af1:az:=ao (a:=cc 281) (by conv=>lhs;reduce;simp)
def z8:VC:=ao (a:=bG af1 [0] []) (by conv=>lhs;reduce;simp)
def Q4:az:=ao (a:=fun a=>cy af1 [a]) (by conv=>lhs;reduce;simp) z8
def af2:az:=ao (a:=cc 282) (by conv=>lhs;reduce;simp)
def KR:VC:=ao (a:=bG af2 [0] []) (by conv=>lhs;reduce;simp)
def L7:az:=ao (a:=fun a=>cy af2 [a]) (by conv=>lhs;reduce;simp) KR
def Fm:az:=ao (a:=cc 283) (by conv=>lhs;reduce)
def Xj:az:=ao (a:=cc 284) (by conv=>lhs;reduce)
def Q5:az:=ao (a:=cc 285) (by conv=>lhs;reduce;simp)
def Q6:az:=ao (a:=cc 286) (by conv=>lhs;reduce;simp)
def af3:az:=ao (a:=cc 287) (by conv=>lhs;reduce;simp)
def EG:VC:=ao (a:=bG af3 [0] []) (by conv=>lhs;reduce;simp)
def L8:az:=ao (a:=fun a=>cy af3 [a]) (by conv=>lhs;reduce;simp) EG
def af4:az:=ao (a:=cc 288) (by conv=>lhs;reduce;simp)
def Bt:VC:=ao (a:=bG af4 [0] []) (by conv=>lhs;reduce;simp)
def Q7:az:=ao (a:=fun a=>cy af4 [a]) (by conv=>lhs;reduce;simp) Bt
def Ly:az:=ao (a:=cc 289) (by conv=>lhs;reduce;simp)
def KS:VC:=ao (a:=bG Ly [0] []) (by conv=>lhs;reduce;simp)
def G4:VC:=ao (a:=bG Ly [1,0] []) (by conv=>lhs;reduce;simp)
def KT:VC:=ao (a:=bG Ly [1,1] []) (by conv=>lhs;reduce;simp)
def KU:VC:=ao (a:=fun a b=>bG Ly [1] [a,b]) (by conv=>lhs;reduce;simp) G4 KT
def As:az:=ao (a:=fun a b=>cy Ly [a,b]) (by conv=>lhs;reduce;simp) KS KU
def af5:az:=ao (a:=cc 290) (by conv=>lhs;reduce;simp)
def KV:VC:=ao (a:=bG af5 [0] []) (by conv=>lhs;reduce;simp)
def HF:az:=ao (a:=fun a=>cy af5 [a]) (by conv=>lhs;reduce;simp) KV
def af6:az:=ao (a:=cc 291) (by conv=>lhs;reduce;simp)
def KW:VC:=ao (a:=bG af6 [0] []) (by conv=>lhs;reduce;simp)
def L9:az:=ao (a:=fun a=>cy af6 [a]) (by conv=>lhs;reduce;simp) KW
def af7:az:=ao (a:=cc 292) (by conv=>lhs;reduce;simp)
def pJ:VC:=ao (a:=bG af7 [0] []) (by conv=>lhs;reduce;simp)
def BL:az:=ao (a:=fun a=>cy af7 [a]) (by conv=>lhs;reduce) pJ
def Wj:az:=ao (a:=cc 293) (by conv=>lhs;reduce;simp)
def KX:VC:=ao (a:=bG Wj [0,0] []) (by conv=>lhs;reduce;simp)
def KY:VC:=ao (a:=fun a=>bG Wj [0] [a]) (by conv=>lhs;reduce;simp) KX
def Dd:az:=ao (a:=fun a=>cy Wj [a]) (by conv=>lhs;reduce;simp) KY
def De:az:=ao (a:=cc 294) (by conv=>lhs;reduce;simp)
def af8:az:=ao (a:=cc 295) (by conv=>lhs;reduce;simp)
def rk:VC:=ao (a:=bG af8 [0] []) (by conv=>lhs;reduce;simp)
def Ma:az:=ao (a:=fun a=>cy af8 [a]) (by conv=>lhs;reduce;simp) rk
def af9:az:=ao (a:=cc 296) (by conv=>lhs;reduce;simp)
def EH:VC:=ao (a:=bG af9 [0] []) (by conv=>lhs;reduce;simp)
def At:az:=ao (a:=fun a=>cy af9 [a]) (by conv=>lhs;reduce;simp) EH
def aga:az:=ao (a:=cc 297) (by conv=>lhs;reduce;simp)
def Aa:VC:=ao (a:=bG aga [0] []) (by conv=>lhs;reduce;simp)
def Mb:az:=ao (a:=fun a=>cy aga [a]) (by conv=>lhs;reduce;simp) Aa
def Q8:az:=ao (a:=cc 298) (by conv=>lhs;reduce)
def agb:az:=ao (a:=cc 299) (by conv=>lhs;reduce;simp)
def KZ:VC:=ao (a:=bG agb [0] []) (by conv=>lhs;reduce;simp)
def Df:az:=ao (a:=fun a=>cy agb [a]) (by conv=>lhs;reduce;simp) KZ
def agc:az:=ao (a:=cc 300) (by conv=>lhs;reduce;simp)
def EI:VC:=ao (a:=bG agc [0] []) (by conv=>lhs;reduce;simp)
def mV:az:=ao (a:=fun a=>cy agc [a]) (by conv=>lhs;reduce) EI
def agd:az:=ao (a:=cc 301) (by conv=>lhs;reduce;simp)
def CR:VC:=ao (a:=bG agd [0] []) (by conv=>lhs;reduce;simp)
def BM:az:=ao (a:=fun a=>cy agd [a]) (by conv=>lhs;reduce;simp) CR
def Au:az:=ao (a:=cc 302) (by conv=>lhs;reduce;simp)
end
end VE
end
section
set_option maxHeartbeats 4000000
namespace VE
open lY (cc)
noncomputable section
def Av:az:=ao (a:=cc 315) (by conv=>lhs;reduce;simp)
def age:az:=ao (a:=cc 389) (by conv=>lhs;reduce;simp)
def G5:VC:=ao (a:=bG age [0] []) (by conv=>lhs;reduce;simp)
def HG:az:=ao (a:=fun a=>cy age [a]) (by conv=>lhs;reduce;simp) G5
end
end VE
end
section
set_option maxHeartbeats 4000000
namespace VE
open lY (cc)
noncomputable section
def Q9:az:=ao (a:=cc 429) (by conv=>lhs;reduce)
def Wk:az:=ao (a:=cc 430) (by conv=>lhs;reduce;simp)
def K0:VC:=ao (a:=bG Wk [0] []) (by conv=>lhs;reduce;simp)
def K1:VC:=ao (a:=bG Wk [1] []) (by conv=>lhs;reduce;simp)
def Rc:az:=ao (a:=fun a b=>cy Wk [a,b]) (by conv=>lhs;reduce;simp) K0 K1
def BN:az:=ao (a:=cc 449) (by conv=>lhs;reduce;simp)
end
end VE
end
section
set_option maxHeartbeats 4000000
namespace VE
open lY (cc)
noncomputable section
def Re:az:=ao (a:=cc 634) (by conv=>lhs;reduce;simp)
def agf:az:=ao (a:=cc 636) (by conv=>lhs;reduce;simp)
def G6:VC:=ao (a:=bG agf [0] []) (by conv=>lhs;reduce;simp)
def Mc:az:=ao (a:=fun a=>cy agf [a]) (by conv=>lhs;reduce;simp) G6
def agh:az:=ao (a:=cc 639) (by conv=>lhs;reduce;simp)
def EJ:VC:=ao (a:=bG agh [0] []) (by conv=>lhs;reduce;simp)
def Rg:az:=ao (a:=fun a=>cy agh [a]) (by conv=>lhs;reduce;simp) EJ
def Xk:az:=ao (a:=cc 641) (by conv=>lhs;reduce;simp)
def Rh:az:=ao (a:=cc 642) (by conv=>lhs;reduce;simp)
def Ri:az:=ao (a:=cc 643) (by conv=>lhs;reduce;simp)
def Rj:az:=ao (a:=cc 644) (by conv=>lhs;reduce;simp)
def agi:az:=ao (a:=cc 647) (by conv=>lhs;reduce;simp)
def PI:VC:=ao (a:=bG agi [0] []) (by conv=>lhs;reduce;simp)
def Me:az:=ao (a:=fun a=>cy agi [a]) (by conv=>lhs;reduce;simp) PI
def Xl:az:=ao (a:=cc 648) (by conv=>lhs;reduce;simp)
def Lz:az:=ao (a:=cc 653) (by conv=>lhs;reduce;simp)
def fQ:VC:=ao (a:=bG Lz [1,0] []) (by conv=>lhs;reduce;simp)
def fR:VC:=ao (a:=bG Lz [1,1] []) (by conv=>lhs;reduce;simp)
def om:VC:=ao (a:=bG Lz [0] []) (by conv=>lhs;reduce;simp)
def ot:VC:=ao (a:=fun a b=>bG Lz [1] [a,b]) (by conv=>lhs;reduce;simp) fQ fR
def Mf:az:=ao (a:=fun a b=>cy Lz [a,b]) (by conv=>lhs;reduce;simp) om ot
def Rk:az:=ao (a:=cc 654) (by conv=>lhs;reduce;simp)
def Ro:az:=ao (a:=cc 655) (by conv=>lhs;reduce;simp)
def K2:VC:=.q (.g [qm 11 5,qm 12 0,qn 13 1 12,qT 14 11 13] (.cond (.t 14) .skip (.exit 0))) (.q (.eb 1 (.g [qm 17 0,qm 18 5,qi 19 2 17 18,qL 20 2 19,qm 21 1,qm 22 5,qi 23 2 21 22,qL 24 2 23,Rq 25 (.eq true (.ag [2,2]) (.t 20) (.t 24))] (.i 25 (.e [qf 4])))) (.oO [qm 15 5,qa 16 15 1,qm 5 16]))
def HH:az:=⟨[.t 4],.g [qf 4] (.h [qm 6 0,qn 7 1 6,qm 8 1,qn 9 1 8,Rq 10 (.z .neq 7 9)] 10 (.e [qf 4]) (.q (.g [qk 5 0] (.q (.eb 0 (.loop [0,1,5] K2)) (.kp []))) (.e [Rq 4 (.rR (.c (.bool true)))])))⟩
def Rr:az:=ao (a:=cc 670) (by conv=>lhs;reduce;simp)
def Ru:az:=ao (a:=cc 672) (by conv=>lhs;reduce)
def Rv:az:=ao (a:=cc 673) (by conv=>lhs;reduce)
def Mg:az:=ao (a:=cc 674) (by conv=>lhs;reduce;simp)
def HI:az:=ao (a:=cc 676) (by conv=>lhs;reduce;simp)
def agj:az:=ao (a:=cc 677) (by conv=>lhs;reduce;simp)
def PJ:VC:=ao (a:=bG agj [0] []) (by conv=>lhs;reduce;simp)
def Rw:az:=ao (a:=fun a=>cy agj [a]) (by conv=>lhs;reduce;simp) PJ
def Mh:az:=ao (a:=cc 678) (by conv=>lhs;reduce;simp)
def Wl:az:=ao (a:=cc 680) (by conv=>lhs;reduce;simp)
def G7:VC:=ao (a:=bG Wl [0,0] []) (by conv=>lhs;reduce;simp)
def G8:VC:=ao (a:=fun a=>bG Wl [0] [a]) (by conv=>lhs;reduce;simp) G7
def Ry:az:=ao (a:=fun a=>cy Wl [a]) (by conv=>lhs;reduce;simp) G8
def Rz:az:=ao (a:=cc 685) (by conv=>lhs;reduce;simp)
def Mi:az:=ao (a:=cc 686) (by conv=>lhs;reduce;simp)
def RA:az:=ao (a:=cc 687) (by conv=>lhs;reduce;simp)
def Qf:az:=ao (a:=cc 688) (by conv=>lhs;reduce;simp)
def jl:VC:=ao (a:=bG Qf [0] []) (by conv=>lhs;reduce;simp)
def jm:VC:=ao (a:=bG Qf [1] []) (by conv=>lhs;reduce;simp)
def Bu:VC:=ao (a:=bG Qf [2] []) (by conv=>lhs;reduce;simp)
def Xm:az:=ao (a:=fun a b c=>cy Qf [a,b,c]) (by conv=>lhs;reduce;simp) jl jm Bu
def Mj:az:=ao (a:=cc 689) (by conv=>lhs;reduce;simp)
def RB:az:=ao (a:=cc 690) (by conv=>lhs;reduce;simp)
def HJ:az:=ao (a:=cc 691) (by conv=>lhs;reduce;simp)
def Fo:az:=ao (a:=cc 692) (by conv=>lhs;reduce;simp)
def Xn:az:=ao (a:=cc 716) (by conv=>lhs;reduce;simp)
def agk:az:=ao (a:=cc 717) (by conv=>lhs;reduce;simp)
def PK:VC:=ao (a:=bG agk [0] []) (by conv=>lhs;reduce;simp)
def RC:az:=ao (a:=fun a=>cy agk [a]) (by conv=>lhs;reduce;simp) PK
def agl:az:=ao (a:=cc 718) (by conv=>lhs;reduce;simp)
def G9:VC:=ao (a:=bG agl [0] []) (by conv=>lhs;reduce;simp)
def HK:az:=ao (a:=fun a=>cy agl [a]) (by conv=>lhs;reduce;simp) G9
def Wm:az:=ao (a:=cc 719) (by conv=>lhs;reduce;simp)
def K3:VC:=ao (a:=bG Wm [0,0] []) (by conv=>lhs;reduce;simp)
def K4:VC:=ao (a:=fun a=>bG Wm [0] [a]) (by conv=>lhs;reduce;simp) K3
def Mk:az:=ao (a:=fun a=>cy Wm [a]) (by conv=>lhs;reduce;simp) K4
def agm:az:=ao (a:=cc 720) (by conv=>lhs;reduce;simp)
def K5:VC:=ao (a:=bG agm [0] []) (by conv=>lhs;reduce;simp)
def HL:az:=ao (a:=fun a=>cy agm [a]) (by conv=>lhs;reduce;simp) K5
def Wn:az:=ao (a:=cc 724) (by conv=>lhs;reduce;simp)
def ow:VC:=ao (a:=bG Wn [0] []) (by conv=>lhs;reduce;simp)
def oz:VC:=ao (a:=bG Wn [1] []) (by conv=>lhs;reduce;simp)
def Xo:az:=ao (a:=fun a b=>cy Wn [a,b]) (by conv=>lhs;reduce;simp) ow oz
def RD:az:=ao (a:=cc 725) (by conv=>lhs;reduce;simp)
def Xp:az:=ao (a:=cc 741) (by conv=>lhs;reduce;simp)
def Xq:az:=ao (a:=cc 742) (by conv=>lhs;reduce)
def agn:az:=ao (a:=cc 752) (by conv=>lhs;reduce;simp)
def Hb:VC:=ao (a:=bG agn [0] []) (by conv=>lhs;reduce;simp)
def RE:az:=ao (a:=fun a=>cy agn [a]) (by conv=>lhs;reduce;simp) Hb
end
end VE
end
section
set_option maxHeartbeats 4000000
namespace VE
open lY (cc)
noncomputable section
def Dg:az:=ao (a:=cc 755) (by conv=>lhs;reduce;simp)
def ago:az:=ao (a:=cc 768) (by conv=>lhs;reduce;simp)
def EK:VC:=ao (a:=bG ago [0] []) (by conv=>lhs;reduce;simp)
def Fp:az:=ao (a:=fun a=>cy ago [a]) (by conv=>lhs;reduce;simp) EK
def HM:az:=ao (a:=cc 769) (by conv=>lhs;reduce;simp)
def agp:az:=ao (a:=cc 770) (by conv=>lhs;reduce;simp)
def EL:VC:=ao (a:=bG agp [0] []) (by conv=>lhs;reduce;simp)
def RF:az:=ao (a:=fun a=>cy agp [a]) (by conv=>lhs;reduce;simp) EL
def agq:az:=ao (a:=cc 772) (by conv=>lhs;reduce;simp)
def K6:VC:=ao (a:=bG agq [0] []) (by conv=>lhs;reduce;simp)
def Ml:az:=ao (a:=fun a=>cy agq [a]) (by conv=>lhs;reduce;simp) K6
def agr:az:=ao (a:=cc 789) (by conv=>lhs;reduce;simp)
def K7:VC:=ao (a:=bG agr [0] []) (by conv=>lhs;reduce;simp)
def Fq:az:=ao (a:=fun a=>cy agr [a]) (by conv=>lhs;reduce;simp) K7
def Wo:az:=ao (a:=cc 790) (by conv=>lhs;reduce;simp)
def K8:VC:=ao (a:=bG Wo [0,0] []) (by conv=>lhs;reduce;simp)
def K9:VC:=ao (a:=fun a=>bG Wo [0] [a]) (by conv=>lhs;reduce;simp) K8
def RG:az:=ao (a:=fun a=>cy Wo [a]) (by conv=>lhs;reduce;simp) K9
def ags:az:=ao (a:=cc 800) (by conv=>lhs;reduce;simp)
def La:VC:=ao (a:=bG ags [0] []) (by conv=>lhs;reduce;simp)
def Dh:az:=ao (a:=fun a=>cy ags [a]) (by conv=>lhs;reduce;simp) La
def Fs:az:=ao (a:=cc 801) (by conv=>lhs;reduce;simp)
end
end VE
end
section
set_option maxHeartbeats 4000000
namespace VE
open lY (cc)
noncomputable section
def Qg:az:=ao (a:=cc 771) (by conv=>lhs;reduce;simp)
def Lb:VC:=ao (a:=bG Qg [0,0,0] []) (by conv=>lhs;reduce;simp)
def CS:VC:=ao (a:=fun a=>bG Qg [0,0] [a]) (by conv=>lhs;reduce;simp) Lb
def Hc:VC:=ao (a:=fun a=>bG Qg [0] [a]) (by conv=>lhs;reduce;simp) CS
def Mm:az:=ao (a:=fun a=>cy Qg [a]) (by conv=>lhs;reduce;simp) Hc
def Wp:az:=ao (a:=cc 788) (by conv=>lhs;reduce;simp)
def Hd:VC:=ao (a:=bG Wp [0,0] []) (by conv=>lhs;reduce;simp)
def Lc:VC:=ao (a:=fun a=>bG Wp [0] [a]) (by conv=>lhs;reduce;simp) Hd
def Ft:az:=ao (a:=fun a=>cy Wp [a]) (by conv=>lhs;reduce;simp) Lc
end
end VE
end
section
namespace VE
open lY (cc)
noncomputable def Wq:Tr az:=It 9 [(29,SC),(46,SD),(49,c49),(50,Y7),(62,SE),(69,Y8),(70,Y9),(71,c71),(73,Za),(74,Nf),(86,fE),(88,cc 88),(98,SF),(99,F1),(100,nK),(101,oI),(102,Xc),(107,QN),(108,Xd),(110,QO),(111,Xe),(117,QP),(118,Fh),(119,c119),(122,LO),(123,LP),(124,Hy),(125,QQ),(129,Hz),(130,Xf),(136,LQ),(137,LR),(142,QR),(144,QS),(145,BK),(146,Xg),(147,LS),(148,Xh),(149,ahx),(150,cc 150),(151,QT),(155,Fi),(156,Xi),(157,LU),(158,HA),(159,QU),(160,HB),(163,QV),(164,nL),(165,LV),(166,Dc),(168,QW),(169,Ar),(172,QX),(202,cc 202),(203,QY),(228,LW),(229,cc 229),(230,cc 230),(231,LX),(232,nM),(241,LY),(243,cc 243),(245,cc 245),(246,cc 246),(247,cc 247),(252,cc 252),(262,LZ),(263,dB),(264,L2),(265,QZ),(266,Q0),(267,L3),(268,L4),(269,L5),(271,HC),(272,L6),(273,Fj),(274,Q1),(275,Q2),(276,rF),(277,Fk),(278,Q3),(279,HE),(280,pQ),(281,Q4),(282,L7),(283,Fm),(284,Xj),(285,Q5),(286,Q6),(287,L8),(288,Q7),(289,As),(290,HF),(291,L9),(292,BL),(293,Dd),(294,De),(295,Ma),(296,At),(297,Mb),(298,Q8),(299,Df),(300,mV),(301,BM),(302,Au),(315,Av),(389,HG),(429,Q9),(430,Rc),(449,BN),(634,Re),(636,Mc),(637,cc 637),(639,Rg),(640,cc 640),(641,Xk),(642,Rh),(643,Ri),(644,Rj),(645,cc 645),(647,Me),(648,Xl),(650,cc 650),(652,cc 652),(653,Mf),(654,Rk),(655,Ro),(656,cc 656),(657,cc 657),(658,cc 658),(659,HH),(660,cc 660),(661,cc 661),(662,cc 662),(663,cc 663),(664,cc 664),(665,cc 665),(666,cc 666),(667,cc 667),(668,cc 668),(669,cc 669),(670,Rr),(671,cc 671),(672,Ru),(673,Rv),(674,Mg),(675,cc 675),(676,HI),(677,Rw),(678,Mh),(679,cc 679),(680,Ry),(685,Rz),(686,Mi),(687,RA),(688,Xm),(689,Mj),(690,RB),(691,HJ),(692,Fo),(693,cc 693),(694,cc 694),(695,cc 695),(696,cc 696),(697,cc 697),(698,cc 698),(699,cc 699),(700,cc 700),(701,cc 701),(702,cc 702),(703,cc 703),(704,cc 704),(705,cc 705),(709,cc 709),(710,cc 710),(711,cc 711),(712,cc 712),(713,cc 713),(715,cc 715),(716,Xn),(717,RC),(718,HK),(719,Mk),(720,HL),(721,cc 721),(722,cc 722),(723,cc 723),(724,Xo),(725,RD),(726,cc 726),(727,cc 727),(728,cc 728),(729,cc 729),(735,cc 735),(736,cc 736),(737,cc 737),(738,cc 738),(741,Xp),(742,Xq),(744,cc 744),(745,cc 745),(746,cc 746),(749,cc 749),(750,cc 750),(751,cc 751),(752,RE),(753,cc 753),(755,Dg),(768,Fp),(769,HM),(770,RF),(771,Mm),(772,Ml),(788,Ft),(789,Fq),(790,RG),(800,Dh),(801,Fs)]
def ahy:Tr (List AV->Option AV):=(.n 154 Lu (.n 139 CG (.n 135 Lt (.n 128 Of (.n 109 QK .l .l) .l) (.n 138 Co .l .l)) (.n 152 Og (.n 143 z7 .l .l) (.n 153 NY .l .l))) (.n 173 CO (.n 167 Hn (.n 162 trimS .l .l) (.n 171 pH .l .l)) (.n 248 UI (.n 175 KE .l .l) (.n 251 To .l .l))))
noncomputable def prog:aE:=Wq.find
def aJ:Lib:=⟨ahy.find,fun _=>none⟩
end VE
end
section
namespace VE
namespace lY
open Go
open Go.Proofs
def arO:Wq.mB (VI Tryz.prog ae bq hd):=by
 delta Wq
 repeat' first | exact Tr.kh | refine Tr.kU (anE (by kernel_rfl) (by kernel_rfl)) ?_ ?_
end lY
end VE
end
