import Derived.Test.YtabhmepaflffeaaGreatDoorXae
set_option linter.all false
set_option maxRecDepth 100000
section
set_option maxHeartbeats 4000000
namespace VE
open nT (cc)
noncomputable section
def ahk:aw:=ao (a:=cc 202) (by conv=>lhs;reduce;simp)
def Lc:VC:=ao (a:=bq ahk [0] []) (by conv=>lhs;reduce;simp)
def fR:aw:=ao (a:=fun a=>ck ahk [a]) (by conv=>lhs;reduce;simp) Lc
def RI:aw:=ao (a:=cc 203) (by conv=>lhs;reduce;simp)
def H9:aw:=ao (a:=cc 228) (by conv=>lhs;reduce;simp)
def Ia:aw:=ao (a:=cc 229) (by conv=>lhs;reduce;simp)
def RJ:aw:=ao (a:=cc 230) (by conv=>lhs;reduce)
def Ms:aw:=ao (a:=cc 231) (by conv=>lhs;reduce)
def Xw:aw:=ao (a:=cc 232) (by conv=>lhs;reduce;simp)
def Ld:VC:=ao (a:=bq Xw [0] []) (by conv=>lhs;reduce;simp)
def Lf:VC:=ao (a:=bq Xw [1] []) (by conv=>lhs;reduce;simp)
def oJ:aw:=ao (a:=fun a b=>ck Xw [a,b]) (by conv=>lhs;reduce;simp) Ld Lf
def Ib:aw:=ao (a:=cc 241) (by conv=>lhs;reduce;simp)
def RL:aw:=ao (a:=cc 243) (by conv=>lhs;reduce;simp)
def Yt:aw:=ao (a:=cc 245) (by conv=>lhs;reduce;simp)
def Yu:aw:=ao (a:=cc 246) (by conv=>lhs;reduce)
def Yv:aw:=ao (a:=cc 247) (by conv=>lhs;reduce;simp)
def Yw:aw:=ao (a:=cc 252) (by conv=>lhs;reduce;simp)
end
end VE
end
section
set_option maxHeartbeats 4000000
namespace VE
open nT (cc)
noncomputable section
def Mt:aw:=ao (a:=cc 262) (by conv=>lhs;reduce;simp)
def aiT:aw:=ao (a:=cc 263) (by conv=>lhs;reduce;simp)
def Mu:aw:=ao (a:=cc 264) (by conv=>lhs;reduce)
def RM:aw:=ao (a:=cc 265) (by conv=>lhs;reduce)
def RN:aw:=ao (a:=cc 266) (by conv=>lhs;reduce)
def Mv:aw:=ao (a:=cc 267) (by conv=>lhs;reduce)
def Mw:aw:=ao (a:=cc 268) (by conv=>lhs;reduce;simp)
def Yx:aw:=ao (a:=cc 271) (by conv=>lhs;reduce)
def ahl:aw:=ao (a:=cc 272) (by conv=>lhs;reduce;simp)
def Hr:VC:=ao (a:=bq ahl [0] []) (by conv=>lhs;reduce;simp)
def Mx:aw:=ao (a:=fun a=>ck ahl [a]) (by conv=>lhs;reduce;simp) Hr
def aiU:aw:=ao (a:=cc 273) (by conv=>lhs;reduce;simp)
def RO:aw:=ao (a:=cc 274) (by conv=>lhs;reduce;simp)
def ahm:aw:=ao (a:=cc 275) (by conv=>lhs;reduce;simp)
def Lg:VC:=ao (a:=bq ahm [0] []) (by conv=>lhs;reduce;simp)
def RP:aw:=ao (a:=fun a=>ck ahm [a]) (by conv=>lhs;reduce) Lg
def sQ:aw:=ao (a:=cc 276) (by conv=>lhs;reduce;simp)
def FU:aw:=ao (a:=cc 277) (by conv=>lhs;reduce;simp)
def RQ:aw:=ao (a:=cc 278) (by conv=>lhs;reduce)
def Ic:aw:=ao (a:=cc 279) (by conv=>lhs;reduce;simp)
def qY:aw:=ao (a:=cc 280) (by conv=>lhs;reduce;simp)
def ahn:aw:=ao (a:=cc 281) (by conv=>lhs;reduce;simp)
def AM:VC:=ao (a:=bq ahn [0] []) (by conv=>lhs;reduce;simp)
def RR:aw:=ao (a:=fun a=>ck ahn [a]) (by conv=>lhs;reduce;simp) AM
def aho:aw:=ao (a:=cc 282) (by conv=>lhs;reduce;simp)
def Lh:VC:=ao (a:=bq aho [0] []) (by conv=>lhs;reduce;simp)
def My:aw:=ao (a:=fun a=>ck aho [a]) (by conv=>lhs;reduce;simp) Lh
def FV:aw:=ao (a:=cc 283) (by conv=>lhs;reduce)
def aiV:aw:=ao (a:=cc 285) (by conv=>lhs;reduce;simp)
def ahp:aw:=ao (a:=cc 287) (by conv=>lhs;reduce;simp)
def av3:VC:=ao (a:=bq ahp [0] []) (by conv=>lhs;reduce;simp)
def aiW:aw:=ao (a:=fun a=>ck ahp [a]) (by conv=>lhs;reduce;simp) av3
def ahq:aw:=ao (a:=cc 288) (by conv=>lhs;reduce;simp)
def BY:VC:=ao (a:=bq ahq [0] []) (by conv=>lhs;reduce;simp)
def RS:aw:=ao (a:=fun a=>ck ahq [a]) (by conv=>lhs;reduce;simp) BY
def L6:aw:=ao (a:=cc 289) (by conv=>lhs;reduce;simp)
def Li:VC:=ao (a:=bq L6 [0] []) (by conv=>lhs;reduce;simp)
def Hs:VC:=ao (a:=bq L6 [1,0] []) (by conv=>lhs;reduce;simp)
def Lj:VC:=ao (a:=bq L6 [1,1] []) (by conv=>lhs;reduce;simp)
def Lk:VC:=ao (a:=fun a b=>bq L6 [1] [a,b]) (by conv=>lhs;reduce;simp) Hs Lj
def A3:aw:=ao (a:=fun a b=>ck L6 [a,b]) (by conv=>lhs;reduce;simp) Li Lk
def ahr:aw:=ao (a:=cc 290) (by conv=>lhs;reduce;simp)
def Ll:VC:=ao (a:=bq ahr [0] []) (by conv=>lhs;reduce;simp)
def Ie:aw:=ao (a:=fun a=>ck ahr [a]) (by conv=>lhs;reduce;simp) Ll
def ahs:aw:=ao (a:=cc 291) (by conv=>lhs;reduce;simp)
def Lm:VC:=ao (a:=bq ahs [0] []) (by conv=>lhs;reduce;simp)
def Mz:aw:=ao (a:=fun a=>ck ahs [a]) (by conv=>lhs;reduce;simp) Lm
def aht:aw:=ao (a:=cc 292) (by conv=>lhs;reduce;simp)
def qM:VC:=ao (a:=bq aht [0] []) (by conv=>lhs;reduce;simp)
def Cj:aw:=ao (a:=fun a=>ck aht [a]) (by conv=>lhs;reduce) qM
def Xx:aw:=ao (a:=cc 293) (by conv=>lhs;reduce;simp)
def Ln:VC:=ao (a:=bq Xx [0,0] []) (by conv=>lhs;reduce;simp)
def Lo:VC:=ao (a:=fun a=>bq Xx [0] [a]) (by conv=>lhs;reduce;simp) Ln
def DK:aw:=ao (a:=fun a=>ck Xx [a]) (by conv=>lhs;reduce;simp) Lo
def DL:aw:=ao (a:=cc 294) (by conv=>lhs;reduce;simp)
def ahu:aw:=ao (a:=cc 295) (by conv=>lhs;reduce;simp)
def su:VC:=ao (a:=bq ahu [0] []) (by conv=>lhs;reduce;simp)
def MA:aw:=ao (a:=fun a=>ck ahu [a]) (by conv=>lhs;reduce;simp) su
def ahv:aw:=ao (a:=cc 296) (by conv=>lhs;reduce;simp)
def Ff:VC:=ao (a:=bq ahv [0] []) (by conv=>lhs;reduce;simp)
def A4:aw:=ao (a:=fun a=>ck ahv [a]) (by conv=>lhs;reduce;simp) Ff
def ahw:aw:=ao (a:=cc 297) (by conv=>lhs;reduce;simp)
def AN:VC:=ao (a:=bq ahw [0] []) (by conv=>lhs;reduce;simp)
def MB:aw:=ao (a:=fun a=>ck ahw [a]) (by conv=>lhs;reduce;simp) AN
def RU:aw:=ao (a:=cc 298) (by conv=>lhs;reduce)
def ahx:aw:=ao (a:=cc 299) (by conv=>lhs;reduce;simp)
def Lp:VC:=ao (a:=bq ahx [0] []) (by conv=>lhs;reduce;simp)
def DM:aw:=ao (a:=fun a=>ck ahx [a]) (by conv=>lhs;reduce;simp) Lp
def ahy:aw:=ao (a:=cc 300) (by conv=>lhs;reduce;simp)
def Fg:VC:=ao (a:=bq ahy [0] []) (by conv=>lhs;reduce;simp)
def nL:aw:=ao (a:=fun a=>ck ahy [a]) (by conv=>lhs;reduce) Fg
def ahz:aw:=ao (a:=cc 301) (by conv=>lhs;reduce;simp)
def Dt:VC:=ao (a:=bq ahz [0] []) (by conv=>lhs;reduce;simp)
def Cl:aw:=ao (a:=fun a=>ck ahz [a]) (by conv=>lhs;reduce;simp) Dt
def A5:aw:=ao (a:=cc 302) (by conv=>lhs;reduce;simp)
end
end VE
end
section
set_option maxHeartbeats 4000000
namespace VE
open nT (cc)
noncomputable section
def RW:aw:=ao (a:=cc 315) (by conv=>lhs;reduce;simp)
def RX:aw:=ao (a:=cc 319) (by conv=>lhs;reduce)
def MC:aw:=ao (a:=cc 336) (by conv=>lhs;reduce)
def FW:aw:=ao (a:=cc 338) (by conv=>lhs;reduce)
def FX:aw:=ao (a:=cc 339) (by conv=>lhs;reduce;simp)
def ahA:aw:=ao (a:=cc 340) (by conv=>lhs;reduce;simp)
def WT:VC:=ao (a:=bq ahA [0] []) (by conv=>lhs;reduce;simp)
def MD:aw:=ao (a:=fun a=>ck ahA [a]) (by conv=>lhs;reduce;simp) WT
def Xy:aw:=ao (a:=cc 388) (by conv=>lhs;reduce;simp)
def Lq:VC:=ao (a:=bq Xy [0] []) (by conv=>lhs;reduce;simp)
def Ht:VC:=ao (a:=bq Xy [1] []) (by conv=>lhs;reduce;simp)
def dG:aw:=ao (a:=fun a b=>ck Xy [a,b]) (by conv=>lhs;reduce;simp) Lq Ht
def ahB:aw:=ao (a:=cc 389) (by conv=>lhs;reduce;simp)
def Hu:VC:=ao (a:=bq ahB [0] []) (by conv=>lhs;reduce;simp)
def Ig:aw:=ao (a:=fun a=>ck ahB [a]) (by conv=>lhs;reduce;simp) Hu
def Xz:aw:=ao (a:=cc 390) (by conv=>lhs;reduce;simp)
def Lr:VC:=ao (a:=bq Xz [0] []) (by conv=>lhs;reduce;simp)
def Ls:VC:=ao (a:=bq Xz [1] []) (by conv=>lhs;reduce;simp)
def RY:aw:=ao (a:=fun a b=>ck Xz [a,b]) (by conv=>lhs;reduce;simp) Lr Ls
end
end VE
end
section
set_option maxHeartbeats 4000000
namespace VE
open nT (cc)
noncomputable section
def RZ:aw:=ao (a:=cc 429) (by conv=>lhs;reduce)
def XA:aw:=ao (a:=cc 430) (by conv=>lhs;reduce;simp)
def Lt:VC:=ao (a:=bq XA [0] []) (by conv=>lhs;reduce;simp)
def Lu:VC:=ao (a:=bq XA [1] []) (by conv=>lhs;reduce;simp)
def R0:aw:=ao (a:=fun a b=>ck XA [a,b]) (by conv=>lhs;reduce;simp) Lt Lu
end
end VE
end
section
set_option maxHeartbeats 4000000
namespace VE
open nT (cc)
noncomputable section
def Cm:aw:=ao (a:=cc 633) (by conv=>lhs;reduce;simp)
def R1:aw:=ao (a:=cc 634) (by conv=>lhs;reduce;simp)
def Ih:aw:=ao (a:=cc 635) (by conv=>lhs;reduce;simp)
def ahC:aw:=ao (a:=cc 636) (by conv=>lhs;reduce;simp)
def Hv:VC:=ao (a:=bq ahC [0] []) (by conv=>lhs;reduce;simp)
def ME:aw:=ao (a:=fun a=>ck ahC [a]) (by conv=>lhs;reduce;simp) Hv
def MF:aw:=ao (a:=cc 638) (by conv=>lhs;reduce)
def ahD:aw:=ao (a:=cc 639) (by conv=>lhs;reduce;simp)
def Fh:VC:=ao (a:=bq ahD [0] []) (by conv=>lhs;reduce;simp)
def MG:aw:=ao (a:=fun a=>ck ahD [a]) (by conv=>lhs;reduce;simp) Fh
def Lv:VC:=.g [qT 43 42 41] (.q (.cond (.t 43) .skip (.exit 0)) (.q (.eS 1 (.g [qi 44 2 40 42,qL 45 2 44,Rq 12 (.box 2 (.c (.agg [.i 0,.i 0]))),qs 2 12 45] (.jA [ql 46 1 10,Rq 47 (.D1 2 1 (.t 12) (.k 0)),ql 48 1 47,Rq 49 (.D1 2 1 (.t 12) (.k 1)),ql 50 1 49,Rq 51 (.pM [.i 0,.i 0] [(0,1,.t 48),(1,1,.t 50)]),⟨none,none,.pZ 5 (.t 46) (.t 51) (.c (.bool true))⟩]))) (.jA [qa 52 42 1,qm 42 52])))
def Lw:VC:=.g [qT 60 59 58] (.q (.cond (.t 60) .skip (.exit 2)) (.q (.eS 3 (.g [qm 61 59,qm 15 61] (.jA [ql 62 1 14,qm 63 15,ql 64 1 5,qm 65 15,qi 66 1 64 65,ql 67 1 66,qn 68 1 67,Rq 69 (.oP 4 64 [.i 0,.aj,.i 0,.aj] (.t 68) (.t 68)),qi 70 1 62 63,qs 1 70 69]))) (.jA [qa 71 59 1,qm 59 71])))
def BZ:VC:=.g [qT 103 102 101] (.q (.cond (.t 103) .skip (.exit 8)) (.q (.eS 9 (.g [qi 104 2 100 102,qL 105 2 104,Rq 22 (.box 2 (.c (.agg [.i 0,.i 0]))),qs 2 22 105] (.g [qo 106 0 18,ql 107 1 106,qo 108 0 22,ql 109 1 108,qA 110 107 109,qo 111 1 18,ql 112 1 111,qo 113 1 22,ql 114 1 113,qA 115 112 114,Rq 116 (.mn [.t 110,.t 115]),Rq 117 (.y .geq 116 0),qm 118 117,Rt 119 118 (.off 0 (.t 18)),Rt 120 118 (.ld 1 false (.t 119)),Rt 121 118 (.off 0 (.t 22)),Rt 122 118 (.ld 1 false (.t 121)),Rt 123 118 (.z .add 120 122),Rt 124 118 (.off 1 (.t 18)),Rt 125 118 (.ld 1 false (.t 124)),Rt 126 118 (.off 1 (.t 22)),Rt 127 118 (.ld 1 false (.t 126)),Rt 128 118 (.z .add 125 127),Rt 129 118 (.mx [.t 123,.t 128]),Rt 130 118 (.off 2 (.t 3)),Rt 131 118 (.ld 1 false (.t 130)),Rt 132 118 (.z .lss 129 131),qq 133 118 132,qm 23 133] (.g [qo 134 0 19,ql 135 1 134,qo 136 0 22,ql 137 1 136,qA 138 135 137,qo 139 1 19,ql 140 1 139,qo
 141 1 22,ql 142 1 141,qA 143 140 142,Rq 144 (.pM [.i 0,.i 0] [(0,1,.t 138),(1,1,.t 143)]),Rq 24 (.box 2 (.c (.agg [.i 0,.i 0]))),qs 2 24 144] (.g [qm 145 23,qm 146 145,Rt 147 146 (.ld 1 false (.t 10)),Rt 148 146 (.ld 2 true (.t 24)),Rt 149 146 (.Gc 5 (.bool false) false (.t 147) (.t 148)),Rt 150 146 (.un .not (.t 149)),qq 151 146 150] (.i 151 (.jA [qm 152 20,ql 153 1 13,qL 154 2 24,Rq 155 (.call .pure (.t 153) [.t 154]),Rq 156 (.km 1 4 [.i 0,.aj,.i 0,.aj] [(0,4,.t 155)]),Rq 157 (.eE 4 64 (.t 152) (.t 156)),qm 20 157]))))))) (.jA [qa 158 102 1,qm 102 158])))
def ie:VC:=.g [Rq 18 (.box 2 (.c (.agg [.i 0,.i 0]))),qs 2 18 79] (.jA [Rq 19 (.box 2 (.c (.agg [.i 0,.i 0]))),qs 2 19 80])
def fX:VC:=.eS 7 (.h [ql 81 1 10,qL 82 2 19,Rq 83 (.Gc 5 (.bool false) false (.t 81) (.t 82)),Rq 84 (.un .not (.t 83))] 84 (.g [ql 85 1 14,qo 86 1 19,ql 87 1 86,qi 88 1 85 87,ql 89 1 88,qo 90 0 19,ql 91 1 90,ql 92 1 13,qL 93 2 19,Rq 94 (.call .pure (.t 92) [.t 93]),qi 95 4 89 91,qs 4 95 94] (.exit 7)) (.g [qz 20] (.q (.g [Rq 96 (.pM [.i 0,.i 0] [(0,1,.k (-1)),(1,1,.k 0)]),Rq 97 (.pM [.i 0,.i 0] [(0,1,.k 1),(1,1,.k 0)]),Rq 98 (.pM [.i 0,.i 0] [(0,1,.k 0),(1,1,.k (-1))]),Rq 99 (.pM [.i 0,.i 0] [(0,1,.k 0),(1,1,.k 1)]),Rq 100 (.km 4 2 [.i 0,.i 0,.i 0,.i 0,.i 0,.i 0,.i 0,.i 0] [(0,2,.t 96),(2,2,.t 97),(4,2,.t 98),(6,2,.t 99)]),qn 101 1 100,qk 102 0] (.q (.eS 8 (.loop [3,10,13,14,18,19,20,100,101,102] BZ)) (.kp [14,19,20]))) (.g [Rq 159 (.q 69 [.k 0]),Rq 25 (.box 4 (.c (.agg [.i 0,.aj,.i 0,.aj]))),qs 4 25 159] (.h [qm 160 20,qn 161 1 160,Rq 162 (.y .gtr 161 0)] 162 (.jA [qm 163 20,Tw
 164 674 163,qm 165 20,qn 166 1 165,Tw 167 69 166,Tz 168 70 164 167,qs 4 25 168]) (.jA [ql 169 1 14,qo 170 1 19,ql 171 1 170,qi 172 1 169 171,ql 173 1 172,qo 174 0 19,ql 175 1 174,qL 176 4 25,qi 177 4 173 175,qs 4 177 176]))))))
def oh:VC:=.jA [Rq 17 (.box 2 (.c (.agg [.i 0,.i 0]))),qs 2 17 75]
def ol:VC:=.eS 5 (.g [qL 76 3 3,qL 77 2 17,Tz 78 673 76 77] (.eS 6 (.rf (.t 78) [79,80] ie fX)))
def MH:aw:=⟨[.t 6,.t 7],.g [qb 3 3 0,qb 4 3 1,qb 5 1 2,qz 6,qk 7 0] (.q (.g [qL 26 3 3,qL 27 3 4,Tz 28 645 26 27,qm 8 28] (.g [qm 29 8,qN 30 29 0] (.i 30 (.e [qm 31 8,qz 6,qm 7 31])))) (.q (.g [qL 32 3 3,ql 33 1 5,Tz 34 670 32 33,qm 9 34] (.g [qm 35 9,qN 36 35 0] (.i 36 (.e [qm 37 9,qz 6,qm 7 37])))) (.g [Rq 38 .Bi,Rq 10 (.box 1 (.c .gU)),qs 1 10 38] (.q (.g [qo 39 2 4,ql 40 1 39,qn 41 1 40,qk 42 0] (.q (.eS 0 (.loop [3,4,5,10,40,41,42] Lv)) (.kp [3,4,5,10]))) (.g [Rq 53 (.Gb (.f 671) [] [.t 5,.t 4]),Rq 13 (.box 1 (.c .fQ)),qs 1 13 53] (.g [ql 54 1 5,qn 55 1 54,Rq 56 (.oP 1 24 [.aj] (.t 55) (.t 55)),Rq 14 (.box 1 (.c .aj)),qs 1 14 56] (.q (.g [ql 57 1 14,qn 58 1 57,qk 59 0] (.q (.eS 2 (.loop [3,5,10,13,14,58,59] Lw)) (.kp [3,10,13,14]))) (.q (.g [qL 72 3 3,Tw 73 672 72] (.eS 4 (.rf (.t 73) [74,75] oh ol))) (.e [ql 178 1 14,Tw 179 675 178,qe 180 0 179,qe 181 1 179,qm
 6 180,qm 7 181])))))))))⟩
def Yy:aw:=ao (a:=cc 641) (by conv=>lhs;reduce;simp)
def R2:aw:=ao (a:=cc 642) (by conv=>lhs;reduce;simp)
def R3:aw:=ao (a:=cc 643) (by conv=>lhs;reduce;simp)
def MI:aw:=ao (a:=cc 644) (by conv=>lhs;reduce;simp)
def R4:aw:=ao (a:=cc 645) (by conv=>lhs;reduce;simp)
def QR:aw:=ao (a:=cc 646) (by conv=>lhs;reduce;simp)
def Hw:VC:=ao (a:=bq QR [0,0] []) (by conv=>lhs;reduce;simp)
def Lx:VC:=ao (a:=fun a=>bq QR [0] [a]) (by conv=>lhs;reduce;simp) Hw
def AO:VC:=ao (a:=bq QR [1] []) (by conv=>lhs;reduce;simp)
def MJ:aw:=ao (a:=fun a b=>ck QR [a,b]) (by conv=>lhs;reduce;simp) Lx AO
def ahE:aw:=ao (a:=cc 647) (by conv=>lhs;reduce;simp)
def Qn:VC:=ao (a:=bq ahE [0] []) (by conv=>lhs;reduce;simp)
def MK:aw:=ao (a:=fun a=>ck ahE [a]) (by conv=>lhs;reduce;simp) Qn
def Yz:aw:=ao (a:=cc 648) (by conv=>lhs;reduce;simp)
def XB:aw:=ao (a:=cc 649) (by conv=>lhs;reduce;simp)
def B0:VC:=ao (a:=bq XB [0,0] []) (by conv=>lhs;reduce;simp)
def Hx:VC:=ao (a:=fun a=>bq XB [0] [a]) (by conv=>lhs;reduce;simp) B0
def YA:aw:=ao (a:=fun a=>ck XB [a]) (by conv=>lhs;reduce;simp) Hx
def XC:aw:=ao (a:=cc 650) (by conv=>lhs;reduce;simp)
def Ly:VC:=ao (a:=bq XC [0,0] []) (by conv=>lhs;reduce;simp)
def Lz:VC:=ao (a:=fun a=>bq XC [0] [a]) (by conv=>lhs;reduce;simp) Ly
def R5:aw:=ao (a:=fun a=>ck XC [a]) (by conv=>lhs;reduce;simp) Lz
def XD:aw:=ao (a:=cc 651) (by conv=>lhs;reduce;simp)
def Hy:VC:=ao (a:=bq XD [0,0] []) (by conv=>lhs;reduce;simp)
def LA:VC:=ao (a:=fun a=>bq XD [0] [a]) (by conv=>lhs;reduce;simp) Hy
def R6:aw:=ao (a:=fun a=>ck XD [a]) (by conv=>lhs;reduce;simp) LA
def aiX:aw:=ao (a:=cc 654) (by conv=>lhs;reduce;simp)
def aiY:aw:=ao (a:=cc 655) (by conv=>lhs;reduce;simp)
def QS:aw:=ao (a:=cc 668) (by conv=>lhs;reduce;simp)
def av4:VC:=ao (a:=bq QS [0,0,0] []) (by conv=>lhs;reduce;simp)
def av5:VC:=ao (a:=fun a=>bq QS [0,0] [a]) (by conv=>lhs;reduce;simp) av4
def av6:VC:=ao (a:=fun a=>bq QS [0] [a]) (by conv=>lhs;reduce;simp) av5
def aiZ:aw:=ao (a:=fun a=>ck QS [a]) (by conv=>lhs;reduce;simp) av6
def R7:aw:=ao (a:=cc 670) (by conv=>lhs;reduce;simp)
def R8:aw:=ao (a:=cc 671) (by conv=>lhs;reduce;simp)
def R9:aw:=ao (a:=cc 672) (by conv=>lhs;reduce)
def YB:aw:=ao (a:=cc 673) (by conv=>lhs;reduce)
def Sa:aw:=ao (a:=cc 674) (by conv=>lhs;reduce;simp)
def XE:aw:=ao (a:=cc 675) (by conv=>lhs;reduce;simp)
def B1:VC:=ao (a:=bq XE [0,0] []) (by conv=>lhs;reduce;simp)
def Fi:VC:=ao (a:=fun a=>bq XE [0] [a]) (by conv=>lhs;reduce;simp) B1
def YC:aw:=ao (a:=fun a=>ck XE [a]) (by conv=>lhs;reduce;simp) Fi
def Ii:aw:=ao (a:=cc 676) (by conv=>lhs;reduce;simp)
def ahF:aw:=ao (a:=cc 677) (by conv=>lhs;reduce;simp)
def Qo:VC:=ao (a:=bq ahF [0] []) (by conv=>lhs;reduce;simp)
def Sb:aw:=ao (a:=fun a=>ck ahF [a]) (by conv=>lhs;reduce;simp) Qo
def ML:aw:=ao (a:=cc 678) (by conv=>lhs;reduce;simp)
def ahG:aw:=ao (a:=cc 679) (by conv=>lhs;reduce;simp)
def kZ:VC:=ao (a:=bq ahG [0] []) (by conv=>lhs;reduce;simp)
def MM:aw:=ao (a:=fun a=>ck ahG [a]) (by conv=>lhs;reduce;simp) kZ
def XF:aw:=ao (a:=cc 680) (by conv=>lhs;reduce;simp)
def Hz:VC:=ao (a:=bq XF [0,0] []) (by conv=>lhs;reduce;simp)
def HA:VC:=ao (a:=fun a=>bq XF [0] [a]) (by conv=>lhs;reduce;simp) Hz
def Sc:aw:=ao (a:=fun a=>ck XF [a]) (by conv=>lhs;reduce;simp) HA
def HB:VC:=.q (.g [qm 8 7,qo 9 2 3,ql 10 1 9,qn 11 1 10,qT 12 8 11] (.cond (.t 12) .skip (.exit 0))) (.q (.eS 1 (.g [qo 15 2 3,ql 16 1 15,qm 17 7,qi 18 2 16 17,qL 19 2 18,qm 20 1,qm 21 2,Rq 22 (.pM [.i 0,.i 0] [(0,1,.t 20),(1,1,.t 21)]),Rq 23 (.eq false (.ag [1,1]) (.t 19) (.t 22))] (.i 23 (.e [Rq 6 (.za (.c (.bool true)))])))) (.jA [qm 13 7,qa 14 13 1,qm 7 14]))
def Sd:aw:=⟨[.t 6],.g [qb 3 3 0,qf 6] (.q (.g [qk 7 0] (.q (.eS 0 (.loop [1,2,3,7] HB)) (.kp []))) (.e [qf 6]))⟩
def ahH:aw:=ao (a:=cc 682) (by conv=>lhs;reduce;simp)
def sA:VC:=ao (a:=bq ahH [0] []) (by conv=>lhs;reduce;simp)
def YD:aw:=ao (a:=fun a=>ck ahH [a]) (by conv=>lhs;reduce;simp) sA
def YE:aw:=ao (a:=cc 683) (by conv=>lhs;reduce)
def XG:aw:=ao (a:=cc 684) (by conv=>lhs;reduce;simp)
def B2:VC:=ao (a:=bq XG [0,0] []) (by conv=>lhs;reduce;simp)
def Fj:VC:=ao (a:=fun a=>bq XG [0] [a]) (by conv=>lhs;reduce;simp) B2
def Sf:aw:=ao (a:=fun a=>ck XG [a]) (by conv=>lhs;reduce;simp) Fj
def Sg:aw:=ao (a:=cc 685) (by conv=>lhs;reduce;simp)
def ai0:aw:=ao (a:=cc 686) (by conv=>lhs;reduce;simp)
def ai1:aw:=ao (a:=cc 687) (by conv=>lhs;reduce;simp)
def QT:aw:=ao (a:=cc 688) (by conv=>lhs;reduce;simp)
def av7:VC:=ao (a:=bq QT [0] []) (by conv=>lhs;reduce;simp)
def av8:VC:=ao (a:=bq QT [1] []) (by conv=>lhs;reduce;simp)
def av9:VC:=ao (a:=bq QT [2] []) (by conv=>lhs;reduce;simp)
def ai2:aw:=ao (a:=fun a b c=>ck QT [a,b,c]) (by conv=>lhs;reduce;simp) av7 av8 av9
def ai3:aw:=ao (a:=cc 689) (by conv=>lhs;reduce;simp)
def ai4:aw:=ao (a:=cc 690) (by conv=>lhs;reduce;simp)
def ai5:aw:=ao (a:=cc 691) (by conv=>lhs;reduce;simp)
def Ij:aw:=ao (a:=cc 692) (by conv=>lhs;reduce;simp)
def ahI:aw:=ao (a:=cc 715) (by conv=>lhs;reduce;simp)
def awa:VC:=ao (a:=bq ahI [0] []) (by conv=>lhs;reduce;simp)
def ai6:aw:=ao (a:=fun a=>ck ahI [a]) (by conv=>lhs;reduce;simp) awa
def YF:aw:=ao (a:=cc 716) (by conv=>lhs;reduce;simp)
def ahJ:aw:=ao (a:=cc 717) (by conv=>lhs;reduce;simp)
def Qp:VC:=ao (a:=bq ahJ [0] []) (by conv=>lhs;reduce;simp)
def Sh:aw:=ao (a:=fun a=>ck ahJ [a]) (by conv=>lhs;reduce;simp) Qp
def ahK:aw:=ao (a:=cc 718) (by conv=>lhs;reduce;simp)
def HC:VC:=ao (a:=bq ahK [0] []) (by conv=>lhs;reduce;simp)
def Ik:aw:=ao (a:=fun a=>ck ahK [a]) (by conv=>lhs;reduce;simp) HC
def XH:aw:=ao (a:=cc 719) (by conv=>lhs;reduce;simp)
def LB:VC:=ao (a:=bq XH [0,0] []) (by conv=>lhs;reduce;simp)
def LC:VC:=ao (a:=fun a=>bq XH [0] [a]) (by conv=>lhs;reduce;simp) LB
def MN:aw:=ao (a:=fun a=>ck XH [a]) (by conv=>lhs;reduce;simp) LC
def ahL:aw:=ao (a:=cc 720) (by conv=>lhs;reduce;simp)
def LD:VC:=ao (a:=bq ahL [0] []) (by conv=>lhs;reduce;simp)
def MO:aw:=ao (a:=fun a=>ck ahL [a]) (by conv=>lhs;reduce;simp) LD
def ahM:aw:=ao (a:=cc 721) (by conv=>lhs;reduce;simp)
def awb:VC:=ao (a:=bq ahM [0] []) (by conv=>lhs;reduce;simp)
def Si:aw:=ao (a:=fun a=>ck ahM [a]) (by conv=>lhs;reduce;simp) awb
def YG:aw:=ao (a:=cc 722) (by conv=>lhs;reduce)
def YH:aw:=ao (a:=cc 723) (by conv=>lhs;reduce;simp)
def XI:aw:=ao (a:=cc 724) (by conv=>lhs;reduce;simp)
def awc:VC:=ao (a:=bq XI [0] []) (by conv=>lhs;reduce;simp)
def awd:VC:=ao (a:=bq XI [1] []) (by conv=>lhs;reduce;simp)
def ai7:aw:=ao (a:=fun a b=>ck XI [a,b]) (by conv=>lhs;reduce;simp) awc awd
def ai8:aw:=ao (a:=cc 725) (by conv=>lhs;reduce;simp)
def MP:aw:=ao (a:=cc 741) (by conv=>lhs;reduce;simp)
def YI:aw:=ao (a:=cc 742) (by conv=>lhs;reduce)
def Sj:aw:=ao (a:=cc 744) (by conv=>lhs;reduce)
def ahN:aw:=ao (a:=cc 745) (by conv=>lhs;reduce;simp)
def HE:VC:=ao (a:=bq ahN [0] []) (by conv=>lhs;reduce;simp)
def Sk:aw:=ao (a:=fun a=>ck ahN [a]) (by conv=>lhs;reduce;simp) HE
def ahO:aw:=ao (a:=cc 752) (by conv=>lhs;reduce;simp)
def HF:VC:=ao (a:=bq ahO [0] []) (by conv=>lhs;reduce;simp)
def MQ:aw:=ao (a:=fun a=>ck ahO [a]) (by conv=>lhs;reduce;simp) HF
end
end VE
end
section
namespace VE
open nT (cc)
noncomputable def XJ:Tr aw:=IT 9 [(29,cc 29),(46,TE),(49,c49),(50,c50),(62,TF),(69,c69),(70,c70),(71,c71),(73,c73),(74,NK),(86,fV),(88,cc 88),(98,TG),(99,Gs),(100,oG),(101,pT),(102,Yl),(107,Ry),(108,Ym),(110,Rz),(111,Yn),(117,RA),(118,FR),(119,c119),(122,aiQ),(123,aiR),(124,H6),(125,RB),(129,H7),(130,Yo),(136,Mk),(137,Ml),(142,RC),(144,RD),(145,Ci),(146,Yp),(147,Mm),(148,Yq),(149,Yr),(150,Mn),(151,RE),(155,FT),(156,Ys),(157,Mo),(158,H8),(159,RF),(160,aiS),(163,RG),(164,oI),(165,Mq),(166,DJ),(168,RH),(169,A2),(172,Mr),(202,fR),(203,RI),(228,H9),(229,Ia),(230,RJ),(231,Ms),(232,oJ),(241,Ib),(243,RL),(245,Yt),(246,Yu),(247,Yv),(252,Yw),(262,Mt),(263,aiT),(264,Mu),(265,RM),(266,RN),(267,Mv),(268,Mw),(271,Yx),(272,Mx),(273,aiU),(274,RO),(275,RP),(276,sQ),(277,FU),(278,RQ),(279,Ic),(280,qY),(281,RR),(282,My),(283,FV),(285,aiV),(287,aiW),(288,RS),(289,A3),(290,Ie),(291,Mz),(292,Cj),(293,DK),(294,DL),(295,MA),(296,A4),(297,MB),(298,RU),(299,DM),(300,nL),(301,Cl),(302,A5),(315,RW),(319,RX),(336,MC),(338,FW),(339,FX),(340,MD),(388,dG),(389,Ig),(390,RY),(429,RZ),(430,R0),(633,Cm),(634,R1),(635,Ih),(636,ME),(637,cc 637),(638,MF),(639,MG),(640,MH),(641,Yy),(642,R2),(643,R3),(644,MI),(645,R4),(646,MJ),(647,MK),(648,Yz),(649,YA),(650,R5),(651,R6),(652,cc 652),(653,cc 653),(654,aiX),(655,aiY),(656,cc 656),(657,cc 657),(658,cc 658),(659,cc 659),(660,cc 660),(661,cc 661),(662,cc 662),(663,cc 663),(664,cc 664),(665,cc 665),(666,cc 666),(667,cc 667),(668,aiZ),(669,cc 669),(670,R7),(671,R8),(672,R9),(673,YB),(674,Sa),(675,YC),(676,Ii),(677,Sb),(678,ML),(679,MM),(680,Sc),(681,Sd),(682,YD),(683,YE),(684,Sf),(685,Sg),(686,ai0),(687,ai1),(688,ai2),(689,ai3),(690,ai4),(691,ai5),(692,Ij),(693,cc 693),(694,cc 694),(695,cc 695),(696,cc 696),(697,cc 697),(698,cc 698),(699,cc 699),(700,cc 700),(701,cc 701),(702,cc 702),(703,cc 703),(704,cc 704),(705,cc 705),(709,cc 709),(710,cc 710),(711,cc 711),(712,cc 712),(713,cc 713),(715,ai6),(716,YF),(717,Sh),(718,Ik),(719,MN),(720,MO),(721,Si),(722,YG),(723,YH),(724,ai7),(725,ai8),(726,cc 726),(727,cc 727),(728,cc 728),(729,cc 729),(735,cc 735),(736,cc 736),(737,cc 737),(738,cc 738),(741,MP),(742,YI),(744,Sj),(745,Sk),(746,cc 746),(749,cc 749),(750,cc 750),(751,cc 751),(752,MQ),(753,cc 753)]
def ai9:Tr (List AV->Option AV):=(.n 154 L3 (.n 139 Di (.n 135 L2 (.n 128 O3 (.n 109 Rw .l .l) .l) (.n 138 CY .l .l)) (.n 152 O4 (.n 143 AL .l .l) (.n 153 OP .l .l))) (.n 173 Dq (.n 167 HP (.n 162 trimS .l .l) (.n 171 qK .l .l)) (.n 248 PC (.n 175 K0 .l .l) (.n 251 OM .l .l))))
noncomputable def prog:aE:=XJ.find
def aK:Lib:=⟨ai9.find,fun _=>none⟩
end VE
end
section
namespace VE
namespace nT
open Go
open Go.Proofs
def atA:XJ.nl (WS Tryz.prog ae bn hd):=by
 delta XJ
 repeat' first | exact Tr.kL | refine Tr.lI (apo (by kernel_rfl) (by kernel_rfl)) ?_ ?_
end nT
end VE
end
