import Derived.Test.YtnilidoboioodaaGreatDoorTai
import Derived.Test.YtnilidoboioodaaGreatDoorTah
import Derived.Test.YtnilidoboioodaaGreatDoorTaf
set_option linter.all false
set_option maxRecDepth 100000
open Int renaming reduceNegSucc→yd,reduceOfNat→ye
section
set_option maxHeartbeats 4000000
namespace VE
open kW (cc)
noncomputable section
def FL:aF:=az (a:=cc 262) (by conv=>{lhs;reduce;try simp only [ye,yd]})
def cR:aF:=az (a:=cc 263) (by conv=>{lhs;reduce;try simp only [ye,yd]})
def FM:aF:=az (a:=cc 264) (by conv=>{lhs;reduce;try simp only [ye,yd]})
def FN:aF:=az (a:=cc 268) (by conv=>{lhs;reduce;try simp only [ye,yd]})
def FO:aF:=az (a:=cc 269) (by conv=>{lhs;reduce;try simp only [ye,yd]})
def N3:aF:=az (a:=cc 271) (by conv=>{lhs;reduce;try simp only [ye,yd]})
def Vt:aF:=az (a:=cc 272) (by conv=>{lhs;reduce;try simp only [ye,yd]})
def BT:VC:=az (a:=cl Vt [0] []) (by conv=>{lhs;reduce;try simp only [ye,yd]})
def FP:aF:=az (a:=fun a=>c6 Vt [a]) (by conv=>{lhs;reduce;try simp only [ye,yd]}) BT
def AH:aF:=az (a:=cc 273) (by conv=>{lhs;reduce;try simp only [ye,yd]})
def JK:aF:=az (a:=cc 274) (by conv=>{lhs;reduce;try simp only [ye,yd]})
def Vu:aF:=az (a:=cc 275) (by conv=>{lhs;reduce;try simp only [ye,yd]})
def EY:VC:=az (a:=cl Vu [0] []) (by conv=>{lhs;reduce;try simp only [ye,yd]})
def JL:aF:=az (a:=fun a=>c6 Vu [a]) (by conv=>{lhs;reduce;try simp only [ye,yd]}) EY
def mN:aF:=az (a:=cc 276) (by conv=>{lhs;reduce;try simp only [ye,yd]})
def AI:aF:=az (a:=cc 277) (by conv=>{lhs;reduce;try simp only [ye,yd]})
def JM:aF:=az (a:=cc 278) (by conv=>{lhs;reduce;try simp only [ye,yd]})
def Cm:aF:=az (a:=cc 279) (by conv=>{lhs;reduce;try simp only [ye,yd]})
def lO:aF:=az (a:=cc 280) (by conv=>{lhs;reduce;try simp only [ye,yd]})
def Vv:aF:=az (a:=cc 281) (by conv=>{lhs;reduce;try simp only [ye,yd]})
def UJ:VC:=az (a:=cl Vv [0] []) (by conv=>{lhs;reduce;try simp only [ye,yd]})
def N4:aF:=az (a:=fun a=>c6 Vv [a]) (by conv=>{lhs;reduce;try simp only [ye,yd]}) UJ
def Vw:aF:=az (a:=cc 282) (by conv=>{lhs;reduce;try simp only [ye,yd]})
def EZ:VC:=az (a:=cl Vw [0] []) (by conv=>{lhs;reduce;try simp only [ye,yd]})
def FQ:aF:=az (a:=fun a=>c6 Vw [a]) (by conv=>{lhs;reduce;try simp only [ye,yd]}) EZ
def N5:aF:=az (a:=cc 284) (by conv=>{lhs;reduce;try simp only [ye,yd]})
def JN:aF:=az (a:=cc 285) (by conv=>{lhs;reduce;try simp only [ye,yd]})
def JO:aF:=az (a:=cc 286) (by conv=>{lhs;reduce;try simp only [ye,yd]})
def Vx:aF:=az (a:=cc 287) (by conv=>{lhs;reduce;try simp only [ye,yd]})
def Aa:VC:=az (a:=cl Vx [0] []) (by conv=>{lhs;reduce;try simp only [ye,yd]})
def FR:aF:=az (a:=fun a=>c6 Vx [a]) (by conv=>{lhs;reduce;try simp only [ye,yd]}) Aa
def Vy:aF:=az (a:=cc 288) (by conv=>{lhs;reduce;try simp only [ye,yd]})
def pQ:VC:=az (a:=cl Vy [0] []) (by conv=>{lhs;reduce;try simp only [ye,yd]})
def JP:aF:=az (a:=fun a=>c6 Vy [a]) (by conv=>{lhs;reduce;try simp only [ye,yd]}) pQ
def Fu:aF:=az (a:=cc 289) (by conv=>{lhs;reduce;try simp only [ye,yd]})
def E0:VC:=az (a:=cl Fu [0] []) (by conv=>{lhs;reduce;try simp only [ye,yd]})
def BU:VC:=az (a:=cl Fu [1,0] []) (by conv=>{lhs;reduce;try simp only [ye,yd]})
def E1:VC:=az (a:=cl Fu [1,1] []) (by conv=>{lhs;reduce;try simp only [ye,yd]})
def E2:VC:=az (a:=fun a b=>cl Fu [1] [a,b]) (by conv=>{lhs;reduce;try simp only [ye,yd]}) BU E1
def oF:aF:=az (a:=fun a b=>c6 Fu [a,b]) (by conv=>{lhs;reduce;try simp only [ye,yd]}) E0 E2
def Vz:aF:=az (a:=cc 290) (by conv=>{lhs;reduce;try simp only [ye,yd]})
def E3:VC:=az (a:=cl Vz [0] []) (by conv=>{lhs;reduce;try simp only [ye,yd]})
def Cn:aF:=az (a:=fun a=>c6 Vz [a]) (by conv=>{lhs;reduce;try simp only [ye,yd]}) E3
def VA:aF:=az (a:=cc 291) (by conv=>{lhs;reduce;try simp only [ye,yd]})
def E4:VC:=az (a:=cl VA [0] []) (by conv=>{lhs;reduce;try simp only [ye,yd]})
def FT:aF:=az (a:=fun a=>c6 VA [a]) (by conv=>{lhs;reduce;try simp only [ye,yd]}) E4
def VB:aF:=az (a:=cc 292) (by conv=>{lhs;reduce;try simp only [ye,yd]})
def lF:VC:=az (a:=cl VB [0] []) (by conv=>{lhs;reduce;try simp only [ye,yd]})
def qu:aF:=az (a:=fun a=>c6 VB [a]) (by conv=>{lhs;reduce;try simp only [ye,yd]}) lF
def Nq:aF:=az (a:=cc 293) (by conv=>{lhs;reduce;try simp only [ye,yd]})
def E5:VC:=az (a:=cl Nq [0,0] []) (by conv=>{lhs;reduce;try simp only [ye,yd]})
def E6:VC:=az (a:=fun a=>cl Nq [0] [a]) (by conv=>{lhs;reduce;try simp only [ye,yd]}) E5
def sC:aF:=az (a:=fun a=>c6 Nq [a]) (by conv=>{lhs;reduce;try simp only [ye,yd]}) E6
def sD:aF:=az (a:=cc 294) (by conv=>{lhs;reduce;try simp only [ye,yd]})
def VD:aF:=az (a:=cc 295) (by conv=>{lhs;reduce;try simp only [ye,yd]})
def mD:VC:=az (a:=cl VD [0] []) (by conv=>{lhs;reduce;try simp only [ye,yd]})
def FU:aF:=az (a:=fun a=>c6 VD [a]) (by conv=>{lhs;reduce;try simp only [ye,yd]}) mD
def VF:aF:=az (a:=cc 296) (by conv=>{lhs;reduce;try simp only [ye,yd]})
def Ab:VC:=az (a:=cl VF [0] []) (by conv=>{lhs;reduce;try simp only [ye,yd]})
def oG:aF:=az (a:=fun a=>c6 VF [a]) (by conv=>{lhs;reduce;try simp only [ye,yd]}) Ab
def VG:aF:=az (a:=cc 297) (by conv=>{lhs;reduce;try simp only [ye,yd]})
def oh:VC:=az (a:=cl VG [0] []) (by conv=>{lhs;reduce;try simp only [ye,yd]})
def FV:aF:=az (a:=fun a=>c6 VG [a]) (by conv=>{lhs;reduce;try simp only [ye,yd]}) oh
def JQ:aF:=az (a:=cc 298) (by conv=>{lhs;reduce;try simp only [ye,yd]})
def VH:aF:=az (a:=cc 299) (by conv=>{lhs;reduce;try simp only [ye,yd]})
def E7:VC:=az (a:=cl VH [0] []) (by conv=>{lhs;reduce;try simp only [ye,yd]})
def sE:aF:=az (a:=fun a=>c6 VH [a]) (by conv=>{lhs;reduce;try simp only [ye,yd]}) E7
def VI:aF:=az (a:=cc 300) (by conv=>{lhs;reduce;try simp only [ye,yd]})
def Ac:VC:=az (a:=cl VI [0] []) (by conv=>{lhs;reduce;try simp only [ye,yd]})
def jI:aF:=az (a:=fun a=>c6 VI [a]) (by conv=>{lhs;reduce;try simp only [ye,yd]}) Ac
def VJ:aF:=az (a:=cc 301) (by conv=>{lhs;reduce;try simp only [ye,yd]})
def rU:VC:=az (a:=cl VJ [0] []) (by conv=>{lhs;reduce;try simp only [ye,yd]})
def qv:aF:=az (a:=fun a=>c6 VJ [a]) (by conv=>{lhs;reduce;try simp only [ye,yd]}) rU
def oH:aF:=az (a:=cc 302) (by conv=>{lhs;reduce;try simp only [ye,yd]})
end
end VE
end
section
set_option maxHeartbeats 4000000
namespace VE
open kW (cc)
noncomputable section
def VK:aF:=az (a:=cc 647) (by conv=>{lhs;reduce;try simp only [ye,yd]})
def IW:VC:=az (a:=cl VK [0] []) (by conv=>{lhs;reduce;try simp only [ye,yd]})
def FW:aF:=az (a:=fun a=>c6 VK [a]) (by conv=>{lhs;reduce;try simp only [ye,yd]}) IW
def rV:VC:=.g [Rq 47 (.y .lss 46 2)] (.q (.cond (.t 47) .skip (.exit 2)) (.q (.cT 3 (.g [qm 48 46,qm 10 48] (.jM [qm 49 7,qm 50 10,Rq 51 (.sQ 2 1 (.t 9) (.t 50)),ql 52 1 51,ze 53 62 52,qm 54 1,qm 55 8,qm 56 10,qi 57 2 54 55,Rq 58 (.sQ 2 1 (.t 57) (.t 56)),ql 59 1 58,ze 60 62 59,qc2 61 50 53 60,Rq 62 (.fB 1 4 [.i 0,.af,.i 0,.af] [(0,4,.t 61)]),Rq 63 (.cD 4 64 (.t 49) (.t 62)),qm 7 63]))) (.jM [qa 64 46 1,qm 46 64])))
def pR:VC:=.g [qT 29 28 27] (.q (.cond (.t 29) .skip (.exit 0)) (.q (.cT 1 (.g [qm 30 28,qi 31 2 26 28,qL 32 2 31,Rq 9 (.box 2 (.c (.agg [.str [],.str []]))),qm 8 30,qs 2 9 32] (.h [qL 33 2 9,ze 34 698 33,qm 35 1,qm 36 8,qi 37 2 35 36,qL 38 2 37,ze 39 698 38,Rq 40 (.eq false (.ag [2,2]) (.t 34) (.t 39))] 40 (.g [qm 41 7,Rq 42 (.q 69 [.k 0]),Rq 43 (.q 69 [.k 0]),Rq 44 (.fB 2 4 [.i 0,.af,.i 0,.af,.i 0,.af,.i 0,.af] [(0,4,.t 42),(4,4,.t 43)]),Rq 45 (.cD 4 64 (.t 41) (.t 44)),qm 7 45] (.exit 1)) (.g [qk 46 0] (.q (.cT 2 (.loop [1,7,8,9,26,27,28,46] rV)) (.kp [1,7,26,27,28])))))) (.jM [qa 65 28 1,qm 28 65])))
def JR:aF:=⟨[.t 4,.t 5],.g [qz 4,qk 5 0] (.q (.g [qm 11 0,ze 12 697 11,qm 13 1,ze 14 697 13,qm 15 0,qn 16 1 15,qm 17 1,qn 18 1 17,Rq 19 (.z .neq 16 18),Rq 20 (.q 692 [.t 19,.k 2]),Rq 21 (.fB 3 1 [.i 0,.i 0,.i 0] [(0,1,.t 12),(1,1,.t 14),(2,1,.t 20)]),ze 22 677 21,qm 6 22] (.g [qm 23 6,qN 24 23 0] (.i 24 (.e [qm 25 6,qz 4,qm 5 25])))) (.g [qz 7] (.q (.g [qm 26 0,qn 27 1 26,qk 28 0] (.q (.cT 0 (.loop [1,7,26,27,28] pR)) (.kp [7]))) (.e [qm 66 7,ze 67 686 66,qe 68 0 67,qe 69 1 67,qm 4 68,qm 5 69]))))⟩
def VL:aF:=az (a:=cc 677) (by conv=>{lhs;reduce;try simp only [ye,yd]})
def IX:VC:=az (a:=cl VL [0] []) (by conv=>{lhs;reduce;try simp only [ye,yd]})
def Co:aF:=az (a:=fun a=>c6 VL [a]) (by conv=>{lhs;reduce;try simp only [ye,yd]}) IX
def FX:aF:=az (a:=cc 686) (by conv=>{lhs;reduce;try simp only [ye,yd]})
def FY:aF:=az (a:=cc 692) (by conv=>{lhs;reduce;try simp only [ye,yd]})
def VM:aF:=az (a:=cc 695) (by conv=>{lhs;reduce;try simp only [ye,yd]})
def BV:VC:=az (a:=cl VM [0] []) (by conv=>{lhs;reduce;try simp only [ye,yd]})
def FZ:aF:=az (a:=fun a=>c6 VM [a]) (by conv=>{lhs;reduce;try simp only [ye,yd]}) BV
def F0:aF:=az (a:=cc 697) (by conv=>{lhs;reduce;try simp only [ye,yd]})
def JS:aF:=az (a:=cc 698) (by conv=>{lhs;reduce;try simp only [ye,yd]})
def F1:aF:=az (a:=cc 726) (by conv=>{lhs;reduce;try simp only [ye,yd]})
end
end VE
end
section
set_option maxHeartbeats 4000000
namespace VE
open kW (cc)
noncomputable section
def sF:aF:=az (a:=cc 754) (by conv=>{lhs;reduce;try simp only [ye,yd]})
def VN:aF:=az (a:=cc 765) (by conv=>{lhs;reduce;try simp only [ye,yd]})
def rW:VC:=az (a:=cl VN [0] []) (by conv=>{lhs;reduce;try simp only [ye,yd]})
def Cp:aF:=az (a:=fun a=>c6 VN [a]) (by conv=>{lhs;reduce;try simp only [ye,yd]}) rW
def VO:aF:=az (a:=cc 766) (by conv=>{lhs;reduce;try simp only [ye,yd]})
def BW:VC:=az (a:=cl VO [0] []) (by conv=>{lhs;reduce;try simp only [ye,yd]})
def F2:aF:=az (a:=fun a=>c6 VO [a]) (by conv=>{lhs;reduce;try simp only [ye,yd]}) BW
def VP:aF:=az (a:=cc 767) (by conv=>{lhs;reduce;try simp only [ye,yd]})
def Ad:VC:=az (a:=cl VP [0] []) (by conv=>{lhs;reduce;try simp only [ye,yd]})
def Cq:aF:=az (a:=fun a=>c6 VP [a]) (by conv=>{lhs;reduce;try simp only [ye,yd]}) Ad
def VQ:aF:=az (a:=cc 768) (by conv=>{lhs;reduce;try simp only [ye,yd]})
def Ae:VC:=az (a:=cl VQ [0] []) (by conv=>{lhs;reduce;try simp only [ye,yd]})
def JT:aF:=az (a:=fun a=>c6 VQ [a]) (by conv=>{lhs;reduce;try simp only [ye,yd]}) Ae
end
end VE
end
section
namespace VE
open kW (cc)
noncomputable def Nr:Tr aF:=(.n 298 JQ (.n 165 FK (.n 122 FE (.n 98 KC (.n 70 Yg (.n 50 Pv (.n 46 KA (.n 29 Kz .l .l) (.n 49 c49 .l .l)) (.n 69 Pw (.n 62 KB .l .l) .l)) (.n 74 GM (.n 73 Yi (.n 71 Yh .l .l) .l) (.n 88 (cc 88) (.n 86 ej .l .l) .l))) (.n 108 WE (.n 101 kN (.n 100 j9 (.n 99 A8 .l .l) .l) (.n 107 Jy (.n 102 NW .l .l) .l)) (.n 117 JA (.n 111 NX (.n 110 Jz .l .l) .l) (.n 119 c119 (.n 118 AG .l .l) .l)))) (.n 148 N1 (.n 137 FH (.n 129 Ci (.n 124 Ch (.n 123 FF .l .l) (.n 125 JB .l .l)) (.n 136 FG (.n 130 NY .l .l) .l)) (.n 145 qt (.n 144 JD (.n 142 JC .l .l) .l) (.n 147 FI (.n 146 NZ .l .l) .l))) (.n 157 FJ (.n 151 JE (.n 150 (cc 150) (.n 149 WG .l .l) .l) (.n 156 N2 (.n 155 JF .l .l) .l)) (.n 160 Cl (.n 159 JG (.n 158 Cj .l .l) .l) (.n 164 kh (.n 163 JH .l .l) .l))))) (.n 273 AH (.n 243 (cc 243) (.n 228 (cc 228) (.n 172 JJ (.n 168 JI (.n 166 sB .l .l) (.n 169 oE .l .l)) (.n 203 (cc 203) (.n 202 (cc 202) .l .l) .l)) (.n 231 (cc 231) (.n 230 (cc 230) (.n 229 (cc 229) .l .l) .l) (.n 241 (cc 241) (.n 232 (cc 232) .l .l) .l))) (.n 263 cR (.n 247 (cc 247) (.n 246 (cc 246) (.n 245 (cc 245) .l .l) .l) (.n 262 FL (.n 252 (cc 252) .l .l) .l)) (.n 269 FO (.n 268 FN (.n 264 FM .l .l) .l) (.n 272 FP (.n 271 N3 .l .l) .l)))) (.n 286 JO (.n 279 Cm (.n 276 mN (.n 275 JL (.n 274 JK .l .l) .l) (.n 278 JM (.n 277 AI .l .l) .l)) (.n 282 FQ (.n 281 N4 (.n 280 lO .l .l) .l) (.n 285 JN (.n 284 N5 .l .l) .l))) (.n 292 qu (.n 289 oF (.n 288 JP (.n 287 FR .l .l) .l) (.n 291 FT (.n 290 Cn .l .l) .l)) (.n 295 FU (.n 294 sD (.n 293 sC .l .l) .l) (.n 297 FV (.n 296 oG .l .l) .l)))))) (.n 696 (cc 696) (.n 665 (cc 665) (.n 653 (cc 653) (.n 641 (cc 641) (.n 302 oH (.n 300 jI (.n 299 sE .l .l) (.n 301 qv .l .l)) (.n 640 (cc 640) (.n 637 (cc 637) .l .l) .l)) (.n 647 FW (.n 645 (cc 645) (.n 643 (cc 643) .l .l) .l) (.n 652 (cc 652) (.n 650 (cc 650) .l .l) .l))) (.n 659 (cc 659) (.n 656 (cc 656) (.n 655 (cc 655) (.n 654 (cc 654) .l .l) .l) (.n 658 JR (.n 657 (cc 657) .l .l) .l)) (.n 662 (cc 662) (.n 661 (cc 661) (.n 660 (cc 660) .l .l) .l) (.n 664 (cc 664) (.n 663 (cc 663) .l .l) .l)))) (.n 679 (cc 679) (.n 672 (cc 672) (.n 669 (cc 669) (.n 667 (cc 667) (.n 666 (cc 666) .l .l) (.n 668 (cc 668) .l .l)) (.n 671 (cc 671) (.n 670 (cc 670) .l .l) .l)) (.n 675 (cc 675) (.n 674 (cc 674) (.n 673 (cc 673) .l .l) .l) (.n 677 Co (.n 676 (cc 676) .l .l) .l))) (.n 690 (cc 690) (.n 687 (cc 687) (.n 686 FX (.n 685 (cc 685) .l .l) .l) (.n 689 (cc 689) (.n 688 (cc 688) .l .l) .l)) (.n 693 (cc 693) (.n 692 FY (.n 691 (cc 691) .l .l) .l) (.n 695 FZ (.n 694 (cc 694) .l .l) .l))))) (.n 725 (cc 725) (.n 712 (cc 712) (.n 703 (cc 703) (.n 700 (cc 700) (.n 698 JS (.n 697 F0 .l .l) (.n 699 (cc 699) .l .l)) (.n 702 (cc 702) (.n 701 (cc 701) .l .l) .l)) (.n 709 (cc 709) (.n 705 (cc 705) (.n 704 (cc 704) .l .l) .l) (.n 711 (cc 711) (.n 710 (cc 710) .l .l) .l))) (.n 719 (cc 719) (.n 716 (cc 716) (.n 715 (cc 715) (.n 713 (cc 713) .l .l) .l) (.n 718 (cc 718) (.n 717 (cc 717) .l .l) .l)) (.n 722 (cc 722) (.n 721 (cc 721) (.n 720 (cc 720) .l .l) .l) (.n 724 (cc 724) (.n 723 (cc 723) .l .l) .l)))) (.n 745 (cc 745) (.n 736 (cc 736) (.n 728 (cc 728) (.n 727 (cc 727) (.n 726 F1 .l .l) .l) (.n 735 (cc 735) (.n 729 (cc 729) .l .l) .l)) (.n 741 (cc 741) (.n 738 (cc 738) (.n 737 (cc 737) .l .l) .l) (.n 744 (cc 744) (.n 742 (cc 742) .l .l) .l))) (.n 753 (cc 753) (.n 750 (cc 750) (.n 749 (cc 749) (.n 746 (cc 746) .l .l) .l) (.n 752 (cc 752) (.n 751 (cc 751) .l .l) .l)) (.n 766 F2 (.n 765 Cp (.n 754 sF .l .l) .l) (.n 768 JT (.n 767 Cq .l .l) .l)))))))
def WH:Tr (List AV->Option AV):=(.n 154 Fp (.n 139 rM (.n 135 Fo (.n 128 HJ (.n 109 Jw .l .l) .l) (.n 138 rq .l .l)) (.n 152 HK (.n 143 og .l .l) (.n 153 Hw .l .l))) (.n 173 rR (.n 167 B4 (.n 162 trimS .l .l) (.n 171 lE .l .l)) (.n 248 Me (.n 175 EO .l .l) (.n 251 La .l .l))))
noncomputable def prog:aR:=Nr.find
def aG:Lib:=⟨WH.find,fun _=>none⟩
end VE
end
section
namespace VE
namespace kW
open Go
open Go.Proofs
def af1:Nr.jm (MV Tryz.prog ab bJ hd):=by
 delta Nr
 repeat' first | exact Tr.gI | refine Tr.iw (ab8 (by kernel_rfl) (by kernel_rfl)) ?_ ?_
end kW
end VE
end
