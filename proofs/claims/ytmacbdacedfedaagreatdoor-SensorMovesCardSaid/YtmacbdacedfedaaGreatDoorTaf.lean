import Derived.Test.YtmacbdacedfedaaGreatDoorTae
set_option linter.all false
set_option maxRecDepth 100000
section
set_option maxHeartbeats 4000000
namespace VE
open nA (cc)
noncomputable section
def O2:aC:=aw (a:=cc 203) (by conv=>lhs;reduce;simp)
def Kw:aC:=aw (a:=cc 228) (by conv=>lhs;reduce;simp)
def Kx:aC:=aw (a:=cc 231) (by conv=>lhs;reduce)
def Uk:aC:=aw (a:=cc 232) (by conv=>lhs;reduce;simp)
def JA:VC:=aw (a:=bP Uk [0] []) (by conv=>lhs;reduce;simp)
def JB:VC:=aw (a:=bP Uk [1] []) (by conv=>lhs;reduce;simp)
def nh:aC:=aw (a:=fun a b=>cR Uk [a,b]) (by conv=>lhs;reduce;simp) JA JB
def Ky:aC:=aw (a:=cc 241) (by conv=>lhs;reduce;simp)
end
end VE
end
section
set_option maxHeartbeats 4000000
namespace VE
open nA (cc)
noncomputable section
def adu:aC:=aw (a:=cc 261) (by conv=>lhs;reduce;simp)
def F8:VC:=aw (a:=bP adu [0] []) (by conv=>lhs;reduce;simp)
def O3:aC:=aw (a:=fun a=>cR adu [a]) (by conv=>lhs;reduce;simp) F8
def ae1:aC:=aw (a:=cc 262) (by conv=>lhs;reduce;simp)
def dd:aC:=aw (a:=cc 263) (by conv=>lhs;reduce;simp)
def Kz:aC:=aw (a:=cc 264) (by conv=>lhs;reduce)
def KA:aC:=aw (a:=cc 267) (by conv=>lhs;reduce)
def ae2:aC:=aw (a:=cc 268) (by conv=>lhs;reduce;simp)
def ae3:aC:=aw (a:=cc 271) (by conv=>lhs;reduce)
def adv:aC:=aw (a:=cc 272) (by conv=>lhs;reduce;simp)
def F9:VC:=aw (a:=bP adv [0] []) (by conv=>lhs;reduce;simp)
def KB:aC:=aw (a:=fun a=>cR adv [a]) (by conv=>lhs;reduce;simp) F9
def EB:aC:=aw (a:=cc 273) (by conv=>lhs;reduce;simp)
def O4:aC:=aw (a:=cc 274) (by conv=>lhs;reduce;simp)
def adw:aC:=aw (a:=cc 275) (by conv=>lhs;reduce;simp)
def JC:VC:=aw (a:=bP adw [0] []) (by conv=>lhs;reduce;simp)
def O5:aC:=aw (a:=fun a=>cR adw [a]) (by conv=>lhs;reduce) JC
def qQ:aC:=aw (a:=cc 276) (by conv=>lhs;reduce;simp)
def EC:aC:=aw (a:=cc 277) (by conv=>lhs;reduce;simp)
def O6:aC:=aw (a:=cc 278) (by conv=>lhs;reduce)
def GC:aC:=aw (a:=cc 279) (by conv=>lhs;reduce;simp)
def po:aC:=aw (a:=cc 280) (by conv=>lhs;reduce;simp)
def adx:aC:=aw (a:=cc 281) (by conv=>lhs;reduce;simp)
def acs:VC:=aw (a:=bP adx [0] []) (by conv=>lhs;reduce;simp)
def U6:aC:=aw (a:=fun a=>cR adx [a]) (by conv=>lhs;reduce;simp) acs
def ady:aC:=aw (a:=cc 282) (by conv=>lhs;reduce;simp)
def JD:VC:=aw (a:=bP ady [0] []) (by conv=>lhs;reduce;simp)
def KC:aC:=aw (a:=fun a=>cR ady [a]) (by conv=>lhs;reduce;simp) JD
def ae4:aC:=aw (a:=cc 284) (by conv=>lhs;reduce)
def ae5:aC:=aw (a:=cc 285) (by conv=>lhs;reduce;simp)
def ae6:aC:=aw (a:=cc 286) (by conv=>lhs;reduce;simp)
def adz:aC:=aw (a:=cc 287) (by conv=>lhs;reduce;simp)
def D0:VC:=aw (a:=bP adz [0] []) (by conv=>lhs;reduce;simp)
def KD:aC:=aw (a:=fun a=>cR adz [a]) (by conv=>lhs;reduce;simp) D0
def adA:aC:=aw (a:=cc 288) (by conv=>lhs;reduce;simp)
def AO:VC:=aw (a:=bP adA [0] []) (by conv=>lhs;reduce;simp)
def O7:aC:=aw (a:=fun a=>cR adA [a]) (by conv=>lhs;reduce;simp) AO
def Ke:aC:=aw (a:=cc 289) (by conv=>lhs;reduce;simp)
def JE:VC:=aw (a:=bP Ke [0] []) (by conv=>lhs;reduce;simp)
def Ga:VC:=aw (a:=bP Ke [1,0] []) (by conv=>lhs;reduce;simp)
def JF:VC:=aw (a:=bP Ke [1,1] []) (by conv=>lhs;reduce;simp)
def JG:VC:=aw (a:=fun a b=>bP Ke [1] [a,b]) (by conv=>lhs;reduce;simp) Ga JF
def zQ:aC:=aw (a:=fun a b=>cR Ke [a,b]) (by conv=>lhs;reduce;simp) JE JG
def adB:aC:=aw (a:=cc 290) (by conv=>lhs;reduce;simp)
def JH:VC:=aw (a:=bP adB [0] []) (by conv=>lhs;reduce;simp)
def GD:aC:=aw (a:=fun a=>cR adB [a]) (by conv=>lhs;reduce;simp) JH
def adC:aC:=aw (a:=cc 291) (by conv=>lhs;reduce;simp)
def JI:VC:=aw (a:=bP adC [0] []) (by conv=>lhs;reduce;simp)
def KE:aC:=aw (a:=fun a=>cR adC [a]) (by conv=>lhs;reduce;simp) JI
def adD:aC:=aw (a:=cc 292) (by conv=>lhs;reduce;simp)
def oX:VC:=aw (a:=bP adD [0] []) (by conv=>lhs;reduce;simp)
def A8:aC:=aw (a:=fun a=>cR adD [a]) (by conv=>lhs;reduce) oX
def Ul:aC:=aw (a:=cc 293) (by conv=>lhs;reduce;simp)
def JJ:VC:=aw (a:=bP Ul [0,0] []) (by conv=>lhs;reduce;simp)
def JK:VC:=aw (a:=fun a=>bP Ul [0] [a]) (by conv=>lhs;reduce;simp) JJ
def Cz:aC:=aw (a:=fun a=>cR Ul [a]) (by conv=>lhs;reduce;simp) JK
def CA:aC:=aw (a:=cc 294) (by conv=>lhs;reduce;simp)
def adE:aC:=aw (a:=cc 295) (by conv=>lhs;reduce;simp)
def qD:VC:=aw (a:=bP adE [0] []) (by conv=>lhs;reduce;simp)
def KF:aC:=aw (a:=fun a=>cR adE [a]) (by conv=>lhs;reduce;simp) qD
def adF:aC:=aw (a:=cc 296) (by conv=>lhs;reduce;simp)
def D1:VC:=aw (a:=bP adF [0] []) (by conv=>lhs;reduce;simp)
def zS:aC:=aw (a:=fun a=>cR adF [a]) (by conv=>lhs;reduce;simp) D1
def adG:aC:=aw (a:=cc 297) (by conv=>lhs;reduce;simp)
def zC:VC:=aw (a:=bP adG [0] []) (by conv=>lhs;reduce;simp)
def KG:aC:=aw (a:=fun a=>cR adG [a]) (by conv=>lhs;reduce;simp) zC
def O8:aC:=aw (a:=cc 298) (by conv=>lhs;reduce)
def adH:aC:=aw (a:=cc 299) (by conv=>lhs;reduce;simp)
def JL:VC:=aw (a:=bP adH [0] []) (by conv=>lhs;reduce;simp)
def CB:aC:=aw (a:=fun a=>cR adH [a]) (by conv=>lhs;reduce;simp) JL
def adI:aC:=aw (a:=cc 300) (by conv=>lhs;reduce;simp)
def D2:VC:=aw (a:=bP adI [0] []) (by conv=>lhs;reduce;simp)
def mE:aC:=aw (a:=fun a=>cR adI [a]) (by conv=>lhs;reduce) D2
def adJ:aC:=aw (a:=cc 301) (by conv=>lhs;reduce;simp)
def Cb:VC:=aw (a:=bP adJ [0] []) (by conv=>lhs;reduce;simp)
def A9:aC:=aw (a:=fun a=>cR adJ [a]) (by conv=>lhs;reduce;simp) Cb
def zT:aC:=aw (a:=cc 302) (by conv=>lhs;reduce;simp)
end
end VE
end
section
set_option maxHeartbeats 4000000
namespace VE
open nA (cc)
noncomputable section
def O9:aC:=aw (a:=cc 634) (by conv=>lhs;reduce;simp)
def adK:aC:=aw (a:=cc 639) (by conv=>lhs;reduce;simp)
def qF:VC:=aw (a:=bP adK [0] []) (by conv=>lhs;reduce;simp)
def ED:aC:=aw (a:=fun a=>cR adK [a]) (by conv=>lhs;reduce;simp) qF
def U7:aC:=aw (a:=cc 641) (by conv=>lhs;reduce;simp)
def Pa:aC:=aw (a:=cc 642) (by conv=>lhs;reduce;simp)
def Pb:aC:=aw (a:=cc 643) (by conv=>lhs;reduce;simp)
def adL:aC:=aw (a:=cc 647) (by conv=>lhs;reduce;simp)
def NW:VC:=aw (a:=bP adL [0] []) (by conv=>lhs;reduce;simp)
def GF:aC:=aw (a:=fun a=>cR adL [a]) (by conv=>lhs;reduce;simp) NW
def Kf:aC:=aw (a:=cc 653) (by conv=>lhs;reduce;simp)
def fF:VC:=aw (a:=bP Kf [1,0] []) (by conv=>lhs;reduce;simp)
def fG:VC:=aw (a:=bP Kf [1,1] []) (by conv=>lhs;reduce;simp)
def nU:VC:=aw (a:=bP Kf [0] []) (by conv=>lhs;reduce;simp)
def nV:VC:=aw (a:=fun a b=>bP Kf [1] [a,b]) (by conv=>lhs;reduce;simp) fF fG
def KH:aC:=aw (a:=fun a b=>cR Kf [a,b]) (by conv=>lhs;reduce;simp) nU nV
def Pc:aC:=aw (a:=cc 654) (by conv=>lhs;reduce;simp)
def ae7:aC:=aw (a:=cc 655) (by conv=>lhs;reduce;simp)
def JM:VC:=.q (.g [qm 11 5,qm 12 0,qn 13 1 12,qT 14 11 13] (.cond (.t 14) .skip (.exit 0))) (.q (.cX 1 (.g [qm 17 0,qm 18 5,qi 19 2 17 18,qL 20 2 19,qm 21 1,qm 22 5,qi 23 2 21 22,qL 24 2 23,Rq 25 (.eq true (.ag [2,2]) (.t 20) (.t 24))] (.i 25 (.e [qf 4])))) (.ju [qm 15 5,qa 16 15 1,qm 5 16]))
def Pd:aC:=⟨[.t 4],.g [qf 4] (.h [qm 6 0,qn 7 1 6,qm 8 1,qn 9 1 8,Rq 10 (.z .neq 7 9)] 10 (.e [qf 4]) (.q (.g [qk 5 0] (.q (.cX 0 (.loop [0,1,5] JM)) (.kp []))) (.e [Rq 4 (.qX (.c (.bool true)))])))⟩
def Pe:aC:=aw (a:=cc 670) (by conv=>lhs;reduce;simp)
def Pf:aC:=aw (a:=cc 672) (by conv=>lhs;reduce)
def Pg:aC:=aw (a:=cc 673) (by conv=>lhs;reduce)
def KI:aC:=aw (a:=cc 674) (by conv=>lhs;reduce;simp)
def GG:aC:=aw (a:=cc 676) (by conv=>lhs;reduce;simp)
def adM:aC:=aw (a:=cc 677) (by conv=>lhs;reduce;simp)
def NX:VC:=aw (a:=bP adM [0] []) (by conv=>lhs;reduce;simp)
def Ph:aC:=aw (a:=fun a=>cR adM [a]) (by conv=>lhs;reduce;simp) NX
def KJ:aC:=aw (a:=cc 678) (by conv=>lhs;reduce;simp)
def Pj:aC:=aw (a:=cc 685) (by conv=>lhs;reduce;simp)
def KK:aC:=aw (a:=cc 686) (by conv=>lhs;reduce;simp)
def Pk:aC:=aw (a:=cc 687) (by conv=>lhs;reduce;simp)
def On:aC:=aw (a:=cc 688) (by conv=>lhs;reduce;simp)
def iT:VC:=aw (a:=bP On [0] []) (by conv=>lhs;reduce;simp)
def iU:VC:=aw (a:=bP On [1] []) (by conv=>lhs;reduce;simp)
def AP:VC:=aw (a:=bP On [2] []) (by conv=>lhs;reduce;simp)
def U8:aC:=aw (a:=fun a b c=>cR On [a,b,c]) (by conv=>lhs;reduce;simp) iT iU AP
def ae8:aC:=aw (a:=cc 689) (by conv=>lhs;reduce;simp)
def ae9:aC:=aw (a:=cc 690) (by conv=>lhs;reduce;simp)
def afa:aC:=aw (a:=cc 691) (by conv=>lhs;reduce;simp)
def GH:aC:=aw (a:=cc 692) (by conv=>lhs;reduce;simp)
def U9:aC:=aw (a:=cc 716) (by conv=>lhs;reduce;simp)
def adN:aC:=aw (a:=cc 717) (by conv=>lhs;reduce;simp)
def NY:VC:=aw (a:=bP adN [0] []) (by conv=>lhs;reduce;simp)
def Pm:aC:=aw (a:=fun a=>cR adN [a]) (by conv=>lhs;reduce;simp) NY
def adO:aC:=aw (a:=cc 718) (by conv=>lhs;reduce;simp)
def Gb:VC:=aw (a:=bP adO [0] []) (by conv=>lhs;reduce;simp)
def GI:aC:=aw (a:=fun a=>cR adO [a]) (by conv=>lhs;reduce;simp) Gb
def Um:aC:=aw (a:=cc 719) (by conv=>lhs;reduce;simp)
def JN:VC:=aw (a:=bP Um [0,0] []) (by conv=>lhs;reduce;simp)
def JO:VC:=aw (a:=fun a=>bP Um [0] [a]) (by conv=>lhs;reduce;simp) JN
def KL:aC:=aw (a:=fun a=>cR Um [a]) (by conv=>lhs;reduce;simp) JO
def adP:aC:=aw (a:=cc 720) (by conv=>lhs;reduce;simp)
def JP:VC:=aw (a:=bP adP [0] []) (by conv=>lhs;reduce;simp)
def GJ:aC:=aw (a:=fun a=>cR adP [a]) (by conv=>lhs;reduce;simp) JP
def Un:aC:=aw (a:=cc 724) (by conv=>lhs;reduce;simp)
def nW:VC:=aw (a:=bP Un [0] []) (by conv=>lhs;reduce;simp)
def nX:VC:=aw (a:=bP Un [1] []) (by conv=>lhs;reduce;simp)
def Va:aC:=aw (a:=fun a b=>cR Un [a,b]) (by conv=>lhs;reduce;simp) nW nX
def Pn:aC:=aw (a:=cc 725) (by conv=>lhs;reduce;simp)
def Vb:aC:=aw (a:=cc 741) (by conv=>lhs;reduce;simp)
def Vc:aC:=aw (a:=cc 742) (by conv=>lhs;reduce)
def adQ:aC:=aw (a:=cc 752) (by conv=>lhs;reduce;simp)
def Gc:VC:=aw (a:=bP adQ [0] []) (by conv=>lhs;reduce;simp)
def Po:aC:=aw (a:=fun a=>cR adQ [a]) (by conv=>lhs;reduce;simp) Gc
end
end VE
end
section
set_option maxHeartbeats 4000000
namespace VE
open nA (cc)
noncomputable section
def mS:VC:=.g [qT 65 64 63] (.q (.cond (.t 65) .skip (.exit 2)) (.q (.cX 3 (.g [qm 66 64,qm 12 66] (.h [qm 67 12,qo 68 2 2,ql 69 1 68,Rq 70 (.z .rem 67 69),qo 71 2 2,ql 72 1 71,Rq 73 (.y .sub 72 1),qT 74 70 73] 74 (.g [qm 75 9,qm 76 12,qi 77 1 75 76,⟨none,none,.st 1 (.t 77) (.c (.ao .f32 1065353216))⟩] (.h [qm 78 8,qm 79 1,qn 80 1 79,qT 81 78 80] 81 (.ju [qm 82 9,qm 83 12,qm 84 1,qm 85 8,qi 86 1 84 85,ql 87 1 86,Rq 88 (.cv (.toFlt .f32) (.t 87)),Rq 89 (.bin .add (.t 88) (.c (.ao .f32 1065353216))),qi 90 1 82 83,qs 1 90 89]) (.g [qm 91 8,qa 92 91 1,qm 8 92] (.ju [qm 93 11,qm 94 12,qa 95 94 1,qm 96 9,qm 97 12,qi 98 1 96 97,ql 99 1 98,qi 100 1 93 95,qs 1 100 99])))) (.ju [qm 101 10,qm 102 12,qm 103 9,qm 104 12,qi 105 1 103 104,ql 106 1 105,Rq 107 (.bin .mul (.c (.ao .f32 1073741824)) (.t 106)),qi 108 1 101 102,qs 1 108 107])))) (.ju [qa 109 64 1,qm 64 109])))
def D3:VC:=.g [qT 43 42 41] (.q (.cond (.t 43) .skip (.exit 0)) (.q (.cX 1 (.g [qo 44 0 2,ql 45 1 44,qo 46 2 2,ql 47 1 46,Rq 48 (.z .mul 45 47),Rq 49 (.mH 1 4 [.ao .f32 0] (.t 48) (.t 48)),qo 50 0 2,ql 51 1 50,qo 52 2 2,ql 53 1 52,Rq 54 (.z .mul 51 53),Rq 55 (.mH 1 4 [.ao .f32 0] (.t 54) (.t 54)),qo 56 0 2,ql 57 1 56,qo 58 2 2,ql 59 1 58,Rq 60 (.z .mul 57 59),Rq 61 (.mH 1 4 [.ao .f32 0] (.t 60) (.t 60)),qm 9 49,qm 10 55,qm 11 61] (.q (.g [qm 62 9,qn 63 1 62,qk 64 0] (.q (.cX 2 (.loop [1,2,5,6,7,8,9,10,11,41,42,63,64] mS)) (.kp [1,2,5,6,7,8,9,10,11,41,42]))) (.q (.fz [9,10,11]) (.ju [qm 110 5,qm 111 9,Rq 112 (.iB 1 1 [.af] [(0,1,.t 111)]),Rq 113 (.cQ 1 24 (.t 110) (.t 112)),qm 114 6,qm 115 10,Rq 116 (.iB 1 1 [.af] [(0,1,.t 115)]),Rq 117 (.cQ 1 24 (.t 114) (.t 116)),qm 118 7,qm 119 11,Rq 120 (.iB 1 1 [.af] [(0,1,.t 119)]),Rq 121 (.cQ 1 24 (.t 118) (.t 120)),qm 5 113,qm 6 117,qm
 7 121]))))) (.ju [qa 122 42 1,qm 42 122])))
def JQ:VC:=.g [qT 220 219 218] (.q (.cond (.t 220) .skip (.exit 4)) (.q (.cX 5 (.g [qm 221 219,qm 24 221] (.g [qm 222 18,qm 223 24,qi 224 2 222 223,qL 225 2 224,qm 226 14,qm 227 24,qi 228 2 226 227,Rq 229 (.CO 2 1 (.t 228) (.k 0)),ql 230 1 229,Rq 231 (.q 264 [.t 230,.s [49]]),qm 232 14,qm 233 24,qi 234 2 232 233,Rq 235 (.CO 2 1 (.t 234) (.k 1)),ql 236 1 235,Rq 237 (.Cg [.str [],.str []] [(0,1,.t 231),(1,1,.t 236)]),Rq 238 (.eq true (.ag [2,2]) (.t 225) (.t 237)),qm 239 238,Rf 240 239 (.m 22),Rf 241 239 (.m 24),Rf 242 239 (.bh 1 (.t 240) (.t 241)),Rf 243 239 (.ld 1 false (.t 242)),Rf 244 239 (.m 20),Rf 245 239 (.m 24),Rf 246 239 (.bh 1 (.t 244) (.t 245)),Rf 247 239 (.ld 1 false (.t 246)),Rf 248 239 (.q 267 [.s [50],.t 247]),Rf 249 239 (.z .neq 243 248),qp 250 239 249] (.i 250 (.e [qf 4]))))) (.ju [qa 251 219 1,qm 219 251])))
def KM:aC:=⟨[.t 4],.g [qb 2 3 0,qf 4] (.h [qL 28 3 2,P8 29 634 28,Rq 30 (.un .not (.t 29)),qm 31 30,Rf 32 31 (.ld 3 true (.t 2)),Rf 33 31 (.q 642 [.t 32]),Rf 34 31 (.y .neq 33 0),qp 35 31 34] 35 (.e [qc0 36 637,qm 4 36]) (.g [qz 5,qz 6,qz 7] (.g [qk 8 0] (.q (.g [qo 37 1 2,ql 38 1 37,qo 39 2 2,ql 40 1 39,Rq 41 (.z .mul 38 40),qk 42 0] (.q (.cX 0 (.loop [1,2,5,6,7,8,41,42] D3)) (.kp [2,5,6,7]))) (.g [qL 123 3 2,Rq 13 (.box 3 (.c (.agg [.i 0,.i 0,.i 0]))),qs 3 13 123] (.q (.q (.fz [5,6,7]) (.ju [qL 125 3 13,qm 126 5,P8 127 639 126,E4 128 654 125 127,qm 124 128,qe 129 0 124,qe 130 1 124,qm 14 129,qm 15 130])) (.g [qL 132 3 13,qm 133 6,E4 134 654 132 133,qm 131 134,qe 135 0 131,qe 136 1 131,qm 16 135,qm 17 136] (.g [qL 138 3 13,qm 139 7,E4 140 654 138 139,qm 137 140,qe 141 0 137,qe 142 1 137,qm 18 141,qm 19 142] (.g [qL 144 3 13,qm 145 5,P8 146 639 145,E4 147 653 144 146,qm 143 147,qe 148 0
 143,qe 149 1 143,qm 20 148,qm 21 149] (.g [qL 151 3 13,qm 152 6,P8 153 639 152,E4 154 653 151 153,qm 150 154,qe 155 0 150,qe 156 1 150,qm 22 155,qm 23 156] (.h [qm 157 15,qm 158 17,qA 159 157 158,qm 160 19,qA 161 159 160,qm 162 21,qA 163 161 162,qm 164 23,qA 165 163 164,qN 166 165 0,qm 167 166,Rf 168 167 (.m 14),Rf 169 167 (.len 1 (.t 168)),Rf 170 167 (.off 0 (.t 2)),Rf 171 167 (.ld 1 false (.t 170)),Rf 172 167 (.off 1 (.t 2)),Rf 173 167 (.ld 1 false (.t 172)),Rf 174 167 (.z .mul 171 173),Rf 175 167 (.z .neq 169 174),qp 176 167 175,qm 177 176,Rf 178 177 (.m 18),Rf 179 177 (.len 1 (.t 178)),Rf 180 177 (.m 14),Rf 181 177 (.len 1 (.t 180)),Rf 182 177 (.z .neq 179 181),qp 183 177 182,qm 184 183,Rf 185 184 (.m 20),Rf 186 184 (.len 1 (.t 185)),Rf 187 184 (.m 14),Rf 188 184 (.len 1 (.t 187)),Rf 189 184 (.z .neq 186 188),qp 190 184 189,qm 191 190,Rf 192 191 (.m 22),Rf 193 191 (.len 1 (.t 192)),Rf
 194 191 (.m 14),Rf 195 191 (.len 1 (.t 194)),Rf 196 191 (.z .neq 193 195),qp 197 191 196,qm 198 197,Rf 199 198 (.m 14),Rf 200 198 (.m 16),Rf 201 198 (.q 659 [.t 199,.t 200]),Rf 202 198 (.un .not (.t 201)),qp 203 198 202,qm 204 203,Rf 205 204 (.m 14),Rf 206 204 (.q 766 [.t 205]),Rf 207 204 (.m 18),Rf 208 204 (.q 766 [.t 207]),Rf 209 204 (.z .add 206 208),Rf 210 204 (.y .neq 209 0),qp 211 204 210,qm 212 211,Rf 213 212 (.m 20),Rf 214 212 (.q 261 [.t 213]),Rf 215 212 (.y .neq 214 0),qp 216 212 215] 216 (.e [qf 4]) (.q (.g [qm 217 14,qn 218 1 217,qk 219 0] (.q (.cX 4 (.loop [2,5,13,14,18,20,22,218,219] JQ)) (.kp [2,5,13,14]))) (.g [qm 252 5,Rq 253 (.call .heap (.F 639) [.t 252]),qm 25 253] (.g [qm 254 25,Rq 255 (.bh 1 (.t 254) (.k 0)),ql 256 1 255,Rq 257 (.bh 1 (.t 256) (.k 0)),ql 258 1 257,Rq 259 (.bin .add (.t 258) (.c (.ao .f32 1088421888))),Rq 260 (.bh 1 (.t 256) (.k 0)),qs 1 260 259]
 (.g [qL 262 3 13,qm 263 25,E4 264 654 262 263,qm 261 264,qe 265 0 261,qe 266 1 261,qm 26 265,qm 27 266] (.h [qm 267 27,qN 268 267 0,qm 269 268,Rf 270 269 (.m 26),Rf 271 269 (.len 1 (.t 270)),Rf 272 269 (.m 14),Rf 273 269 (.len 1 (.t 272)),Rf 274 269 (.z .neq 271 273),qp 275 269 274,qm 276 275,Rf 277 276 (.m 26),Rf 278 276 (.bh 2 (.t 277) (.k 0)),Rf 279 276 (.ld 2 true (.t 278)),Rf 280 276 (.m 14),Rf 281 276 (.bh 2 (.t 280) (.k 0)),Rf 282 276 (.ld 2 true (.t 281)),Rf 283 276 (.eq false (.ag [2,2]) (.t 279) (.t 282)),Rf 284 276 (.m 283),Rt 285 284 (.off 2 (.t 2)),Rt 286 284 (.ld 1 false (.t 285)),Rt 287 284 (.y .gtr 286 2),Rf 288 276 (.pick (.t 284) (.t 287) (.c (.bool false))),qp 289 276 288] 289 (.e [qf 4]) (.e [qm 290 26,Rq 291 (.oz (.sl 2) (.t 290) (some (.k 1)) none),qm 292 14,Rq 293 (.oz (.sl 2) (.t 292) (some (.k 1)) none),E4 294 659 291 293,qm 295 294,Rt 296 295 (.q 637 []),qq
 297 295 296,qm 4 297])))))))))))))))))⟩
def adR:aC:=aw (a:=cc 766) (by conv=>lhs;reduce;simp)
def Gd:VC:=aw (a:=bP adR [0] []) (by conv=>lhs;reduce;simp)
def KN:aC:=aw (a:=fun a=>cR adR [a]) (by conv=>lhs;reduce;simp) Gd
end
end VE
end
section
namespace VE
open nA (cc)
noncomputable def Uo:Tr aC:=Hi 9 [(29,cc 29),(46,Qd),(49,c49),(50,c50),(62,Qe),(69,WI),(70,WJ),(71,c71),(73,WK),(74,LA),(86,c86),(88,cc 88),(98,Qf),(99,E5),(100,nd),(101,od),(102,aeV),(107,OS),(108,UZ),(110,OT),(111,U1),(117,OU),(118,aeW),(119,c119),(122,Kp),(123,Kq),(124,aeX),(125,aeY),(129,aeZ),(130,U2),(136,Kr),(137,Ks),(142,OV),(144,OW),(145,A7),(146,U3),(147,Kt),(148,U4),(149,ae0),(150,cc 150),(151,OX),(155,EA),(156,U5),(157,Ku),(158,GA),(159,OY),(160,GB),(163,OZ),(164,nf),(165,Kv),(166,Cy),(168,O0),(169,zP),(172,O1),(202,cc 202),(203,O2),(228,Kw),(229,cc 229),(230,cc 230),(231,Kx),(232,nh),(241,Ky),(243,cc 243),(245,cc 245),(246,cc 246),(247,cc 247),(252,cc 252),(261,O3),(262,ae1),(263,dd),(264,Kz),(267,KA),(268,ae2),(271,ae3),(272,KB),(273,EB),(274,O4),(275,O5),(276,qQ),(277,EC),(278,O6),(279,GC),(280,po),(281,U6),(282,KC),(284,ae4),(285,ae5),(286,ae6),(287,KD),(288,O7),(289,zQ),(290,GD),(291,KE),(292,A8),(293,Cz),(294,CA),(295,KF),(296,zS),(297,KG),(298,O8),(299,CB),(300,mE),(301,A9),(302,zT),(634,O9),(637,cc 637),(639,ED),(640,cc 640),(641,U7),(642,Pa),(643,Pb),(645,cc 645),(647,GF),(650,cc 650),(652,cc 652),(653,KH),(654,Pc),(655,ae7),(656,cc 656),(657,cc 657),(658,cc 658),(659,Pd),(660,cc 660),(661,cc 661),(662,cc 662),(663,cc 663),(664,cc 664),(665,cc 665),(666,cc 666),(667,cc 667),(668,cc 668),(669,cc 669),(670,Pe),(671,cc 671),(672,Pf),(673,Pg),(674,KI),(675,cc 675),(676,GG),(677,Ph),(678,KJ),(679,cc 679),(685,Pj),(686,KK),(687,Pk),(688,U8),(689,ae8),(690,ae9),(691,afa),(692,GH),(693,cc 693),(694,cc 694),(695,cc 695),(696,cc 696),(697,cc 697),(698,cc 698),(699,cc 699),(700,cc 700),(701,cc 701),(702,cc 702),(703,cc 703),(704,cc 704),(705,cc 705),(709,cc 709),(710,cc 710),(711,cc 711),(712,cc 712),(713,cc 713),(715,cc 715),(716,U9),(717,Pm),(718,GI),(719,KL),(720,GJ),(721,cc 721),(722,cc 722),(723,cc 723),(724,Va),(725,Pn),(726,cc 726),(727,cc 727),(728,cc 728),(729,cc 729),(735,cc 735),(736,cc 736),(737,cc 737),(738,cc 738),(741,Vb),(742,Vc),(744,cc 744),(745,cc 745),(746,cc 746),(749,cc 749),(750,cc 750),(751,cc 751),(752,Po),(753,cc 753),(761,KM),(766,KN)]
def afb:Tr (List AV->Option AV):=(.n 154 Kb (.n 139 B1 (.n 135 Ka (.n 128 MG (.n 109 OP .l .l) .l) (.n 138 BL .l .l)) (.n 152 MH (.n 143 zA .l .l) (.n 153 Mr .l .l))) (.n 173 B8 (.n 167 Gn (.n 162 trimS .l .l) (.n 171 oW .l .l)) (.n 248 Sp (.n 175 Jq .l .l) (.n 251 Q2 .l .l))))
noncomputable def prog:aF:=Uo.find
def aI:Lib:=⟨afb.find,fun _=>none⟩
end VE
end
section
namespace VE
namespace nA
open Go
open Go.Proofs
def api:Uo.lZ (TC Tryz.prog ab bm hd):=by
 delta Uo
 repeat' first | exact Tr.jJ | refine Tr.kw (ali (by kernel_rfl) (by kernel_rfl)) ?_ ?_
end nA
end VE
end
