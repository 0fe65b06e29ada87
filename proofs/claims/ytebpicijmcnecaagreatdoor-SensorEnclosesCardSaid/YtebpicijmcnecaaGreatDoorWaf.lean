import Derived.Test.YtebpicijmcnecaaGreatDoorWae
set_option linter.all false
set_option maxRecDepth 100000
section
set_option maxHeartbeats 4000000
namespace VE
open mG (cc)
noncomputable section
def P8:aD:=au (a:=cc 203) (by conv=>lhs;reduce;simp)
def P9:aD:=au (a:=cc 219) (by conv=>lhs;reduce)
def Lm:aD:=au (a:=cc 228) (by conv=>lhs;reduce;simp)
def Ln:aD:=au (a:=cc 231) (by conv=>lhs;reduce)
def Vj:aD:=au (a:=cc 232) (by conv=>lhs;reduce;simp)
def Kr:VC:=au (a:=bU Vj [0] []) (by conv=>lhs;reduce;simp)
def Ks:VC:=au (a:=bU Vj [1] []) (by conv=>lhs;reduce;simp)
def nW:aD:=au (a:=fun a b=>cY Vj [a,b]) (by conv=>lhs;reduce;simp) Kr Ks
def Lo:aD:=au (a:=cc 241) (by conv=>lhs;reduce;simp)
end
end VE
end
section
set_option maxHeartbeats 4000000
namespace VE
open mG (cc)
noncomputable section
def ae1:aD:=au (a:=cc 261) (by conv=>lhs;reduce;simp)
def GF:VC:=au (a:=bU ae1 [0] []) (by conv=>lhs;reduce;simp)
def Hh:aD:=au (a:=fun a=>cY ae1 [a]) (by conv=>lhs;reduce;simp) GF
def Lp:aD:=au (a:=cc 262) (by conv=>lhs;reduce;simp)
def dC:aD:=au (a:=cc 263) (by conv=>lhs;reduce;simp)
def Lq:aD:=au (a:=cc 264) (by conv=>lhs;reduce)
def Lr:aD:=au (a:=cc 268) (by conv=>lhs;reduce;simp)
def Wc:aD:=au (a:=cc 271) (by conv=>lhs;reduce)
def ae2:aD:=au (a:=cc 272) (by conv=>lhs;reduce;simp)
def GG:VC:=au (a:=bU ae2 [0] []) (by conv=>lhs;reduce;simp)
def Ls:aD:=au (a:=fun a=>cY ae2 [a]) (by conv=>lhs;reduce;simp) GG
def E8:aD:=au (a:=cc 273) (by conv=>lhs;reduce;simp)
def Qa:aD:=au (a:=cc 274) (by conv=>lhs;reduce;simp)
def ae3:aD:=au (a:=cc 275) (by conv=>lhs;reduce;simp)
def Kt:VC:=au (a:=bU ae3 [0] []) (by conv=>lhs;reduce;simp)
def Qb:aD:=au (a:=fun a=>cY ae3 [a]) (by conv=>lhs;reduce) Kt
def rO:aD:=au (a:=cc 276) (by conv=>lhs;reduce;simp)
def E9:aD:=au (a:=cc 277) (by conv=>lhs;reduce;simp)
def Qc:aD:=au (a:=cc 278) (by conv=>lhs;reduce)
def Hi:aD:=au (a:=cc 279) (by conv=>lhs;reduce;simp)
def qj:aD:=au (a:=cc 280) (by conv=>lhs;reduce;simp)
def ae4:aD:=au (a:=cc 281) (by conv=>lhs;reduce;simp)
def adY:VC:=au (a:=bU ae4 [0] []) (by conv=>lhs;reduce;simp)
def We:aD:=au (a:=fun a=>cY ae4 [a]) (by conv=>lhs;reduce;simp) adY
def ae5:aD:=au (a:=cc 282) (by conv=>lhs;reduce;simp)
def Ku:VC:=au (a:=bU ae5 [0] []) (by conv=>lhs;reduce;simp)
def Lt:aD:=au (a:=fun a=>cY ae5 [a]) (by conv=>lhs;reduce;simp) Ku
def agv:aD:=au (a:=cc 284) (by conv=>lhs;reduce)
def agw:aD:=au (a:=cc 285) (by conv=>lhs;reduce;simp)
def agx:aD:=au (a:=cc 286) (by conv=>lhs;reduce;simp)
def ae6:aD:=au (a:=cc 287) (by conv=>lhs;reduce;simp)
def EC:VC:=au (a:=bU ae6 [0] []) (by conv=>lhs;reduce;simp)
def Lu:aD:=au (a:=fun a=>cY ae6 [a]) (by conv=>lhs;reduce;simp) EC
def ae7:aD:=au (a:=cc 288) (by conv=>lhs;reduce;simp)
def Bp:VC:=au (a:=bU ae7 [0] []) (by conv=>lhs;reduce;simp)
def Qd:aD:=au (a:=fun a=>cY ae7 [a]) (by conv=>lhs;reduce;simp) Bp
def K1:aD:=au (a:=cc 289) (by conv=>lhs;reduce;simp)
def Kv:VC:=au (a:=bU K1 [0] []) (by conv=>lhs;reduce;simp)
def GH:VC:=au (a:=bU K1 [1,0] []) (by conv=>lhs;reduce;simp)
def Kw:VC:=au (a:=bU K1 [1,1] []) (by conv=>lhs;reduce;simp)
def Kx:VC:=au (a:=fun a b=>bU K1 [1] [a,b]) (by conv=>lhs;reduce;simp) GH Kw
def Au:aD:=au (a:=fun a b=>cY K1 [a,b]) (by conv=>lhs;reduce;simp) Kv Kx
def ae8:aD:=au (a:=cc 290) (by conv=>lhs;reduce;simp)
def Ky:VC:=au (a:=bU ae8 [0] []) (by conv=>lhs;reduce;simp)
def Hj:aD:=au (a:=fun a=>cY ae8 [a]) (by conv=>lhs;reduce;simp) Ky
def ae9:aD:=au (a:=cc 291) (by conv=>lhs;reduce;simp)
def Kz:VC:=au (a:=bU ae9 [0] []) (by conv=>lhs;reduce;simp)
def Lv:aD:=au (a:=fun a=>cY ae9 [a]) (by conv=>lhs;reduce;simp) Kz
def afa:aD:=au (a:=cc 292) (by conv=>lhs;reduce;simp)
def pZ:VC:=au (a:=bU afa [0] []) (by conv=>lhs;reduce;simp)
def BG:aD:=au (a:=fun a=>cY afa [a]) (by conv=>lhs;reduce) pZ
def Vk:aD:=au (a:=cc 293) (by conv=>lhs;reduce;simp)
def KA:VC:=au (a:=bU Vk [0,0] []) (by conv=>lhs;reduce;simp)
def KB:VC:=au (a:=fun a=>bU Vk [0] [a]) (by conv=>lhs;reduce;simp) KA
def C4:aD:=au (a:=fun a=>cY Vk [a]) (by conv=>lhs;reduce;simp) KB
def C5:aD:=au (a:=cc 294) (by conv=>lhs;reduce;simp)
def afb:aD:=au (a:=cc 295) (by conv=>lhs;reduce;simp)
def rE:VC:=au (a:=bU afb [0] []) (by conv=>lhs;reduce;simp)
def Lw:aD:=au (a:=fun a=>cY afb [a]) (by conv=>lhs;reduce;simp) rE
def afc:aD:=au (a:=cc 296) (by conv=>lhs;reduce;simp)
def ED:VC:=au (a:=bU afc [0] []) (by conv=>lhs;reduce;simp)
def Av:aD:=au (a:=fun a=>cY afc [a]) (by conv=>lhs;reduce;simp) ED
def afd:aD:=au (a:=cc 297) (by conv=>lhs;reduce;simp)
def Ab:VC:=au (a:=bU afd [0] []) (by conv=>lhs;reduce;simp)
def Lx:aD:=au (a:=fun a=>cY afd [a]) (by conv=>lhs;reduce;simp) Ab
def Qe:aD:=au (a:=cc 298) (by conv=>lhs;reduce)
def afe:aD:=au (a:=cc 299) (by conv=>lhs;reduce;simp)
def KC:VC:=au (a:=bU afe [0] []) (by conv=>lhs;reduce;simp)
def C6:aD:=au (a:=fun a=>cY afe [a]) (by conv=>lhs;reduce;simp) KC
def aff:aD:=au (a:=cc 300) (by conv=>lhs;reduce;simp)
def EE:VC:=au (a:=bU aff [0] []) (by conv=>lhs;reduce;simp)
def mZ:aD:=au (a:=fun a=>cY aff [a]) (by conv=>lhs;reduce) EE
def afg:aD:=au (a:=cc 301) (by conv=>lhs;reduce;simp)
def CF:VC:=au (a:=bU afg [0] []) (by conv=>lhs;reduce;simp)
def BH:aD:=au (a:=fun a=>cY afg [a]) (by conv=>lhs;reduce;simp) CF
def Aw:aD:=au (a:=cc 302) (by conv=>lhs;reduce;simp)
end
end VE
end
section
set_option maxHeartbeats 4000000
namespace VE
open mG (cc)
noncomputable section
def C7:aD:=au (a:=cc 315) (by conv=>lhs;reduce;simp)
end
end VE
end
section
set_option maxHeartbeats 4000000
namespace VE
open mG (cc)
noncomputable section
def Hk:aD:=au (a:=cc 419) (by conv=>lhs;reduce;simp)
def Qf:aD:=au (a:=cc 420) (by conv=>lhs;reduce;simp)
def Ly:aD:=au (a:=cc 424) (by conv=>lhs;reduce;simp)
end
end VE
end
section
set_option maxHeartbeats 4000000
namespace VE
open mG (cc)
noncomputable section
def afh:aD:=au (a:=cc 639) (by conv=>lhs;reduce;simp)
def EF:VC:=au (a:=bU afh [0] []) (by conv=>lhs;reduce;simp)
def Qg:aD:=au (a:=fun a=>cY afh [a]) (by conv=>lhs;reduce;simp) EF
def Wf:aD:=au (a:=cc 641) (by conv=>lhs;reduce;simp)
def Qh:aD:=au (a:=cc 643) (by conv=>lhs;reduce;simp)
def afi:aD:=au (a:=cc 647) (by conv=>lhs;reduce;simp)
def OU:VC:=au (a:=bU afi [0] []) (by conv=>lhs;reduce;simp)
def Lz:aD:=au (a:=fun a=>cY afi [a]) (by conv=>lhs;reduce;simp) OU
def Qi:aD:=au (a:=cc 654) (by conv=>lhs;reduce;simp)
def agy:aD:=au (a:=cc 655) (by conv=>lhs;reduce;simp)
def Vl:aD:=au (a:=cc 656) (by conv=>lhs;reduce;simp)
def mQ:VC:=au (a:=bU Vl [0] []) (by conv=>lhs;reduce;simp)
def lG:VC:=au (a:=bU Vl [1] []) (by conv=>lhs;reduce;simp)
def LA:aD:=au (a:=fun a b=>cY Vl [a,b]) (by conv=>lhs;reduce;simp) mQ lG
def Qj:aD:=au (a:=cc 670) (by conv=>lhs;reduce;simp)
def Qk:aD:=au (a:=cc 672) (by conv=>lhs;reduce)
def Ql:aD:=au (a:=cc 673) (by conv=>lhs;reduce)
def Qm:aD:=au (a:=cc 674) (by conv=>lhs;reduce;simp)
def Hl:aD:=au (a:=cc 676) (by conv=>lhs;reduce;simp)
def afj:aD:=au (a:=cc 677) (by conv=>lhs;reduce;simp)
def OV:VC:=au (a:=bU afj [0] []) (by conv=>lhs;reduce;simp)
def Qn:aD:=au (a:=fun a=>cY afj [a]) (by conv=>lhs;reduce;simp) OV
def Qo:aD:=au (a:=cc 685) (by conv=>lhs;reduce;simp)
def LB:aD:=au (a:=cc 686) (by conv=>lhs;reduce;simp)
def Qp:aD:=au (a:=cc 687) (by conv=>lhs;reduce;simp)
def Ps:aD:=au (a:=cc 688) (by conv=>lhs;reduce;simp)
def jc:VC:=au (a:=bU Ps [0] []) (by conv=>lhs;reduce;simp)
def jd:VC:=au (a:=bU Ps [1] []) (by conv=>lhs;reduce;simp)
def Bq:VC:=au (a:=bU Ps [2] []) (by conv=>lhs;reduce;simp)
def Wg:aD:=au (a:=fun a b c=>cY Ps [a,b,c]) (by conv=>lhs;reduce;simp) jc jd Bq
def LC:aD:=au (a:=cc 689) (by conv=>lhs;reduce;simp)
def agz:aD:=au (a:=cc 690) (by conv=>lhs;reduce;simp)
def LD:aD:=au (a:=cc 691) (by conv=>lhs;reduce;simp)
def Fa:aD:=au (a:=cc 692) (by conv=>lhs;reduce;simp)
def Vm:aD:=au (a:=cc 693) (by conv=>lhs;reduce;simp)
def GI:VC:=au (a:=bU Vm [0,0] []) (by conv=>lhs;reduce;simp)
def KD:VC:=au (a:=fun a=>bU Vm [0] [a]) (by conv=>lhs;reduce;simp) GI
def Wh:aD:=au (a:=fun a=>cY Vm [a]) (by conv=>lhs;reduce;simp) KD
def Wi:aD:=au (a:=cc 716) (by conv=>lhs;reduce;simp)
def afk:aD:=au (a:=cc 717) (by conv=>lhs;reduce;simp)
def OW:VC:=au (a:=bU afk [0] []) (by conv=>lhs;reduce;simp)
def Qq:aD:=au (a:=fun a=>cY afk [a]) (by conv=>lhs;reduce;simp) OW
def afl:aD:=au (a:=cc 718) (by conv=>lhs;reduce;simp)
def GJ:VC:=au (a:=bU afl [0] []) (by conv=>lhs;reduce;simp)
def Hm:aD:=au (a:=fun a=>cY afl [a]) (by conv=>lhs;reduce;simp) GJ
def Vn:aD:=au (a:=cc 719) (by conv=>lhs;reduce;simp)
def KE:VC:=au (a:=bU Vn [0,0] []) (by conv=>lhs;reduce;simp)
def KF:VC:=au (a:=fun a=>bU Vn [0] [a]) (by conv=>lhs;reduce;simp) KE
def LF:aD:=au (a:=fun a=>cY Vn [a]) (by conv=>lhs;reduce;simp) KF
def afm:aD:=au (a:=cc 720) (by conv=>lhs;reduce;simp)
def KG:VC:=au (a:=bU afm [0] []) (by conv=>lhs;reduce;simp)
def LH:aD:=au (a:=fun a=>cY afm [a]) (by conv=>lhs;reduce;simp) KG
def Vo:aD:=au (a:=cc 724) (by conv=>lhs;reduce;simp)
def oJ:VC:=au (a:=bU Vo [0] []) (by conv=>lhs;reduce;simp)
def oK:VC:=au (a:=bU Vo [1] []) (by conv=>lhs;reduce;simp)
def Wj:aD:=au (a:=fun a b=>cY Vo [a,b]) (by conv=>lhs;reduce;simp) oJ oK
def LI:aD:=au (a:=cc 725) (by conv=>lhs;reduce;simp)
def Wk:aD:=au (a:=cc 741) (by conv=>lhs;reduce;simp)
def Wl:aD:=au (a:=cc 742) (by conv=>lhs;reduce)
def afn:aD:=au (a:=cc 752) (by conv=>lhs;reduce;simp)
def GK:VC:=au (a:=bU afn [0] []) (by conv=>lhs;reduce;simp)
def Qr:aD:=au (a:=fun a=>cY afn [a]) (by conv=>lhs;reduce;simp) GK
end
end VE
end
section
set_option maxHeartbeats 4000000
namespace VE
open mG (cc)
noncomputable section
def jt:VC:=.g [qT 41 40 39] (.q (.cond (.t 41) .skip (.exit 2)) (.q (.dE 3 (.g [qm 42 40,qm 14 42] (.g [qk 15 3,qk 16 0] (.h [qm 43 7,qm 44 11,Rq 45 (.z .mul 43 44),qm 46 14,qA 47 45 46,qm 48 1,qn 49 1 48,qT 50 47 49] 50 (.kQ [qm 51 1,qm 52 7,qm 53 11,Rq 54 (.z .mul 52 53),qm 55 14,qA 56 54 55,qi 57 1 51 56,ql 58 1 57,Rq 59 (.cv (.toInt .i64) (.t 58)),qm 15 59]) (.h [qm 60 7,qm 61 11,Rq 62 (.z .mul 60 61),qm 63 14,qA 64 62 63,qm 65 2,qn 66 1 65,qT 67 64 66] 67 (.kQ [qm 68 2,qm 69 7,qm 70 11,Rq 71 (.z .mul 69 70),qm 72 14,qA 73 71 72,qi 74 1 68 73,ql 75 1 74,Rq 76 (.cv (.toInt .i64) (.t 75)),Rq 77 (.y .rem 76 9),Rq 78 (.y .sub 77 4),qm 16 78]) (.g [qm 79 12,qm 80 15,Rq 81 (.cv (.toFlt .f32) (.t 80)),Rq 82 (.iv 1 1 [.ao .f32 0] [(0,1,.t 81)]),Rq 83 (.cQ 1 4 (.t 79) (.t 82)),qm 12 83] (.kQ [qm 84 13,qm 85 15,Rq 86 (.cv (.toFlt .f32) (.t 85)),qm 87 16,Rq 88 (.cv (.toFlt .f32) (.t 87)),Rq 89 (.bin
 .quo (.t 88) (.c (.ao .f32 1073741824))),qA 90 86 89,Rq 91 (.mx [.c (.ao .f32 0),.t 90]),Rq 92 (.iv 1 1 [.ao .f32 0] [(0,1,.t 91)]),Rq 93 (.cQ 1 4 (.t 84) (.t 92)),qm 13 93]))))))) (.kQ [qa 94 40 1,qm 40 94])))
def EG:VC:=.g [qT 37 36 35] (.q (.cond (.t 37) .skip (.exit 0)) (.q (.dE 1 (.g [qm 38 36,qm 11 38] (.g [qz 12,qz 13] (.q (.g [qm 39 7,qk 40 0] (.q (.dE 2 (.loop [1,2,7,8,9,10,11,12,13,35,36,39,40] jt)) (.kp [1,2,7,8,9,10,12,13,35,36]))) (.q (.fz [12,13]) (.kQ [qm 95 9,qm 96 12,Rq 97 (.iv 1 1 [.af] [(0,1,.t 96)]),Rq 98 (.cQ 1 24 (.t 95) (.t 97)),qm 99 10,qm 100 13,Rq 101 (.iv 1 1 [.af] [(0,1,.t 100)]),Rq 102 (.cQ 1 24 (.t 99) (.t 101)),qm 9 98,qm 10 102])))))) (.kQ [qa 103 36 1,qm 36 103])))
def CG:VC:=.g [Rq 201 (.y .lss 200 2)] (.q (.cond (.t 201) .skip (.exit 4)) (.q (.dE 5 (.g [qm 202 200,qm 28 202] (.h [qm 203 28,Rq 204 (.nh 2 2 (.t 18) (.t 203)),qL 205 2 204,ME 206 419 205,qN 207 206 0,qm 208 207,Rf 209 208 (.m 28),Rf 210 208 (.nh 2 2 (.t 18) (.t 209)),Rf 211 208 (.ld 2 true (.t 210)),Rf 212 208 (.m 26),Rf 213 208 (.m 28),Rf 214 208 (.bj 2 (.t 212) (.k 0)),Rf 215 208 (.nh 2 1 (.t 214) (.t 213)),Rf 216 208 (.ld 1 false (.t 215)),Rf 217 208 (.q 424 [.t 211,.t 216]),Rf 218 208 (.un .not (.t 217)),qp 219 208 218,qm 220 219,Rf 221 220 (.m 28),Rf 222 220 (.nh 2 2 (.t 18) (.t 221)),Rf 223 220 (.ld 2 true (.t 222)),Rf 224 220 (.m 24),Rf 225 220 (.m 28),Rf 226 220 (.bj 2 (.t 224) (.k 0)),Rf 227 220 (.nh 2 1 (.t 226) (.t 225)),Rf 228 220 (.ld 1 false (.t 227)),Rf 229 220 (.q 424 [.t 223,.t 228]),Rf 230 220 (.un .not (.t 229)),qp 231 220 230] 231 (.e [qf 6]) (.g [qm 232 21,qE 233 232
 0,qm 234 233,Rt 235 234 (.m 28),Rt 236 234 (.nh 2 2 (.t 20) (.t 235)),Rt 237 234 (.ld 2 true (.t 236)),Rt 238 234 (.q 419 [.t 237]),Rt 239 234 (.y .neq 238 0),Rt 240 234 (.m 239),Rf 241 240 (.m 28),Rf 242 240 (.nh 2 2 (.t 18) (.t 241)),Rf 243 240 (.ld 2 true (.t 242)),Rf 244 240 (.m 28),Rf 245 240 (.nh 2 2 (.t 20) (.t 244)),Rf 246 240 (.ld 2 true (.t 245)),Rf 247 240 (.q 420 [.t 243,.t 246]),Rf 248 240 (.un .not (.t 247)),Rt 249 234 (.pick (.t 240) (.c (.bool true)) (.t 248)),qq 250 234 249] (.i 250 (.e [qf 6])))))) (.kQ [qa 251 200 1,qm 200 251])))
def Wm:aD:=⟨[.t 6],.g [qf 6] (.g [qm 29 0,Rq 30 (.cv (.toInt .i64) (.t 29)),Rq 31 (.y .rem 30 3),Rq 32 (.bin .add (.k 2) (.t 31)),qm 7 32] (.g [qm 33 7,Rq 34 (.Ah [.i 0,.i 0,.i 0] [(0,1,.k 1),(1,1,.k 1),(2,1,.t 33)]),Rq 8 (.box 3 (.c (.agg [.i 0,.i 0,.i 0]))),qs 3 8 34] (.g [qz 9,qz 10] (.q (.g [qm 35 7,qk 36 0] (.q (.dE 0 (.loop [1,2,7,8,9,10,35,36] EG)) (.kp [8,9,10]))) (.g [qL 104 3 8,Rq 17 (.box 3 (.c (.agg [.i 0,.i 0,.i 0]))),qs 3 17 104] (.g [qL 106 3 17,qm 107 9,ME 108 639 107,Rq 109 (.q 656 [.t 106,.t 108,.k 0,.s [50]]),qm 105 109,qe 110 0 105,qe 111 1 105,Rq 18 (.box 4 (.c (.agg [.str [],.str [],.str [],.str []]))),qs 4 18 110,qm 19 111] (.g [qL 113 3 17,qm 114 9,ME 115 639 114,Rq 116 (.q 656 [.t 113,.t 115,.k 0,.s [53,47,50]]),qm 112 116,qe 117 0 112,qe 118 1 112,Rq 20 (.box 4 (.c (.agg [.str [],.str [],.str [],.str []]))),qs 4 20 117,qm 21 118] (.g [qL 120 3 17,qm 121 9,ME 122 639
 121,Rq 123 (.q 656 [.t 120,.t 122,.k 0,.s [48]]),qm 119 123,qe 124 0 119,qe 125 1 119,Rq 22 (.box 4 (.c (.agg [.str [],.str [],.str [],.str []]))),qs 4 22 124,qm 23 125] (.g [qL 127 3 17,qm 128 9,ME 129 639 128,qc2 130 654 127 129,qm 126 130,qe 131 0 126,qe 132 1 126,qm 24 131,qm 25 132] (.h [qm 133 25,qN 134 133 0] 134 (.e [qm 135 25,qE 136 135 6,qm 137 136,Rt 138 137 (.m 23),Rt 139 137 (.y .eql 138 6),qq 140 137 139,qm 141 140,Rt 142 141 (.q 637 []),qq 143 141 142,qm 6 143]) (.h [qm 144 23,qN 145 144 0,qm 146 145,Rf 147 146 (.m 24),Rf 148 146 (.len 1 (.t 147)),Rf 149 146 (.y .neq 148 1),qp 150 146 149,qm 151 150,Rf 152 151 (.m 24),Rf 153 151 (.q 766 [.t 152]),Rf 154 151 (.y .neq 153 0),qp 155 151 154,qm 156 155,Rf 157 156 (.ld 4 true (.t 22)),Rf 158 156 (.m 24),Rf 159 156 (.bj 2 (.t 158) (.k 0)),Rf 160 156 (.nh 2 1 (.t 159) (.k 0)),Rf 161 156 (.ld 1 false (.t 160)),Rf 162 156 (.q 219
 [.t 161]),Rf 163 156 (.m 24),Rf 164 156 (.bj 2 (.t 163) (.k 0)),Rf 165 156 (.nh 2 1 (.t 164) (.k 1)),Rf 166 156 (.ld 1 false (.t 165)),Rf 167 156 (.q 219 [.t 166]),Rf 168 156 (.Ah [.str [],.str [],.str [],.str []] [(0,2,.t 162),(2,2,.t 167)]),Rf 169 156 (.eq true (.ag [2,2,2,2]) (.t 157) (.t 168)),qp 170 156 169] 170 (.e [qf 6]) (.h [qm 171 19,qN 172 171 0] 172 (.e [qm 173 19,qE 174 173 6,qm 175 174,Rt 176 175 (.m 21),Rt 177 175 (.y .eql 176 6),qq 178 175 177,qm 179 178,Rt 180 179 (.q 637 []),qq 181 179 180,qm 6 181]) (.g [qL 183 3 17,qm 184 10,qc2 185 654 183 184,qm 182 185,qe 186 0 182,qe 187 1 182,qm 26 186,qm 27 187] (.h [qm 188 27,qN 189 188 0,qm 190 189,Rf 191 190 (.m 26),Rf 192 190 (.len 1 (.t 191)),Rf 193 190 (.y .neq 192 1),qp 194 190 193,qm 195 194,Rf 196 195 (.m 26),Rf 197 195 (.q 766 [.t 196]),Rf 198 195 (.y .neq 197 0),qp 199 195 198] 199 (.e [qf 6]) (.q (.g [qk 200 0] (.q
 (.dE 4 (.loop [18,20,21,24,26,200] CG)) (.kp [21]))) (.e [qm 252 21,qE 253 252 0,qm 254 253,Rf 255 254 (.m 21),Rf 256 254 (.y .eql 255 6),qp 257 254 256,qm 258 257,Rt 259 258 (.q 637 []),qq 260 258 259,qm 6 260]))))))))))))))))⟩
def afo:aD:=au (a:=cc 766) (by conv=>lhs;reduce;simp)
def GL:VC:=au (a:=bU afo [0] []) (by conv=>lhs;reduce;simp)
def LJ:aD:=au (a:=fun a=>cY afo [a]) (by conv=>lhs;reduce;simp) GL
end
end VE
end
section
namespace VE
open mG (cc)
noncomputable def Vp:Tr aD:=HX 9 [(29,cc 29),(46,Rw),(49,c49),(50,XW),(62,Rx),(69,XX),(70,XY),(71,XZ),(73,X0),(74,MF),(86,fD),(88,cc 88),(98,Ry),(99,FH),(100,nU),(101,oV),(102,V5),(107,PX),(108,V6),(110,PY),(111,V7),(117,PZ),(118,E6),(119,c119),(122,Lf),(123,Lg),(124,Hd),(125,P0),(129,He),(130,V8),(136,Lh),(137,Li),(142,P1),(144,P2),(145,BF),(146,V9),(147,Lj),(148,Wa),(149,agu),(150,cc 150),(151,P3),(155,E7),(156,Wb),(157,Lk),(158,Hf),(159,P4),(160,Hg),(163,P5),(164,nV),(165,Ll),(166,C3),(168,P6),(169,At),(172,P7),(202,cc 202),(203,P8),(219,P9),(228,Lm),(229,cc 229),(230,cc 230),(231,Ln),(232,nW),(241,Lo),(243,cc 243),(245,cc 245),(246,cc 246),(247,cc 247),(252,cc 252),(261,Hh),(262,Lp),(263,dC),(264,Lq),(268,Lr),(271,Wc),(272,Ls),(273,E8),(274,Qa),(275,Qb),(276,rO),(277,E9),(278,Qc),(279,Hi),(280,qj),(281,We),(282,Lt),(284,agv),(285,agw),(286,agx),(287,Lu),(288,Qd),(289,Au),(290,Hj),(291,Lv),(292,BG),(293,C4),(294,C5),(295,Lw),(296,Av),(297,Lx),(298,Qe),(299,C6),(300,mZ),(301,BH),(302,Aw),(315,C7),(419,Hk),(420,Qf),(424,Ly),(637,cc 637),(639,Qg),(640,cc 640),(641,Wf),(643,Qh),(645,cc 645),(647,Lz),(650,cc 650),(652,cc 652),(653,cc 653),(654,Qi),(655,agy),(656,LA),(657,cc 657),(658,cc 658),(659,cc 659),(660,cc 660),(661,cc 661),(662,cc 662),(663,cc 663),(664,cc 664),(665,cc 665),(666,cc 666),(667,cc 667),(668,cc 668),(669,cc 669),(670,Qj),(671,cc 671),(672,Qk),(673,Ql),(674,Qm),(675,cc 675),(676,Hl),(677,Qn),(679,cc 679),(685,Qo),(686,LB),(687,Qp),(688,Wg),(689,LC),(690,agz),(691,LD),(692,Fa),(693,Wh),(694,cc 694),(695,cc 695),(696,cc 696),(697,cc 697),(698,cc 698),(699,cc 699),(700,cc 700),(701,cc 701),(702,cc 702),(703,cc 703),(704,cc 704),(705,cc 705),(709,cc 709),(710,cc 710),(711,cc 711),(712,cc 712),(713,cc 713),(715,cc 715),(716,Wi),(717,Qq),(718,Hm),(719,LF),(720,LH),(721,cc 721),(722,cc 722),(723,cc 723),(724,Wj),(725,LI),(726,cc 726),(727,cc 727),(728,cc 728),(729,cc 729),(735,cc 735),(736,cc 736),(737,cc 737),(738,cc 738),(741,Wk),(742,Wl),(744,cc 744),(745,cc 745),(746,cc 746),(749,cc 749),(750,cc 750),(751,cc 751),(752,Qr),(753,cc 753),(762,Wm),(766,LJ)]
def agA:Tr (List AV->Option AV):=(.n 154 KY (.n 139 Cy (.n 135 KX (.n 128 NE (.n 109 PV .l .l) .l) (.n 138 Cj .l .l)) (.n 152 NF (.n 143 Aa .l .l) (.n 153 Ns .l .l))) (.n 173 CC (.n 167 G1 (.n 162 trimS .l .l) (.n 171 pY .l .l)) (.n 248 TO (.n 175 Kh .l .l) (.n 251 Su .l .l))))
noncomputable def prog:aF:=Vp.find
def aI:Lib:=⟨agA.find,fun _=>none⟩
end VE
end
section
namespace VE
namespace mG
open Go
open Go.Proofs
def aqE:Vp.mF (UN Tryz.prog ab br hd):=by
 delta Vp
 repeat' first | exact Tr.jU | refine Tr.kX (amy (by kernel_rfl) (by kernel_rfl)) ?_ ?_
end mG
end VE
end
