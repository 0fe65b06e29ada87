import Derived.Test.YtebpicijmcnecaaGreatDoorTae
set_option linter.all false
set_option maxRecDepth 100000
section
set_option maxHeartbeats 4000000
namespace VE
open lO (cc)
noncomputable section
def P5:aA:=ao (a:=cc 203) (by conv=>lhs;reduce;simp)
def K4:aA:=ao (a:=cc 228) (by conv=>lhs;reduce;simp)
def K5:aA:=ao (a:=cc 231) (by conv=>lhs;reduce)
def Vf:aA:=ao (a:=cc 232) (by conv=>lhs;reduce;simp)
def J5:VC:=ao (a:=bE Vf [0] []) (by conv=>lhs;reduce;simp)
def J6:VC:=ao (a:=bE Vf [1] []) (by conv=>lhs;reduce;simp)
def nG:aA:=ao (a:=fun a b=>cy Vf [a,b]) (by conv=>lhs;reduce;simp) J5 J6
def K6:aA:=ao (a:=cc 241) (by conv=>lhs;reduce;simp)
end
end VE
end
section
set_option maxHeartbeats 4000000
namespace VE
open lO (cc)
noncomputable section
def K7:aA:=ao (a:=cc 262) (by conv=>lhs;reduce;simp)
def dw:aA:=ao (a:=cc 263) (by conv=>lhs;reduce;simp)
def K8:aA:=ao (a:=cc 264) (by conv=>lhs;reduce)
def P6:aA:=ao (a:=cc 265) (by conv=>lhs;reduce)
def P7:aA:=ao (a:=cc 266) (by conv=>lhs;reduce)
def K9:aA:=ao (a:=cc 267) (by conv=>lhs;reduce)
def La:aA:=ao (a:=cc 268) (by conv=>lhs;reduce;simp)
def Lb:aA:=ao (a:=cc 269) (by conv=>lhs;reduce;simp)
def We:aA:=ao (a:=cc 271) (by conv=>lhs;reduce)
def ae3:aA:=ao (a:=cc 272) (by conv=>lhs;reduce;simp)
def Gr:VC:=ao (a:=bE ae3 [0] []) (by conv=>lhs;reduce;simp)
def Lc:aA:=ao (a:=fun a=>cy ae3 [a]) (by conv=>lhs;reduce;simp) Gr
def EL:aA:=ao (a:=cc 273) (by conv=>lhs;reduce;simp)
def P8:aA:=ao (a:=cc 274) (by conv=>lhs;reduce;simp)
def ae4:aA:=ao (a:=cc 275) (by conv=>lhs;reduce;simp)
def J7:VC:=ao (a:=bE ae4 [0] []) (by conv=>lhs;reduce;simp)
def P9:aA:=ao (a:=fun a=>cy ae4 [a]) (by conv=>lhs;reduce) J7
def q9:aA:=ao (a:=cc 276) (by conv=>lhs;reduce;simp)
def EM:aA:=ao (a:=cc 277) (by conv=>lhs;reduce;simp)
def Qa:aA:=ao (a:=cc 278) (by conv=>lhs;reduce)
def G9:aA:=ao (a:=cc 279) (by conv=>lhs;reduce;simp)
def pq:aA:=ao (a:=cc 280) (by conv=>lhs;reduce;simp)
def ae5:aA:=ao (a:=cc 281) (by conv=>lhs;reduce;simp)
def zD:VC:=ao (a:=bE ae5 [0] []) (by conv=>lhs;reduce;simp)
def Qb:aA:=ao (a:=fun a=>cy ae5 [a]) (by conv=>lhs;reduce;simp) zD
def ae6:aA:=ao (a:=cc 282) (by conv=>lhs;reduce;simp)
def J8:VC:=ao (a:=bE ae6 [0] []) (by conv=>lhs;reduce;simp)
def Ld:aA:=ao (a:=fun a=>cy ae6 [a]) (by conv=>lhs;reduce;simp) J8
def EN:aA:=ao (a:=cc 283) (by conv=>lhs;reduce)
def Wf:aA:=ao (a:=cc 284) (by conv=>lhs;reduce)
def Qc:aA:=ao (a:=cc 285) (by conv=>lhs;reduce;simp)
def Qd:aA:=ao (a:=cc 286) (by conv=>lhs;reduce;simp)
def ae7:aA:=ao (a:=cc 287) (by conv=>lhs;reduce;simp)
def D9:VC:=ao (a:=bE ae7 [0] []) (by conv=>lhs;reduce;simp)
def Lf:aA:=ao (a:=fun a=>cy ae7 [a]) (by conv=>lhs;reduce;simp) D9
def ae8:aA:=ao (a:=cc 288) (by conv=>lhs;reduce;simp)
def A0:VC:=ao (a:=bE ae8 [0] []) (by conv=>lhs;reduce;simp)
def Qe:aA:=ao (a:=fun a=>cy ae8 [a]) (by conv=>lhs;reduce;simp) A0
def KL:aA:=ao (a:=cc 289) (by conv=>lhs;reduce;simp)
def J9:VC:=ao (a:=bE KL [0] []) (by conv=>lhs;reduce;simp)
def Gs:VC:=ao (a:=bE KL [1,0] []) (by conv=>lhs;reduce;simp)
def Ka:VC:=ao (a:=bE KL [1,1] []) (by conv=>lhs;reduce;simp)
def Kb:VC:=ao (a:=fun a b=>bE KL [1] [a,b]) (by conv=>lhs;reduce;simp) Gs Ka
def zQ:aA:=ao (a:=fun a b=>cy KL [a,b]) (by conv=>lhs;reduce;simp) J9 Kb
def ae9:aA:=ao (a:=cc 290) (by conv=>lhs;reduce;simp)
def Kc:VC:=ao (a:=bE ae9 [0] []) (by conv=>lhs;reduce;simp)
def Ha:aA:=ao (a:=fun a=>cy ae9 [a]) (by conv=>lhs;reduce;simp) Kc
def afa:aA:=ao (a:=cc 291) (by conv=>lhs;reduce;simp)
def Kd:VC:=ao (a:=bE afa [0] []) (by conv=>lhs;reduce;simp)
def Lg:aA:=ao (a:=fun a=>cy afa [a]) (by conv=>lhs;reduce;simp) Kd
def afb:aA:=ao (a:=cc 292) (by conv=>lhs;reduce;simp)
def oX:VC:=ao (a:=bE afb [0] []) (by conv=>lhs;reduce;simp)
def Bm:aA:=ao (a:=fun a=>cy afb [a]) (by conv=>lhs;reduce) oX
def Vg:aA:=ao (a:=cc 293) (by conv=>lhs;reduce;simp)
def Ke:VC:=ao (a:=bE Vg [0,0] []) (by conv=>lhs;reduce;simp)
def Kf:VC:=ao (a:=fun a=>bE Vg [0] [a]) (by conv=>lhs;reduce;simp) Ke
def CS:aA:=ao (a:=fun a=>cy Vg [a]) (by conv=>lhs;reduce;simp) Kf
def CT:aA:=ao (a:=cc 294) (by conv=>lhs;reduce;simp)
def afc:aA:=ao (a:=cc 295) (by conv=>lhs;reduce;simp)
def qP:VC:=ao (a:=bE afc [0] []) (by conv=>lhs;reduce;simp)
def Lh:aA:=ao (a:=fun a=>cy afc [a]) (by conv=>lhs;reduce;simp) qP
def afd:aA:=ao (a:=cc 296) (by conv=>lhs;reduce;simp)
def Ea:VC:=ao (a:=bE afd [0] []) (by conv=>lhs;reduce;simp)
def zR:aA:=ao (a:=fun a=>cy afd [a]) (by conv=>lhs;reduce;simp) Ea
def afe:aA:=ao (a:=cc 297) (by conv=>lhs;reduce;simp)
def zE:VC:=ao (a:=bE afe [0] []) (by conv=>lhs;reduce;simp)
def Li:aA:=ao (a:=fun a=>cy afe [a]) (by conv=>lhs;reduce;simp) zE
def Qf:aA:=ao (a:=cc 298) (by conv=>lhs;reduce)
def aff:aA:=ao (a:=cc 299) (by conv=>lhs;reduce;simp)
def Kg:VC:=ao (a:=bE aff [0] []) (by conv=>lhs;reduce;simp)
def CU:aA:=ao (a:=fun a=>cy aff [a]) (by conv=>lhs;reduce;simp) Kg
def afg:aA:=ao (a:=cc 300) (by conv=>lhs;reduce;simp)
def Eb:VC:=ao (a:=bE afg [0] []) (by conv=>lhs;reduce;simp)
def mP:aA:=ao (a:=fun a=>cy afg [a]) (by conv=>lhs;reduce) Eb
def afh:aA:=ao (a:=cc 301) (by conv=>lhs;reduce;simp)
def Cs:VC:=ao (a:=bE afh [0] []) (by conv=>lhs;reduce;simp)
def Bn:aA:=ao (a:=fun a=>cy afh [a]) (by conv=>lhs;reduce;simp) Cs
def zS:aA:=ao (a:=cc 302) (by conv=>lhs;reduce;simp)
end
end VE
end
section
set_option maxHeartbeats 4000000
namespace VE
open lO (cc)
noncomputable section
def EO:aA:=ao (a:=cc 315) (by conv=>lhs;reduce;simp)
def Qg:aA:=ao (a:=cc 355) (by conv=>lhs;reduce)
def afi:aA:=ao (a:=cc 389) (by conv=>lhs;reduce;simp)
def Gt:VC:=ao (a:=bE afi [0] []) (by conv=>lhs;reduce;simp)
def Hb:aA:=ao (a:=fun a=>cy afi [a]) (by conv=>lhs;reduce;simp) Gt
end
end VE
end
section
set_option maxHeartbeats 4000000
namespace VE
open lO (cc)
noncomputable section
def Qh:aA:=ao (a:=cc 429) (by conv=>lhs;reduce)
def Vh:aA:=ao (a:=cc 430) (by conv=>lhs;reduce;simp)
def Kh:VC:=ao (a:=bE Vh [0] []) (by conv=>lhs;reduce;simp)
def Ki:VC:=ao (a:=bE Vh [1] []) (by conv=>lhs;reduce;simp)
def Qi:aA:=ao (a:=fun a b=>cy Vh [a,b]) (by conv=>lhs;reduce;simp) Kh Ki
def Hc:aA:=ao (a:=cc 449) (by conv=>lhs;reduce;simp)
end
end VE
end
section
set_option maxHeartbeats 4000000
namespace VE
open lO (cc)
noncomputable section
def Qj:aA:=ao (a:=cc 634) (by conv=>lhs;reduce;simp)
def afj:aA:=ao (a:=cc 636) (by conv=>lhs;reduce;simp)
def Gu:VC:=ao (a:=bE afj [0] []) (by conv=>lhs;reduce;simp)
def Lj:aA:=ao (a:=fun a=>cy afj [a]) (by conv=>lhs;reduce;simp) Gu
def afk:aA:=ao (a:=cc 639) (by conv=>lhs;reduce;simp)
def Ec:VC:=ao (a:=bE afk [0] []) (by conv=>lhs;reduce;simp)
def Qk:aA:=ao (a:=fun a=>cy afk [a]) (by conv=>lhs;reduce;simp) Ec
def Wg:aA:=ao (a:=cc 641) (by conv=>lhs;reduce;simp)
def Ql:aA:=ao (a:=cc 642) (by conv=>lhs;reduce;simp)
def Qm:aA:=ao (a:=cc 643) (by conv=>lhs;reduce;simp)
def Qn:aA:=ao (a:=cc 644) (by conv=>lhs;reduce;simp)
def afl:aA:=ao (a:=cc 647) (by conv=>lhs;reduce;simp)
def OT:VC:=ao (a:=bE afl [0] []) (by conv=>lhs;reduce;simp)
def Lk:aA:=ao (a:=fun a=>cy afl [a]) (by conv=>lhs;reduce;simp) OT
def Wh:aA:=ao (a:=cc 648) (by conv=>lhs;reduce;simp)
def agy:aA:=ao (a:=cc 654) (by conv=>lhs;reduce;simp)
def agz:aA:=ao (a:=cc 655) (by conv=>lhs;reduce;simp)
def Vi:aA:=ao (a:=cc 656) (by conv=>lhs;reduce;simp)
def mH:VC:=ao (a:=bE Vi [0] []) (by conv=>lhs;reduce;simp)
def lC:VC:=ao (a:=bE Vi [1] []) (by conv=>lhs;reduce;simp)
def EP:aA:=ao (a:=fun a b=>cy Vi [a,b]) (by conv=>lhs;reduce;simp) mH lC
def Qo:aA:=ao (a:=cc 670) (by conv=>lhs;reduce;simp)
def agA:aA:=ao (a:=cc 672) (by conv=>lhs;reduce)
def Wi:aA:=ao (a:=cc 673) (by conv=>lhs;reduce)
def Qp:aA:=ao (a:=cc 674) (by conv=>lhs;reduce;simp)
def Hd:aA:=ao (a:=cc 676) (by conv=>lhs;reduce;simp)
def afm:aA:=ao (a:=cc 677) (by conv=>lhs;reduce;simp)
def OU:VC:=ao (a:=bE afm [0] []) (by conv=>lhs;reduce;simp)
def Qq:aA:=ao (a:=fun a=>cy afm [a]) (by conv=>lhs;reduce;simp) OU
def Ll:aA:=ao (a:=cc 678) (by conv=>lhs;reduce;simp)
def Vj:aA:=ao (a:=cc 680) (by conv=>lhs;reduce;simp)
def Gv:VC:=ao (a:=bE Vj [0,0] []) (by conv=>lhs;reduce;simp)
def Gw:VC:=ao (a:=fun a=>bE Vj [0] [a]) (by conv=>lhs;reduce;simp) Gv
def Qr:aA:=ao (a:=fun a=>cy Vj [a]) (by conv=>lhs;reduce;simp) Gw
def Qs:aA:=ao (a:=cc 685) (by conv=>lhs;reduce;simp)
def Lm:aA:=ao (a:=cc 686) (by conv=>lhs;reduce;simp)
def agB:aA:=ao (a:=cc 687) (by conv=>lhs;reduce;simp)
def Pn:aA:=ao (a:=cc 688) (by conv=>lhs;reduce;simp)
def as5:VC:=ao (a:=bE Pn [0] []) (by conv=>lhs;reduce;simp)
def as6:VC:=ao (a:=bE Pn [1] []) (by conv=>lhs;reduce;simp)
def as7:VC:=ao (a:=bE Pn [2] []) (by conv=>lhs;reduce;simp)
def agC:aA:=ao (a:=fun a b c=>cy Pn [a,b,c]) (by conv=>lhs;reduce;simp) as5 as6 as7
def Ln:aA:=ao (a:=cc 689) (by conv=>lhs;reduce;simp)
def agD:aA:=ao (a:=cc 690) (by conv=>lhs;reduce;simp)
def Lo:aA:=ao (a:=cc 691) (by conv=>lhs;reduce;simp)
def EQ:aA:=ao (a:=cc 692) (by conv=>lhs;reduce;simp)
def Vk:aA:=ao (a:=cc 693) (by conv=>lhs;reduce;simp)
def Gx:VC:=ao (a:=bE Vk [0,0] []) (by conv=>lhs;reduce;simp)
def Kj:VC:=ao (a:=fun a=>bE Vk [0] [a]) (by conv=>lhs;reduce;simp) Gx
def Wj:aA:=ao (a:=fun a=>cy Vk [a]) (by conv=>lhs;reduce;simp) Kj
def Wk:aA:=ao (a:=cc 716) (by conv=>lhs;reduce;simp)
def afn:aA:=ao (a:=cc 717) (by conv=>lhs;reduce;simp)
def OV:VC:=ao (a:=bE afn [0] []) (by conv=>lhs;reduce;simp)
def Qt:aA:=ao (a:=fun a=>cy afn [a]) (by conv=>lhs;reduce;simp) OV
def afo:aA:=ao (a:=cc 718) (by conv=>lhs;reduce;simp)
def as8:VC:=ao (a:=bE afo [0] []) (by conv=>lhs;reduce;simp)
def agE:aA:=ao (a:=fun a=>cy afo [a]) (by conv=>lhs;reduce;simp) as8
def Vl:aA:=ao (a:=cc 719) (by conv=>lhs;reduce;simp)
def Kk:VC:=ao (a:=bE Vl [0,0] []) (by conv=>lhs;reduce;simp)
def Kl:VC:=ao (a:=fun a=>bE Vl [0] [a]) (by conv=>lhs;reduce;simp) Kk
def Lp:aA:=ao (a:=fun a=>cy Vl [a]) (by conv=>lhs;reduce;simp) Kl
def afp:aA:=ao (a:=cc 720) (by conv=>lhs;reduce;simp)
def Km:VC:=ao (a:=bE afp [0] []) (by conv=>lhs;reduce;simp)
def Lq:aA:=ao (a:=fun a=>cy afp [a]) (by conv=>lhs;reduce;simp) Km
def Vm:aA:=ao (a:=cc 724) (by conv=>lhs;reduce;simp)
def as9:VC:=ao (a:=bE Vm [0] []) (by conv=>lhs;reduce;simp)
def ata:VC:=ao (a:=bE Vm [1] []) (by conv=>lhs;reduce;simp)
def agF:aA:=ao (a:=fun a b=>cy Vm [a,b]) (by conv=>lhs;reduce;simp) as9 ata
def Lr:aA:=ao (a:=cc 725) (by conv=>lhs;reduce;simp)
def Wl:aA:=ao (a:=cc 741) (by conv=>lhs;reduce;simp)
def Wm:aA:=ao (a:=cc 742) (by conv=>lhs;reduce)
def afq:aA:=ao (a:=cc 752) (by conv=>lhs;reduce;simp)
def Gy:VC:=ao (a:=bE afq [0] []) (by conv=>lhs;reduce;simp)
def Qu:aA:=ao (a:=fun a=>cy afq [a]) (by conv=>lhs;reduce;simp) Gy
end
end VE
end
section
set_option maxHeartbeats 4000000
namespace VE
open lO (cc)
noncomputable section
def rb:aA:=⟨[.t 4],.g [qb 2 3 0,qb 3 3 1,qf 4] (.h [qL 9 3 2,X8 10 634 9,Rq 11 (.un .not (.t 10)),qm 12 11,Rf 13 12 (.off 0 (.t 3)),Rf 14 12 (.ld 1 false (.t 13)),Rf 15 12 (.q 636 [.t 14]),Rf 16 12 (.un .not (.t 15)),qp 17 12 16,qm 18 17,Rf 19 18 (.off 2 (.t 3)),Rf 20 18 (.ld 1 false (.t 19)),Rf 21 18 (.len 0 (.t 20)),Rf 22 18 (.y .gtr 21 40),qp 23 18 22] 23 (.e [qc0 24 637,qm 4 24]) (.g [qL 26 3 2,qo 27 0 3,ql 28 1 27,X8 29 639 28,qo 30 1 3,ql 31 1 30,qo 32 2 3,ql 33 1 32,qc4 34 656 26 29 31 33,qm 25 34,qe 35 0 25,qe 36 1 25,Rq 5 (.box 4 (.c (.agg [.str [],.str [],.str [],.str []]))),qs 4 5 35,qm 6 36] (.g [qL 37 3 2,qo 38 0 3,ql 39 1 38,qc2 40 644 37 39,qm 7 40] (.h [qm 41 7,qE 42 41 0,qm 43 42,Rt 44 43 (.off 1 (.t 3)),Rt 45 43 (.ld 1 false (.t 44)),Rt 46 43 (.y .lss 45 0),Rt 47 43 (.m 46),Rf 48 47 (.off 1 (.t 3)),Rf 49 47 (.ld 1 false (.t 48)),Rf 50 47 (.off 0 (.t 2)),Rf 51 47 (.ld 1 false (.t 50)),Rf
 52 47 (.off 1 (.t 2)),Rf 53 47 (.ld 1 false (.t 52)),Rf 54 47 (.z .mul 51 53),Rf 55 47 (.z .geq 49 54),Rt 56 43 (.pick (.t 47) (.c (.bool true)) (.t 55)),qq 57 43 56] 57 (.ml [qk 7 3]) (.h [qm 58 7,qE 59 58 0] 59 (.ml [qo 60 2 3,ql 61 1 60,X8 62 769 61,qm 7 62]) (.g [Rq 8 (.box 4 (.c (.agg [.str [],.str [],.str [],.str []])))] (.h [qm 63 7,qE 64 63 0] 64 (.ml [qL 66 3 2,qo 67 0 3,ql 68 1 67,qo 69 1 3,ql 70 1 69,qo 71 2 3,ql 72 1 71,qc4 73 774 66 68 70 72,qm 65 73,qe 74 0 65,qe 75 1 65,qs 4 8 74,qm 7 75]) (.h [qm 76 7,qE 77 76 0] 77 (.g [Rq 78 (.Aa 2 2 (.t 8) (.k 0)),qo 79 0 78,ql 80 1 79,Rq 81 (.Aa 2 2 (.t 8) (.k 0)),qo 82 1 81,ql 83 1 82,Rq 84 (.Aa 2 2 (.t 8) (.k 1)),qo 85 0 84,ql 86 1 85,Rq 87 (.Aa 2 2 (.t 8) (.k 1)),qo 88 1 87,ql 89 1 88,Rq 90 (.jo 4 1 [.str [],.str [],.str [],.str []] [(0,1,.t 80),(1,1,.t 83),(2,1,.t 86),(3,1,.t 89)]),Rq 91 (.q 768 [.k 0,.t 90]),qm 7 91] (.g
 [qm 92 7,qN 93 92 0] (.i 93 (.ml [Rq 94 (.qR [.str [],.str [],.str [],.str []] []),qs 4 8 94])))) (.e [qL 95 4 5,qL 96 4 8,Rq 97 (.eq false (.ag [2,2,2,2]) (.t 95) (.t 96)),qm 98 97,Rt 99 98 (.m 6),Rt 100 98 (.m 7),Rt 101 98 (.z .eql 99 100),qq 102 98 101,qm 103 102,Rt 104 103 (.q 637 []),qq 105 103 104,qm 4 105])))))))))⟩
def afr:aA:=ao (a:=cc 768) (by conv=>lhs;reduce;simp)
def Ed:VC:=ao (a:=bE afr [0] []) (by conv=>lhs;reduce;simp)
def Qv:aA:=ao (a:=fun a=>cy afr [a]) (by conv=>lhs;reduce;simp) Ed
def He:aA:=ao (a:=cc 769) (by conv=>lhs;reduce;simp)
def Vn:aA:=ao (a:=cc 774) (by conv=>lhs;reduce;simp)
def Gz:VC:=ao (a:=bE Vn [0,0] []) (by conv=>lhs;reduce;simp)
def Kn:VC:=ao (a:=fun a=>bE Vn [0] [a]) (by conv=>lhs;reduce;simp) Gz
def Wn:aA:=ao (a:=fun a=>cy Vn [a]) (by conv=>lhs;reduce;simp) Kn
def afs:aA:=ao (a:=cc 789) (by conv=>lhs;reduce;simp)
def Ko:VC:=ao (a:=bE afs [0] []) (by conv=>lhs;reduce;simp)
def Ls:aA:=ao (a:=fun a=>cy afs [a]) (by conv=>lhs;reduce;simp) Ko
def Vo:aA:=ao (a:=cc 790) (by conv=>lhs;reduce;simp)
def Kp:VC:=ao (a:=bE Vo [0,0] []) (by conv=>lhs;reduce;simp)
def Kq:VC:=ao (a:=fun a=>bE Vo [0] [a]) (by conv=>lhs;reduce;simp) Kp
def Qw:aA:=ao (a:=fun a=>cy Vo [a]) (by conv=>lhs;reduce;simp) Kq
def Po:aA:=ao (a:=cc 792) (by conv=>lhs;reduce;simp)
def od:VC:=ao (a:=bE Po [0,0,0] []) (by conv=>lhs;reduce;simp)
def Ee:VC:=ao (a:=fun a=>bE Po [0,0] [a]) (by conv=>lhs;reduce;simp) od
def GA:VC:=ao (a:=fun a=>bE Po [0] [a]) (by conv=>lhs;reduce;simp) Ee
def Wo:aA:=ao (a:=fun a=>cy Po [a]) (by conv=>lhs;reduce;simp) GA
def aft:aA:=ao (a:=cc 800) (by conv=>lhs;reduce;simp)
def Kr:VC:=ao (a:=bE aft [0] []) (by conv=>lhs;reduce;simp)
def Hf:aA:=ao (a:=fun a=>cy aft [a]) (by conv=>lhs;reduce;simp) Kr
def ER:aA:=ao (a:=cc 801) (by conv=>lhs;reduce;simp)
end
end VE
end
section
set_option maxHeartbeats 4000000
namespace VE
open lO (cc)
noncomputable section
def Vp:aA:=ao (a:=cc 788) (by conv=>lhs;reduce;simp)
def GB:VC:=ao (a:=bE Vp [0,0] []) (by conv=>lhs;reduce;simp)
def Ks:VC:=ao (a:=fun a=>bE Vp [0] [a]) (by conv=>lhs;reduce;simp) GB
def Lt:aA:=ao (a:=fun a=>cy Vp [a]) (by conv=>lhs;reduce;simp) Ks
end
end VE
end
section
namespace VE
open lO (cc)
noncomputable def Vq:Tr aA:=HM 9 [(29,cc 29),(46,Ry),(49,c49),(50,Yb),(62,Rz),(69,Yc),(70,Yd),(71,Ye),(73,Yf),(74,My),(86,fG),(88,cc 88),(98,RA),(99,Fi),(100,nE),(101,oz),(102,V6),(107,PU),(108,V7),(110,PV),(111,V8),(117,PW),(118,EJ),(119,c119),(122,KX),(123,KY),(124,G5),(125,PX),(129,G6),(130,V9),(136,KZ),(137,K0),(142,PY),(144,PZ),(145,Bl),(146,Wa),(147,K1),(148,Wb),(149,agx),(150,cc 150),(151,P0),(155,EK),(156,Wc),(157,K2),(158,G7),(159,P1),(160,G8),(163,P2),(164,nF),(165,K3),(166,CR),(168,P3),(169,zP),(172,P4),(202,cc 202),(203,P5),(228,K4),(229,cc 229),(230,cc 230),(231,K5),(232,nG),(241,K6),(243,cc 243),(245,cc 245),(246,cc 246),(247,cc 247),(252,cc 252),(262,K7),(263,dw),(264,K8),(265,P6),(266,P7),(267,K9),(268,La),(269,Lb),(271,We),(272,Lc),(273,EL),(274,P8),(275,P9),(276,q9),(277,EM),(278,Qa),(279,G9),(280,pq),(281,Qb),(282,Ld),(283,EN),(284,Wf),(285,Qc),(286,Qd),(287,Lf),(288,Qe),(289,zQ),(290,Ha),(291,Lg),(292,Bm),(293,CS),(294,CT),(295,Lh),(296,zR),(297,Li),(298,Qf),(299,CU),(300,mP),(301,Bn),(302,zS),(315,EO),(355,Qg),(389,Hb),(429,Qh),(430,Qi),(449,Hc),(634,Qj),(636,Lj),(637,cc 637),(639,Qk),(640,cc 640),(641,Wg),(642,Ql),(643,Qm),(644,Qn),(645,cc 645),(647,Lk),(648,Wh),(650,cc 650),(652,cc 652),(653,cc 653),(654,agy),(655,agz),(656,EP),(657,cc 657),(658,cc 658),(659,cc 659),(660,cc 660),(661,cc 661),(662,cc 662),(663,cc 663),(664,cc 664),(665,cc 665),(666,cc 666),(667,cc 667),(668,cc 668),(669,cc 669),(670,Qo),(671,cc 671),(672,agA),(673,Wi),(674,Qp),(675,cc 675),(676,Hd),(677,Qq),(678,Ll),(679,cc 679),(680,Qr),(685,Qs),(686,Lm),(687,agB),(688,agC),(689,Ln),(690,agD),(691,Lo),(692,EQ),(693,Wj),(694,cc 694),(695,cc 695),(696,cc 696),(697,cc 697),(698,cc 698),(699,cc 699),(700,cc 700),(701,cc 701),(702,cc 702),(703,cc 703),(704,cc 704),(705,cc 705),(709,cc 709),(710,cc 710),(711,cc 711),(712,cc 712),(713,cc 713),(715,cc 715),(716,Wk),(717,Qt),(718,agE),(719,Lp),(720,Lq),(721,cc 721),(722,cc 722),(723,cc 723),(724,agF),(725,Lr),(726,cc 726),(727,cc 727),(728,cc 728),(729,cc 729),(735,cc 735),(736,cc 736),(737,cc 737),(738,cc 738),(741,Wl),(742,Wm),(744,cc 744),(745,cc 745),(746,cc 746),(749,cc 749),(750,cc 750),(751,cc 751),(752,Qu),(753,cc 753),(757,rb),(768,Qv),(769,He),(774,Wn),(788,Lt),(789,Ls),(790,Qw),(792,Wo),(800,Hf),(801,ER)]
def agG:Tr (List AV->Option AV):=(.n 154 KI (.n 139 Cl (.n 135 KH (.n 128 Nz (.n 109 PS .l .l) .l) (.n 138 B5 .l .l)) (.n 152 NA (.n 143 zC .l .l) (.n 153 Nl .l .l))) (.n 173 Cp (.n 167 GW (.n 162 trimS .l .l) (.n 171 oW .l .l)) (.n 248 TC (.n 175 JS .l .l) (.n 251 Sj .l .l))))
noncomputable def prog:aF:=Vq.find
def aI:Lib:=⟨agG.find,fun _=>none⟩
end VE
end
section
namespace VE
namespace lO
open Go
open Go.Proofs
def aqx:Vq.mu (UH Tryz.prog ae br hd):=by
 delta Vq
 repeat' first | exact Tr.jL | refine Tr.kT (ams (by kernel_rfl) (by kernel_rfl)) ?_ ?_
end lO
end VE
end
