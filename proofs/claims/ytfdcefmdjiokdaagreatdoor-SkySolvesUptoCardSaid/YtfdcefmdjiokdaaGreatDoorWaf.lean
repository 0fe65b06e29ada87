import Derived.Test.YtfdcefmdjiokdaaGreatDoorWae
set_option linter.all false
set_option maxRecDepth 100000
section
set_option maxHeartbeats 4000000
namespace VE
open sS (cc)
noncomputable section
def UI:aw:=an (a:=cc 258) (by conv=>lhs;reduce;simp)
def akx:aw:=an (a:=cc 261) (by conv=>lhs;reduce;simp)
def Jf:VC:=an (a:=bh akx [0] []) (by conv=>lhs;reduce;simp)
def Ka:aw:=an (a:=fun a=>bT akx [a]) (by conv=>lhs;reduce;simp) Jf
def OO:aw:=an (a:=cc 262) (by conv=>lhs;reduce;simp)
def dN:aw:=an (a:=cc 263) (by conv=>lhs;reduce;simp)
def OP:aw:=an (a:=cc 264) (by conv=>lhs;reduce)
def Hk:aw:=an (a:=cc 265) (by conv=>lhs;reduce)
def OQ:aw:=an (a:=cc 267) (by conv=>lhs;reduce)
def OR:aw:=an (a:=cc 268) (by conv=>lhs;reduce;simp)
def OS:aw:=an (a:=cc 271) (by conv=>lhs;reduce)
def aky:aw:=an (a:=cc 272) (by conv=>lhs;reduce;simp)
def Jg:VC:=an (a:=bh aky [0] []) (by conv=>lhs;reduce;simp)
def OT:aw:=an (a:=fun a=>bT aky [a]) (by conv=>lhs;reduce;simp) Jg
def Hl:aw:=an (a:=cc 273) (by conv=>lhs;reduce;simp)
def UJ:aw:=an (a:=cc 274) (by conv=>lhs;reduce;simp)
def akz:aw:=an (a:=cc 275) (by conv=>lhs;reduce;simp)
def NJ:VC:=an (a:=bh akz [0] []) (by conv=>lhs;reduce;simp)
def UK:aw:=an (a:=fun a=>bT akz [a]) (by conv=>lhs;reduce) NJ
def zU:aw:=an (a:=cc 276) (by conv=>lhs;reduce;simp)
def Hm:aw:=an (a:=cc 277) (by conv=>lhs;reduce;simp)
def UL:aw:=an (a:=cc 278) (by conv=>lhs;reduce)
def Kb:aw:=an (a:=cc 279) (by conv=>lhs;reduce;simp)
def sE:aw:=an (a:=cc 280) (by conv=>lhs;reduce;simp)
def akA:aw:=an (a:=cc 281) (by conv=>lhs;reduce;simp)
def BD:VC:=an (a:=bh akA [0] []) (by conv=>lhs;reduce;simp)
def UM:aw:=an (a:=fun a=>bT akA [a]) (by conv=>lhs;reduce;simp) BD
def akB:aw:=an (a:=cc 282) (by conv=>lhs;reduce;simp)
def NK:VC:=an (a:=bh akB [0] []) (by conv=>lhs;reduce;simp)
def OU:aw:=an (a:=fun a=>bT akB [a]) (by conv=>lhs;reduce;simp) NK
def aaZ:aw:=an (a:=cc 284) (by conv=>lhs;reduce)
def UN:aw:=an (a:=cc 285) (by conv=>lhs;reduce;simp)
def UO:aw:=an (a:=cc 286) (by conv=>lhs;reduce;simp)
def akC:aw:=an (a:=cc 287) (by conv=>lhs;reduce;simp)
def GG:VC:=an (a:=bh akC [0] []) (by conv=>lhs;reduce;simp)
def OV:aw:=an (a:=fun a=>bT akC [a]) (by conv=>lhs;reduce;simp) GG
def akD:aw:=an (a:=cc 288) (by conv=>lhs;reduce;simp)
def CU:VC:=an (a:=bh akD [0] []) (by conv=>lhs;reduce;simp)
def UP:aw:=an (a:=fun a=>bT akD [a]) (by conv=>lhs;reduce;simp) CU
def Ou:aw:=an (a:=cc 289) (by conv=>lhs;reduce;simp)
def NL:VC:=an (a:=bh Ou [0] []) (by conv=>lhs;reduce;simp)
def Jh:VC:=an (a:=bh Ou [1,0] []) (by conv=>lhs;reduce;simp)
def NM:VC:=an (a:=bh Ou [1,1] []) (by conv=>lhs;reduce;simp)
def NN:VC:=an (a:=fun a b=>bh Ou [1] [a,b]) (by conv=>lhs;reduce;simp) Jh NM
def BV:aw:=an (a:=fun a b=>bT Ou [a,b]) (by conv=>lhs;reduce;simp) NL NN
def akE:aw:=an (a:=cc 290) (by conv=>lhs;reduce;simp)
def NO:VC:=an (a:=bh akE [0] []) (by conv=>lhs;reduce;simp)
def Kc:aw:=an (a:=fun a=>bT akE [a]) (by conv=>lhs;reduce;simp) NO
def akF:aw:=an (a:=cc 291) (by conv=>lhs;reduce;simp)
def NP:VC:=an (a:=bh akF [0] []) (by conv=>lhs;reduce;simp)
def OW:aw:=an (a:=fun a=>bT akF [a]) (by conv=>lhs;reduce;simp) NP
def akG:aw:=an (a:=cc 292) (by conv=>lhs;reduce;simp)
def sn:VC:=an (a:=bh akG [0] []) (by conv=>lhs;reduce;simp)
def Df:aw:=an (a:=fun a=>bT akG [a]) (by conv=>lhs;reduce) sn
def Z3:aw:=an (a:=cc 293) (by conv=>lhs;reduce;simp)
def NQ:VC:=an (a:=bh Z3 [0,0] []) (by conv=>lhs;reduce;simp)
def NR:VC:=an (a:=fun a=>bh Z3 [0] [a]) (by conv=>lhs;reduce;simp) NQ
def EZ:aw:=an (a:=fun a=>bT Z3 [a]) (by conv=>lhs;reduce;simp) NR
def E0:aw:=an (a:=cc 294) (by conv=>lhs;reduce;simp)
def akH:aw:=an (a:=cc 295) (by conv=>lhs;reduce;simp)
def zK:VC:=an (a:=bh akH [0] []) (by conv=>lhs;reduce;simp)
def OX:aw:=an (a:=fun a=>bT akH [a]) (by conv=>lhs;reduce;simp) zK
def akI:aw:=an (a:=cc 296) (by conv=>lhs;reduce;simp)
def GH:VC:=an (a:=bh akI [0] []) (by conv=>lhs;reduce;simp)
def BW:aw:=an (a:=fun a=>bT akI [a]) (by conv=>lhs;reduce;simp) GH
def akJ:aw:=an (a:=cc 297) (by conv=>lhs;reduce;simp)
def BE:VC:=an (a:=bh akJ [0] []) (by conv=>lhs;reduce;simp)
def OY:aw:=an (a:=fun a=>bT akJ [a]) (by conv=>lhs;reduce;simp) BE
def UQ:aw:=an (a:=cc 298) (by conv=>lhs;reduce)
def akK:aw:=an (a:=cc 299) (by conv=>lhs;reduce;simp)
def NS:VC:=an (a:=bh akK [0] []) (by conv=>lhs;reduce;simp)
def E3:aw:=an (a:=fun a=>bT akK [a]) (by conv=>lhs;reduce;simp) NS
def akL:aw:=an (a:=cc 300) (by conv=>lhs;reduce;simp)
def GI:VC:=an (a:=bh akL [0] []) (by conv=>lhs;reduce;simp)
def pk:aw:=an (a:=fun a=>bT akL [a]) (by conv=>lhs;reduce) GI
def akM:aw:=an (a:=cc 301) (by conv=>lhs;reduce;simp)
def Er:VC:=an (a:=bh akM [0] []) (by conv=>lhs;reduce;simp)
def Dg:aw:=an (a:=fun a=>bT akM [a]) (by conv=>lhs;reduce;simp) Er
def BX:aw:=an (a:=cc 302) (by conv=>lhs;reduce;simp)
end
end VE
end
section
set_option maxHeartbeats 4000000
namespace VE
open sS (cc)
noncomputable section
def aa0:aw:=an (a:=cc 306) (by conv=>lhs;reduce;simp)
def aa1:aw:=an (a:=cc 307) (by conv=>lhs;reduce;simp)
def aa2:aw:=an (a:=cc 308) (by conv=>lhs;reduce;simp)
def OZ:aw:=an (a:=cc 314) (by conv=>lhs;reduce;simp)
def UR:aw:=an (a:=cc 315) (by conv=>lhs;reduce;simp)
def O0:aw:=an (a:=cc 319) (by conv=>lhs;reduce)
def akN:aw:=an (a:=cc 321) (by conv=>lhs;reduce;simp)
def GJ:VC:=an (a:=bh akN [0] []) (by conv=>lhs;reduce;simp)
def US:aw:=an (a:=fun a=>bT akN [a]) (by conv=>lhs;reduce;simp) GJ
def akO:aw:=an (a:=cc 331) (by conv=>lhs;reduce;simp)
def NT:VC:=an (a:=bh akO [0] []) (by conv=>lhs;reduce;simp)
def UT:aw:=an (a:=fun a=>bT akO [a]) (by conv=>lhs;reduce;simp) NT
def UU:aw:=an (a:=cc 335) (by conv=>lhs;reduce;simp)
def akP:aw:=an (a:=cc 343) (by conv=>lhs;reduce;simp)
def CV:VC:=an (a:=bh akP [0] []) (by conv=>lhs;reduce;simp)
def Kd:aw:=an (a:=fun a=>bT akP [a]) (by conv=>lhs;reduce;simp) CV
def Z4:aw:=an (a:=cc 347) (by conv=>lhs;reduce;simp)
def GK:VC:=an (a:=bh Z4 [0,0] []) (by conv=>lhs;reduce;simp)
def Ji:VC:=an (a:=fun a=>bh Z4 [0] [a]) (by conv=>lhs;reduce;simp) GK
def UW:aw:=an (a:=fun a=>bT Z4 [a]) (by conv=>lhs;reduce;simp) Ji
def akQ:aw:=an (a:=cc 349) (by conv=>lhs;reduce;simp)
def Jj:VC:=an (a:=bh akQ [0] []) (by conv=>lhs;reduce;simp)
def UX:aw:=an (a:=fun a=>bT akQ [a]) (by conv=>lhs;reduce;simp) Jj
def O1:aw:=an (a:=cc 351) (by conv=>lhs;reduce;simp)
def akR:aw:=an (a:=cc 352) (by conv=>lhs;reduce;simp)
def NU:VC:=an (a:=bh akR [0] []) (by conv=>lhs;reduce;simp)
def O2:aw:=an (a:=fun a=>bT akR [a]) (by conv=>lhs;reduce;simp) NU
def Hn:aw:=an (a:=cc 357) (by conv=>lhs;reduce;simp)
def E4:aw:=an (a:=cc 358) (by conv=>lhs;reduce)
def qw:aw:=an (a:=cc 359) (by conv=>lhs;reduce;simp)
def E5:aw:=an (a:=cc 361) (by conv=>lhs;reduce;simp)
def akS:aw:=an (a:=cc 364) (by conv=>lhs;reduce;simp)
def AF:VC:=an (a:=bh akS [0] []) (by conv=>lhs;reduce;simp)
def Ho:aw:=an (a:=fun a=>bT akS [a]) (by conv=>lhs;reduce;simp) AF
def AI:aw:=an (a:=cc 366) (by conv=>lhs;reduce;simp)
def Jk:VC:=an (a:=bh AI [0] []) (by conv=>lhs;reduce;simp)
def Jl:VC:=an (a:=bh AI [1] []) (by conv=>lhs;reduce;simp)
def Jm:VC:=an (a:=bh AI [2] []) (by conv=>lhs;reduce;simp)
def GL:VC:=an (a:=bh AI [3,0,0] []) (by conv=>lhs;reduce;simp)
def Jn:VC:=an (a:=fun a=>bh AI [3,0] [a]) (by conv=>lhs;reduce;simp) GL
def Jo:VC:=an (a:=fun a=>bh AI [3] [a]) (by conv=>lhs;reduce;simp) Jn
def GM:VC:=an (a:=bh AI [4] []) (by conv=>lhs;reduce;simp)
def GN:VC:=an (a:=bh AI [5] []) (by conv=>lhs;reduce;simp)
def NV:VC:=an (a:=bh AI [6] []) (by conv=>lhs;reduce;simp)
def NW:VC:=an (a:=bh AI [7] []) (by conv=>lhs;reduce;simp)
def bI:aw:=an (a:=fun a b c d e f g h=>bT AI [a,b,c,d,e,f,g,h]) (by conv=>lhs;reduce;simp) Jk Jl Jm Jo GM GN NV NW
def Ke:aw:=an (a:=cc 367) (by conv=>lhs;reduce;simp)
def O3:aw:=an (a:=cc 368) (by conv=>lhs;reduce;simp)
def akT:aw:=an (a:=cc 369) (by conv=>lhs;reduce;simp)
def GO:VC:=an (a:=bh akT [0] []) (by conv=>lhs;reduce;simp)
def O4:aw:=an (a:=fun a=>bT akT [a]) (by conv=>lhs;reduce;simp) GO
def akU:aw:=an (a:=cc 370) (by conv=>lhs;reduce;simp)
def Jp:VC:=an (a:=bh akU [0] []) (by conv=>lhs;reduce;simp)
def Kf:aw:=an (a:=fun a=>bT akU [a]) (by conv=>lhs;reduce;simp) Jp
end
end VE
end
section
namespace VE
open sS (cc)
noncomputable def Z5:Tr aw:=KQ 9 [(1,cc 1),(3,c3),(4,c4),(5,cc 5),(9,c9),(14,cc 14),(15,cc 15),(16,cc 16),(17,cc 17),(18,cc 18),(19,cc 19),(20,c20),(21,cc 21),(22,cc 22),(23,cc 23),(24,c24),(25,cc 25),(26,HR),(27,DF),(28,cc 28),(29,V1),(30,DG),(31,Cj),(32,c32),(33,KR),(34,HS),(35,cc 35),(36,cc 36),(37,V2),(38,cc 38),(39,cc 39),(40,c40),(41,c41),(42,V3),(44,cc 44),(45,cc 45),(46,V4),(47,cc 47),(48,cc 48),(49,c49),(50,c50),(51,V5),(52,cc 52),(53,c53),(54,c54),(55,V6),(56,c56),(57,c57),(58,c58),(59,cc 59),(60,c60),(61,Cl),(62,V7),(63,P0),(64,V8),(65,c65),(66,c66),(67,c67),(68,c68),(69,c69),(70,c70),(71,c71),(72,cc 72),(73,c73),(74,P1),(75,c75),(76,P2),(77,V9),(78,P3),(79,Wa),(80,Wb),(81,P4),(82,KS),(83,KT),(84,KU),(85,Wc),(86,gL),(87,We),(88,KV),(89,Wf),(90,DH),(91,Wg),(92,Wh),(93,Wi),(94,KW),(95,Wj),(96,c96),(97,c97),(98,Wk),(99,HT),(100,qu),(101,rD),(102,aaP),(103,OD),(104,Us),(105,Ut),(106,Uu),(107,Uv),(108,aaQ),(110,Uw),(111,aaR),(112,aaS),(113,alZ),(114,al0),(115,aaT),(116,Ux),(117,Uy),(118,Hi),(119,c119),(120,OE),(121,OF),(122,J0),(123,J3),(124,J4),(125,Uz),(126,OG),(127,OH),(129,J5),(130,aaU),(131,EX),(132,OI),(133,al1),(134,J6),(136,OJ),(137,OK),(142,UA),(144,UB),(145,De),(146,aaV),(147,OL),(148,aaW),(149,aaX),(150,J7),(151,UC),(155,UD),(156,aaY),(157,OM),(158,J8),(159,UE),(160,Hj),(161,J9),(163,UF),(164,qv),(165,ON),(166,EY),(168,UG),(169,BU),(172,UH),(258,UI),(261,Ka),(262,OO),(263,dN),(264,OP),(265,Hk),(267,OQ),(268,OR),(271,OS),(272,OT),(273,Hl),(274,UJ),(275,UK),(276,zU),(277,Hm),(278,UL),(279,Kb),(280,sE),(281,UM),(282,OU),(284,aaZ),(285,UN),(286,UO),(287,OV),(288,UP),(289,BV),(290,Kc),(291,OW),(292,Df),(293,EZ),(294,E0),(295,OX),(296,BW),(297,OY),(298,UQ),(299,E3),(300,pk),(301,Dg),(302,BX),(306,aa0),(307,aa1),(308,aa2),(314,OZ),(315,UR),(319,O0),(321,US),(331,UT),(335,UU),(343,Kd),(347,UW),(349,UX),(351,O1),(352,O2),(357,Hn),(358,E4),(359,qw),(361,E5),(364,Ho),(366,bI),(367,Ke),(368,O3),(369,O4),(370,Kf)]
def al2:Tr (List AV->Option AV):=(.n 153 Re (.n 138 D1 (.n 128 Rw (.n 109 Uo .l .l) (.n 135 Oe .l .l)) (.n 143 BC (.n 139 Eg .l .l) (.n 152 Rx .l .l))) (.n 171 sj (.n 162 trimS (.n 154 Of .l .l) (.n 167 JF .l .l)) (.n 175 Nx (.n 173 En .l .l) .l)))
noncomputable def prog:aJ:=Z5.find
def a8:Lib:=⟨al2.find,fun _=>none⟩
end VE
end
section
namespace VE
namespace sS
open Go
open Go.Proofs
def awc:Z5.oI (Zq Tryz.prog ai cg hd):=by
 delta Z5
 repeat' first | exact Tr.mI | refine Tr.oe (arR (by kernel_rfl) (by kernel_rfl)) ?_ ?_
end sS
end VE
end
