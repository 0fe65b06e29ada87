import Derived.Test.YtflgmingejdfnaaGreatDoorVak
import Derived.Test.YtflgmingejdfnaaGreatDoorVal
import Derived.Test.YtflgmingejdfnaaGreatDoorVah
set_option linter.all false
set_option maxRecDepth 100000
namespace VE
section
open r9 (cc)
noncomputable def R8:Tr aI:=(.n 112 SM (.n 60 UX (.n 34 Ac (.n 21 JQ (.n 15 (cc 15) (.n 5 c5 (.n 3 c3 (.n 1 c1 .l .l) (.n 4 c4 .l .l)) (.n 14 Aa (.n 9 c9 .l .l) .l)) (.n 18 (cc 18) (.n 17 (cc 17) (.n 16 (cc 16) .l .l) .l) (.n 20 Fo (.n 19 (cc 19) .l .l) .l))) (.n 28 (cc 28) (.n 25 c25 (.n 23 (cc 23) (.n 22 c22 .l .l) (.n 24 Ot .l .l)) (.n 27 (cc 27) (.n 26 (cc 26) .l .l) .l)) (.n 31 Ab (.n 30 BK (.n 29 (cc 29) .l .l) .l) (.n 33 JR (.n 32 UP .l .l) .l)))) (.n 48 (cc 48) (.n 41 UQ (.n 38 JS (.n 36 Ov (.n 35 Ou .l .l) (.n 37 Ow .l .l)) (.n 40 JU (.n 39 JT .l .l) .l)) (.n 45 (cc 45) (.n 44 (cc 44) (.n 42 Ox .l .l) .l) (.n 47 (cc 47) (.n 46 Oy .l .l) .l))) (.n 54 UT (.n 51 Oz (.n 50 UR (.n 49 c49 .l .l) .l) (.n 53 US (.n 52 (cc 52) .l .l) .l)) (.n 57 OB (.n 56 UU (.n 55 OA .l .l) .l) (.n 59 Fp (.n 58 UW .l .l) .l))))) (.n 85 (cc 85) (.n 73 U4 (.n 67 UY (.n 64 OD (.n 62 OC (.n 61 JV .l .l) (.n 63 JW .l .l)) (.n 66 OF (.n 65 OE .l .l) .l)) (.n 70 U2 (.n 69 U1 (.n 68 UZ .l .l) .l) (.n 72 c72 (.n 71 U3 .l .l) .l))) (.n 79 (cc 79) (.n 76 (cc 76) (.n 75 U5 (.n 74 JX .l .l) .l) (.n 78 (cc 78) (.n 77 (cc 77) .l .l) .l)) (.n 82 (cc 82) (.n 81 (cc 81) (.n 80 (cc 80) .l .l) .l) (.n 84 (cc 84) (.n 83 (cc 83) .l .l) .l)))) (.n 99 Dh (.n 92 (cc 92) (.n 89 (cc 89) (.n 87 (cc 87) (.n 86 fk .l .l) (.n 88 (cc 88) .l .l)) (.n 91 (cc 91) (.n 90 (cc 90) .l .l) .l)) (.n 96 U6 (.n 95 OG (.n 94 Fs .l .l) .l) (.n 98 OI (.n 97 OH .l .l) .l))) (.n 105 M4 (.n 102 SJ (.n 101 kP (.n 100 mv .l .l) .l) (.n 104 M3 (.n 103 IM .l .l) .l)) (.n 108 SK (.n 107 M6 (.n 106 M5 .l .l) .l) (.n 111 SL (.n 110 M7 .l .l) .l)))))) (.n 268 IV (.n 145 zu (.n 125 Nb (.n 119 c119 (.n 116 M9 (.n 114 SN (.n 113 M8 .l .l) (.n 115 SO .l .l)) (.n 118 CO (.n 117 Na .l .l) .l)) (.n 122 (cc 122) (.n 121 (cc 121) (.n 120 (cc 120) .l .l) .l) (.n 124 EL (.n 123 (cc 123) .l .l) .l))) (.n 133 EO (.n 130 EN (.n 127 (cc 127) (.n 126 (cc 126) .l .l) (.n 129 EM .l .l)) (.n 132 IN (.n 131 (cc 131) .l .l) .l)) (.n 137 IQ (.n 136 IP (.n 134 CP .l .l) .l) (.n 144 Nf (.n 142 Nc .l .l) .l)))) (.n 161 at2 (.n 155 Nh (.n 149 SP (.n 147 rz (.n 146 zx .l .l) (.n 148 EP .l .l)) (.n 151 Ng (.n 150 EQ .l .l) .l)) (.n 158 ER (.n 157 IR (.n 156 SQ .l .l) .l) (.n 160 (cc 160) (.n 159 Ni .l .l) .l))) (.n 169 rA (.n 165 IS (.n 164 ir (.n 163 zy .l .l) .l) (.n 168 Nj (.n 166 Be .l .l) .l)) (.n 262 IT (.n 261 Nl (.n 172 Nk .l .l) .l) (.n 264 IU (.n 263 dF .l .l) .l))))) (.n 296 rC (.n 284 SU (.n 277 CR (.n 274 Nn (.n 272 IW (.n 271 SR .l .l) (.n 273 CQ .l .l)) (.n 276 oP (.n 275 No .l .l) .l)) (.n 280 nI (.n 279 ES (.n 278 Np .l .l) .l) (.n 282 IX (.n 281 SS .l .l) .l))) (.n 290 ET (.n 287 IY (.n 286 Nr (.n 285 Nq .l .l) .l) (.n 289 rB (.n 288 Ns .l .l) .l)) (.n 293 Bf (.n 292 zA (.n 291 IZ .l .l) .l) (.n 295 I0 (.n 294 Bg .l .l) .l)))) (.n 335 Nv (.n 306 SV (.n 300 lG (.n 298 Nt (.n 297 I1 .l .l) (.n 299 Bh .l .l)) (.n 302 rD (.n 301 zB .l .l) .l)) (.n 309 EU (.n 308 SX (.n 307 SW .l .l) .l) (.n 315 I3 (.n 314 I2 .l .l) .l))) (.n 360 zC (.n 357 EV (.n 340 Bj (.n 338 Bi .l .l) .l) (.n 359 oQ (.n 358 EW .l .l) .l)) (.n 363 Nw (.n 362 EX (.n 361 Bk .l .l) .l) (.n 365 I4 (.n 364 Nx .l .l) .l)))))))
def ae5:Tr (List AV->Option AV):=(.n 153 KF (.n 138 At (.n 128 KT (.n 109 M0 .l .l) (.n 135 Iy .l .l)) (.n 143 q9 (.n 139 AL .l .l) (.n 152 KU .l .l))) (.n 171 nA (.n 162 trimS (.n 154 Iz .l .l) (.n 167 Ey .l .l)) (.n 175 HV (.n 173 AP .l .l) .l)))
noncomputable def prog:aK:=R8.find
def aU:Lib:=⟨ae5.find,fun _=>none⟩
end
section
namespace r9
open Go
open Go.Proofs
def aoa:R8.lQ (RB Tryz.prog ah cm hd):=by
 delta R8
 repeat' first | exact Tr.jv | refine Tr.kJ (ajR (by kernel_rfl) (by kernel_rfl)) ?_ ?_
end r9
end
end VE
