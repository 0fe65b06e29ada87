import Derived.Test.YtflgmingejdfnaaGreatDoorXak
import Derived.Test.YtflgmingejdfnaaGreatDoorXal
import Derived.Test.YtflgmingejdfnaaGreatDoorXah
set_option linter.all false
set_option maxRecDepth 100000
namespace VE
section
open mY (cc)
noncomputable def I7:Tr av:=(.n 130 zF (.n 68 Vt (.n 40 CP (.n 28 (cc 28) (.n 16 lf (.n 6 c6 (.n 4 c4 (.n 3 c3 .l .l) (.n 5 c5 .l .l)) (.n 10 iY (.n 9 c9 .l .l) .l)) (.n 21 F0 (.n 20 CL (.n 18 pY .l .l) .l) (.n 26 (cc 26) (.n 24 Vd .l .l) .l))) (.n 34 ot (.n 31 om (.n 30 ol (.n 29 (cc 29) .l .l) .l) (.n 33 CM (.n 32 KA .l .l) .l)) (.n 37 F6 (.n 36 F5 (.n 35 F3 .l .l) .l) (.n 39 CO (.n 38 CN .l .l) .l)))) (.n 56 Vi (.n 50 KC (.n 45 F9 (.n 42 Ve (.n 41 KB .l .l) (.n 44 F7 .l .l)) (.n 49 c49 (.n 46 CQ .l .l) .l)) (.n 53 Vf (.n 52 Gb (.n 51 Ga .l .l) .l) (.n 55 Vh (.n 54 Vg .l .l) .l))) (.n 62 Vn (.n 59 CR (.n 58 Gc (.n 57 Vj .l .l) .l) (.n 61 Vm (.n 60 Vk .l .l) .l)) (.n 65 Vq (.n 64 Vp (.n 63 Vo .l .l) .l) (.n 67 Vs (.n 66 Vr .l .l) .l))))) (.n 102 JB (.n 82 (cc 82) (.n 76 (cc 76) (.n 73 Gf (.n 70 Ge (.n 69 Gd .l .l) (.n 71 Vu .l .l)) (.n 75 Vv (.n 74 KD .l .l) .l)) (.n 79 (cc 79) (.n 78 (cc 78) (.n 77 (cc 77) .l .l) .l) (.n 81 (cc 81) (.n 80 (cc 80) .l .l) .l))) (.n 96 KE (.n 88 (cc 88) (.n 86 Vw (.n 83 (cc 83) .l .l) .l) (.n 95 Gg (.n 94 Ad .l .l) .l)) (.n 99 KF (.n 98 CT (.n 97 CS .l .l) .l) (.n 101 zE (.n 100 zD .l .l) .l)))) (.n 115 Tk (.n 108 Tf (.n 105 Tb (.n 104 Ta (.n 103 S9 .l .l) .l) (.n 107 Td (.n 106 Tc .l .l) .l)) (.n 112 Th (.n 111 Fl (.n 110 Tg .l .l) .l) (.n 114 Tj (.n 113 Ti .l .l) .l))) (.n 121 (cc 121) (.n 118 Tm (.n 117 B3 (.n 116 Tl .l .l) .l) (.n 120 (cc 120) (.n 119 c119 .l .l) .l)) (.n 124 Tn (.n 123 (cc 123) (.n 122 (cc 122) .l .l) .l) (.n 129 Tp (.n 125 To .l .l) .l)))))) (.n 285 TU (.n 168 TI (.n 150 Tz (.n 144 Tu (.n 136 Tq (.n 133 zG (.n 132 B4 .l .l) (.n 134 rH .l .l)) (.n 142 rI (.n 137 Tt .l .l) .l)) (.n 147 pk (.n 146 nQ (.n 145 Tv .l .l) .l) (.n 149 Tw (.n 148 zH .l .l) .l))) (.n 159 TF (.n 156 TC (.n 155 TB (.n 151 TA .l .l) .l) (.n 158 TE (.n 157 TD .l .l) .l)) (.n 164 mI (.n 163 pn (.n 160 (cc 160) .l .l) .l) (.n 166 TH (.n 165 TG .l .l) .l)))) (.n 273 rJ (.n 265 Fm (.n 262 TN (.n 172 TK (.n 169 TJ .l .l) (.n 261 TL .l .l)) (.n 264 TO (.n 263 cA .l .l) .l)) (.n 268 TP (.n 267 B5 (.n 266 aiH .l .l) .l) (.n 272 B6 (.n 271 TQ .l .l) .l))) (.n 279 TR (.n 276 kH (.n 275 Fp (.n 274 Fo .l .l) .l) (.n 278 Fs (.n 277 rK .l .l) .l)) (.n 282 B7 (.n 281 Ft (.n 280 jK .l .l) .l) (.n 284 TS (.n 283 aiI .l .l) .l))))) (.n 357 aiM (.n 298 Fv (.n 292 nR (.n 289 mJ (.n 287 B8 (.n 286 TV .l .l) (.n 288 Fu .l .l)) (.n 291 B9 (.n 290 zI .l .l) .l)) (.n 295 TW (.n 294 rL (.n 293 pq .l .l) .l) (.n 297 TX (.n 296 nS .l .l) .l))) (.n 307 Ua (.n 301 nT (.n 300 jn (.n 299 pw .l .l) .l) (.n 306 TZ (.n 302 TY .l .l) .l)) (.n 314 Uc (.n 309 aiJ (.n 308 Ub .l .l) .l) (.n 335 aiL (.n 315 aiK .l .l) .l)))) (.n 485 (cc 485) (.n 364 aiS (.n 361 aiP (.n 359 aiO (.n 358 aiN .l .l) .l) (.n 363 aiR (.n 362 aiQ .l .l) .l)) (.n 481 (cc 481) (.n 480 po (.n 365 aiT .l .l) .l) (.n 484 (cc 484) (.n 483 (cc 483) .l .l) .l))) (.n 491 (cc 491) (.n 488 (cc 488) (.n 487 (cc 487) (.n 486 (cc 486) .l .l) .l) (.n 490 (cc 490) (.n 489 (cc 489) .l .l) .l)) (.n 494 (cc 494) (.n 493 (cc 493) (.n 492 (cc 492) .l .l) .l) (.n 496 (cc 496) (.n 495 (cc 495) .l .l) .l)))))))
def Ud:Tr (List AV->Option AV):=(.n 153 Dm (.n 138 GX (.n 128 Dy (.n 109 Ff .l .l) (.n 135 EI .l .l)) (.n 143 qQ (.n 139 IA .l .l) (.n 152 Dz .l .l))) (.n 171 Es (.n 162 trimS (.n 154 EJ .l .l) (.n 167 EK .l .l)) (.n 175 Eu (.n 173 Et .l .l) .l)))
noncomputable def prog:aA:=I7.find
def aI:Lib:=⟨Ud.find,fun _=>none⟩
end
section
namespace mY
open Go
open Go.Proofs
def acE:I7.iG (IR Tryz.prog ae bE hd):=by
 delta I7
 repeat' first | exact Tr.gi | refine Tr.hY (Y0 (by kernel_rfl) (by kernel_rfl)) ?_ ?_
end mY
end
end VE
