import Derived.Test.YtlkgmaenobiooaaGreatDoorTah
import Derived.Test.YtlkgmaenobiooaaGreatDoorTai
import Derived.Test.YtlkgmaenobiooaaGreatDoorTae
set_option linter.all false
set_option maxRecDepth 100000
namespace VE
section
open zq (cc)
noncomputable def Ws:Tr aI:=(.n 231 (cc 231) (.n 164 iJ (.n 119 c119 (.n 86 dV (.n 62 IC (.n 49 c49 (.n 29 (cc 29) (.n 28 (cc 28) .l .l) (.n 46 zp .l .l)) (.n 59 c59 (.n 50 IB .l .l) .l)) (.n 73 Dj (.n 70 ID (.n 69 Nr .l .l) (.n 71 nU .l .l)) (.n 84 (cc 84) (.n 74 Bl .l .l) .l))) (.n 107 Qg (.n 100 mK (.n 98 SQ (.n 88 jJ .l .l) (.n 99 Fv .l .l)) (.n 102 W1 (.n 101 lB .l .l) .l)) (.n 111 W3 (.n 110 Qh (.n 108 W2 .l .l) .l) (.n 118 EB (.n 117 Qi .l .l) .l)))) (.n 146 As (.n 130 Hf (.n 126 (cc 126) (.n 124 EC (.n 123 (cc 123) .l .l) (.n 125 Qj .l .l)) (.n 129 He (.n 127 (cc 127) .l .l) .l)) (.n 142 Qk (.n 137 LS (.n 136 LR .l .l) .l) (.n 145 Ar (.n 144 Ql .l .l) .l))) (.n 156 W5 (.n 150 aDo (.n 148 Hg (.n 147 sF .l .l) (.n 149 W4 .l .l)) (.n 155 Qn (.n 151 Qm .l .l) .l)) (.n 159 Qo (.n 158 Hh (.n 157 LU .l .l) .l) (.n 163 At (.n 161 Hi .l .l) .l))))) (.n 204 (cc 204) (.n 191 CB (.n 180 aDp (.n 169 sG (.n 166 CA (.n 165 LV .l .l) (.n 168 Qp .l .l)) (.n 179 (cc 179) (.n 172 Qq .l .l) .l)) (.n 188 W6 (.n 186 (cc 186) (.n 185 (cc 185) .l .l) (.n 187 Qr .l .l)) (.n 190 LW (.n 189 Hj .l .l) .l))) (.n 198 c198 (.n 195 (cc 195) (.n 193 (cc 193) (.n 192 ED .l .l) (.n 194 (cc 194) .l .l)) (.n 197 Hk (.n 196 (cc 196) .l .l) .l)) (.n 201 (cc 201) (.n 200 (cc 200) (.n 199 Hl .l .l) .l) (.n 203 (cc 203) (.n 202 (cc 202) .l .l) .l)))) (.n 218 (cc 218) (.n 212 Hn (.n 209 Qs (.n 206 Au (.n 205 (cc 205) .l .l) (.n 208 aDq .l .l)) (.n 211 Qt (.n 210 Hm .l .l) .l)) (.n 215 Ho (.n 214 rF (.n 213 CC .l .l) .l) (.n 217 (cc 217) (.n 216 EE .l .l) .l))) (.n 225 (cc 225) (.n 222 Qv (.n 220 Qu (.n 219 Hr .l .l) (.n 221 EF .l .l)) (.n 224 Qx (.n 223 Qw .l .l) .l)) (.n 228 (cc 228) (.n 227 (cc 227) (.n 226 (cc 226) .l .l) .l) (.n 230 (cc 230) (.n 229 (cc 229) .l .l) .l)))))) (.n 299 CG (.n 273 EJ (.n 246 (cc 246) (.n 238 (cc 238) (.n 235 CD (.n 233 EG (.n 232 (cc 232) .l .l) (.n 234 EH .l .l)) (.n 237 Av (.n 236 EI .l .l) .l)) (.n 243 (cc 243) (.n 240 (cc 240) (.n 239 (cc 239) .l .l) (.n 241 (cc 241) .l .l)) (.n 245 (cc 245) (.n 244 (cc 244) .l .l) .l))) (.n 266 Hs (.n 262 LX (.n 252 (cc 252) (.n 247 (cc 247) .l .l) (.n 261 nJ .l .l)) (.n 264 LY (.n 263 dH .l .l) .l)) (.n 269 Ht (.n 268 L2 (.n 267 LZ .l .l) .l) (.n 272 L3 (.n 271 W7 .l .l) .l)))) (.n 286 QB (.n 280 oC (.n 277 EK (.n 275 Qz (.n 274 Qy .l .l) (.n 276 pV .l .l)) (.n 279 Hu (.n 278 QA .l .l) .l)) (.n 283 Aw (.n 282 L4 (.n 281 W8 .l .l) .l) (.n 285 Hv (.n 284 W9 .l .l) .l))) (.n 293 CE (.n 290 Hw (.n 288 QC (.n 287 L5 .l .l) (.n 289 sH .l .l)) (.n 292 Ax (.n 291 L6 .l .l) .l)) (.n 296 sI (.n 295 L7 (.n 294 CF .l .l) .l) (.n 298 QD (.n 297 L8 .l .l) .l))))) (.n 436 QF (.n 395 CI (.n 336 EL (.n 315 fU (.n 301 Ay (.n 300 ma .l .l) (.n 302 sJ .l .l)) (.n 319 Hx (.n 316 Az .l .l) .l)) (.n 359 pW (.n 339 AA (.n 338 CH .l .l) .l) (.n 393 L9 (.n 389 EM .l .l) .l))) (.n 419 mL (.n 402 Ma (.n 400 Hy (.n 396 EN .l .l) (.n 401 Hz .l .l)) (.n 418 CJ (.n 415 Xa .l .l) .l)) (.n 424 sK (.n 422 EO (.n 420 QE .l .l) .l) (.n 435 Mb (.n 434 nK .l .l) .l)))) (.n 449 CL (.n 443 QI (.n 440 HA (.n 438 Mc (.n 437 QG .l .l) (.n 439 Me .l .l)) (.n 442 QH (.n 441 EP .l .l) .l)) (.n 446 QM (.n 445 QK (.n 444 QJ .l .l) .l) (.n 448 CK (.n 447 HB .l .l) .l))) (.n 456 QO (.n 453 HC (.n 451 CN (.n 450 CM .l .l) (.n 452 Mf .l .l)) (.n 455 QN (.n 454 HE .l .l) .l)) (.n 465 Mg (.n 458 QQ (.n 457 QP .l .l) .l) (.n 467 Mi (.n 466 Mh .l .l) .l)))))))
def amh:Tr (List AV->Option AV):=(.n 154 LB (.n 139 BW (.n 135 LA (.n 128 Oh (.n 109 Qf .l .l) .l) (.n 138 BH .l .l)) (.n 152 Oi (.n 143 sr .l .l) (.n 153 N8 .l .l))) (.n 173 Ca (.n 167 GY (.n 162 trimS .l .l) (.n 171 ol .l .l)) (.n 248 Va (.n 175 KQ .l .l) (.n 251 TY .l .l))))
noncomputable def prog:aJ:=Ws.find
def aE:Lib:=⟨amh.find,fun _=>none⟩
end
section
namespace zq
open Go
open Go.Proofs
def awg:Ws.mj (VW Tryz.prog aj cy hd):=by
 delta Ws
 repeat' first | exact Tr.fD | refine Tr.il (asm (by kernel_rfl) (by kernel_rfl)) ?_ ?_
end zq
end
end VE
