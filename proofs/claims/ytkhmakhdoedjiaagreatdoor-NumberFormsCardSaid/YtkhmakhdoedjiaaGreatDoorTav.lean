import Derived.Test.YtkhmakhdoedjiaaGreatDoorTas
import Derived.Test.YtkhmakhdoedjiaaGreatDoorTat
import Derived.Test.YtkhmakhdoedjiaaGreatDoorTau
import Derived.Test.YtkhmakhdoedjiaaGreatDoorTao
set_option linter.all false
set_option maxRecDepth 100000
section
namespace VE
open Lk1 (cc)
noncomputable def progT:Tr Fnc:=(.n 204 (cc 204) (.n 146 zmm (.n 102 zOj (.n 71 c71 (.n 50 c50 (.n 46 c46 (.n 29 (cc 29) (.n 28 (cc 28) .l .l) .l) (.n 49 c49 .l .l)) (.n 69 c69 (.n 62 c62 (.n 59 c59 .l .l) .l) (.n 70 c70 .l .l))) (.n 88 (cc 88) (.n 84 (cc 84) (.n 74 c74 (.n 73 c73 .l .l) .l) (.n 86 c86 .l .l)) (.n 100 c100 (.n 99 c99 (.n 98 c98 .l .l) .l) (.n 101 c101 .l .l)))) (.n 125 zz9 (.n 117 zxM (.n 110 zzS (.n 108 zM4 (.n 107 zBz .l .l) .l) (.n 111 zBY .l .l)) (.n 123 (cc 123) (.n 119 c119 (.n 118 zpH .l .l) .l) (.n 124 zvl .l .l))) (.n 136 zx6 (.n 129 zve (.n 127 (cc 127) (.n 126 (cc 126) .l .l) .l) (.n 130 zun .l .l)) (.n 144 zAS (.n 142 zBW (.n 137 zxO .l .l) .l) (.n 145 zmh .l .l))))) (.n 180 zP3 (.n 159 zBG (.n 151 zAq (.n 149 zAM (.n 148 zuf (.n 147 zlb .l .l) .l) (.n 150 zQZ .l .l)) (.n 157 zxm (.n 156 zG9 (.n 155 zCK .l .l) .l) (.n 158 zvC .l .l))) (.n 166 zne (.n 164 c164 (.n 163 zmR (.n 161 zPO .l .l) .l) (.n 165 zwz .l .l)) (.n 172 zBA (.n 169 c169 (.n 168 zAo .l .l) .l) (.n 179 (cc 179) .l .l)))) (.n 194 (cc 194) (.n 189 (cc 189) (.n 187 (cc 187) (.n 186 zBC (.n 185 zCm .l .l) .l) (.n 188 (cc 188) .l .l)) (.n 192 (cc 192) (.n 191 (cc 191) (.n 190 (cc 190) .l .l) .l) (.n 193 (cc 193) .l .l))) (.n 199 (cc 199) (.n 197 (cc 197) (.n 196 (cc 196) (.n 195 (cc 195) .l .l) .l) (.n 198 (cc 198) .l .l)) (.n 202 (cc 202) (.n 201 (cc 201) (.n 200 (cc 200) .l .l) .l) (.n 203 (cc 203) .l .l)))))) (.n 246 (cc 246) (.n 225 (cc 225) (.n 215 (cc 215) (.n 210 (cc 210) (.n 208 zCh (.n 206 zPK (.n 205 (cc 205) .l .l) .l) (.n 209 (cc 209) .l .l)) (.n 213 (cc 213) (.n 212 (cc 212) (.n 211 (cc 211) .l .l) .l) (.n 214 (cc 214) .l .l))) (.n 220 (cc 220) (.n 218 (cc 218) (.n 217 (cc 217) (.n 216 (cc 216) .l .l) .l) (.n 219 (cc 219) .l .l)) (.n 223 (cc 223) (.n 222 (cc 222) (.n 221 (cc 221) .l .l) .l) (.n 224 (cc 224) .l .l)))) (.n 235 (cc 235) (.n 230 (cc 230) (.n 228 (cc 228) (.n 227 (cc 227) (.n 226 (cc 226) .l .l) .l) (.n 229 (cc 229) .l .l)) (.n 233 (cc 233) (.n 232 (cc 232) (.n 231 (cc 231) .l .l) .l) (.n 234 (cc 234) .l .l))) (.n 240 (cc 240) (.n 238 (cc 238) (.n 237 (cc 237) (.n 236 (cc 236) .l .l) .l) (.n 239 (cc 239) .l .l)) (.n 244 (cc 244) (.n 243 (cc 243) (.n 241 (cc 241) .l .l) .l) (.n 245 (cc 245) .l .l))))) (.n 290 zxd (.n 277 zid (.n 269 zy3 (.n 262 zw3 (.n 252 (cc 252) (.n 247 (cc 247) .l .l) .l) (.n 263 c263 .l .l)) (.n 274 zAd (.n 273 zp5 (.n 272 zAQ .l .l) .l) (.n 275 zAh .l .l))) (.n 285 zCy (.n 282 zyG (.n 281 zFr (.n 280 zOy .l .l) .l) (.n 284 zFg .l .l)) (.n 288 zB3 (.n 287 zyk (.n 286 zCS .l .l) .l) (.n 289 zla .l .l)))) (.n 301 c301 (.n 295 zCj (.n 293 zoV (.n 292 zkF (.n 291 zo8 .l .l) .l) (.n 294 zyW .l .l)) (.n 299 znz (.n 298 zOd (.n 296 zmp .l .l) .l) (.n 300 ziW .l .l))) (.n 460 zoY (.n 338 zuo (.n 336 zw2 (.n 302 zpe .l .l) .l) (.n 339 zpB .l .l)) (.n 470 zu9 (.n 469 zAc (.n 468 ziX .l .l) .l) (.n 471 zmL .l .l)))))))
def libT:Tr (List AV→Option AV):=(.n 154 zm9 (.n 139 zee (.n 135 znw (.n 128 ze8 (.n 109 zBq .l .l) .l) (.n 138 zbs .l .l)) (.n 152 zeP (.n 143 zer .l .l) (.n 153 zeg .l .l))) (.n 173 zfF (.n 167 zl2 (.n 162 trimS .l .l) (.n 171 zc5 .l .l)) (.n 248 zkE (.n 175 zkn .l .l) (.n 251 zeO .l .l))))
noncomputable def prog:zN:=progT.find
def lib:Lib:=⟨libT.find,fun _=>none⟩
end VE
end
section
namespace VE
namespace Lk1
open Go
open Go.Proofs
theorem prog_ok:progT.All (zpL Tryz.prog fid ren hd):=by
 delta progT
 repeat' first | exact Tr.all_l | refine Tr.all_n (zvu (by kernel_rfl) (by kernel_rfl)) ?_ ?_
end Lk1
end VE
end
