import Derived.Test.YtljdkbioipgoeaaGreatDoorModel
set_option linter.all false
set_option maxRecDepth 100000
namespace VE
/- lenslet/lensletlaw07.awake -/
def c1 : Fnc := ⟨[.t 0],
.seq (
.reg [⟨some 0,none,.mov (.c (.bool false))⟩]) (
.seq (
.reg [⟨some 33,none,.call .pure (.c (.fn (.f 14) [] [])) [.c (.str [49,47,49,48]),.c (.str [48])]⟩,⟨some 34,none,.mkagg [.str [],.str [],.str []] [(0,2,(.t 33)),(2,1,(.c (.str [48])))]⟩,⟨some 35,none,.call .pure (.c (.fn (.f 14) [] [])) [.c (.str [48]),.c (.str [48])]⟩,⟨some 36,none,.mkagg [.str [],.str [],.str []] [(0,2,(.t 35)),(2,1,(.c (.str [49,48])))]⟩,⟨some 1,none,.box 3 (.c (.agg [.str [],.str [],.str []]))⟩,⟨some 2,none,.box 3 (.c (.agg [.str [],.str [],.str []]))⟩,⟨none,none,.st 3 (.t 1) (.t 34)⟩,⟨none,none,.st 3 (.t 2) (.t 36)⟩]) (
.seq (
.reg [⟨some 38,none,.call .pure (.c (.fn (.f 15) [] [])) []⟩,⟨some 39,none,.call .pure (.c (.fn (.f 16) [] [])) [.t 38]⟩,⟨some 37,none,.mov (.t 39)⟩,⟨some 40,none,.ext 0 (.t 37)⟩,⟨some 41,none,.ext 1 (.t 37)⟩,⟨some 3,none,.mov (.t 40)⟩,⟨some 4,none,.mov (.t 41)⟩]) (
.seq (
.reg [⟨some 43,none,.call .pure (.c (.fn (.f 15) [] [])) []⟩,⟨some 44,none,.call .pure (.c (.fn (.f 17) [] [])) [.t 43]⟩,⟨some 42,none,.mov (.t 44)⟩,⟨some 45,none,.ext 0 (.t 42)⟩,⟨some 46,none,.ext 1 (.t 42)⟩,⟨some 5,none,.mov (.t 45)⟩,⟨some 6,none,.mov (.t 46)⟩]) (
.seq (
.reg [⟨some 48,none,.call .pure (.c (.fn (.f 15) [] [])) []⟩,⟨some 49,none,.call .pure (.c (.fn (.f 18) [] [])) [.t 48,.c (.int .i64 1),.c (.int .i64 0)]⟩,⟨some 47,none,.mov (.t 49)⟩,⟨some 50,none,.ext 0 (.t 47)⟩,⟨some 51,none,.ext 1 (.t 47)⟩,⟨some 7,none,.mov (.t 50)⟩,⟨some 8,none,.mov (.t 51)⟩]) (
.seq (
.reg [⟨some 53,none,.call .pure (.c (.fn (.f 15) [] [])) []⟩,⟨some 54,none,.call .pure (.c (.fn (.f 14) [] [])) [.c (.str [49,47,50]),.c (.str [49,47,50])]⟩,⟨some 55,none,.call .pure (.c (.fn (.f 19) [] [])) [.t 53,.t 54]⟩,⟨some 52,none,.mov (.t 55)⟩,⟨some 56,none,.ext 0 (.t 52)⟩,⟨some 57,none,.ext 1 (.t 52)⟩,⟨some 9,none,.mov (.t 56)⟩,⟨some 10,none,.mov (.t 57)⟩]) (
.seq (
.reg [⟨some 59,none,.call .pure (.c (.fn (.f 15) [] [])) []⟩,⟨some 60,none,.call .pure (.c (.fn (.f 14) [] [])) [.c (.str [51,47,50]),.c (.str [48])]⟩,⟨some 61,none,.call .pure (.c (.fn (.f 19) [] [])) [.t 59,.t 60]⟩,⟨some 58,none,.mov (.t 61)⟩,⟨some 62,none,.ext 0 (.t 58)⟩,⟨some 63,none,.ext 1 (.t 58)⟩,⟨some 11,none,.mov (.t 62)⟩,⟨some 12,none,.mov (.t 63)⟩]) (
.seq (
.reg [⟨some 65,none,.call .pure (.c (.fn (.f 15) [] [])) []⟩,⟨some 66,none,.call .pure (.c (.fn (.f 20) [] [])) [.t 65,.c (.int .i64 1),.c (.int .i64 0)]⟩,⟨some 64,none,.mov (.t 66)⟩,⟨some 67,none,.ext 0 (.t 64)⟩,⟨some 68,none,.ext 1 (.t 64)⟩,⟨some 13,none,.mov (.t 67)⟩,⟨some 14,none,.mov (.t 68)⟩]) (
.seq (
.reg [⟨some 70,none,.mksl 5 1 [.int .i64 0,.int .i64 0,.int .i64 0,.int .i64 0,.int .i64 0] [(0,1,(.c (.int .i64 1))),(1,1,(.c (.int .i64 1))),(2,1,(.c (.int .i64 1))),(3,1,(.c (.int .i64 1))),(4,1,(.c (.int .i64 1)))]⟩,⟨some 71,none,.call .pure (.c (.fn (.f 5) [] [])) [.c (.int .i64 1),.c (.int .i64 2),.t 70]⟩,⟨some 69,none,.mov (.t 71)⟩,⟨some 72,none,.ext 0 (.t 69)⟩,⟨some 73,none,.ext 1 (.t 69)⟩,⟨some 15,none,.mov (.t 72)⟩,⟨some 16,none,.mov (.t 73)⟩]) (
.seq (
.reg [⟨some 75,none,.call .pure (.c (.fn (.f 15) [] [])) []⟩,⟨some 76,none,.mksl 3 1 [.int .i64 0,.int .i64 0,.int .i64 0] [(0,1,(.c (.int .i64 0))),(1,1,(.c (.int .i64 1))),(2,1,(.c (.int .i64 0)))]⟩,⟨some 77,none,.mksl 3 1 [.int .i64 0,.int .i64 0,.int .i64 0] [(0,1,(.c (.int .i64 0))),(1,1,(.c (.int .i64 1))),(2,1,(.c (.int .i64 0)))]⟩,⟨some 78,none,.mksl 3 1 [.int .i64 0,.int .i64 0,.int .i64 0] [(0,1,(.c (.int .i64 0))),(1,1,(.c (.int .i64 0))),(2,1,(.c (.int .i64 0)))]⟩,⟨some 79,none,.mksl 3 1 [.nils,.nils,.nils] [(0,1,(.t 76)),(1,1,(.t 77)),(2,1,(.t 78))]⟩,⟨some 80,none,.call .pure (.c (.fn (.f 9) [] [])) [.t 75,.t 79]⟩,⟨some 74,none,.mov (.t 80)⟩,⟨some 81,none,.ext 0 (.t 74)⟩,⟨some 82,none,.ext 1 (.t 74)⟩,⟨some 17,none,.mov (.t 81)⟩,⟨some 18,none,.mov (.t 82)⟩]) (
.seq (
.seq (
.reg [⟨some 83,none,.mov (.t 4)⟩,⟨some 84,none,.mov (.t 6)⟩,⟨some 85,none,.bin .add (.t 83) (.t 84)⟩,⟨some 86,none,.mov (.t 8)⟩,⟨some 87,none,.bin .add (.t 85) (.t 86)⟩,⟨some 88,none,.mov (.t 10)⟩,⟨some 89,none,.bin .add (.t 87) (.t 88)⟩,⟨some 90,none,.mov (.t 12)⟩,⟨some 91,none,.bin .add (.t 89) (.t 90)⟩,⟨some 92,none,.mov (.t 14)⟩,⟨some 93,none,.bin .add (.t 91) (.t 92)⟩,⟨some 94,none,.mov (.t 16)⟩,⟨some 95,none,.bin .add (.t 93) (.t 94)⟩,⟨some 96,none,.mov (.t 18)⟩,⟨some 97,none,.bin .add (.t 95) (.t 96)⟩,⟨some 98,none,.bin .neq (.t 97) (.c (.int .i64 0))⟩,⟨some 99,none,.mov (.t 98)⟩,⟨some 100,some (99,false),.mov (.t 3)⟩,⟨some 101,some (99,false),.bin .neq (.t 100) (.c (.str [51,47,50]))⟩,⟨some 102,none,.pick (.t 99) (.c (.bool true)) (.t 101)⟩,⟨some 103,none,.mov (.t 102)⟩,⟨some 104,some (103,false),.mov (.t 5)⟩,⟨some 105,some (103,false),.bin .neq (.t 104) (.c (.str [53,47,52]))⟩,⟨some 106,none,.pick (.t 103) (.c (.bool true)) (.t 105)⟩,⟨some 107,none,.mov (.t 106)⟩,⟨some 108,some (107,false),.mov (.t 7)⟩,⟨some 109,some (107,false),.bin .neq (.t 108) (.c (.str [49]))⟩,⟨some 110,none,.pick (.t 107) (.c (.bool true)) (.t 109)⟩,⟨some 111,none,.mov (.t 110)⟩,⟨some 112,some (111,false),.mov (.t 9)⟩,⟨some 113,some (111,false),.bin .neq (.t 112) (.c (.str [51,47,50]))⟩,⟨some 114,none,.pick (.t 111) (.c (.bool true)) (.t 113)⟩,⟨some 115,none,.mov (.t 114)⟩,⟨some 116,some (115,false),.mov (.t 11)⟩,⟨some 117,some (115,false),.bin .neq (.t 116) (.c (.str [49,47,50]))⟩,⟨some 118,none,.pick (.t 115) (.c (.bool true)) (.t 117)⟩,⟨some 119,none,.mov (.t 118)⟩,⟨some 120,some (119,false),.mov (.t 13)⟩,⟨some 121,some (119,false),.mksl 2 1 [.int .i64 0,.int .i64 0] [(0,1,(.c (.int .i64 1))),(1,1,(.c (.int .i64 0)))]⟩,⟨some 122,some (119,false),.mksl 2 1 [.int .i64 0,.int .i64 0] [(0,1,(.c (.int .i64 3))),(1,1,(.c (.int .i64 2)))]⟩,⟨some 123,some (119,false),.mksl 2 1 [.nils,.nils] [(0,1,(.t 121)),(1,1,(.t 122))]⟩,⟨some 124,some (119,false),.call .pure (.c (.fn (.f 21) [] [])) [.t 120,.t 123]⟩,⟨some 125,some (119,false),.un .not (.t 124)⟩,⟨some 126,none,.pick (.t 119) (.c (.bool true)) (.t 125)⟩,⟨some 127,none,.mov (.t 126)⟩,⟨some 128,some (127,false),.mov (.t 15)⟩,⟨some 129,some (127,false),.mksl 2 1 [.int .i64 0,.int .i64 0] [(0,1,(.c (.int .i64 1))),(1,1,(.c (.int .i64 2)))]⟩,⟨some 130,some (127,false),.mksl 2 1 [.int .i64 0,.int .i64 0] [(0,1,(.c (.int .i64 1))),(1,1,(.c (.int .i64 2)))]⟩,⟨some 131,some (127,false),.mksl 2 1 [.nils,.nils] [(0,1,(.t 129)),(1,1,(.t 130))]⟩,⟨some 132,some (127,false),.call .pure (.c (.fn (.f 21) [] [])) [.t 128,.t 131]⟩,⟨some 133,some (127,false),.un .not (.t 132)⟩,⟨some 134,none,.pick (.t 127) (.c (.bool true)) (.t 133)⟩,⟨some 135,none,.mov (.t 134)⟩,⟨some 136,some (135,false),.mov (.t 17)⟩,⟨some 137,some (135,false),.mksl 2 1 [.int .i64 0,.int .i64 0] [(0,1,(.c (.int .i64 2))),(1,1,(.c (.int .i64 4)))]⟩,⟨some 138,some (135,false),.mksl 2 1 [.int .i64 0,.int .i64 0] [(0,1,(.c (.int .i64 2))),(1,1,(.c (.int .i64 4)))]⟩,⟨some 139,some (135,false),.mksl 2 1 [.nils,.nils] [(0,1,(.t 137)),(1,1,(.t 138))]⟩,⟨some 140,some (135,false),.call .pure (.c (.fn (.f 21) [] [])) [.t 136,.t 139]⟩,⟨some 141,some (135,false),.un .not (.t 140)⟩,⟨some 142,none,.pick (.t 135) (.c (.bool true)) (.t 141)⟩]) (
.cond (.t 142) (
 .seq (
 .reg [⟨some 0,none,.mov (.c (.bool false))⟩]) (
 .ret)) (
 .skip))) (
.seq (
.reg [⟨some 144,none,.ld 3 true (.t 1)⟩,⟨some 145,none,.call .pure (.c (.fn (.f 14) [] [])) [.c (.str [48]),.c (.str [49])]⟩,⟨some 146,none,.call .pure (.c (.fn (.f 22) [] [])) [.t 144,.c (.str [53]),.t 145]⟩,⟨some 143,none,.mov (.t 146)⟩,⟨some 147,none,.ext 0 (.t 143)⟩,⟨some 148,none,.ext 1 (.t 143)⟩,⟨some 19,none,.box 2 (.c (.agg [.str [],.str []]))⟩,⟨none,none,.st 2 (.t 19) (.t 147)⟩,⟨some 20,none,.mov (.t 148)⟩]) (
.seq (
.reg [⟨some 150,none,.ld 3 true (.t 2)⟩,⟨some 151,none,.call .pure (.c (.fn (.f 14) [] [])) [.c (.str [48]),.c (.str [49])]⟩,⟨some 152,none,.call .pure (.c (.fn (.f 22) [] [])) [.t 150,.c (.str [53]),.t 151]⟩,⟨some 149,none,.mov (.t 152)⟩,⟨some 153,none,.ext 0 (.t 149)⟩,⟨some 154,none,.ext 1 (.t 149)⟩,⟨some 21,none,.box 2 (.c (.agg [.str [],.str []]))⟩,⟨none,none,.st 2 (.t 21) (.t 153)⟩,⟨some 22,none,.mov (.t 154)⟩]) (
.seq (
.reg [⟨some 156,none,.call .pure (.c (.fn (.f 23) [] [])) []⟩,⟨some 157,none,.ld 3 true (.t 1)⟩,⟨some 158,none,.call .pure (.c (.fn (.f 14) [] [])) [.c (.str [48]),.c (.str [49])]⟩,⟨some 159,none,.call .pure (.c (.fn (.f 24) [] [])) [.t 156,.t 157,.t 158,.c (.int .i64 1)]⟩,⟨some 155,none,.mov (.t 159)⟩,⟨some 160,none,.ext 0 (.t 155)⟩,⟨some 161,none,.ext 1 (.t 155)⟩,⟨some 23,none,.mov (.t 160)⟩,⟨some 24,none,.mov (.t 161)⟩]) (
.seq (
.reg [⟨some 163,none,.call .pure (.c (.fn (.f 23) [] [])) []⟩,⟨some 164,none,.ld 3 true (.t 2)⟩,⟨some 165,none,.call .pure (.c (.fn (.f 14) [] [])) [.c (.str [48]),.c (.str [49])]⟩,⟨some 166,none,.call .pure (.c (.fn (.f 24) [] [])) [.t 163,.t 164,.t 165,.c (.int .i64 0)]⟩,⟨some 162,none,.mov (.t 166)⟩,⟨some 167,none,.ext 0 (.t 162)⟩,⟨some 168,none,.ext 1 (.t 162)⟩,⟨some 25,none,.mov (.t 167)⟩,⟨some 26,none,.mov (.t 168)⟩]) (
.seq (
.reg [⟨some 170,none,.ld 3 true (.t 2)⟩,⟨some 171,none,.call .pure (.c (.fn (.f 14) [] [])) [.c (.str [48]),.c (.str [48])]⟩,⟨some 172,none,.call .pure (.c (.fn (.f 14) [] [])) [.c (.str [49]),.c (.str [48])]⟩,⟨some 173,none,.call .pure (.c (.fn (.f 25) [] [])) [.t 170,.c (.str [52]),.t 171,.t 172]⟩,⟨some 169,none,.mov (.t 173)⟩,⟨some 174,none,.ext 0 (.t 169)⟩,⟨some 175,none,.ext 1 (.t 169)⟩,⟨some 27,none,.box 2 (.c (.agg [.str [],.str []]))⟩,⟨none,none,.st 2 (.t 27) (.t 174)⟩,⟨some 28,none,.mov (.t 175)⟩]) (
.seq (
.reg [⟨some 177,none,.call .pure (.c (.fn (.f 23) [] [])) []⟩,⟨some 178,none,.mksl 1 8 [.nils,.str [],.str [],.str [],.str [],.str [],.str [],.str []] [(0,8,(.t 177))]⟩,⟨some 179,none,.call .pure (.c (.fn (.f 14) [] [])) [.c (.str [48]),.c (.str [48])]⟩,⟨some 180,none,.mkagg [.str [],.str [],.str []] [(0,2,(.t 179)),(2,1,(.c (.str [48])))]⟩,⟨some 181,none,.mksl 1 3 [.str [],.str [],.str []] [(0,3,(.t 180))]⟩,⟨some 182,none,.call .pure (.c (.fn (.f 14) [] [])) [.c (.str [48]),.c (.str [48])]⟩,⟨some 183,none,.mksl 1 2 [.str [],.str []] [(0,2,(.t 182))]⟩,⟨some 184,none,.call .pure (.c (.fn (.f 26) [] [])) [.t 178,.t 181,.t 183,.c (.int .i64 0)]⟩,⟨some 176,none,.mov (.t 184)⟩,⟨some 185,none,.ext 0 (.t 176)⟩,⟨some 186,none,.ext 1 (.t 176)⟩,⟨some 29,none,.mov (.t 185)⟩,⟨some 30,none,.mov (.t 186)⟩]) (
.seq (
.reg [⟨some 188,none,.mksl 2 1 [.str [],.str []] [(0,1,(.c (.str [49]))),(1,1,(.c (.str [49])))]⟩,⟨some 189,none,.mksl 1 1 [.nils] [(0,1,(.t 188))]⟩,⟨some 190,none,.mksl 1 1 [.str []] [(0,1,(.c (.str [51])))]⟩,⟨some 191,none,.call .pure (.c (.fn (.f 27) [] [])) [.t 189,.t 190,.c (.str [49])]⟩,⟨some 187,none,.mov (.t 191)⟩,⟨some 192,none,.ext 0 (.t 187)⟩,⟨some 193,none,.ext 1 (.t 187)⟩,⟨some 31,none,.mov (.t 192)⟩,⟨some 32,none,.mov (.t 193)⟩]) (
.seq (
.seq (
.reg [⟨some 194,none,.mov (.t 20)⟩,⟨some 195,none,.mov (.t 22)⟩,⟨some 196,none,.bin .add (.t 194) (.t 195)⟩,⟨some 197,none,.mov (.t 24)⟩,⟨some 198,none,.bin .add (.t 196) (.t 197)⟩,⟨some 199,none,.mov (.t 26)⟩,⟨some 200,none,.bin .add (.t 198) (.t 199)⟩,⟨some 201,none,.mov (.t 28)⟩,⟨some 202,none,.bin .add (.t 200) (.t 201)⟩,⟨some 203,none,.mov (.t 30)⟩,⟨some 204,none,.bin .add (.t 202) (.t 203)⟩,⟨some 205,none,.mov (.t 32)⟩,⟨some 206,none,.bin .add (.t 204) (.t 205)⟩,⟨some 207,none,.bin .neq (.t 206) (.c (.int .i64 0))⟩,⟨some 208,none,.mov (.t 207)⟩,⟨some 209,some (208,false),.ld 2 true (.t 19)⟩,⟨some 210,some (208,false),.call .pure (.c (.fn (.f 14) [] [])) [.c (.str [49,47,50]),.c (.str [49])]⟩,⟨some 211,some (208,false),.eq true (.ag [2,2]) (.t 209) (.t 210)⟩,⟨some 212,none,.pick (.t 208) (.c (.bool true)) (.t 211)⟩,⟨some 213,none,.mov (.t 212)⟩,⟨some 214,some (213,false),.ld 2 true (.t 21)⟩,⟨some 215,some (213,false),.call .pure (.c (.fn (.f 14) [] [])) [.c (.str [48]),.c (.str [49,47,50])]⟩,⟨some 216,some (213,false),.eq true (.ag [2,2]) (.t 214) (.t 215)⟩,⟨some 217,none,.pick (.t 213) (.c (.bool true)) (.t 216)⟩,⟨some 218,none,.mov (.t 217)⟩,⟨some 219,some (218,false),.mov (.t 23)⟩,⟨some 220,some (218,false),.bin .neq (.t 219) (.c (.str [51,47,50]))⟩,⟨some 221,none,.pick (.t 218) (.c (.bool true)) (.t 220)⟩,⟨some 222,none,.mov (.t 221)⟩,⟨some 223,some (222,false),.mov (.t 25)⟩,⟨some 224,some (222,false),.bin .neq (.t 223) (.c (.str [49,47,50]))⟩,⟨some 225,none,.pick (.t 222) (.c (.bool true)) (.t 224)⟩]) (
.cond (.t 225) (
 .seq (
 .reg [⟨some 0,none,.mov (.c (.bool false))⟩]) (
 .ret)) (
 .skip))) (
.seq (
.reg [⟨some 226,none,.ld 2 true (.t 27)⟩,⟨some 227,none,.call .pure (.c (.fn (.f 14) [] [])) [.c (.str [49,47,50,52]),.c (.str [48])]⟩,⟨some 228,none,.eq false (.ag [2,2]) (.t 226) (.t 227)⟩,⟨some 229,none,.mov (.t 228)⟩,⟨some 230,some (229,true),.mov (.t 29)⟩,⟨some 231,some (229,true),.mksl 4 1 [.str [],.str [],.str [],.str []] [(0,1,(.c (.str [49,47,50]))),(1,1,(.c (.str [48]))),(2,1,(.c (.str [48]))),(3,1,(.c (.str [48])))]⟩,⟨some 232,some (229,true),.mksl 1 1 [.nils] [(0,1,(.t 231))]⟩,⟨some 233,some (229,true),.call .pure (.c (.fn (.f 28) [] [])) [.t 230,.t 232]⟩,⟨some 234,none,.pick (.t 229) (.t 233) (.c (.bool false))⟩,⟨some 235,none,.mov (.t 234)⟩,⟨some 236,some (235,true),.mov (.t 31)⟩,⟨some 237,some (235,true),.mksl 2 1 [.str [],.str []] [(0,1,(.c (.str [49]))),(1,1,(.c (.str [49])))]⟩,⟨some 238,some (235,true),.call .pure (.c (.fn (.f 29) [] [])) [.t 236,.t 237]⟩,⟨some 239,none,.pick (.t 235) (.t 238) (.c (.bool false))⟩,⟨some 0,none,.mov (.t 239)⟩]) (
.ret))))))))))))))))))))⟩
/- lenslet/lensletref07.ShortScreen -/
def c2_0 : VC :=
.seq (
.seq (
.reg [⟨some 20,none,.mov (.t 5)⟩,⟨some 21,none,.mov (.t 0)⟩,⟨some 22,none,.len 1 (.t 21)⟩,⟨some 23,none,.bin .lss (.t 20) (.t 22)⟩]) (
.cond (.t 23) (
 .skip) (
 .exit 0))) (
.seq (
.blk 1 (
.seq (
.reg [⟨some 26,none,.mov (.t 0)⟩,⟨some 27,none,.mov (.t 5)⟩,⟨some 28,none,.ixa 1 (.t 26) (.t 27)⟩,⟨some 29,none,.ld 1 false (.t 28)⟩,⟨some 30,none,.len 1 (.t 29)⟩,⟨some 31,none,.bin .gtr (.t 30) (.c (.int .i64 18))⟩]) (
.cond (.t 31) (
 .seq (
 .reg [⟨some 4,none,.mov (.c (.bool false))⟩]) (
 .ret)) (
 .skip)))) (
.reg [⟨some 24,none,.mov (.t 5)⟩,⟨some 25,none,.bin .add (.t 24) (.c (.int .i64 1))⟩,⟨some 5,none,.mov (.t 25)⟩]))
def c2 : Fnc := ⟨[.t 4],
.seq (
.reg [⟨some 4,none,.mov (.c (.bool false))⟩]) (
.seq (
.seq (
.reg [⟨some 6,none,.mov (.t 0)⟩,⟨some 7,none,.len 1 (.t 6)⟩,⟨some 8,none,.mov (.t 1)⟩,⟨some 9,none,.bin .gtr (.t 7) (.t 8)⟩,⟨some 10,none,.mov (.t 9)⟩,⟨some 11,some (10,true),.mov (.t 0)⟩,⟨some 12,some (10,true),.len 1 (.t 11)⟩,⟨some 13,some (10,true),.bin .leq (.t 12) (.c (.int .i64 16))⟩,⟨some 14,none,.pick (.t 10) (.t 13) (.c (.bool false))⟩,⟨some 15,none,.mov (.t 14)⟩,⟨some 16,some (15,false),.mov (.t 0)⟩,⟨some 17,some (15,false),.len 1 (.t 16)⟩,⟨some 18,some (15,false),.bin .gtr (.t 17) (.c (.int .i64 18))⟩,⟨some 19,none,.pick (.t 15) (.c (.bool true)) (.t 18)⟩]) (
.cond (.t 19) (
 .seq (
 .reg [⟨some 4,none,.mov (.c (.bool false))⟩]) (
 .ret)) (
 .skip))) (
.seq (
.seq (
.reg [⟨some 5,none,.mov (.c (.int .i64 0))⟩]) (
.seq (
.blk 0 (
.loop [0,5] c2_0)) (
.kp []))) (
.seq (
.reg [⟨some 4,none,.mov (.c (.bool true))⟩]) (
.ret))))⟩
/- lenslet/lensletref07.CheckScreen -/
def c3_0 : VC :=
.seq (
.seq (
.reg [⟨some 25,none,.mov (.t 4)⟩,⟨some 26,none,.mov (.t 0)⟩,⟨some 27,none,.len 1 (.t 26)⟩,⟨some 28,none,.bin .lss (.t 25) (.t 27)⟩]) (
.cond (.t 28) (
 .skip) (
 .exit 2))) (
.seq (
.blk 3 (
.seq (
.reg [⟨some 31,none,.mov (.t 0)⟩,⟨some 32,none,.mov (.t 3)⟩,⟨some 33,none,.ixa 1 (.t 31) (.t 32)⟩,⟨some 34,none,.ld 1 false (.t 33)⟩,⟨some 35,none,.mov (.t 4)⟩,⟨some 36,none,.ixa 1 (.t 34) (.t 35)⟩,⟨some 37,none,.ld 1 false (.t 36)⟩,⟨some 38,none,.call .pure (.c (.fn (.f 30) [] [])) [.t 37,.c (.int .i64 (-1000)),.c (.int .i64 1000)]⟩,⟨some 39,none,.bin .neq (.t 38) (.c (.int .i64 0))⟩]) (
.cond (.t 39) (
 .seq (
 .reg [⟨some 2,none,.mov (.c (.int .i64 3))⟩]) (
 .ret)) (
 .skip)))) (
.reg [⟨some 29,none,.mov (.t 4)⟩,⟨some 30,none,.bin .add (.t 29) (.c (.int .i64 1))⟩,⟨some 4,none,.mov (.t 30)⟩]))
def c3_1 : VC :=
.seq (
.seq (
.reg [⟨some 11,none,.mov (.t 3)⟩,⟨some 12,none,.mov (.t 0)⟩,⟨some 13,none,.len 1 (.t 12)⟩,⟨some 14,none,.bin .lss (.t 11) (.t 13)⟩]) (
.cond (.t 14) (
 .skip) (
 .exit 0))) (
.seq (
.blk 1 (
.seq (
.seq (
.reg [⟨some 17,none,.mov (.t 0)⟩,⟨some 18,none,.mov (.t 3)⟩,⟨some 19,none,.ixa 1 (.t 17) (.t 18)⟩,⟨some 20,none,.ld 1 false (.t 19)⟩,⟨some 21,none,.len 1 (.t 20)⟩,⟨some 22,none,.mov (.t 0)⟩,⟨some 23,none,.len 1 (.t 22)⟩,⟨some 24,none,.bin .neq (.t 21) (.t 23)⟩]) (
.cond (.t 24) (
 .seq (
 .reg [⟨some 2,none,.mov (.c (.int .i64 2))⟩]) (
 .ret)) (
 .skip))) (
.seq (
.reg [⟨some 4,none,.mov (.c (.int .i64 0))⟩]) (
.seq (
.blk 2 (
.loop [0,3,4] c3_0)) (
.kp [0,3]))))) (
.reg [⟨some 15,none,.mov (.t 3)⟩,⟨some 16,none,.bin .add (.t 15) (.c (.int .i64 1))⟩,⟨some 3,none,.mov (.t 16)⟩]))
def c3 : Fnc := ⟨[.t 2],
.seq (
.reg [⟨some 2,none,.mov (.c (.int .i64 0))⟩]) (
.seq (
.seq (
.reg [⟨some 5,none,.mov (.t 0)⟩,⟨some 6,none,.len 1 (.t 5)⟩,⟨some 7,none,.bin .eql (.t 6) (.c (.int .i64 0))⟩]) (
.cond (.t 7) (
 .seq (
 .reg [⟨some 2,none,.mov (.c (.int .i64 12))⟩]) (
 .ret)) (
 .skip))) (
.seq (
.seq (
.reg [⟨some 8,none,.mov (.t 0)⟩,⟨some 9,none,.len 1 (.t 8)⟩,⟨some 10,none,.bin .gtr (.t 9) (.c (.int .i64 16))⟩]) (
.cond (.t 10) (
 .seq (
 .reg [⟨some 2,none,.mov (.c (.int .i64 5))⟩]) (
 .ret)) (
 .skip))) (
.seq (
.seq (
.reg [⟨some 3,none,.mov (.c (.int .i64 0))⟩]) (
.seq (
.blk 0 (
.loop [0,3] c3_1)) (
.kp []))) (
.seq (
.reg [⟨some 2,none,.mov (.c (.int .i64 0))⟩]) (
.ret)))))⟩
/- lenslet/sky.CheckScreen -/
def c4 : Fnc := ⟨[.t 2],
.seq (
.reg [⟨some 2,none,.mov (.c (.int .i64 0))⟩]) (
.seq (
.reg [⟨some 3,none,.mov (.t 0)⟩,⟨some 4,none,.len 1 (.t 3)⟩,⟨some 5,none,.bin .eql (.t 4) (.c (.int .i64 0))⟩,⟨some 6,none,.call .pure (.c (.fn (.f 31) [] [])) [.t 5,.c (.int .i64 12)]⟩,⟨some 7,none,.mov (.t 0)⟩,⟨some 8,none,.len 1 (.t 7)⟩,⟨some 9,none,.bin .gtr (.t 8) (.c (.int .i64 16))⟩,⟨some 10,none,.call .pure (.c (.fn (.f 31) [] [])) [.t 9,.c (.int .i64 5)]⟩,⟨some 11,none,.mov (.t 0)⟩,⟨some 12,none,.call .pure (.c (.fn (.f 32) [] [])) [.t 11,.c (.int .i64 1000)]⟩,⟨some 13,none,.mksl 3 1 [.int .i64 0,.int .i64 0,.int .i64 0] [(0,1,(.t 6)),(1,1,(.t 10)),(2,1,(.t 12))]⟩,⟨some 14,none,.call .pure (.c (.fn (.f 33) [] [])) [.t 13]⟩,⟨some 2,none,.mov (.t 14)⟩]) (
.ret))⟩
/- lenslet/sky.Drawn -/
def c5 : Fnc := ⟨[.t 6,.t 7],
.seq (
.reg [⟨some 5,none,.box 1 (.t 2)⟩,⟨some 6,none,.mov (.c (.nils))⟩,⟨some 7,none,.mov (.c (.int .i64 0))⟩]) (
.seq (
.seq (
.reg [⟨some 12,none,.mov (.t 0)⟩,⟨some 13,none,.call .pure (.c (.fn (.f 34) [] [])) [.t 12,.c (.int .i64 1),.c (.int .i64 2147483646)]⟩,⟨some 14,none,.mov (.t 1)⟩,⟨some 15,none,.call .pure (.c (.fn (.f 34) [] [])) [.t 14,.c (.int .i64 1),.c (.int .i64 16)]⟩,⟨some 16,none,.ld 1 false (.t 5)⟩,⟨some 17,none,.len 1 (.t 16)⟩,⟨some 18,none,.bin .eql (.t 17) (.c (.int .i64 0))⟩,⟨some 19,none,.call .pure (.c (.fn (.f 31) [] [])) [.t 18,.c (.int .i64 12)]⟩,⟨some 20,none,.ld 1 false (.t 5)⟩,⟨some 21,none,.len 1 (.t 20)⟩,⟨some 22,none,.bin .gtr (.t 21) (.c (.int .i64 33))⟩,⟨some 23,none,.call .pure (.c (.fn (.f 31) [] [])) [.t 22,.c (.int .i64 5)]⟩,⟨some 24,none,.ld 1 false (.t 5)⟩,⟨some 25,none,.len 1 (.t 24)⟩,⟨some 26,none,.bin .rem (.t 25) (.c (.int .i64 2))⟩,⟨some 27,none,.bin .eql (.t 26) (.c (.int .i64 0))⟩,⟨some 28,none,.call .pure (.c (.fn (.f 31) [] [])) [.t 27,.c (.int .i64 2)]⟩,⟨some 29,none,.mksl 5 1 [.int .i64 0,.int .i64 0,.int .i64 0,.int .i64 0,.int .i64 0] [(0,1,(.t 13)),(1,1,(.t 15)),(2,1,(.t 19)),(3,1,(.t 23)),(4,1,(.t 28))]⟩,⟨some 30,none,.call .pure (.c (.fn (.f 33) [] [])) [.t 29]⟩,⟨some 8,none,.mov (.t 30)⟩]) (
.seq (
.reg [⟨some 31,none,.mov (.t 8)⟩,⟨some 32,none,.bin .neq (.t 31) (.c (.int .i64 0))⟩]) (
.cond (.t 32) (
 .seq (
 .reg [⟨some 33,none,.mov (.t 8)⟩,
   ⟨some 6,none,.mov (.c (.nils))⟩,
   ⟨some 7,none,.mov (.t 33)⟩]) (
 .ret)) (
 .skip)))) (
.seq (
.seq (
.reg [⟨some 34,none,.ld 1 false (.t 5)⟩,⟨some 35,none,.call .pure (.c (.fn (.f 35) [] [])) [.t 34,.c (.fn (.f 36) [] [])]⟩,⟨some 36,none,.call .pure (.c (.fn (.f 33) [] [])) [.t 35]⟩,⟨some 9,none,.mov (.t 36)⟩]) (
.seq (
.reg [⟨some 37,none,.mov (.t 9)⟩,⟨some 38,none,.bin .neq (.t 37) (.c (.int .i64 0))⟩]) (
.cond (.t 38) (
 .seq (
 .reg [⟨some 39,none,.mov (.t 9)⟩,
   ⟨some 6,none,.mov (.c (.nils))⟩,
   ⟨some 7,none,.mov (.t 39)⟩]) (
 .ret)) (
 .skip)))) (
.seq (
.reg [⟨some 40,none,.ld 1 false (.t 5)⟩,⟨some 41,none,.call .pure (.c (.fn (.f 37) [] [])) [.c (.int .i64 0),.t 40,.c (.fn (.f 38) [] [])]⟩,⟨some 10,none,.box 1 (.c (.int .i64 0))⟩,⟨none,none,.st 1 (.t 10) (.t 41)⟩]) (
.seq (
.seq (
.reg [⟨some 42,none,.ld 1 false (.t 10)⟩,⟨some 43,none,.bin .eql (.t 42) (.c (.int .i64 0))⟩]) (
.cond (.t 43) (
 .seq (
 .reg [⟨some 6,none,.mov (.c (.nils))⟩,
   ⟨some 7,none,.mov (.c (.int .i64 6))⟩]) (
 .ret)) (
 .skip))) (
.seq (
.reg [⟨some 44,none,.mov (.t 0)⟩,⟨some 11,none,.box 1 (.c (.int .i64 0))⟩,⟨none,none,.st 1 (.t 11) (.t 44)⟩]) (
.seq (
.reg [⟨some 45,none,.mov (.t 1)⟩,⟨some 46,none,.mkf (.f 39) [] [.t 11,.t 10,.t 5]⟩,⟨some 47,none,.call .heap (.c (.fn (.f 40) [] [])) [.t 45,.t 46]⟩,⟨some 6,none,.mov (.t 47)⟩,⟨some 7,none,.mov (.c (.int .i64 0))⟩]) (
.ret)))))))⟩
/- lenslet/lensletref07.CheckDrawn -/
def c6_0 : VC :=
.seq (
.seq (
.reg [⟨some 27,none,.mov (.t 8)⟩,⟨some 28,none,.mov (.t 2)⟩,⟨some 29,none,.len 1 (.t 28)⟩,⟨some 30,none,.bin .lss (.t 27) (.t 29)⟩]) (
.cond (.t 30) (
 .skip) (
 .exit 0))) (
.seq (
.blk 1 (
.seq (
.seq (
.reg [⟨some 33,none,.mov (.t 2)⟩,⟨some 34,none,.mov (.t 8)⟩,⟨some 35,none,.ixa 1 (.t 33) (.t 34)⟩,⟨some 36,none,.ld 1 false (.t 35)⟩,⟨some 37,none,.call .pure (.c (.fn (.f 30) [] [])) [.t 36,.c (.int .i64 0),.c (.int .i64 1000)]⟩,⟨some 38,none,.bin .neq (.t 37) (.c (.int .i64 0))⟩]) (
.cond (.t 38) (
 .seq (
 .reg [⟨some 6,none,.mov (.c (.int .i64 3))⟩]) (
 .ret)) (
 .skip))) (
.reg [⟨some 39,none,.mov (.t 7)⟩,⟨some 40,none,.mov (.t 2)⟩,⟨some 41,none,.mov (.t 8)⟩,⟨some 42,none,.ixa 1 (.t 40) (.t 41)⟩,⟨some 43,none,.ld 1 false (.t 42)⟩,⟨some 44,none,.bin .add (.t 39) (.t 43)⟩,⟨some 7,none,.mov (.t 44)⟩]))) (
.reg [⟨some 31,none,.mov (.t 8)⟩,⟨some 32,none,.bin .add (.t 31) (.c (.int .i64 1))⟩,⟨some 8,none,.mov (.t 32)⟩]))
def c6 : Fnc := ⟨[.t 6],
.seq (
.reg [⟨some 6,none,.mov (.c (.int .i64 0))⟩]) (
.seq (
.seq (
.reg [⟨some 9,none,.mov (.t 0)⟩,⟨some 10,none,.call .pure (.c (.fn (.f 30) [] [])) [.t 9,.c (.int .i64 1),.c (.int .i64 2147483646)]⟩,⟨some 11,none,.bin .neq (.t 10) (.c (.int .i64 0))⟩,⟨some 12,none,.mov (.t 11)⟩,⟨some 13,some (12,false),.mov (.t 1)⟩,⟨some 14,some (12,false),.call .pure (.c (.fn (.f 30) [] [])) [.t 13,.c (.int .i64 1),.c (.int .i64 16)]⟩,⟨some 15,some (12,false),.bin .neq (.t 14) (.c (.int .i64 0))⟩,⟨some 16,none,.pick (.t 12) (.c (.bool true)) (.t 15)⟩]) (
.cond (.t 16) (
 .seq (
 .reg [⟨some 6,none,.mov (.c (.int .i64 3))⟩]) (
 .ret)) (
 .skip))) (
.seq (
.seq (
.reg [⟨some 17,none,.mov (.t 2)⟩,⟨some 18,none,.len 1 (.t 17)⟩,⟨some 19,none,.bin .eql (.t 18) (.c (.int .i64 0))⟩]) (
.cond (.t 19) (
 .seq (
 .reg [⟨some 6,none,.mov (.c (.int .i64 12))⟩]) (
 .ret)) (
 .skip))) (
.seq (
.seq (
.reg [⟨some 20,none,.mov (.t 2)⟩,⟨some 21,none,.len 1 (.t 20)⟩,⟨some 22,none,.bin .gtr (.t 21) (.c (.int .i64 33))⟩]) (
.cond (.t 22) (
 .seq (
 .reg [⟨some 6,none,.mov (.c (.int .i64 5))⟩]) (
 .ret)) (
 .skip))) (
.seq (
.seq (
.reg [⟨some 23,none,.mov (.t 2)⟩,⟨some 24,none,.len 1 (.t 23)⟩,⟨some 25,none,.bin .rem (.t 24) (.c (.int .i64 2))⟩,⟨some 26,none,.bin .eql (.t 25) (.c (.int .i64 0))⟩]) (
.cond (.t 26) (
 .seq (
 .reg [⟨some 6,none,.mov (.c (.int .i64 2))⟩]) (
 .ret)) (
 .skip))) (
.seq (
.reg [⟨some 7,none,.mov (.c (.int .i64 0))⟩]) (
.seq (
.seq (
.reg [⟨some 8,none,.mov (.c (.int .i64 0))⟩]) (
.seq (
.blk 0 (
.loop [2,7,8] c6_0)) (
.kp [7]))) (
.seq (
.seq (
.reg [⟨some 45,none,.mov (.t 7)⟩,⟨some 46,none,.bin .eql (.t 45) (.c (.int .i64 0))⟩]) (
.cond (.t 46) (
 .seq (
 .reg [⟨some 6,none,.mov (.c (.int .i64 6))⟩]) (
 .ret)) (
 .skip))) (
.seq (
.reg [⟨some 6,none,.mov (.c (.int .i64 0))⟩]) (
.ret)))))))))⟩
/- lenslet/lensletlaw07.grid -/
def c7 : Fnc := ⟨[.t 8],
.seq (
.reg [⟨some 8,none,.mov (.c (.bool false))⟩]) (
.seq (
.seq (
.reg [⟨some 9,none,.mov (.t 2)⟩,⟨some 10,none,.bin .neq (.t 9) (.c (.int .i64 0))⟩]) (
.cond (.t 10) (
 .seq (
 .reg [⟨some 11,none,.mov (.t 0)⟩,
   ⟨some 12,none,.len 1 (.t 11)⟩,
   ⟨some 13,none,.bin .eql (.t 12) (.c (.int .i64 0))⟩,
   ⟨some 14,none,.mov (.t 13)⟩,
   ⟨some 15,some (14,true),.mov (.t 1)⟩,
   ⟨some 16,some (14,true),.mov (.t 2)⟩,
   ⟨some 17,some (14,true),.bin .eql (.t 15) (.t 16)⟩,
   ⟨some 18,none,.pick (.t 14) (.t 17) (.c (.bool false))⟩,
   ⟨some 8,none,.mov (.t 18)⟩]) (
 .ret)) (
 .skip))) (
.seq (
.reg [⟨some 19,none,.mov (.t 1)⟩,⟨some 20,none,.bin .eql (.t 19) (.c (.int .i64 0))⟩,⟨some 21,none,.mov (.t 20)⟩,⟨some 22,some (21,true),.mov (.t 0)⟩,⟨some 23,some (21,true),.mov (.t 3)⟩,⟨some 24,some (21,true),.call .pure (.c (.fn (.f 21) [] [])) [.t 22,.t 23]⟩,⟨some 25,none,.pick (.t 21) (.t 24) (.c (.bool false))⟩,⟨some 8,none,.mov (.t 25)⟩]) (
.ret)))⟩
/- lenslet/sky.Smooth -/
def c9 : Fnc := ⟨[.t 4,.t 5],
.seq (
.reg [⟨some 2,none,.box 1 (.t 0)⟩,⟨some 3,none,.box 1 (.t 1)⟩,⟨some 4,none,.mov (.c (.nils))⟩,⟨some 5,none,.mov (.c (.int .i64 0))⟩]) (
.seq (
.seq (
.reg [⟨some 9,none,.ld 1 false (.t 2)⟩,⟨some 10,none,.call .pure (.c (.fn (.f 4) [] [])) [.t 9]⟩,⟨some 11,none,.ld 1 false (.t 3)⟩,⟨some 12,none,.len 1 (.t 11)⟩,⟨some 13,none,.bin .eql (.t 12) (.c (.int .i64 0))⟩,⟨some 14,none,.call .pure (.c (.fn (.f 31) [] [])) [.t 13,.c (.int .i64 12)]⟩,⟨some 15,none,.ld 1 false (.t 3)⟩,⟨some 16,none,.len 1 (.t 15)⟩,⟨some 17,none,.bin .gtr (.t 16) (.c (.int .i64 5))⟩,⟨some 18,none,.call .pure (.c (.fn (.f 31) [] [])) [.t 17,.c (.int .i64 5)]⟩,⟨some 19,none,.ld 1 false (.t 3)⟩,⟨some 20,none,.len 1 (.t 19)⟩,⟨some 21,none,.bin .rem (.t 20) (.c (.int .i64 2))⟩,⟨some 22,none,.bin .eql (.t 21) (.c (.int .i64 0))⟩,⟨some 23,none,.call .pure (.c (.fn (.f 31) [] [])) [.t 22,.c (.int .i64 2)]⟩,⟨some 24,none,.ld 1 false (.t 3)⟩,⟨some 25,none,.call .pure (.c (.fn (.f 32) [] [])) [.t 24,.c (.int .i64 100)]⟩,⟨some 26,none,.mksl 5 1 [.int .i64 0,.int .i64 0,.int .i64 0,.int .i64 0,.int .i64 0] [(0,1,(.t 10)),(1,1,(.t 14)),(2,1,(.t 18)),(3,1,(.t 23)),(4,1,(.t 25))]⟩,⟨some 27,none,.call .pure (.c (.fn (.f 33) [] [])) [.t 26]⟩,⟨some 6,none,.mov (.t 27)⟩]) (
.seq (
.reg [⟨some 28,none,.mov (.t 6)⟩,⟨some 29,none,.bin .neq (.t 28) (.c (.int .i64 0))⟩]) (
.cond (.t 29) (
 .seq (
 .reg [⟨some 30,none,.mov (.t 6)⟩,
   ⟨some 4,none,.mov (.c (.nils))⟩,
   ⟨some 5,none,.mov (.t 30)⟩]) (
 .ret)) (
 .skip)))) (
.seq (
.reg [⟨some 31,none,.ld 1 false (.t 3)⟩,⟨some 32,none,.len 1 (.t 31)⟩,⟨some 33,none,.bin .quo (.t 32) (.c (.int .i64 2))⟩,⟨some 7,none,.box 1 (.c (.int .i64 0))⟩,⟨none,none,.st 1 (.t 7) (.t 33)⟩]) (
.seq (
.reg [⟨some 34,none,.ld 1 false (.t 2)⟩,⟨some 35,none,.len 1 (.t 34)⟩,⟨some 36,none,.mkf (.f 41) [] [.t 3,.t 2,.t 7]⟩,⟨some 37,none,.call .pure (.c (.fn (.f 40) [] [])) [.t 35,.t 36]⟩,⟨some 8,none,.mov (.t 37)⟩]) (
.seq (
.seq (
.reg [⟨some 38,none,.mov (.t 8)⟩,⟨some 39,none,.call .pure (.c (.fn (.f 32) [] [])) [.t 38,.c (.int .i64 1000)]⟩,⟨some 40,none,.bin .neq (.t 39) (.c (.int .i64 0))⟩]) (
.cond (.t 40) (
 .seq (
 .reg [⟨some 4,none,.mov (.c (.nils))⟩,
   ⟨some 5,none,.mov (.c (.int .i64 4))⟩]) (
 .ret)) (
 .skip))) (
.seq (
.reg [⟨some 41,none,.mov (.t 8)⟩,⟨some 4,none,.mov (.t 41)⟩,⟨some 5,none,.mov (.c (.int .i64 0))⟩]) (
.ret))))))⟩
/- lenslet/lensletref07.CheckKernel -/
def c10_0 : VC :=
.seq (
.seq (
.reg [⟨some 29,none,.mov (.t 4)⟩,⟨some 30,none,.mov (.t 0)⟩,⟨some 31,none,.len 1 (.t 30)⟩,⟨some 32,none,.bin .lss (.t 29) (.t 31)⟩]) (
.cond (.t 32) (
 .skip) (
 .exit 2))) (
.seq (
.blk 3 (
.seq (
.reg [⟨some 35,none,.mov (.t 0)⟩,⟨some 36,none,.mov (.t 3)⟩,⟨some 37,none,.ixa 1 (.t 35) (.t 36)⟩,⟨some 38,none,.ld 1 false (.t 37)⟩,⟨some 39,none,.mov (.t 4)⟩,⟨some 40,none,.ixa 1 (.t 38) (.t 39)⟩,⟨some 41,none,.ld 1 false (.t 40)⟩,⟨some 42,none,.call .pure (.c (.fn (.f 30) [] [])) [.t 41,.c (.int .i64 (-100)),.c (.int .i64 100)]⟩,⟨some 43,none,.bin .neq (.t 42) (.c (.int .i64 0))⟩]) (
.cond (.t 43) (
 .seq (
 .reg [⟨some 2,none,.mov (.c (.int .i64 3))⟩]) (
 .ret)) (
 .skip)))) (
.reg [⟨some 33,none,.mov (.t 4)⟩,⟨some 34,none,.bin .add (.t 33) (.c (.int .i64 1))⟩,⟨some 4,none,.mov (.t 34)⟩]))
def c10_1 : VC :=
.seq (
.seq (
.reg [⟨some 15,none,.mov (.t 3)⟩,⟨some 16,none,.mov (.t 0)⟩,⟨some 17,none,.len 1 (.t 16)⟩,⟨some 18,none,.bin .lss (.t 15) (.t 17)⟩]) (
.cond (.t 18) (
 .skip) (
 .exit 0))) (
.seq (
.blk 1 (
.seq (
.seq (
.reg [⟨some 21,none,.mov (.t 0)⟩,⟨some 22,none,.mov (.t 3)⟩,⟨some 23,none,.ixa 1 (.t 21) (.t 22)⟩,⟨some 24,none,.ld 1 false (.t 23)⟩,⟨some 25,none,.len 1 (.t 24)⟩,⟨some 26,none,.mov (.t 0)⟩,⟨some 27,none,.len 1 (.t 26)⟩,⟨some 28,none,.bin .neq (.t 25) (.t 27)⟩]) (
.cond (.t 28) (
 .seq (
 .reg [⟨some 2,none,.mov (.c (.int .i64 2))⟩]) (
 .ret)) (
 .skip))) (
.seq (
.reg [⟨some 4,none,.mov (.c (.int .i64 0))⟩]) (
.seq (
.blk 2 (
.loop [0,3,4] c10_0)) (
.kp [0,3]))))) (
.reg [⟨some 19,none,.mov (.t 3)⟩,⟨some 20,none,.bin .add (.t 19) (.c (.int .i64 1))⟩,⟨some 3,none,.mov (.t 20)⟩]))
def c10 : Fnc := ⟨[.t 2],
.seq (
.reg [⟨some 2,none,.mov (.c (.int .i64 0))⟩]) (
.seq (
.seq (
.reg [⟨some 5,none,.mov (.t 0)⟩,⟨some 6,none,.len 1 (.t 5)⟩,⟨some 7,none,.bin .eql (.t 6) (.c (.int .i64 0))⟩]) (
.cond (.t 7) (
 .seq (
 .reg [⟨some 2,none,.mov (.c (.int .i64 12))⟩]) (
 .ret)) (
 .skip))) (
.seq (
.seq (
.reg [⟨some 8,none,.mov (.t 0)⟩,⟨some 9,none,.len 1 (.t 8)⟩,⟨some 10,none,.bin .gtr (.t 9) (.c (.int .i64 5))⟩]) (
.cond (.t 10) (
 .seq (
 .reg [⟨some 2,none,.mov (.c (.int .i64 5))⟩]) (
 .ret)) (
 .skip))) (
.seq (
.seq (
.reg [⟨some 11,none,.mov (.t 0)⟩,⟨some 12,none,.len 1 (.t 11)⟩,⟨some 13,none,.bin .rem (.t 12) (.c (.int .i64 2))⟩,⟨some 14,none,.bin .eql (.t 13) (.c (.int .i64 0))⟩]) (
.cond (.t 14) (
 .seq (
 .reg [⟨some 2,none,.mov (.c (.int .i64 2))⟩]) (
 .ret)) (
 .skip))) (
.seq (
.seq (
.reg [⟨some 3,none,.mov (.c (.int .i64 0))⟩]) (
.seq (
.blk 0 (
.loop [0,3] c10_1)) (
.kp []))) (
.seq (
.reg [⟨some 2,none,.mov (.c (.int .i64 0))⟩]) (
.ret))))))⟩
/- lenslet/lensletlaw07.first -/
def c11 : Fnc := ⟨[.t 2],
.seq (
.reg [⟨some 2,none,.mov (.c (.int .i64 0))⟩]) (
.seq (
.reg [⟨some 3,none,.mov (.t 0)⟩,⟨some 4,none,.call .pure (.c (.fn (.f 42) [] [])) [.t 3]⟩,⟨some 2,none,.mov (.t 4)⟩]) (
.ret))⟩
/- lenslet/lensletlaw07.when -/
def c13 : Fnc := ⟨[.t 4],
.seq (
.reg [⟨some 4,none,.mov (.c (.int .i64 0))⟩]) (
.seq (
.seq (
.reg [⟨some 5,none,.mov (.t 0)⟩]) (
.cond (.t 5) (
 .seq (
 .reg [⟨some 6,none,.mov (.t 1)⟩,
   ⟨some 4,none,.mov (.t 6)⟩]) (
 .ret)) (
 .skip))) (
.seq (
.reg [⟨some 4,none,.mov (.c (.int .i64 0))⟩]) (
.ret)))⟩
/- lenslet/lensletlaw07.place -/
def c14 : Fnc := ⟨[.cell 4 2 true],
.seq (
.reg [⟨some 4,none,.box 2 (.c (.agg [.str [],.str []]))⟩]) (
.seq (
.reg [⟨some 5,none,.mov (.t 0)⟩,⟨some 6,none,.mov (.t 1)⟩,⟨some 7,none,.mkagg [.str [],.str []] [(0,1,(.t 5)),(1,1,(.t 6))]⟩,⟨none,none,.st 2 (.t 4) (.t 7)⟩]) (
.ret))⟩
/- lenslet/lensletlaw07.screen -/
def c15 : Fnc := ⟨[.t 0],
.seq (
.reg [⟨some 0,none,.mov (.c (.nils))⟩]) (
.seq (
.reg [⟨some 1,none,.mksl 2 1 [.int .i64 0,.int .i64 0] [(0,1,(.c (.int .i64 0))),(1,1,(.c (.int .i64 1)))]⟩,⟨some 2,none,.mksl 2 1 [.int .i64 0,.int .i64 0] [(0,1,(.c (.int .i64 2))),(1,1,(.c (.int .i64 3)))]⟩,⟨some 3,none,.mksl 2 1 [.nils,.nils] [(0,1,(.t 1)),(1,1,(.t 2))]⟩,⟨some 0,none,.mov (.t 3)⟩]) (
.ret))⟩
/- lenslet/sky.Mean -/
def c16 : Fnc := ⟨[.t 2,.t 3],
.seq (
.reg [⟨some 1,none,.box 1 (.t 0)⟩,⟨some 2,none,.mov (.c (.str []))⟩,⟨some 3,none,.mov (.c (.int .i64 0))⟩]) (
.seq (
.seq (
.reg [⟨some 5,none,.ld 1 false (.t 1)⟩,⟨some 6,none,.call .pure (.c (.fn (.f 4) [] [])) [.t 5]⟩,⟨some 4,none,.mov (.t 6)⟩]) (
.seq (
.reg [⟨some 7,none,.mov (.t 4)⟩,⟨some 8,none,.bin .neq (.t 7) (.c (.int .i64 0))⟩]) (
.cond (.t 8) (
 .seq (
 .reg [⟨some 9,none,.mov (.t 4)⟩,
   ⟨some 2,none,.mov (.c (.str []))⟩,
   ⟨some 3,none,.mov (.t 9)⟩]) (
 .ret)) (
 .skip)))) (
.seq (
.reg [⟨some 10,none,.ld 1 false (.t 1)⟩,⟨some 11,none,.len 1 (.t 10)⟩,⟨some 12,none,.mkf (.f 44) [] [.t 1]⟩,⟨some 13,none,.call .pure (.c (.fn (.f 45) [] [])) [.t 11,.t 12]⟩,⟨some 14,none,.call .pure (.c (.fn (.f 46) [] [])) [.t 13]⟩,⟨some 2,none,.mov (.t 14)⟩,⟨some 3,none,.mov (.c (.int .i64 0))⟩]) (
.ret)))⟩
/- lenslet/sky.Variance -/
def c17 : Fnc := ⟨[.t 2,.t 3],
.seq (
.reg [⟨some 1,none,.box 1 (.t 0)⟩,⟨some 2,none,.mov (.c (.str []))⟩,⟨some 3,none,.mov (.c (.int .i64 0))⟩]) (
.seq (
.seq (
.reg [⟨some 7,none,.ld 1 false (.t 1)⟩,⟨some 8,none,.call .pure (.c (.fn (.f 4) [] [])) [.t 7]⟩,⟨some 4,none,.mov (.t 8)⟩]) (
.seq (
.reg [⟨some 9,none,.mov (.t 4)⟩,⟨some 10,none,.bin .neq (.t 9) (.c (.int .i64 0))⟩]) (
.cond (.t 10) (
 .seq (
 .reg [⟨some 11,none,.mov (.t 4)⟩,
   ⟨some 2,none,.mov (.c (.str []))⟩,
   ⟨some 3,none,.mov (.t 11)⟩]) (
 .ret)) (
 .skip)))) (
.seq (
.reg [⟨some 12,none,.ld 1 false (.t 1)⟩,⟨some 13,none,.len 1 (.t 12)⟩,⟨some 14,none,.mkf (.f 47) [] [.t 1]⟩,⟨some 15,none,.call .pure (.c (.fn (.f 45) [] [])) [.t 13,.t 14]⟩,⟨some 5,none,.box 4 (.c (.agg [.int .i64 0,.nils,.int .i64 0,.nils]))⟩,⟨none,none,.st 4 (.t 5) (.t 15)⟩]) (
.seq (
.reg [⟨some 16,none,.ld 1 false (.t 1)⟩,⟨some 17,none,.len 1 (.t 16)⟩,⟨some 18,none,.mkf (.f 48) [] [.t 1]⟩,⟨some 19,none,.call .pure (.c (.fn (.f 45) [] [])) [.t 17,.t 18]⟩,⟨some 6,none,.box 4 (.c (.agg [.int .i64 0,.nils,.int .i64 0,.nils]))⟩,⟨none,none,.st 4 (.t 6) (.t 19)⟩]) (
.seq (
.reg [⟨some 20,none,.ld 4 true (.t 6)⟩,⟨some 21,none,.ld 4 true (.t 5)⟩,⟨some 22,none,.ld 4 true (.t 5)⟩,⟨some 23,none,.call .pure (.c (.fn (.f 49) [] [])) [.t 21,.t 22]⟩,⟨some 24,none,.call .pure (.c (.fn (.f 50) [] [])) [.t 20,.t 23]⟩,⟨some 25,none,.call .pure (.c (.fn (.f 46) [] [])) [.t 24]⟩,⟨some 2,none,.mov (.t 25)⟩,⟨some 3,none,.mov (.c (.int .i64 0))⟩]) (
.ret)))))⟩
/- lenslet/sky.Structure -/
def c18 : Fnc := ⟨[.t 6,.t 7],
.seq (
.reg [⟨some 3,none,.box 1 (.t 0)⟩,⟨some 4,none,.box 1 (.t 1)⟩,⟨some 5,none,.box 1 (.t 2)⟩,⟨some 6,none,.mov (.c (.str []))⟩,⟨some 7,none,.mov (.c (.int .i64 0))⟩]) (
.seq (
.seq (
.reg [⟨some 9,none,.ld 1 false (.t 3)⟩,⟨some 10,none,.call .pure (.c (.fn (.f 4) [] [])) [.t 9]⟩,⟨some 11,none,.ld 1 false (.t 4)⟩,⟨some 12,none,.call .pure (.c (.fn (.f 51) [] [])) [.t 11]⟩,⟨some 13,none,.ld 1 false (.t 5)⟩,⟨some 14,none,.call .pure (.c (.fn (.f 51) [] [])) [.t 13]⟩,⟨some 15,none,.mksl 3 1 [.int .i64 0,.int .i64 0,.int .i64 0] [(0,1,(.t 10)),(1,1,(.t 12)),(2,1,(.t 14))]⟩,⟨some 16,none,.call .pure (.c (.fn (.f 33) [] [])) [.t 15]⟩,⟨some 8,none,.mov (.t 16)⟩]) (
.seq (
.reg [⟨some 17,none,.mov (.t 8)⟩,⟨some 18,none,.bin .neq (.t 17) (.c (.int .i64 0))⟩]) (
.cond (.t 18) (
 .seq (
 .reg [⟨some 19,none,.mov (.t 8)⟩,
   ⟨some 6,none,.mov (.c (.str []))⟩,
   ⟨some 7,none,.mov (.t 19)⟩]) (
 .ret)) (
 .skip)))) (
.seq (
.reg [⟨some 20,none,.ld 1 false (.t 3)⟩,⟨some 21,none,.len 1 (.t 20)⟩,⟨some 22,none,.mkf (.f 52) [] [.t 3,.t 4,.t 5]⟩,⟨some 23,none,.call .pure (.c (.fn (.f 45) [] [])) [.t 21,.t 22]⟩,⟨some 24,none,.call .pure (.c (.fn (.f 46) [] [])) [.t 23]⟩,⟨some 6,none,.mov (.t 24)⟩,⟨some 7,none,.mov (.c (.int .i64 0))⟩]) (
.ret)))⟩
/- lenslet/sky.Value -/
def c19 : Fnc := ⟨[.t 4,.t 5],
.seq (
.reg [⟨some 3,none,.box 2 (.t 1)⟩,⟨some 4,none,.mov (.c (.str []))⟩,⟨some 5,none,.mov (.c (.int .i64 0))⟩]) (
.seq (
.seq (
.reg [⟨some 7,none,.mov (.t 0)⟩,⟨some 8,none,.call .pure (.c (.fn (.f 4) [] [])) [.t 7]⟩,⟨some 9,none,.ld 2 true (.t 3)⟩,⟨some 10,none,.call .pure (.c (.fn (.f 53) [] [])) [.t 9]⟩,⟨some 11,none,.mksl 2 1 [.int .i64 0,.int .i64 0] [(0,1,(.t 8)),(1,1,(.t 10))]⟩,⟨some 12,none,.call .pure (.c (.fn (.f 33) [] [])) [.t 11]⟩,⟨some 6,none,.mov (.t 12)⟩]) (
.seq (
.reg [⟨some 13,none,.mov (.t 6)⟩,⟨some 14,none,.bin .neq (.t 13) (.c (.int .i64 0))⟩]) (
.cond (.t 14) (
 .seq (
 .reg [⟨some 15,none,.mov (.t 6)⟩,
   ⟨some 4,none,.mov (.c (.str []))⟩,
   ⟨some 5,none,.mov (.t 15)⟩]) (
 .ret)) (
 .skip)))) (
.seq (
.reg [⟨some 16,none,.ld 2 true (.t 3)⟩,⟨some 17,none,.call .pure (.c (.fn (.f 54) [] [])) [.t 16]⟩,⟨some 18,none,.mov (.t 0)⟩,⟨some 19,none,.len 1 (.t 18)⟩,⟨some 20,none,.call .pure (.c (.fn (.f 55) [] [])) [.t 17,.t 19]⟩,⟨some 21,none,.mov (.t 0)⟩,⟨some 22,none,.call .pure (.c (.fn (.f 56) [] [])) [.t 20,.t 21]⟩,⟨some 23,none,.call .pure (.c (.fn (.f 57) [] [])) [.t 22]⟩,⟨some 24,none,.ext 0 (.t 23)⟩,⟨some 25,none,.ext 1 (.t 23)⟩,⟨some 4,none,.mov (.t 24)⟩,⟨some 5,none,.mov (.t 25)⟩]) (
.ret)))⟩
/- lenslet/sky.Shift -/
def c20 : Fnc := ⟨[.t 6,.t 7],
.seq (
.reg [⟨some 3,none,.box 1 (.t 0)⟩,⟨some 4,none,.box 1 (.t 1)⟩,⟨some 5,none,.box 1 (.t 2)⟩,⟨some 6,none,.mov (.c (.nils))⟩,⟨some 7,none,.mov (.c (.int .i64 0))⟩]) (
.seq (
.seq (
.reg [⟨some 9,none,.ld 1 false (.t 3)⟩,⟨some 10,none,.call .pure (.c (.fn (.f 4) [] [])) [.t 9]⟩,⟨some 11,none,.ld 1 false (.t 4)⟩,⟨some 12,none,.call .pure (.c (.fn (.f 51) [] [])) [.t 11]⟩,⟨some 13,none,.ld 1 false (.t 5)⟩,⟨some 14,none,.call .pure (.c (.fn (.f 51) [] [])) [.t 13]⟩,⟨some 15,none,.mksl 3 1 [.int .i64 0,.int .i64 0,.int .i64 0] [(0,1,(.t 10)),(1,1,(.t 12)),(2,1,(.t 14))]⟩,⟨some 16,none,.call .pure (.c (.fn (.f 33) [] [])) [.t 15]⟩,⟨some 8,none,.mov (.t 16)⟩]) (
.seq (
.reg [⟨some 17,none,.mov (.t 8)⟩,⟨some 18,none,.bin .neq (.t 17) (.c (.int .i64 0))⟩]) (
.cond (.t 18) (
 .seq (
 .reg [⟨some 19,none,.mov (.t 8)⟩,
   ⟨some 6,none,.mov (.c (.nils))⟩,
   ⟨some 7,none,.mov (.t 19)⟩]) (
 .ret)) (
 .skip)))) (
.seq (
.reg [⟨some 20,none,.ld 1 false (.t 3)⟩,⟨some 21,none,.len 1 (.t 20)⟩,⟨some 22,none,.mkf (.f 58) [] [.t 3,.t 4,.t 5]⟩,⟨some 23,none,.call .pure (.c (.fn (.f 40) [] [])) [.t 21,.t 22]⟩,⟨some 6,none,.mov (.t 23)⟩,⟨some 7,none,.mov (.c (.int .i64 0))⟩]) (
.ret)))⟩
/- lenslet/lensletref07.SameScreen -/
def c21_0 : VC :=
.seq (
.seq (
.reg [⟨some 11,none,.mov (.t 5)⟩,⟨some 12,none,.mov (.t 0)⟩,⟨some 13,none,.len 1 (.t 12)⟩,⟨some 14,none,.bin .lss (.t 11) (.t 13)⟩]) (
.cond (.t 14) (
 .skip) (
 .exit 0))) (
.seq (
.blk 1 (
.seq (
.reg [⟨some 17,none,.mov (.t 0)⟩,⟨some 18,none,.mov (.t 5)⟩,⟨some 19,none,.ixa 1 (.t 17) (.t 18)⟩,⟨some 20,none,.ld 1 false (.t 19)⟩,⟨some 21,none,.mov (.t 1)⟩,⟨some 22,none,.mov (.t 5)⟩,⟨some 23,none,.ixa 1 (.t 21) (.t 22)⟩,⟨some 24,none,.ld 1 false (.t 23)⟩,⟨some 25,none,.call .pure (.c (.fn (.f 59) [] [])) [.t 20,.t 24]⟩,⟨some 26,none,.un .not (.t 25)⟩]) (
.cond (.t 26) (
 .seq (
 .reg [⟨some 4,none,.mov (.c (.bool false))⟩]) (
 .ret)) (
 .skip)))) (
.reg [⟨some 15,none,.mov (.t 5)⟩,⟨some 16,none,.bin .add (.t 15) (.c (.int .i64 1))⟩,⟨some 5,none,.mov (.t 16)⟩]))
def c21 : Fnc := ⟨[.t 4],
.seq (
.reg [⟨some 4,none,.mov (.c (.bool false))⟩]) (
.seq (
.seq (
.reg [⟨some 6,none,.mov (.t 0)⟩,⟨some 7,none,.len 1 (.t 6)⟩,⟨some 8,none,.mov (.t 1)⟩,⟨some 9,none,.len 1 (.t 8)⟩,⟨some 10,none,.bin .neq (.t 7) (.t 9)⟩]) (
.cond (.t 10) (
 .seq (
 .reg [⟨some 4,none,.mov (.c (.bool false))⟩]) (
 .ret)) (
 .skip))) (
.seq (
.seq (
.reg [⟨some 5,none,.mov (.c (.int .i64 0))⟩]) (
.seq (
.blk 0 (
.loop [0,1,5] c21_0)) (
.kp []))) (
.seq (
.reg [⟨some 4,none,.mov (.c (.bool true))⟩]) (
.ret))))⟩
/- lenslet/sky.Footprint -/
def c22 : Fnc := ⟨[.cell 6 2 true,.t 7],
.seq (
.reg [⟨some 3,none,.box 3 (.t 0)⟩,⟨some 5,none,.box 2 (.t 2)⟩,⟨some 6,none,.box 2 (.c (.agg [.str [],.str []]))⟩,⟨some 7,none,.mov (.c (.int .i64 0))⟩]) (
.seq (
.seq (
.reg [⟨some 10,none,.ld 3 true (.t 3)⟩,⟨some 11,none,.call .pure (.c (.fn (.f 60) [] [])) [.t 10]⟩,⟨some 12,none,.mov (.t 1)⟩,⟨some 13,none,.call .pure (.c (.fn (.f 61) [] [])) [.t 12,.c (.int .i64 0)]⟩,⟨some 14,none,.ld 2 true (.t 5)⟩,⟨some 15,none,.call .pure (.c (.fn (.f 53) [] [])) [.t 14]⟩,⟨some 16,none,.mksl 3 1 [.int .i64 0,.int .i64 0,.int .i64 0] [(0,1,(.t 11)),(1,1,(.t 13)),(2,1,(.t 15))]⟩,⟨some 17,none,.call .pure (.c (.fn (.f 33) [] [])) [.t 16]⟩,⟨some 8,none,.mov (.t 17)⟩]) (
.seq (
.reg [⟨some 18,none,.mov (.t 8)⟩,⟨some 19,none,.bin .neq (.t 18) (.c (.int .i64 0))⟩]) (
.cond (.t 19) (
 .seq (
 .reg [⟨some 20,none,.mkagg [.str [],.str []] []⟩,
   ⟨some 21,none,.mov (.t 8)⟩,
   ⟨none,none,.st 2 (.t 6) (.t 20)⟩,
   ⟨some 7,none,.mov (.t 21)⟩]) (
 .ret)) (
 .skip)))) (
.seq (
.reg [⟨some 22,none,.mov (.t 1)⟩,⟨some 23,none,.call .pure (.c (.fn (.f 62) [] [])) [.t 22]⟩,⟨some 9,none,.box 4 (.c (.agg [.int .i64 0,.nils,.int .i64 0,.nils]))⟩,⟨none,none,.st 4 (.t 9) (.t 23)⟩]) (
.seq (
.seq (
.reg [⟨some 24,none,.ld 3 true (.t 3)⟩,⟨some 25,none,.ld 4 true (.t 9)⟩,⟨some 26,none,.call .pure (.c (.fn (.f 63) [] [])) [.t 24,.t 25]⟩,⟨some 27,none,.un .not (.t 26)⟩]) (
.cond (.t 27) (
 .seq (
 .reg [⟨some 28,none,.mkagg [.str [],.str []] []⟩,
   ⟨none,none,.st 2 (.t 6) (.t 28)⟩,
   ⟨some 7,none,.mov (.c (.int .i64 31))⟩]) (
 .ret)) (
 .skip))) (
.seq (
.reg [⟨some 29,none,.ld 3 true (.t 3)⟩,⟨some 30,none,.ld 4 true (.t 9)⟩,⟨some 31,none,.ld 2 true (.t 5)⟩,⟨some 32,none,.call .pure (.c (.fn (.f 64) [] [])) [.t 29,.t 30,.t 31]⟩,⟨some 33,none,.call .pure (.c (.fn (.f 65) [] [])) [.t 32]⟩,⟨some 34,none,.ext 0 (.t 33)⟩,⟨some 35,none,.ext 1 (.t 33)⟩,⟨none,none,.st 2 (.t 6) (.t 34)⟩,⟨some 7,none,.mov (.t 35)⟩]) (
.ret)))))⟩
/- lenslet/lensletlaw07.layer -/
def c23 : Fnc := ⟨[.cell 0 8 true],
.seq (
.reg [⟨some 0,none,.box 8 (.c (.agg [.nils,.str [],.str [],.str [],.str [],.str [],.str [],.str []]))⟩]) (
.seq (
.reg [⟨some 1,none,.call .pure (.c (.fn (.f 15) [] [])) []⟩,⟨some 2,none,.call .pure (.c (.fn (.f 14) [] [])) [.c (.str [48]),.c (.str [48])]⟩,⟨some 3,none,.call .pure (.c (.fn (.f 14) [] [])) [.c (.str [49,47,50]),.c (.str [48])]⟩,⟨some 4,none,.mkagg [.nils,.str [],.str [],.str [],.str [],.str [],.str [],.str []] [(0,1,(.t 1)),(1,1,(.c (.str [53]))),(2,1,(.c (.str [49]))),(3,1,(.c (.str [49,47,50]))),(4,2,(.t 2)),(6,2,(.t 3))]⟩,⟨none,none,.st 8 (.t 0) (.t 4)⟩]) (
.ret))⟩
/- lenslet/sky.LayerPhase -/
def c24 : Fnc := ⟨[.t 8,.t 9],
.seq (
.reg [⟨some 4,none,.box 8 (.t 0)⟩,⟨some 5,none,.box 3 (.t 1)⟩,⟨some 6,none,.box 2 (.t 2)⟩,⟨some 8,none,.mov (.c (.str []))⟩,⟨some 9,none,.mov (.c (.int .i64 0))⟩]) (
.seq (
.seq (
.reg [⟨some 11,none,.ld 8 true (.t 4)⟩,⟨some 12,none,.ld 3 true (.t 5)⟩,⟨some 13,none,.ld 2 true (.t 6)⟩,⟨some 14,none,.mov (.t 3)⟩,⟨some 15,none,.call .pure (.c (.fn (.f 66) [] [])) [.t 11,.t 12,.t 13,.t 14]⟩,⟨some 10,none,.mov (.t 15)⟩]) (
.seq (
.reg [⟨some 16,none,.mov (.t 10)⟩,⟨some 17,none,.bin .neq (.t 16) (.c (.int .i64 0))⟩]) (
.cond (.t 17) (
 .seq (
 .reg [⟨some 18,none,.mov (.t 10)⟩,
   ⟨some 8,none,.mov (.c (.str []))⟩,
   ⟨some 9,none,.mov (.t 18)⟩]) (
 .ret)) (
 .skip)))) (
.seq (
.reg [⟨some 19,none,.ld 8 true (.t 4)⟩,⟨some 20,none,.ld 3 true (.t 5)⟩,⟨some 21,none,.ld 2 true (.t 6)⟩,⟨some 22,none,.mov (.t 3)⟩,⟨some 23,none,.call .pure (.c (.fn (.f 67) [] [])) [.t 19,.t 20,.t 21,.t 22]⟩,⟨some 24,none,.call .pure (.c (.fn (.f 57) [] [])) [.t 23]⟩,⟨some 25,none,.ext 0 (.t 24)⟩,⟨some 26,none,.ext 1 (.t 24)⟩,⟨some 8,none,.mov (.t 25)⟩,⟨some 9,none,.mov (.t 26)⟩]) (
.ret)))⟩
/- lenslet/sky.Elongation -/
def c25 : Fnc := ⟨[.cell 8 2 true,.t 9],
.seq (
.reg [⟨some 4,none,.box 3 (.t 0)⟩,⟨some 6,none,.box 2 (.t 2)⟩,⟨some 7,none,.box 2 (.t 3)⟩,⟨some 8,none,.box 2 (.c (.agg [.str [],.str []]))⟩,⟨some 9,none,.mov (.c (.int .i64 0))⟩]) (
.seq (
.seq (
.reg [⟨some 14,none,.ld 3 true (.t 4)⟩,⟨some 15,none,.call .pure (.c (.fn (.f 60) [] [])) [.t 14]⟩,⟨some 16,none,.ld 3 true (.t 4)⟩,⟨some 17,none,.call .pure (.c (.fn (.f 68) [] [])) [.t 16]⟩,⟨some 18,none,.call .pure (.c (.fn (.f 31) [] [])) [.t 17,.c (.int .i64 13)]⟩,⟨some 19,none,.mov (.t 1)⟩,⟨some 20,none,.call .pure (.c (.fn (.f 61) [] [])) [.t 19,.c (.int .i64 0)]⟩,⟨some 21,none,.mksl 3 1 [.int .i64 0,.int .i64 0,.int .i64 0] [(0,1,(.t 15)),(1,1,(.t 18)),(2,1,(.t 20))]⟩,⟨some 22,none,.call .pure (.c (.fn (.f 33) [] [])) [.t 21]⟩,⟨some 10,none,.mov (.t 22)⟩]) (
.seq (
.reg [⟨some 23,none,.mov (.t 10)⟩,⟨some 24,none,.bin .neq (.t 23) (.c (.int .i64 0))⟩]) (
.cond (.t 24) (
 .seq (
 .reg [⟨some 25,none,.mkagg [.str [],.str []] []⟩,
   ⟨some 26,none,.mov (.t 10)⟩,
   ⟨none,none,.st 2 (.t 8) (.t 25)⟩,
   ⟨some 9,none,.mov (.t 26)⟩]) (
 .ret)) (
 .skip)))) (
.seq (
.reg [⟨some 27,none,.mov (.t 1)⟩,⟨some 28,none,.call .pure (.c (.fn (.f 62) [] [])) [.t 27]⟩,⟨some 29,none,.call .pure (.c (.fn (.f 69) [] [])) [.c (.int .i64 2)]⟩,⟨some 30,none,.call .pure (.c (.fn (.f 70) [] [])) [.t 28,.t 29]⟩,⟨some 31,none,.off 2 (.t 4)⟩,⟨some 32,none,.ld 1 false (.t 31)⟩,⟨some 33,none,.call .pure (.c (.fn (.f 62) [] [])) [.t 32]⟩,⟨some 11,none,.box 4 (.c (.agg [.int .i64 0,.nils,.int .i64 0,.nils]))⟩,⟨some 12,none,.box 4 (.c (.agg [.int .i64 0,.nils,.int .i64 0,.nils]))⟩,⟨none,none,.st 4 (.t 11) (.t 30)⟩,⟨none,none,.st 4 (.t 12) (.t 33)⟩]) (
.seq (
.seq (
.reg [⟨some 34,none,.ld 4 true (.t 11)⟩,⟨some 35,none,.ld 4 true (.t 12)⟩,⟨some 36,none,.call .pure (.c (.fn (.f 71) [] [])) [.t 34,.t 35]⟩,⟨some 37,none,.bin .geq (.t 36) (.c (.int .i64 0))⟩,⟨some 38,none,.call .pure (.c (.fn (.f 31) [] [])) [.t 37,.c (.int .i64 3)]⟩,⟨some 39,none,.ld 2 true (.t 6)⟩,⟨some 40,none,.call .pure (.c (.fn (.f 53) [] [])) [.t 39]⟩,⟨some 41,none,.ld 2 true (.t 7)⟩,⟨some 42,none,.call .pure (.c (.fn (.f 53) [] [])) [.t 41]⟩,⟨some 43,none,.mksl 3 1 [.int .i64 0,.int .i64 0,.int .i64 0] [(0,1,(.t 38)),(1,1,(.t 40)),(2,1,(.t 42))]⟩,⟨some 44,none,.call .pure (.c (.fn (.f 33) [] [])) [.t 43]⟩,⟨some 13,none,.mov (.t 44)⟩]) (
.seq (
.reg [⟨some 45,none,.mov (.t 13)⟩,⟨some 46,none,.bin .neq (.t 45) (.c (.int .i64 0))⟩]) (
.cond (.t 46) (
 .seq (
 .reg [⟨some 47,none,.mkagg [.str [],.str []] []⟩,
   ⟨some 48,none,.mov (.t 13)⟩,
   ⟨none,none,.st 2 (.t 8) (.t 47)⟩,
   ⟨some 9,none,.mov (.t 48)⟩]) (
 .ret)) (
 .skip)))) (
.seq (
.reg [⟨some 49,none,.ld 2 true (.t 7)⟩,⟨some 50,none,.call .pure (.c (.fn (.f 54) [] [])) [.t 49]⟩,⟨some 51,none,.ld 2 true (.t 6)⟩,⟨some 52,none,.call .pure (.c (.fn (.f 54) [] [])) [.t 51]⟩,⟨some 53,none,.call .pure (.c (.fn (.f 72) [] [])) [.t 50,.t 52]⟩,⟨some 54,none,.ld 4 true (.t 12)⟩,⟨some 55,none,.ld 4 true (.t 11)⟩,⟨some 56,none,.call .pure (.c (.fn (.f 50) [] [])) [.t 54,.t 55]⟩,⟨some 57,none,.call .pure (.c (.fn (.f 73) [] [])) [.t 56]⟩,⟨some 58,none,.ld 4 true (.t 12)⟩,⟨some 59,none,.ld 4 true (.t 11)⟩,⟨some 60,none,.call .pure (.c (.fn (.f 74) [] [])) [.t 58,.t 59]⟩,⟨some 61,none,.call .pure (.c (.fn (.f 73) [] [])) [.t 60]⟩,⟨some 62,none,.call .pure (.c (.fn (.f 50) [] [])) [.t 57,.t 61]⟩,⟨some 63,none,.call .pure (.c (.fn (.f 75) [] [])) [.t 53,.t 62]⟩,⟨some 64,none,.call .pure (.c (.fn (.f 65) [] [])) [.t 63]⟩,⟨some 65,none,.ext 0 (.t 64)⟩,⟨some 66,none,.ext 1 (.t 64)⟩,⟨none,none,.st 2 (.t 8) (.t 65)⟩,⟨some 9,none,.mov (.t 66)⟩]) (
.ret)))))⟩
/- lenslet/sky.Matrix -/
def c26_0 : VC :=
.seq (
.reg [⟨some 78,none,.bin .lss (.t 77) (.t 76)⟩]) (
.seq (
.cond (.t 78) (
 .skip) (
 .exit 2)) (
.seq (
.blk 3 (
.seq (
.reg [⟨some 79,none,.ixa 2 (.t 75) (.t 77)⟩,⟨some 80,none,.ld 2 true (.t 79)⟩,⟨some 16,none,.box 2 (.c (.agg [.str [],.str []]))⟩,⟨none,none,.st 2 (.t 16) (.t 80)⟩]) (
.seq (
.reg [⟨some 82,none,.mov (.t 0)⟩,⟨some 83,none,.ld 3 true (.t 14)⟩,⟨some 84,none,.ld 2 true (.t 16)⟩,⟨some 85,none,.mov (.t 3)⟩,⟨some 86,none,.mov (.t 11)⟩,⟨some 87,none,.call .pure (.c (.fn (.f 82) [] [])) [.t 82,.t 83,.t 84,.t 85,.t 86]⟩,⟨some 88,none,.call .pure (.c (.fn (.f 83) [] [])) [.t 87]⟩,⟨some 81,none,.mov (.t 88)⟩,⟨some 89,none,.ext 0 (.t 81)⟩,⟨some 90,none,.ext 1 (.t 81)⟩,⟨some 17,none,.mov (.t 89)⟩,⟨some 18,none,.mov (.t 90)⟩]) (
.seq (
.seq (
.reg [⟨some 91,none,.mov (.t 18)⟩,⟨some 92,none,.bin .neq (.t 91) (.c (.int .i64 0))⟩]) (
.cond (.t 92) (
 .seq (
 .reg [⟨some 93,none,.mov (.t 18)⟩,
   ⟨some 8,none,.mov (.c (.nils))⟩,
   ⟨some 9,none,.mov (.t 93)⟩]) (
 .ret)) (
 .skip))) (
.seq (
.fz [17]) (
.reg [⟨some 94,none,.mov (.t 12)⟩,⟨some 95,none,.mov (.t 17)⟩,⟨some 96,none,.mksl 1 1 [.nils] [(0,1,(.t 95))]⟩,⟨some 97,none,.app 1 24 (.t 94) (.t 96)⟩,⟨some 12,none,.mov (.t 97)⟩])))))) (
.reg [⟨some 98,none,.bin .add (.t 77) (.c (.int .i64 1))⟩,⟨some 77,none,.mov (.t 98)⟩])))
def c26_1 : VC :=
.seq (
.reg [⟨some 72,none,.bin .lss (.t 71) (.t 70)⟩]) (
.seq (
.cond (.t 72) (
 .skip) (
 .exit 0)) (
.seq (
.blk 1 (
.seq (
.reg [⟨some 73,none,.ixa 3 (.t 69) (.t 71)⟩,⟨some 74,none,.ld 3 true (.t 73)⟩,⟨some 14,none,.box 3 (.c (.agg [.str [],.str [],.str []]))⟩,⟨none,none,.st 3 (.t 14) (.t 74)⟩]) (
.seq (
.reg [⟨some 75,none,.mov (.t 2)⟩,⟨some 76,none,.len 1 (.t 75)⟩,⟨some 77,none,.mov (.c (.int .i64 0))⟩]) (
.seq (
.blk 2 (
.loop [0,2,3,11,12,14,69,70,71,75,76,77] c26_0)) (
.kp [0,2,3,11,12,69,70,71]))))) (
.reg [⟨some 99,none,.bin .add (.t 71) (.c (.int .i64 1))⟩,⟨some 71,none,.mov (.t 99)⟩])))
def c26 : Fnc := ⟨[.t 8,.t 9],
.seq (
.reg [⟨some 8,none,.mov (.c (.nils))⟩,⟨some 9,none,.mov (.c (.int .i64 0))⟩]) (
.seq (
.reg [⟨some 19,none,.mov (.t 0)⟩,⟨some 20,none,.len 1 (.t 19)⟩,⟨some 21,none,.bin .eql (.t 20) (.c (.int .i64 0))⟩,⟨some 22,none,.call .pure (.c (.fn (.f 31) [] [])) [.t 21,.c (.int .i64 12)]⟩,⟨some 23,none,.mov (.t 0)⟩,⟨some 24,none,.call .pure (.c (.fn (.f 76) [] [])) [.t 23]⟩,⟨some 25,none,.mov (.t 1)⟩,⟨some 26,none,.len 1 (.t 25)⟩,⟨some 27,none,.bin .eql (.t 26) (.c (.int .i64 0))⟩,⟨some 28,none,.call .pure (.c (.fn (.f 31) [] [])) [.t 27,.c (.int .i64 12)]⟩,⟨some 29,none,.mov (.t 1)⟩,⟨some 30,none,.len 1 (.t 29)⟩,⟨some 31,none,.bin .gtr (.t 30) (.c (.int .i64 6))⟩,⟨some 32,none,.call .pure (.c (.fn (.f 31) [] [])) [.t 31,.c (.int .i64 5)]⟩,⟨some 33,none,.mksl 4 1 [.int .i64 0,.int .i64 0,.int .i64 0,.int .i64 0] [(0,1,(.t 22)),(1,1,(.t 24)),(2,1,(.t 28)),(3,1,(.t 32))]⟩,⟨some 34,none,.call .pure (.c (.fn (.f 33) [] [])) [.t 33]⟩,⟨some 10,none,.mov (.t 34)⟩]) (
.seq (
.seq (
.reg [⟨some 35,none,.mov (.t 10)⟩,⟨some 36,none,.mov (.t 1)⟩,⟨some 37,none,.mov (.t 1)⟩,⟨some 38,none,.len 1 (.t 37)⟩,⟨some 39,none,.mn [.t 38,.c (.int .i64 6)]⟩,⟨some 40,none,.sli (.sl 3) (.t 36) none (some (.t 39))⟩,⟨some 41,none,.call .pure (.c (.fn (.f 77) [] [])) [.t 40,.c (.fn (.f 60) [] [])]⟩,⟨some 42,none,.call .pure (.c (.fn (.f 33) [] [])) [.t 41]⟩,⟨some 43,none,.mov (.t 2)⟩,⟨some 44,none,.len 1 (.t 43)⟩,⟨some 45,none,.bin .eql (.t 44) (.c (.int .i64 0))⟩,⟨some 46,none,.call .pure (.c (.fn (.f 31) [] [])) [.t 45,.c (.int .i64 12)]⟩,⟨some 47,none,.mov (.t 2)⟩,⟨some 48,none,.call .pure (.c (.fn (.f 78) [] [])) [.t 47]⟩,⟨some 49,none,.mov (.t 3)⟩,⟨some 50,none,.call .pure (.c (.fn (.f 51) [] [])) [.t 49]⟩,⟨some 51,none,.mksl 5 1 [.int .i64 0,.int .i64 0,.int .i64 0,.int .i64 0,.int .i64 0] [(0,1,(.t 35)),(1,1,(.t 42)),(2,1,(.t 46)),(3,1,(.t 48)),(4,1,(.t 50))]⟩,⟨some 52,none,.call .pure (.c (.fn (.f 33) [] [])) [.t 51]⟩,⟨some 10,none,.mov (.t 52)⟩]) (
.seq (
.reg [⟨some 53,none,.mov (.t 10)⟩,⟨some 54,none,.bin .neq (.t 53) (.c (.int .i64 0))⟩]) (
.cond (.t 54) (
 .seq (
 .reg [⟨some 55,none,.mov (.t 10)⟩,
   ⟨some 8,none,.mov (.c (.nils))⟩,
   ⟨some 9,none,.mov (.t 55)⟩]) (
 .ret)) (
 .skip)))) (
.seq (
.reg [⟨some 56,none,.mov (.t 0)⟩,⟨some 57,none,.call .pure (.c (.fn (.f 79) [] [])) [.t 56,.c (.fn (.f 80) [] [])]⟩,⟨some 58,none,.call .pure (.c (.fn (.f 37) [] [])) [.c (.int .i64 0),.t 57,.c (.fn (.f 81) [] [])]⟩,⟨some 11,none,.mov (.t 58)⟩]) (
.seq (
.seq (
.reg [⟨some 59,none,.mov (.t 11)⟩,⟨some 60,none,.bin .gtr (.t 59) (.c (.int .i64 64))⟩,⟨some 61,none,.mov (.t 60)⟩,⟨some 62,some (61,false),.mov (.t 1)⟩,⟨some 63,some (61,false),.len 1 (.t 62)⟩,⟨some 64,some (61,false),.mov (.t 2)⟩,⟨some 65,some (61,false),.len 1 (.t 64)⟩,⟨some 66,some (61,false),.bin .mul (.t 63) (.t 65)⟩,⟨some 67,some (61,false),.bin .gtr (.t 66) (.c (.int .i64 64))⟩,⟨some 68,none,.pick (.t 61) (.c (.bool true)) (.t 67)⟩]) (
.cond (.t 68) (
 .seq (
 .reg [⟨some 8,none,.mov (.c (.nils))⟩,
   ⟨some 9,none,.mov (.c (.int .i64 22))⟩]) (
 .ret)) (
 .skip))) (
.seq (
.reg [⟨some 12,none,.mov (.c (.nils))⟩]) (
.seq (
.seq (
.reg [⟨some 69,none,.mov (.t 1)⟩,⟨some 70,none,.len 1 (.t 69)⟩,⟨some 71,none,.mov (.c (.int .i64 0))⟩]) (
.seq (
.blk 0 (
.loop [0,2,3,11,12,69,70,71] c26_1)) (
.kp [12]))) (
.seq (
.reg [⟨some 100,none,.mov (.t 12)⟩,⟨some 8,none,.mov (.t 100)⟩,⟨some 9,none,.mov (.c (.int .i64 0))⟩]) (
.ret))))))))⟩
/- lenslet/sky.Tomography -/
def c27_0 : VC :=
.seq (
.reg [⟨some 53,none,.bin .lss (.t 52) (.t 51)⟩]) (
.seq (
.cond (.t 53) (
 .skip) (
 .exit 2)) (
.seq (
.blk 3 (
.seq (
.reg [⟨some 54,none,.ixa 1 (.t 50) (.t 52)⟩,⟨some 55,none,.ld 1 false (.t 54)⟩,⟨some 13,none,.mov (.t 55)⟩]) (
.reg [⟨some 56,none,.mov (.t 10)⟩,⟨some 57,none,.mov (.t 11)⟩,⟨some 58,none,.mov (.t 10)⟩,⟨some 59,none,.mov (.t 11)⟩,⟨some 60,none,.ixa 1 (.t 58) (.t 59)⟩,⟨some 61,none,.ld 1 false (.t 60)⟩,⟨some 62,none,.mov (.t 13)⟩,⟨some 63,none,.mov (.t 11)⟩,⟨some 64,none,.ixa 4 (.t 62) (.t 63)⟩,⟨some 65,none,.ld 4 true (.t 64)⟩,⟨some 66,none,.mksl 1 4 [.int .i64 0,.nils,.int .i64 0,.nils] [(0,4,(.t 65))]⟩,⟨some 67,none,.app 4 64 (.t 61) (.t 66)⟩,⟨some 68,none,.ixa 1 (.t 56) (.t 57)⟩,⟨none,none,.st 1 (.t 68) (.t 67)⟩]))) (
.reg [⟨some 69,none,.bin .add (.t 52) (.c (.int .i64 1))⟩,⟨some 52,none,.mov (.t 69)⟩])))
def c27_1 : VC :=
.seq (
.reg [⟨some 48,none,.bin .lss (.t 47) (.t 46)⟩]) (
.seq (
.cond (.t 48) (
 .skip) (
 .exit 0)) (
.seq (
.blk 1 (
.seq (
.reg [⟨some 49,none,.mov (.t 47)⟩,⟨some 11,none,.mov (.t 49)⟩]) (
.seq (
.reg [⟨some 50,none,.mov (.t 9)⟩,⟨some 51,none,.len 1 (.t 50)⟩,⟨some 52,none,.mov (.c (.int .i64 0))⟩]) (
.seq (
.blk 2 (
.loop [1,5,9,10,11,46,47,50,51,52] c27_0)) (
.kp [1,5,9,10,46,47]))))) (
.reg [⟨some 70,none,.bin .add (.t 47) (.c (.int .i64 1))⟩,⟨some 47,none,.mov (.t 70)⟩])))
def c27 : Fnc := ⟨[.t 6,.t 7],
.seq (
.reg [⟨some 5,none,.box 1 (.t 2)⟩,⟨some 6,none,.mov (.c (.nils))⟩,⟨some 7,none,.mov (.c (.int .i64 0))⟩]) (
.seq (
.seq (
.reg [⟨some 17,none,.mov (.t 0)⟩,⟨some 18,none,.call .pure (.c (.fn (.f 84) [] [])) [.t 17]⟩,⟨some 19,none,.mov (.t 1)⟩,⟨some 20,none,.call .pure (.c (.fn (.f 85) [] [])) [.t 19,.c (.fn (.f 86) [] [])]⟩,⟨some 21,none,.call .pure (.c (.fn (.f 33) [] [])) [.t 20]⟩,⟨some 22,none,.ld 1 false (.t 5)⟩,⟨some 23,none,.call .pure (.c (.fn (.f 61) [] [])) [.t 22,.c (.int .i64 1)]⟩,⟨some 24,none,.mov (.t 1)⟩,⟨some 25,none,.len 1 (.t 24)⟩,⟨some 26,none,.mov (.t 0)⟩,⟨some 27,none,.len 1 (.t 26)⟩,⟨some 28,none,.bin .neq (.t 25) (.t 27)⟩,⟨some 29,none,.call .pure (.c (.fn (.f 31) [] [])) [.t 28,.c (.int .i64 2)]⟩,⟨some 30,none,.mksl 4 1 [.int .i64 0,.int .i64 0,.int .i64 0,.int .i64 0] [(0,1,(.t 18)),(1,1,(.t 21)),(2,1,(.t 23)),(3,1,(.t 29))]⟩,⟨some 31,none,.call .pure (.c (.fn (.f 33) [] [])) [.t 30]⟩,⟨some 8,none,.mov (.t 31)⟩]) (
.seq (
.reg [⟨some 32,none,.mov (.t 8)⟩,⟨some 33,none,.bin .neq (.t 32) (.c (.int .i64 0))⟩]) (
.cond (.t 33) (
 .seq (
 .reg [⟨some 34,none,.mov (.t 8)⟩,
   ⟨some 6,none,.mov (.c (.nils))⟩,
   ⟨some 7,none,.mov (.t 34)⟩]) (
 .ret)) (
 .skip)))) (
.seq (
.seq (
.reg [⟨some 35,none,.mov (.t 0)⟩,⟨some 36,none,.len 1 (.t 35)⟩,⟨some 37,none,.bin .eql (.t 36) (.c (.int .i64 0))⟩]) (
.cond (.t 37) (
 .seq (
 .reg [⟨some 6,none,.mov (.c (.nils))⟩,
   ⟨some 7,none,.mov (.c (.int .i64 0))⟩]) (
 .ret)) (
 .skip))) (
.seq (
.reg [⟨some 38,none,.mov (.t 0)⟩,⟨some 39,none,.call .pure (.c (.fn (.f 87) [] [])) [.t 38,.c (.fn (.f 88) [] [])]⟩,⟨some 9,none,.mov (.t 39)⟩]) (
.seq (
.reg [⟨some 40,none,.mov (.t 9)⟩,⟨some 41,none,.ixa 1 (.t 40) (.c (.int .i64 0))⟩,⟨some 42,none,.ld 1 false (.t 41)⟩,⟨some 43,none,.len 1 (.t 42)⟩,⟨some 44,none,.mks 1 24 [.nils] (.t 43) (.t 43)⟩,⟨some 10,none,.mov (.t 44)⟩]) (
.seq (
.seq (
.reg [⟨some 45,none,.mov (.t 10)⟩,⟨some 46,none,.len 1 (.t 45)⟩,⟨some 47,none,.mov (.c (.int .i64 0))⟩]) (
.seq (
.blk 0 (
.loop [1,5,9,10,46,47] c27_1)) (
.kp [1,5,9,10]))) (
.seq (
.reg [⟨some 71,none,.mov (.t 1)⟩,⟨some 72,none,.call .pure (.c (.fn (.f 88) [] [])) [.t 71]⟩,⟨some 14,none,.box 1 (.c (.nils))⟩,⟨none,none,.st 1 (.t 14) (.t 72)⟩]) (
.seq (
.reg [⟨some 73,none,.mkf (.f 89) [] [.t 5]⟩,⟨some 15,none,.mov (.t 73)⟩]) (
.seq (
.seq (
.reg [⟨some 74,none,.mov (.t 9)⟩,⟨some 75,none,.len 1 (.t 74)⟩,⟨some 76,none,.mov (.t 10)⟩,⟨some 77,none,.len 1 (.t 76)⟩,⟨some 78,none,.bin .lss (.t 75) (.t 77)⟩]) (
.cond (.t 78) (
 .seq (
 .reg [⟨some 79,none,.mov (.t 15)⟩,
   ⟨some 80,none,.mov (.t 9)⟩,
   ⟨some 81,none,.call .pure (.t 79) [.t 80]⟩,
   ⟨some 82,none,.ld 1 false (.t 14)⟩,
   ⟨some 83,none,.call .pure (.c (.fn (.f 90) [] [])) [.t 81,.t 82]⟩,
   ⟨some 16,none,.box 1 (.c (.nils))⟩,
   ⟨none,none,.st 1 (.t 16) (.t 83)⟩]) (
 .seq (
 .reg [⟨some 84,none,.mov (.t 10)⟩,
   ⟨some 85,none,.mkf (.f 91) [] [.t 16]⟩,
   ⟨some 86,none,.call .pure (.c (.fn (.f 92) [] [])) [.t 84,.t 85]⟩,
   ⟨some 87,none,.call .pure (.c (.fn (.f 83) [] [])) [.t 86]⟩,
   ⟨some 88,none,.ext 0 (.t 87)⟩,
   ⟨some 89,none,.ext 1 (.t 87)⟩,
   ⟨some 6,none,.mov (.t 88)⟩,
   ⟨some 7,none,.mov (.t 89)⟩]) (
 .ret))) (
 .skip))) (
.seq (
.reg [⟨some 90,none,.mov (.t 15)⟩,⟨some 91,none,.mov (.t 10)⟩,⟨some 92,none,.call .pure (.t 90) [.t 91]⟩,⟨some 93,none,.mov (.t 10)⟩,⟨some 94,none,.mkf (.f 93) [] [.t 14]⟩,⟨some 95,none,.call .pure (.c (.fn (.f 92) [] [])) [.t 93,.t 94]⟩,⟨some 96,none,.call .pure (.c (.fn (.f 90) [] [])) [.t 92,.t 95]⟩,⟨some 97,none,.call .pure (.c (.fn (.f 83) [] [])) [.t 96]⟩,⟨some 98,none,.ext 0 (.t 97)⟩,⟨some 99,none,.ext 1 (.t 97)⟩,⟨some 6,none,.mov (.t 98)⟩,⟨some 7,none,.mov (.t 99)⟩]) (
.ret))))))))))⟩
/- lenslet/lensletref01.SameMatrix -/
def c28_0 : VC :=
.seq (
.seq (
.reg [⟨some 11,none,.mov (.t 5)⟩,⟨some 12,none,.mov (.t 0)⟩,⟨some 13,none,.len 1 (.t 12)⟩,⟨some 14,none,.bin .lss (.t 11) (.t 13)⟩]) (
.cond (.t 14) (
 .skip) (
 .exit 0))) (
.seq (
.blk 1 (
.seq (
.reg [⟨some 17,none,.mov (.t 0)⟩,⟨some 18,none,.mov (.t 5)⟩,⟨some 19,none,.ixa 1 (.t 17) (.t 18)⟩,⟨some 20,none,.ld 1 false (.t 19)⟩,⟨some 21,none,.mov (.t 1)⟩,⟨some 22,none,.mov (.t 5)⟩,⟨some 23,none,.ixa 1 (.t 21) (.t 22)⟩,⟨some 24,none,.ld 1 false (.t 23)⟩,⟨some 25,none,.call .pure (.c (.fn (.f 29) [] [])) [.t 20,.t 24]⟩,⟨some 26,none,.un .not (.t 25)⟩]) (
.cond (.t 26) (
 .seq (
 .reg [⟨some 4,none,.mov (.c (.bool false))⟩]) (
 .ret)) (
 .skip)))) (
.reg [⟨some 15,none,.mov (.t 5)⟩,⟨some 16,none,.bin .add (.t 15) (.c (.int .i64 1))⟩,⟨some 5,none,.mov (.t 16)⟩]))
def c28 : Fnc := ⟨[.t 4],
.seq (
.reg [⟨some 4,none,.mov (.c (.bool false))⟩]) (
.seq (
.seq (
.reg [⟨some 6,none,.mov (.t 0)⟩,⟨some 7,none,.len 1 (.t 6)⟩,⟨some 8,none,.mov (.t 1)⟩,⟨some 9,none,.len 1 (.t 8)⟩,⟨some 10,none,.bin .neq (.t 7) (.t 9)⟩]) (
.cond (.t 10) (
 .seq (
 .reg [⟨some 4,none,.mov (.c (.bool false))⟩]) (
 .ret)) (
 .skip))) (
.seq (
.seq (
.reg [⟨some 5,none,.mov (.c (.int .i64 0))⟩]) (
.seq (
.blk 0 (
.loop [0,1,5] c28_0)) (
.kp []))) (
.seq (
.reg [⟨some 4,none,.mov (.c (.bool true))⟩]) (
.ret))))⟩
/- lenslet/lensletref01.SameRow -/
def c29_0 : VC :=
.seq (
.seq (
.reg [⟨some 11,none,.mov (.t 5)⟩,⟨some 12,none,.mov (.t 0)⟩,⟨some 13,none,.len 1 (.t 12)⟩,⟨some 14,none,.bin .lss (.t 11) (.t 13)⟩]) (
.cond (.t 14) (
 .skip) (
 .exit 0))) (
.seq (
.blk 1 (
.seq (
.reg [⟨some 17,none,.mov (.t 0)⟩,⟨some 18,none,.mov (.t 5)⟩,⟨some 19,none,.ixa 1 (.t 17) (.t 18)⟩,⟨some 20,none,.ld 1 false (.t 19)⟩,⟨some 21,none,.mov (.t 1)⟩,⟨some 22,none,.mov (.t 5)⟩,⟨some 23,none,.ixa 1 (.t 21) (.t 22)⟩,⟨some 24,none,.ld 1 false (.t 23)⟩,⟨some 25,none,.bin .neq (.t 20) (.t 24)⟩]) (
.cond (.t 25) (
 .seq (
 .reg [⟨some 4,none,.mov (.c (.bool false))⟩]) (
 .ret)) (
 .skip)))) (
.reg [⟨some 15,none,.mov (.t 5)⟩,⟨some 16,none,.bin .add (.t 15) (.c (.int .i64 1))⟩,⟨some 5,none,.mov (.t 16)⟩]))
def c29 : Fnc := ⟨[.t 4],
.seq (
.reg [⟨some 4,none,.mov (.c (.bool false))⟩]) (
.seq (
.seq (
.reg [⟨some 6,none,.mov (.t 0)⟩,⟨some 7,none,.len 1 (.t 6)⟩,⟨some 8,none,.mov (.t 1)⟩,⟨some 9,none,.len 1 (.t 8)⟩,⟨some 10,none,.bin .neq (.t 7) (.t 9)⟩]) (
.cond (.t 10) (
 .seq (
 .reg [⟨some 4,none,.mov (.c (.bool false))⟩]) (
 .ret)) (
 .skip))) (
.seq (
.seq (
.reg [⟨some 5,none,.mov (.c (.int .i64 0))⟩]) (
.seq (
.blk 0 (
.loop [0,1,5] c29_0)) (
.kp []))) (
.seq (
.reg [⟨some 4,none,.mov (.c (.bool true))⟩]) (
.ret))))⟩
/- lenslet/lensletref07.CheckRange -/
def c30 : Fnc := ⟨[.t 6],
.seq (
.reg [⟨some 6,none,.mov (.c (.int .i64 0))⟩]) (
.seq (
.seq (
.reg [⟨some 7,none,.mov (.t 0)⟩,⟨some 8,none,.mov (.t 1)⟩,⟨some 9,none,.bin .lss (.t 7) (.t 8)⟩,⟨some 10,none,.mov (.t 9)⟩,⟨some 11,some (10,false),.mov (.t 0)⟩,⟨some 12,some (10,false),.mov (.t 2)⟩,⟨some 13,some (10,false),.bin .gtr (.t 11) (.t 12)⟩,⟨some 14,none,.pick (.t 10) (.c (.bool true)) (.t 13)⟩]) (
.cond (.t 14) (
 .seq (
 .reg [⟨some 6,none,.mov (.c (.int .i64 3))⟩]) (
 .ret)) (
 .skip))) (
.seq (
.reg [⟨some 6,none,.mov (.c (.int .i64 0))⟩]) (
.ret)))⟩
/- lenslet/sky.when -/
def c31 : Fnc := ⟨[.t 4],
.seq (
.reg [⟨some 4,none,.mov (.c (.int .i64 0))⟩]) (
.seq (
.seq (
.reg [⟨some 5,none,.mov (.t 0)⟩]) (
.cond (.t 5) (
 .seq (
 .reg [⟨some 6,none,.mov (.t 1)⟩,
   ⟨some 4,none,.mov (.t 6)⟩]) (
 .ret)) (
 .skip))) (
.seq (
.reg [⟨some 4,none,.mov (.c (.int .i64 0))⟩]) (
.ret)))⟩
/- lenslet/sky.square -/
def c32_0 : VC :=
.seq (
.reg [⟨some 12,none,.bin .lss (.t 11) (.t 10)⟩]) (
.seq (
.cond (.t 12) (
 .skip) (
 .exit 0)) (
.seq (
.blk 1 (
.seq (
.reg [⟨some 13,none,.ixa 1 (.t 9) (.t 11)⟩,⟨some 14,none,.ld 1 false (.t 13)⟩,⟨some 6,none,.mov (.t 14)⟩]) (
.seq (
.reg [⟨some 15,none,.mov (.t 6)⟩,⟨some 16,none,.mkf (.f 94) [] [.t 3]⟩,⟨some 17,none,.call .pure (.c (.fn (.f 95) [] [])) [.t 15,.t 16]⟩,⟨some 7,none,.mov (.t 17)⟩]) (
.seq (
.reg [⟨some 18,none,.mov (.t 6)⟩,⟨some 19,none,.len 1 (.t 18)⟩,⟨some 20,none,.mov (.t 0)⟩,⟨some 21,none,.len 1 (.t 20)⟩,⟨some 22,none,.bin .neq (.t 19) (.t 21)⟩,⟨some 23,none,.call .pure (.c (.fn (.f 31) [] [])) [.t 22,.c (.int .i64 2)]⟩,⟨some 24,none,.mov (.t 7)⟩,⟨some 25,none,.call .pure (.c (.fn (.f 31) [] [])) [.t 24,.c (.int .i64 3)]⟩,⟨some 26,none,.mksl 2 1 [.int .i64 0,.int .i64 0] [(0,1,(.t 23)),(1,1,(.t 25))]⟩,⟨some 27,none,.call .pure (.c (.fn (.f 33) [] [])) [.t 26]⟩,⟨some 8,none,.mov (.t 27)⟩]) (
.seq (
.reg [⟨some 28,none,.mov (.t 8)⟩,⟨some 29,none,.bin .neq (.t 28) (.c (.int .i64 0))⟩]) (
.cond (.t 29) (
 .seq (
 .reg [⟨some 30,none,.mov (.t 8)⟩,
   ⟨some 4,none,.mov (.t 30)⟩]) (
 .ret)) (
 .skip))))))) (
.reg [⟨some 31,none,.bin .add (.t 11) (.c (.int .i64 1))⟩,⟨some 11,none,.mov (.t 31)⟩])))
def c32 : Fnc := ⟨[.t 4],
.seq (
.reg [⟨some 3,none,.box 1 (.t 1)⟩,⟨some 4,none,.mov (.c (.int .i64 0))⟩]) (
.seq (
.seq (
.reg [⟨some 9,none,.mov (.t 0)⟩,⟨some 10,none,.len 1 (.t 9)⟩,⟨some 11,none,.mov (.c (.int .i64 0))⟩]) (
.seq (
.blk 0 (
.loop [0,3,9,10,11] c32_0)) (
.kp []))) (
.seq (
.reg [⟨some 4,none,.mov (.c (.int .i64 0))⟩]) (
.ret)))⟩
/- lenslet/sky.first -/
def c33_0 : VC :=
.seq (
.reg [⟨some 8,none,.bin .lss (.t 7) (.t 6)⟩]) (
.seq (
.cond (.t 8) (
 .skip) (
 .exit 0)) (
.seq (
.blk 1 (
.seq (
.reg [⟨some 9,none,.ixa 1 (.t 5) (.t 7)⟩,⟨some 10,none,.ld 1 false (.t 9)⟩,⟨some 4,none,.mov (.t 10)⟩]) (
.seq (
.reg [⟨some 11,none,.mov (.t 4)⟩,⟨some 12,none,.bin .neq (.t 11) (.c (.int .i64 0))⟩]) (
.cond (.t 12) (
 .seq (
 .reg [⟨some 13,none,.mov (.t 4)⟩,
   ⟨some 2,none,.mov (.t 13)⟩]) (
 .ret)) (
 .skip))))) (
.reg [⟨some 14,none,.bin .add (.t 7) (.c (.int .i64 1))⟩,⟨some 7,none,.mov (.t 14)⟩])))
def c33 : Fnc := ⟨[.t 2],
.seq (
.reg [⟨some 2,none,.mov (.c (.int .i64 0))⟩]) (
.seq (
.seq (
.reg [⟨some 5,none,.mov (.t 0)⟩,⟨some 6,none,.len 1 (.t 5)⟩,⟨some 7,none,.mov (.c (.int .i64 0))⟩]) (
.seq (
.blk 0 (
.loop [5,6,7] c33_0)) (
.kp []))) (
.seq (
.reg [⟨some 2,none,.mov (.c (.int .i64 0))⟩]) (
.ret)))⟩
/- lenslet/sky.within -/
def c34 : Fnc := ⟨[.t 6],
.seq (
.reg [⟨some 6,none,.mov (.c (.int .i64 0))⟩]) (
.seq (
.reg [⟨some 7,none,.mov (.t 0)⟩,⟨some 8,none,.mov (.t 1)⟩,⟨some 9,none,.bin .lss (.t 7) (.t 8)⟩,⟨some 10,none,.mov (.t 9)⟩,⟨some 11,some (10,false),.mov (.t 0)⟩,⟨some 12,some (10,false),.mov (.t 2)⟩,⟨some 13,some (10,false),.bin .gtr (.t 11) (.t 12)⟩,⟨some 14,none,.pick (.t 10) (.c (.bool true)) (.t 13)⟩,⟨some 15,none,.call .pure (.c (.fn (.f 31) [] [])) [.t 14,.c (.int .i64 3)]⟩,⟨some 6,none,.mov (.t 15)⟩]) (
.ret))⟩
/- lenslet/sky.mapped[int,lenslet/api.Errno] -/
def c35_0 : VC :=
.seq (
.reg [⟨some 11,none,.bin .lss (.t 10) (.t 9)⟩]) (
.seq (
.cond (.t 11) (
 .skip) (
 .exit 0)) (
.seq (
.blk 1 (
.seq (
.reg [⟨some 12,none,.ixa 1 (.t 8) (.t 10)⟩,⟨some 13,none,.ld 1 false (.t 12)⟩,⟨some 7,none,.mov (.t 13)⟩]) (
.reg [⟨some 14,none,.mov (.t 5)⟩,⟨some 15,none,.mov (.t 1)⟩,⟨some 16,none,.mov (.t 7)⟩,⟨some 17,none,.call .pure (.t 15) [.t 16]⟩,⟨some 18,none,.mksl 1 1 [.int .i64 0] [(0,1,(.t 17))]⟩,⟨some 19,none,.app 1 8 (.t 14) (.t 18)⟩,⟨some 5,none,.mov (.t 19)⟩]))) (
.reg [⟨some 20,none,.bin .add (.t 10) (.c (.int .i64 1))⟩,⟨some 10,none,.mov (.t 20)⟩])))
def c35 : Fnc := ⟨[.t 4],
.seq (
.reg [⟨some 4,none,.mov (.c (.nils))⟩]) (
.seq (
.reg [⟨some 5,none,.mov (.c (.nils))⟩]) (
.seq (
.seq (
.reg [⟨some 8,none,.mov (.t 0)⟩,⟨some 9,none,.len 1 (.t 8)⟩,⟨some 10,none,.mov (.c (.int .i64 0))⟩]) (
.seq (
.blk 0 (
.loop [1,5,8,9,10] c35_0)) (
.kp [5]))) (
.seq (
.reg [⟨some 21,none,.mov (.t 5)⟩,⟨some 4,none,.mov (.t 21)⟩]) (
.ret))))⟩
/- lenslet/sky.Drawn.1 -/
def c36 : Fnc := ⟨[.t 2],
.seq (
.reg [⟨some 2,none,.mov (.c (.int .i64 0))⟩]) (
.seq (
.reg [⟨some 3,none,.mov (.t 0)⟩,⟨some 4,none,.call .pure (.c (.fn (.f 34) [] [])) [.t 3,.c (.int .i64 0),.c (.int .i64 1000)]⟩,⟨some 2,none,.mov (.t 4)⟩]) (
.ret))⟩
/- lenslet/sky.total[int] -/
def c37_0 : VC :=
.seq (
.reg [⟨some 12,none,.bin .lss (.t 11) (.t 10)⟩]) (
.seq (
.cond (.t 12) (
 .skip) (
 .exit 0)) (
.seq (
.blk 1 (
.seq (
.reg [⟨some 13,none,.ixa 1 (.t 9) (.t 11)⟩,⟨some 14,none,.ld 1 false (.t 13)⟩,⟨some 8,none,.mov (.t 14)⟩]) (
.reg [⟨some 15,none,.mov (.t 2)⟩,⟨some 16,none,.mov (.t 0)⟩,⟨some 17,none,.mov (.t 8)⟩,⟨some 18,none,.call .pure (.t 15) [.t 16,.t 17]⟩,⟨some 0,none,.mov (.t 18)⟩]))) (
.reg [⟨some 19,none,.bin .add (.t 11) (.c (.int .i64 1))⟩,⟨some 11,none,.mov (.t 19)⟩])))
def c37 : Fnc := ⟨[.t 6],
.seq (
.reg [⟨some 6,none,.mov (.c (.int .i64 0))⟩]) (
.seq (
.seq (
.reg [⟨some 9,none,.mov (.t 1)⟩,⟨some 10,none,.len 1 (.t 9)⟩,⟨some 11,none,.mov (.c (.int .i64 0))⟩]) (
.seq (
.blk 0 (
.loop [0,2,9,10,11] c37_0)) (
.kp [0]))) (
.seq (
.reg [⟨some 20,none,.mov (.t 0)⟩,⟨some 6,none,.mov (.t 20)⟩]) (
.ret)))⟩
/- lenslet/sky.Drawn.2 -/
def c38 : Fnc := ⟨[.t 4],
.seq (
.reg [⟨some 4,none,.mov (.c (.int .i64 0))⟩]) (
.seq (
.reg [⟨some 5,none,.mov (.t 0)⟩,⟨some 6,none,.mov (.t 1)⟩,⟨some 7,none,.bin .add (.t 5) (.t 6)⟩,⟨some 4,none,.mov (.t 7)⟩]) (
.ret))⟩
/- lenslet/sky.Drawn.3 -/
def c39_0 : VC :=
.seq (
.reg [⟨some 21,none,.bin .lss (.t 20) (.t 19)⟩]) (
.seq (
.cond (.t 21) (
 .skip) (
 .exit 0)) (
.seq (
.blk 1 (
.seq (
.reg [⟨some 22,none,.mov (.t 20)⟩,⟨some 23,none,.ixa 1 (.t 18) (.t 20)⟩,⟨some 24,none,.ld 1 false (.t 23)⟩,⟨some 10,none,.mov (.t 22)⟩,⟨some 11,none,.mov (.t 24)⟩]) (
.seq (
.seq (
.reg [⟨some 25,none,.mov (.t 8)⟩,⟨some 26,none,.mov (.t 11)⟩,⟨some 27,none,.bin .lss (.t 25) (.t 26)⟩]) (
.cond (.t 27) (
 .seq (
 .reg [⟨some 28,none,.mov (.t 10)⟩,
   ⟨some 29,none,.ld 1 false (.t 4)⟩,
   ⟨some 30,none,.len 1 (.t 29)⟩,
   ⟨some 31,none,.bin .quo (.t 30) (.c (.int .i64 2))⟩,
   ⟨some 32,none,.bin .sub (.t 28) (.t 31)⟩,
   ⟨some 9,none,.mov (.t 32)⟩]) (
 .exit 0)) (
 .skip))) (
.reg [⟨some 33,none,.mov (.t 8)⟩,⟨some 34,none,.mov (.t 11)⟩,⟨some 35,none,.bin .sub (.t 33) (.t 34)⟩,⟨some 8,none,.mov (.t 35)⟩])))) (
.reg [⟨some 36,none,.bin .add (.t 20) (.c (.int .i64 1))⟩,⟨some 20,none,.mov (.t 36)⟩])))
def c39 : Fnc := ⟨[.t 7],
.seq (
.reg [⟨some 7,none,.mov (.c (.int .i64 0))⟩]) (
.seq (
.reg [⟨some 12,none,.ld 1 false (.t 2)⟩,⟨some 13,none,.bin .mul (.c (.int .i64 39373)) (.t 12)⟩,⟨some 14,none,.bin .rem (.t 13) (.c (.int .i64 2147483647))⟩,⟨none,none,.st 1 (.t 2) (.t 14)⟩]) (
.seq (
.reg [⟨some 15,none,.ld 1 false (.t 2)⟩,⟨some 16,none,.ld 1 false (.t 3)⟩,⟨some 17,none,.bin .rem (.t 15) (.t 16)⟩,⟨some 8,none,.mov (.t 17)⟩,⟨some 9,none,.mov (.c (.int .i64 0))⟩]) (
.seq (
.skip) (
.seq (
.seq (
.reg [⟨some 18,none,.ld 1 false (.t 4)⟩,⟨some 19,none,.len 1 (.t 18)⟩,⟨some 20,none,.mov (.c (.int .i64 0))⟩]) (
.seq (
.blk 0 (
.loop [4,8,9,18,19,20] c39_0)) (
.kp [9]))) (
.seq (
.reg [⟨some 37,none,.mov (.t 9)⟩,⟨some 7,none,.mov (.t 37)⟩]) (
.ret))))))⟩
/- lenslet/sky.built[int] -/
def c40_0 : VC :=
.seq (
.reg [⟨some 6,none,.mov (.t 12)⟩]) (
.reg [⟨some 7,none,.mov (.t 13)⟩])
def c40_1 : VC :=
.blk 1 (
.seq (
.seq (
.reg [⟨some 14,none,.mov (.t 6)⟩,⟨some 15,none,.bin .eql (.t 14) (.c (.int .i64 0))⟩]) (
.cond (.t 15) (
 .reg [⟨some 16,none,.ld 1 false (.t 5)⟩,
   ⟨some 17,none,.mov (.t 7)⟩,
   ⟨some 18,none,.ld 1 false (.t 2)⟩,
   ⟨some 19,none,.mks 1 8 [.int .i64 0] (.t 18) (.t 18)⟩,
   ⟨some 20,none,.ixa 1 (.t 16) (.t 17)⟩,
   ⟨none,none,.st 1 (.t 20) (.t 19)⟩]) (
 .skip))) (
.reg [⟨some 21,none,.ld 1 false (.t 5)⟩,⟨some 22,none,.mov (.t 7)⟩,⟨some 23,none,.ixa 1 (.t 21) (.t 22)⟩,⟨some 24,none,.ld 1 false (.t 23)⟩,⟨some 25,none,.mov (.t 6)⟩,⟨some 26,none,.ld 1 false (.t 3)⟩,⟨some 27,none,.mov (.t 6)⟩,⟨some 28,none,.mov (.t 7)⟩,⟨some 29,none,.calld [(1,false,5),(1,false,23)] (.t 26) [.t 27,.t 28]⟩,⟨some 30,none,.ixa 1 (.t 24) (.t 25)⟩,⟨none,none,.st 1 (.t 30) (.t 29)⟩]))
def c40 : Fnc := ⟨[.t 4],
.seq (
.reg [⟨some 2,none,.box 1 (.t 0)⟩,⟨some 3,none,.box 1 (.t 1)⟩,⟨some 4,none,.mov (.c (.nils))⟩]) (
.seq (
.reg [⟨some 8,none,.ld 1 false (.t 2)⟩,⟨some 9,none,.mks 1 24 [.nils] (.t 8) (.t 8)⟩,⟨some 5,none,.box 1 (.c (.nils))⟩,⟨none,none,.st 1 (.t 5) (.t 9)⟩]) (
.seq (
.seq (
.reg [⟨some 10,none,.ld 1 false (.t 2)⟩,⟨some 11,none,.call .pure (.c (.fn (.f 96) [] [])) [.t 10]⟩]) (
.blk 0 (
.rf (.t 11) [12,13] c40_0 c40_1))) (
.seq (
.reg [⟨some 31,none,.ld 1 false (.t 5)⟩,⟨some 4,none,.mov (.t 31)⟩]) (
.ret))))⟩
/- lenslet/sky.Smooth.1 -/
def c41_0 : VC :=
.seq (
.reg [⟨some 9,none,.mov (.t 14)⟩]) (
.reg [⟨some 10,none,.mov (.t 15)⟩])
def c41_1 : VC :=
.blk 1 (
.reg [⟨some 16,none,.ld 1 false (.t 8)⟩,⟨some 17,none,.ld 1 false (.t 2)⟩,⟨some 18,none,.mov (.t 10)⟩,⟨some 19,none,.ixa 1 (.t 17) (.t 18)⟩,⟨some 20,none,.ld 1 false (.t 19)⟩,⟨some 21,none,.mov (.t 9)⟩,⟨some 22,none,.ixa 1 (.t 20) (.t 21)⟩,⟨some 23,none,.ld 1 false (.t 22)⟩,⟨some 24,none,.ld 1 false (.t 3)⟩,⟨some 25,none,.ld 1 false (.t 5)⟩,⟨some 26,none,.mov (.t 9)⟩,⟨some 27,none,.bin .add (.t 25) (.t 26)⟩,⟨some 28,none,.ld 1 false (.t 4)⟩,⟨some 29,none,.bin .sub (.t 27) (.t 28)⟩,⟨some 30,none,.ld 1 false (.t 6)⟩,⟨some 31,none,.mov (.t 10)⟩,⟨some 32,none,.bin .add (.t 30) (.t 31)⟩,⟨some 33,none,.ld 1 false (.t 4)⟩,⟨some 34,none,.bin .sub (.t 32) (.t 33)⟩,⟨some 35,none,.call .pure (.c (.fn (.f 97) [] [])) [.t 24,.t 29,.t 34]⟩,⟨some 36,none,.bin .mul (.t 23) (.t 35)⟩,⟨some 37,none,.bin .add (.t 16) (.t 36)⟩,⟨none,none,.st 1 (.t 8) (.t 37)⟩])
def c41 : Fnc := ⟨[.t 7],
.seq (
.reg [⟨some 5,none,.box 1 (.t 0)⟩,⟨some 6,none,.box 1 (.t 1)⟩,⟨some 7,none,.mov (.c (.int .i64 0))⟩]) (
.seq (
.reg [⟨some 8,none,.box 1 (.c (.int .i64 0))⟩,⟨none,none,.st 1 (.t 8) (.c (.int .i64 0))⟩]) (
.seq (
.seq (
.reg [⟨some 11,none,.ld 1 false (.t 2)⟩,⟨some 12,none,.len 1 (.t 11)⟩,⟨some 13,none,.call .pure (.c (.fn (.f 96) [] [])) [.t 12]⟩]) (
.blk 0 (
.rf (.t 13) [14,15] c41_0 c41_1))) (
.seq (
.reg [⟨some 38,none,.ld 1 false (.t 8)⟩,⟨some 7,none,.mov (.t 38)⟩]) (
.ret))))⟩
/- lenslet/lensletref07.First -/
def c42_0 : VC :=
.seq (
.seq (
.reg [⟨some 4,none,.mov (.t 3)⟩,⟨some 5,none,.mov (.t 0)⟩,⟨some 6,none,.len 1 (.t 5)⟩,⟨some 7,none,.bin .lss (.t 4) (.t 6)⟩]) (
.cond (.t 7) (
 .skip) (
 .exit 0))) (
.seq (
.blk 1 (
.seq (
.reg [⟨some 10,none,.mov (.t 0)⟩,⟨some 11,none,.mov (.t 3)⟩,⟨some 12,none,.ixa 1 (.t 10) (.t 11)⟩,⟨some 13,none,.ld 1 false (.t 12)⟩,⟨some 14,none,.bin .neq (.t 13) (.c (.int .i64 0))⟩]) (
.cond (.t 14) (
 .seq (
 .reg [⟨some 15,none,.mov (.t 0)⟩,
   ⟨some 16,none,.mov (.t 3)⟩,
   ⟨some 17,none,.ixa 1 (.t 15) (.t 16)⟩,
   ⟨some 18,none,.ld 1 false (.t 17)⟩,
   ⟨some 2,none,.mov (.t 18)⟩]) (
 .ret)) (
 .skip)))) (
.reg [⟨some 8,none,.mov (.t 3)⟩,⟨some 9,none,.bin .add (.t 8) (.c (.int .i64 1))⟩,⟨some 3,none,.mov (.t 9)⟩]))
def c42 : Fnc := ⟨[.t 2],
.seq (
.reg [⟨some 2,none,.mov (.c (.int .i64 0))⟩]) (
.seq (
.seq (
.reg [⟨some 3,none,.mov (.c (.int .i64 0))⟩]) (
.seq (
.blk 0 (
.loop [0,3] c42_0)) (
.kp []))) (
.seq (
.reg [⟨some 2,none,.mov (.c (.int .i64 0))⟩]) (
.ret)))⟩
/- lenslet/lensletref07.Cell -/
def c43 : Fnc := ⟨[.t 6],
.seq (
.reg [⟨some 6,none,.mov (.c (.int .i64 0))⟩]) (
.seq (
.reg [⟨some 8,none,.mov (.t 0)⟩,⟨some 9,none,.len 1 (.t 8)⟩,⟨some 7,none,.mov (.t 9)⟩]) (
.seq (
.reg [⟨some 10,none,.mov (.t 0)⟩,⟨some 11,none,.mov (.t 2)⟩,⟨some 12,none,.mov (.t 7)⟩,⟨some 13,none,.bin .rem (.t 11) (.t 12)⟩,⟨some 14,none,.mov (.t 7)⟩,⟨some 15,none,.bin .add (.t 13) (.t 14)⟩,⟨some 16,none,.mov (.t 7)⟩,⟨some 17,none,.bin .rem (.t 15) (.t 16)⟩,⟨some 18,none,.ixa 1 (.t 10) (.t 17)⟩,⟨some 19,none,.ld 1 false (.t 18)⟩,⟨some 20,none,.mov (.t 1)⟩,⟨some 21,none,.mov (.t 7)⟩,⟨some 22,none,.bin .rem (.t 20) (.t 21)⟩,⟨some 23,none,.mov (.t 7)⟩,⟨some 24,none,.bin .add (.t 22) (.t 23)⟩,⟨some 25,none,.mov (.t 7)⟩,⟨some 26,none,.bin .rem (.t 24) (.t 25)⟩,⟨some 27,none,.ixa 1 (.t 19) (.t 26)⟩,⟨some 28,none,.ld 1 false (.t 27)⟩,⟨some 6,none,.mov (.t 28)⟩]) (
.ret)))⟩
/- lenslet/sky.Mean.1 -/
def c44 : Fnc := ⟨[.t 5],
.seq (
.reg [⟨some 5,none,.mov (.c (.int .i64 0))⟩]) (
.seq (
.reg [⟨some 6,none,.ld 1 false (.t 2)⟩,⟨some 7,none,.mov (.t 1)⟩,⟨some 8,none,.ixa 1 (.t 6) (.t 7)⟩,⟨some 9,none,.ld 1 false (.t 8)⟩,⟨some 10,none,.mov (.t 0)⟩,⟨some 11,none,.ixa 1 (.t 9) (.t 10)⟩,⟨some 12,none,.ld 1 false (.t 11)⟩,⟨some 5,none,.mov (.t 12)⟩]) (
.ret))⟩
/- lenslet/sky.mean -/
def c45_0 : VC :=
.seq (
.reg [⟨some 6,none,.mov (.t 10)⟩]) (
.reg [⟨some 7,none,.mov (.t 11)⟩])
def c45_1 : VC :=
.blk 1 (
.reg [⟨some 12,none,.ld 1 false (.t 5)⟩,⟨some 13,none,.ld 1 false (.t 3)⟩,⟨some 14,none,.mov (.t 6)⟩,⟨some 15,none,.mov (.t 7)⟩,⟨some 16,none,.call .pure (.t 13) [.t 14,.t 15]⟩,⟨some 17,none,.bin .add (.t 12) (.t 16)⟩,⟨none,none,.st 1 (.t 5) (.t 17)⟩])
def c45 : Fnc := ⟨[.cell 4 4 true],
.seq (
.reg [⟨some 3,none,.box 1 (.t 1)⟩,⟨some 4,none,.box 4 (.c (.agg [.int .i64 0,.nils,.int .i64 0,.nils]))⟩]) (
.seq (
.reg [⟨some 5,none,.box 1 (.c (.int .i64 0))⟩,⟨none,none,.st 1 (.t 5) (.c (.int .i64 0))⟩]) (
.seq (
.seq (
.reg [⟨some 8,none,.mov (.t 0)⟩,⟨some 9,none,.call .pure (.c (.fn (.f 96) [] [])) [.t 8]⟩]) (
.blk 0 (
.rf (.t 9) [10,11] c45_0 c45_1))) (
.seq (
.reg [⟨some 18,none,.ld 1 false (.t 5)⟩,⟨some 19,none,.call .pure (.c (.fn (.f 69) [] [])) [.t 18]⟩,⟨some 20,none,.mov (.t 0)⟩,⟨some 21,none,.mov (.t 0)⟩,⟨some 22,none,.bin .mul (.t 20) (.t 21)⟩,⟨some 23,none,.call .pure (.c (.fn (.f 69) [] [])) [.t 22]⟩,⟨some 24,none,.call .pure (.c (.fn (.f 70) [] [])) [.t 19,.t 23]⟩,⟨none,none,.st 4 (.t 4) (.t 24)⟩]) (
.ret))))⟩
/- (lenslet/num.Frac).Text -/
def c46 : Fnc := ⟨[.t 2],
.seq (
.reg [⟨some 1,none,.box 4 (.t 0)⟩,⟨some 2,none,.mov (.c (.str []))⟩]) (
.seq (
.seq (
.reg [⟨some 3,none,.ld 4 true (.t 1)⟩,⟨some 4,none,.call .pure (.c (.fn (.f 98) [] [])) [.t 3]⟩]) (
.cond (.t 4) (
 .seq (
 .reg [⟨some 5,none,.off 0 (.t 1)⟩,
   ⟨some 6,none,.ld 2 true (.t 5)⟩,
   ⟨some 7,none,.call .pure (.c (.fn (.f 99) [] [])) [.t 6]⟩,
   ⟨some 2,none,.mov (.t 7)⟩]) (
 .ret)) (
 .skip))) (
.seq (
.reg [⟨some 8,none,.off 0 (.t 1)⟩,⟨some 9,none,.ld 2 true (.t 8)⟩,⟨some 10,none,.call .pure (.c (.fn (.f 99) [] [])) [.t 9]⟩,⟨some 11,none,.bin .add (.t 10) (.c (.str [47]))⟩,⟨some 12,none,.off 2 (.t 1)⟩,⟨some 13,none,.ld 2 true (.t 12)⟩,⟨some 14,none,.call .pure (.c (.fn (.f 99) [] [])) [.t 13]⟩,⟨some 15,none,.bin .add (.t 11) (.t 14)⟩,⟨some 2,none,.mov (.t 15)⟩]) (
.ret)))⟩
/- lenslet/sky.Variance.1 -/
def c47 : Fnc := ⟨[.t 5],
.seq (
.reg [⟨some 5,none,.mov (.c (.int .i64 0))⟩]) (
.seq (
.reg [⟨some 6,none,.ld 1 false (.t 2)⟩,⟨some 7,none,.mov (.t 1)⟩,⟨some 8,none,.ixa 1 (.t 6) (.t 7)⟩,⟨some 9,none,.ld 1 false (.t 8)⟩,⟨some 10,none,.mov (.t 0)⟩,⟨some 11,none,.ixa 1 (.t 9) (.t 10)⟩,⟨some 12,none,.ld 1 false (.t 11)⟩,⟨some 5,none,.mov (.t 12)⟩]) (
.ret))⟩
/- lenslet/sky.Variance.2 -/
def c48 : Fnc := ⟨[.t 5],
.seq (
.reg [⟨some 5,none,.mov (.c (.int .i64 0))⟩]) (
.seq (
.reg [⟨some 6,none,.ld 1 false (.t 2)⟩,⟨some 7,none,.mov (.t 1)⟩,⟨some 8,none,.ixa 1 (.t 6) (.t 7)⟩,⟨some 9,none,.ld 1 false (.t 8)⟩,⟨some 10,none,.mov (.t 0)⟩,⟨some 11,none,.ixa 1 (.t 9) (.t 10)⟩,⟨some 12,none,.ld 1 false (.t 11)⟩,⟨some 13,none,.ld 1 false (.t 2)⟩,⟨some 14,none,.mov (.t 1)⟩,⟨some 15,none,.ixa 1 (.t 13) (.t 14)⟩,⟨some 16,none,.ld 1 false (.t 15)⟩,⟨some 17,none,.mov (.t 0)⟩,⟨some 18,none,.ixa 1 (.t 16) (.t 17)⟩,⟨some 19,none,.ld 1 false (.t 18)⟩,⟨some 20,none,.bin .mul (.t 12) (.t 19)⟩,⟨some 5,none,.mov (.t 20)⟩]) (
.ret))⟩
/- (lenslet/num.Frac).Mul -/
def c49 : Fnc := ⟨[.cell 4 4 true],
.seq (
.reg [⟨some 2,none,.box 4 (.t 0)⟩,⟨some 3,none,.box 4 (.t 1)⟩,⟨some 4,none,.box 4 (.c (.agg [.int .i64 0,.nils,.int .i64 0,.nils]))⟩]) (
.seq (
.reg [⟨some 5,none,.off 0 (.t 2)⟩,⟨some 6,none,.ld 2 true (.t 5)⟩,⟨some 7,none,.off 0 (.t 3)⟩,⟨some 8,none,.ld 2 true (.t 7)⟩,⟨some 9,none,.call .pure (.c (.fn (.f 100) [] [])) [.t 6,.t 8]⟩,⟨some 10,none,.off 2 (.t 2)⟩,⟨some 11,none,.ld 2 true (.t 10)⟩,⟨some 12,none,.off 2 (.t 3)⟩,⟨some 13,none,.ld 2 true (.t 12)⟩,⟨some 14,none,.call .pure (.c (.fn (.f 100) [] [])) [.t 11,.t 13]⟩,⟨some 15,none,.call .pure (.c (.fn (.f 101) [] [])) [.t 9,.t 14]⟩,⟨none,none,.st 4 (.t 4) (.t 15)⟩]) (
.ret))⟩
/- (lenslet/num.Frac).Sub -/
def c50 : Fnc := ⟨[.cell 4 4 true],
.seq (
.reg [⟨some 2,none,.box 4 (.t 0)⟩,⟨some 3,none,.box 4 (.t 1)⟩,⟨some 4,none,.box 4 (.c (.agg [.int .i64 0,.nils,.int .i64 0,.nils]))⟩]) (
.seq (
.reg [⟨some 5,none,.ld 4 true (.t 2)⟩,⟨some 6,none,.ld 4 true (.t 3)⟩,⟨some 7,none,.call .pure (.c (.fn (.f 102) [] [])) [.t 6]⟩,⟨some 8,none,.call .pure (.c (.fn (.f 74) [] [])) [.t 5,.t 7]⟩,⟨none,none,.st 4 (.t 4) (.t 8)⟩]) (
.ret))⟩
/- lenslet/sky.checkFrame -/
def c51 : Fnc := ⟨[.t 2],
.seq (
.reg [⟨some 2,none,.mov (.c (.int .i64 0))⟩]) (
.seq (
.reg [⟨some 3,none,.mov (.t 0)⟩,⟨some 4,none,.call .pure (.c (.fn (.f 34) [] [])) [.t 3,.c (.int .i64 (-999999999)),.c (.int .i64 999999999)]⟩,⟨some 2,none,.mov (.t 4)⟩]) (
.ret))⟩
/- lenslet/sky.Structure.1 -/
def c52 : Fnc := ⟨[.t 7],
.seq (
.reg [⟨some 7,none,.mov (.c (.int .i64 0))⟩]) (
.seq (
.reg [⟨some 9,none,.ld 1 false (.t 2)⟩,⟨some 10,none,.mov (.t 0)⟩,⟨some 11,none,.ld 1 false (.t 3)⟩,⟨some 12,none,.bin .add (.t 10) (.t 11)⟩,⟨some 13,none,.mov (.t 1)⟩,⟨some 14,none,.ld 1 false (.t 4)⟩,⟨some 15,none,.bin .add (.t 13) (.t 14)⟩,⟨some 16,none,.call .pure (.c (.fn (.f 97) [] [])) [.t 9,.t 12,.t 15]⟩,⟨some 17,none,.ld 1 false (.t 2)⟩,⟨some 18,none,.mov (.t 1)⟩,⟨some 19,none,.ixa 1 (.t 17) (.t 18)⟩,⟨some 20,none,.ld 1 false (.t 19)⟩,⟨some 21,none,.mov (.t 0)⟩,⟨some 22,none,.ixa 1 (.t 20) (.t 21)⟩,⟨some 23,none,.ld 1 false (.t 22)⟩,⟨some 24,none,.bin .sub (.t 16) (.t 23)⟩,⟨some 8,none,.mov (.t 24)⟩]) (
.seq (
.reg [⟨some 25,none,.mov (.t 8)⟩,⟨some 26,none,.mov (.t 8)⟩,⟨some 27,none,.bin .mul (.t 25) (.t 26)⟩,⟨some 7,none,.mov (.t 27)⟩]) (
.ret)))⟩
/- lenslet/sky.checkPlace -/
def c53 : Fnc := ⟨[.t 2],
.seq (
.reg [⟨some 1,none,.box 2 (.t 0)⟩,⟨some 2,none,.mov (.c (.int .i64 0))⟩]) (
.seq (
.reg [⟨some 3,none,.off 0 (.t 1)⟩,⟨some 4,none,.ld 1 false (.t 3)⟩,⟨some 5,none,.call .pure (.c (.fn (.f 86) [] [])) [.t 4]⟩,⟨some 6,none,.off 1 (.t 1)⟩,⟨some 7,none,.ld 1 false (.t 6)⟩,⟨some 8,none,.call .pure (.c (.fn (.f 86) [] [])) [.t 7]⟩,⟨some 9,none,.mksl 2 1 [.int .i64 0,.int .i64 0] [(0,1,(.t 5)),(1,1,(.t 8))]⟩,⟨some 10,none,.call .pure (.c (.fn (.f 33) [] [])) [.t 9]⟩,⟨some 2,none,.mov (.t 10)⟩]) (
.ret))⟩
/- lenslet/sky.of -/
def c54 : Fnc := ⟨[.cell 2 8 true],
.seq (
.reg [⟨some 1,none,.box 2 (.t 0)⟩,⟨some 2,none,.box 8 (.c (.agg [.int .i64 0,.nils,.int .i64 0,.nils,.int .i64 0,.nils,.int .i64 0,.nils]))⟩]) (
.seq (
.reg [⟨some 3,none,.off 0 (.t 1)⟩,⟨some 4,none,.ld 1 false (.t 3)⟩,⟨some 5,none,.call .pure (.c (.fn (.f 62) [] [])) [.t 4]⟩,⟨some 6,none,.off 1 (.t 1)⟩,⟨some 7,none,.ld 1 false (.t 6)⟩,⟨some 8,none,.call .pure (.c (.fn (.f 62) [] [])) [.t 7]⟩,⟨some 9,none,.mkagg [.int .i64 0,.nils,.int .i64 0,.nils,.int .i64 0,.nils,.int .i64 0,.nils] [(0,4,(.t 5)),(4,4,(.t 8))]⟩,⟨none,none,.st 8 (.t 2) (.t 9)⟩]) (
.ret))⟩
/- lenslet/sky.on -/
def c55 : Fnc := ⟨[.cell 4 10 true],
.seq (
.reg [⟨some 2,none,.box 8 (.t 0)⟩,⟨some 4,none,.box 10 (.c (.agg [.int .i64 0,.int .i64 0,.int .i64 0,.nils,.int .i64 0,.nils,.int .i64 0,.nils,.int .i64 0,.nils]))⟩]) (
.seq (
.reg [⟨some 10,none,.off 0 (.t 2)⟩,⟨some 11,none,.ld 4 true (.t 10)⟩,⟨some 12,none,.mov (.t 1)⟩,⟨some 13,none,.call .pure (.c (.fn (.f 103) [] [])) [.t 11,.t 12]⟩,⟨some 9,none,.mov (.t 13)⟩,⟨some 14,none,.ext 0 (.t 9)⟩,⟨some 15,none,.ext 1 (.t 9)⟩,⟨some 6,none,.box 4 (.c (.agg [.int .i64 0,.nils,.int .i64 0,.nils]))⟩,⟨some 5,none,.mov (.t 14)⟩,⟨none,none,.st 4 (.t 6) (.t 15)⟩]) (
.seq (
.reg [⟨some 17,none,.off 4 (.t 2)⟩,⟨some 18,none,.ld 4 true (.t 17)⟩,⟨some 19,none,.mov (.t 1)⟩,⟨some 20,none,.call .pure (.c (.fn (.f 103) [] [])) [.t 18,.t 19]⟩,⟨some 16,none,.mov (.t 20)⟩,⟨some 21,none,.ext 0 (.t 16)⟩,⟨some 22,none,.ext 1 (.t 16)⟩,⟨some 8,none,.box 4 (.c (.agg [.int .i64 0,.nils,.int .i64 0,.nils]))⟩,⟨some 7,none,.mov (.t 21)⟩,⟨none,none,.st 4 (.t 8) (.t 22)⟩]) (
.seq (
.reg [⟨some 23,none,.mov (.t 5)⟩,⟨some 24,none,.mov (.t 7)⟩,⟨some 25,none,.ld 4 true (.t 6)⟩,⟨some 26,none,.ld 4 true (.t 8)⟩,⟨some 27,none,.mkagg [.int .i64 0,.int .i64 0,.int .i64 0,.nils,.int .i64 0,.nils,.int .i64 0,.nils,.int .i64 0,.nils] [(0,1,(.t 23)),(1,1,(.t 24)),(2,4,(.t 25)),(6,4,(.t 26))]⟩,⟨none,none,.st 10 (.t 4) (.t 27)⟩]) (
.ret))))⟩
/- (lenslet/sky.ray).value -/
def c56_0 : VC :=
.seq (
.reg [⟨some 13,none,.bin .lss (.t 12) (.c (.int .i64 4))⟩]) (
.seq (
.cond (.t 13) (
 .skip) (
 .exit 0)) (
.seq (
.blk 1 (
.seq (
.reg [⟨some 14,none,.mov (.t 12)⟩,⟨some 15,none,.ixv 4 4 true (.t 11) (.t 12)⟩,⟨some 7,none,.box 4 (.c (.agg [.int .i64 0,.nils,.int .i64 0,.nils]))⟩,⟨some 6,none,.mov (.t 14)⟩,⟨none,none,.st 4 (.t 7) (.t 15)⟩]) (
.seq (
.reg [⟨some 17,none,.ld 10 true (.t 2)⟩,⟨some 18,none,.mov (.t 6)⟩,⟨some 19,none,.mov (.t 1)⟩,⟨some 20,none,.len 1 (.t 19)⟩,⟨some 21,none,.call .pure (.c (.fn (.f 105) [] [])) [.t 17,.t 18,.t 20]⟩,⟨some 16,none,.mov (.t 21)⟩,⟨some 22,none,.ext 0 (.t 16)⟩,⟨some 23,none,.ext 1 (.t 16)⟩,⟨some 8,none,.mov (.t 22)⟩,⟨some 9,none,.mov (.t 23)⟩]) (
.reg [⟨some 24,none,.mov (.t 5)⟩,⟨some 25,none,.ld 4 true (.t 7)⟩,⟨some 26,none,.mov (.t 1)⟩,⟨some 27,none,.mov (.t 9)⟩,⟨some 28,none,.ixa 1 (.t 26) (.t 27)⟩,⟨some 29,none,.ld 1 false (.t 28)⟩,⟨some 30,none,.mov (.t 8)⟩,⟨some 31,none,.ixa 1 (.t 29) (.t 30)⟩,⟨some 32,none,.ld 1 false (.t 31)⟩,⟨some 33,none,.call .pure (.c (.fn (.f 69) [] [])) [.t 32]⟩,⟨some 34,none,.call .pure (.c (.fn (.f 49) [] [])) [.t 25,.t 33]⟩,⟨some 35,none,.mksl 1 4 [.int .i64 0,.nils,.int .i64 0,.nils] [(0,4,(.t 34))]⟩,⟨some 36,none,.app 4 64 (.t 24) (.t 35)⟩,⟨some 5,none,.mov (.t 36)⟩])))) (
.reg [⟨some 37,none,.bin .add (.t 12) (.c (.int .i64 1))⟩,⟨some 12,none,.mov (.t 37)⟩])))
def c56 : Fnc := ⟨[.cell 4 4 true],
.seq (
.reg [⟨some 2,none,.box 10 (.t 0)⟩,⟨some 4,none,.box 4 (.c (.agg [.int .i64 0,.nils,.int .i64 0,.nils]))⟩]) (
.seq (
.reg [⟨some 5,none,.mov (.c (.nils))⟩]) (
.seq (
.seq (
.reg [⟨some 10,none,.ld 10 true (.t 2)⟩,⟨some 11,none,.call .pure (.c (.fn (.f 104) [] [])) [.t 10]⟩,⟨some 12,none,.mov (.c (.int .i64 0))⟩]) (
.seq (
.blk 0 (
.loop [1,2,4,5,11,12] c56_0)) (
.kp [4,5]))) (
.seq (
.reg [⟨some 38,none,.call .pure (.c (.fn (.f 69) [] [])) [.c (.int .i64 0)]⟩,⟨some 39,none,.mov (.t 5)⟩,⟨some 40,none,.call .pure (.c (.fn (.f 106) [] [])) [.t 38,.t 39,.c (.fn (.f 74) [] [])]⟩,⟨none,none,.st 4 (.t 4) (.t 40)⟩]) (
.ret))))⟩
/- lenslet/sky.result -/
def c57 : Fnc := ⟨[.t 2,.t 3],
.seq (
.reg [⟨some 1,none,.box 4 (.t 0)⟩,⟨some 2,none,.mov (.c (.str []))⟩,⟨some 3,none,.mov (.c (.int .i64 0))⟩]) (
.seq (
.seq (
.reg [⟨some 4,none,.ld 4 true (.t 1)⟩,⟨some 5,none,.call .pure (.c (.fn (.f 107) [] [])) [.t 4]⟩]) (
.cond (.t 5) (
 .seq (
 .reg [⟨some 2,none,.mov (.c (.str []))⟩,
   ⟨some 3,none,.mov (.c (.int .i64 4))⟩]) (
 .ret)) (
 .skip))) (
.seq (
.reg [⟨some 6,none,.ld 4 true (.t 1)⟩,⟨some 7,none,.call .pure (.c (.fn (.f 46) [] [])) [.t 6]⟩,⟨some 2,none,.mov (.t 7)⟩,⟨some 3,none,.mov (.c (.int .i64 0))⟩]) (
.ret)))⟩
/- lenslet/sky.Shift.1 -/
def c58 : Fnc := ⟨[.t 7],
.seq (
.reg [⟨some 7,none,.mov (.c (.int .i64 0))⟩]) (
.seq (
.reg [⟨some 8,none,.ld 1 false (.t 2)⟩,⟨some 9,none,.mov (.t 0)⟩,⟨some 10,none,.ld 1 false (.t 3)⟩,⟨some 11,none,.bin .sub (.t 9) (.t 10)⟩,⟨some 12,none,.mov (.t 1)⟩,⟨some 13,none,.ld 1 false (.t 4)⟩,⟨some 14,none,.bin .sub (.t 12) (.t 13)⟩,⟨some 15,none,.call .pure (.c (.fn (.f 97) [] [])) [.t 8,.t 11,.t 14]⟩,⟨some 7,none,.mov (.t 15)⟩]) (
.ret))⟩
/- lenslet/lensletref01.SameInts -/
def c59_0 : VC :=
.seq (
.seq (
.reg [⟨some 11,none,.mov (.t 5)⟩,⟨some 12,none,.mov (.t 0)⟩,⟨some 13,none,.len 1 (.t 12)⟩,⟨some 14,none,.bin .lss (.t 11) (.t 13)⟩]) (
.cond (.t 14) (
 .skip) (
 .exit 0))) (
.seq (
.blk 1 (
.seq (
.reg [⟨some 17,none,.mov (.t 0)⟩,⟨some 18,none,.mov (.t 5)⟩,⟨some 19,none,.ixa 1 (.t 17) (.t 18)⟩,⟨some 20,none,.ld 1 false (.t 19)⟩,⟨some 21,none,.mov (.t 1)⟩,⟨some 22,none,.mov (.t 5)⟩,⟨some 23,none,.ixa 1 (.t 21) (.t 22)⟩,⟨some 24,none,.ld 1 false (.t 23)⟩,⟨some 25,none,.bin .neq (.t 20) (.t 24)⟩]) (
.cond (.t 25) (
 .seq (
 .reg [⟨some 4,none,.mov (.c (.bool false))⟩]) (
 .ret)) (
 .skip)))) (
.reg [⟨some 15,none,.mov (.t 5)⟩,⟨some 16,none,.bin .add (.t 15) (.c (.int .i64 1))⟩,⟨some 5,none,.mov (.t 16)⟩]))
def c59 : Fnc := ⟨[.t 4],
.seq (
.reg [⟨some 4,none,.mov (.c (.bool false))⟩]) (
.seq (
.seq (
.reg [⟨some 6,none,.mov (.t 0)⟩,⟨some 7,none,.len 1 (.t 6)⟩,⟨some 8,none,.mov (.t 1)⟩,⟨some 9,none,.len 1 (.t 8)⟩,⟨some 10,none,.bin .neq (.t 7) (.t 9)⟩]) (
.cond (.t 10) (
 .seq (
 .reg [⟨some 4,none,.mov (.c (.bool false))⟩]) (
 .ret)) (
 .skip))) (
.seq (
.seq (
.reg [⟨some 5,none,.mov (.c (.int .i64 0))⟩]) (
.seq (
.blk 0 (
.loop [0,1,5] c59_0)) (
.kp []))) (
.seq (
.reg [⟨some 4,none,.mov (.c (.bool true))⟩]) (
.ret))))⟩
/- lenslet/sky.CheckStar -/
def c60 : Fnc := ⟨[.t 2],
.seq (
.reg [⟨some 1,none,.box 3 (.t 0)⟩,⟨some 2,none,.mov (.c (.int .i64 0))⟩]) (
.seq (
.reg [⟨some 3,none,.off 0 (.t 1)⟩,⟨some 4,none,.ld 2 true (.t 3)⟩,⟨some 5,none,.call .pure (.c (.fn (.f 53) [] [])) [.t 4]⟩,⟨some 6,none,.off 2 (.t 1)⟩,⟨some 7,none,.ld 1 false (.t 6)⟩,⟨some 8,none,.call .pure (.c (.fn (.f 61) [] [])) [.t 7,.c (.int .i64 0)]⟩,⟨some 9,none,.mksl 2 1 [.int .i64 0,.int .i64 0] [(0,1,(.t 5)),(1,1,(.t 8))]⟩,⟨some 10,none,.call .pure (.c (.fn (.f 33) [] [])) [.t 9]⟩,⟨some 2,none,.mov (.t 10)⟩]) (
.ret))⟩
/- lenslet/sky.signed -/
def c61 : Fnc := ⟨[.t 4],
.seq (
.reg [⟨some 4,none,.mov (.c (.int .i64 0))⟩]) (
.seq (
.seq (
.reg [⟨some 6,none,.mov (.t 0)⟩,⟨some 7,none,.call .pure (.c (.fn (.f 86) [] [])) [.t 6]⟩,⟨some 5,none,.mov (.t 7)⟩]) (
.seq (
.reg [⟨some 8,none,.mov (.t 5)⟩,⟨some 9,none,.bin .neq (.t 8) (.c (.int .i64 0))⟩]) (
.cond (.t 9) (
 .seq (
 .reg [⟨some 10,none,.mov (.t 5)⟩,
   ⟨some 4,none,.mov (.t 10)⟩]) (
 .ret)) (
 .skip)))) (
.seq (
.reg [⟨some 11,none,.mov (.t 0)⟩,⟨some 12,none,.call .pure (.c (.fn (.f 62) [] [])) [.t 11]⟩,⟨some 13,none,.call .pure (.c (.fn (.f 108) [] [])) [.t 12]⟩,⟨some 14,none,.mov (.t 1)⟩,⟨some 15,none,.bin .lss (.t 13) (.t 14)⟩,⟨some 16,none,.call .pure (.c (.fn (.f 31) [] [])) [.t 15,.c (.int .i64 3)]⟩,⟨some 4,none,.mov (.t 16)⟩]) (
.ret)))⟩
/- lenslet/num.From -/
def c62 : Fnc := ⟨[.cell 2 4 true],
.seq (
.reg [⟨some 2,none,.box 4 (.c (.agg [.int .i64 0,.nils,.int .i64 0,.nils]))⟩]) (
.seq (
.reg [⟨some 7,none,.mov (.t 0)⟩,⟨some 8,none,.call .pure (.c (.fn (.f 109) [] [])) [.t 7,.c (.str [47])]⟩,⟨some 6,none,.mov (.t 8)⟩,⟨some 9,none,.ext 0 (.t 6)⟩,⟨some 10,none,.ext 1 (.t 6)⟩,⟨some 11,none,.ext 2 (.t 6)⟩,⟨some 3,none,.mov (.t 9)⟩,⟨some 4,none,.mov (.t 10)⟩,⟨some 5,none,.mov (.t 11)⟩]) (
.seq (
.seq (
.reg [⟨some 12,none,.mov (.t 5)⟩,⟨some 13,none,.un .not (.t 12)⟩]) (
.cond (.t 13) (
 .seq (
 .reg [⟨some 14,none,.mov (.t 3)⟩,
   ⟨some 15,none,.call .pure (.c (.fn (.f 110) [] [])) [.t 14]⟩,
   ⟨some 16,none,.call .pure (.c (.fn (.f 111) [] [])) [.t 15]⟩,
   ⟨none,none,.st 4 (.t 2) (.t 16)⟩]) (
 .ret)) (
 .skip))) (
.seq (
.reg [⟨some 17,none,.mov (.t 3)⟩,⟨some 18,none,.call .pure (.c (.fn (.f 110) [] [])) [.t 17]⟩,⟨some 19,none,.mov (.t 4)⟩,⟨some 20,none,.call .pure (.c (.fn (.f 110) [] [])) [.t 19]⟩,⟨some 21,none,.mkagg [.int .i64 0,.nils,.int .i64 0,.nils] [(0,2,(.t 18)),(2,2,(.t 20))]⟩,⟨none,none,.st 4 (.t 2) (.t 21)⟩]) (
.ret))))⟩
/- (lenslet/sky.Star).sees -/
def c63 : Fnc := ⟨[.t 4],
.seq (
.reg [⟨some 2,none,.box 3 (.t 0)⟩,⟨some 3,none,.box 4 (.t 1)⟩,⟨some 4,none,.mov (.c (.bool false))⟩]) (
.seq (
.reg [⟨some 5,none,.ld 3 true (.t 2)⟩,⟨some 6,none,.call .pure (.c (.fn (.f 68) [] [])) [.t 5]⟩,⟨some 7,none,.mov (.t 6)⟩,⟨some 8,some (7,false),.ld 4 true (.t 3)⟩,⟨some 9,some (7,false),.off 2 (.t 2)⟩,⟨some 10,some (7,false),.ld 1 false (.t 9)⟩,⟨some 11,some (7,false),.call .pure (.c (.fn (.f 62) [] [])) [.t 10]⟩,⟨some 12,some (7,false),.call .pure (.c (.fn (.f 71) [] [])) [.t 8,.t 11]⟩,⟨some 13,some (7,false),.bin .lss (.t 12) (.c (.int .i64 0))⟩,⟨some 14,none,.pick (.t 7) (.c (.bool true)) (.t 13)⟩,⟨some 4,none,.mov (.t 14)⟩]) (
.ret))⟩
/- (lenslet/sky.Star).footprint -/
def c64 : Fnc := ⟨[.cell 6 8 true],
.seq (
.reg [⟨some 3,none,.box 3 (.t 0)⟩,⟨some 4,none,.box 4 (.t 1)⟩,⟨some 5,none,.box 2 (.t 2)⟩,⟨some 6,none,.box 8 (.c (.agg [.int .i64 0,.nils,.int .i64 0,.nils,.int .i64 0,.nils,.int .i64 0,.nils]))⟩]) (
.seq (
.reg [⟨some 8,none,.ld 2 true (.t 5)⟩,⟨some 9,none,.call .pure (.c (.fn (.f 54) [] [])) [.t 8]⟩,⟨some 7,none,.box 8 (.c (.agg [.int .i64 0,.nils,.int .i64 0,.nils,.int .i64 0,.nils,.int .i64 0,.nils]))⟩,⟨none,none,.st 8 (.t 7) (.t 9)⟩]) (
.seq (
.seq (
.reg [⟨some 10,none,.ld 3 true (.t 3)⟩,⟨some 11,none,.call .pure (.c (.fn (.f 68) [] [])) [.t 10]⟩,⟨some 12,none,.un .not (.t 11)⟩]) (
.cond (.t 12) (
 .reg [⟨some 13,none,.ld 8 true (.t 7)⟩,
   ⟨some 14,none,.call .pure (.c (.fn (.f 69) [] [])) [.c (.int .i64 1)]⟩,
   ⟨some 15,none,.ld 4 true (.t 4)⟩,
   ⟨some 16,none,.off 2 (.t 3)⟩,
   ⟨some 17,none,.ld 1 false (.t 16)⟩,
   ⟨some 18,none,.call .pure (.c (.fn (.f 62) [] [])) [.t 17]⟩,
   ⟨some 19,none,.call .pure (.c (.fn (.f 70) [] [])) [.t 15,.t 18]⟩,
   ⟨some 20,none,.call .pure (.c (.fn (.f 50) [] [])) [.t 14,.t 19]⟩,
   ⟨some 21,none,.call .pure (.c (.fn (.f 75) [] [])) [.t 13,.t 20]⟩,
   ⟨none,none,.st 8 (.t 7) (.t 21)⟩]) (
 .skip))) (
.seq (
.reg [⟨some 22,none,.ld 8 true (.t 7)⟩,⟨some 23,none,.off 0 (.t 3)⟩,⟨some 24,none,.ld 2 true (.t 23)⟩,⟨some 25,none,.call .pure (.c (.fn (.f 54) [] [])) [.t 24]⟩,⟨some 26,none,.ld 4 true (.t 4)⟩,⟨some 27,none,.call .pure (.c (.fn (.f 75) [] [])) [.t 25,.t 26]⟩,⟨some 28,none,.call .pure (.c (.fn (.f 112) [] [])) [.t 22,.t 27]⟩,⟨none,none,.st 8 (.t 6) (.t 28)⟩]) (
.ret))))⟩
/- (lenslet/sky.point).result -/
def c65 : Fnc := ⟨[.cell 2 2 true,.t 3],
.seq (
.reg [⟨some 1,none,.box 8 (.t 0)⟩,⟨some 2,none,.box 2 (.c (.agg [.str [],.str []]))⟩,⟨some 3,none,.mov (.c (.int .i64 0))⟩]) (
.seq (
.seq (
.reg [⟨some 4,none,.ld 8 true (.t 1)⟩,⟨some 5,none,.call .pure (.c (.fn (.f 113) [] [])) [.t 4]⟩]) (
.cond (.t 5) (
 .seq (
 .reg [⟨some 6,none,.mkagg [.str [],.str []] []⟩,
   ⟨none,none,.st 2 (.t 2) (.t 6)⟩,
   ⟨some 3,none,.mov (.c (.int .i64 4))⟩]) (
 .ret)) (
 .skip))) (
.seq (
.reg [⟨some 7,none,.ld 8 true (.t 1)⟩,⟨some 8,none,.call .pure (.c (.fn (.f 114) [] [])) [.t 7]⟩,⟨none,none,.st 2 (.t 2) (.t 8)⟩,⟨some 3,none,.mov (.c (.int .i64 0))⟩]) (
.ret)))⟩
/- lenslet/sky.checkRay -/
def c66 : Fnc := ⟨[.t 8],
.seq (
.reg [⟨some 4,none,.box 8 (.t 0)⟩,⟨some 5,none,.box 3 (.t 1)⟩,⟨some 6,none,.box 2 (.t 2)⟩,⟨some 8,none,.mov (.c (.int .i64 0))⟩]) (
.seq (
.seq (
.reg [⟨some 10,none,.ld 8 true (.t 4)⟩,⟨some 11,none,.call .pure (.c (.fn (.f 115) [] [])) [.t 10]⟩,⟨some 12,none,.ld 3 true (.t 5)⟩,⟨some 13,none,.call .pure (.c (.fn (.f 60) [] [])) [.t 12]⟩,⟨some 14,none,.ld 2 true (.t 6)⟩,⟨some 15,none,.call .pure (.c (.fn (.f 53) [] [])) [.t 14]⟩,⟨some 16,none,.mov (.t 3)⟩,⟨some 17,none,.call .pure (.c (.fn (.f 51) [] [])) [.t 16]⟩,⟨some 18,none,.mksl 4 1 [.int .i64 0,.int .i64 0,.int .i64 0,.int .i64 0] [(0,1,(.t 11)),(1,1,(.t 13)),(2,1,(.t 15)),(3,1,(.t 17))]⟩,⟨some 19,none,.call .pure (.c (.fn (.f 33) [] [])) [.t 18]⟩,⟨some 9,none,.mov (.t 19)⟩]) (
.seq (
.reg [⟨some 20,none,.mov (.t 9)⟩,⟨some 21,none,.bin .neq (.t 20) (.c (.int .i64 0))⟩]) (
.cond (.t 21) (
 .seq (
 .reg [⟨some 22,none,.mov (.t 9)⟩,
   ⟨some 8,none,.mov (.t 22)⟩]) (
 .ret)) (
 .skip)))) (
.seq (
.reg [⟨some 23,none,.ld 3 true (.t 5)⟩,⟨some 24,none,.off 1 (.t 4)⟩,⟨some 25,none,.ld 1 false (.t 24)⟩,⟨some 26,none,.call .pure (.c (.fn (.f 62) [] [])) [.t 25]⟩,⟨some 27,none,.call .pure (.c (.fn (.f 63) [] [])) [.t 23,.t 26]⟩,⟨some 28,none,.un .not (.t 27)⟩,⟨some 29,none,.call .pure (.c (.fn (.f 31) [] [])) [.t 28,.c (.int .i64 31)]⟩,⟨some 8,none,.mov (.t 29)⟩]) (
.ret)))⟩
/- (lenslet/sky.Layer).phase -/
def c67 : Fnc := ⟨[.cell 8 4 true],
.seq (
.reg [⟨some 4,none,.box 8 (.t 0)⟩,⟨some 5,none,.box 3 (.t 1)⟩,⟨some 6,none,.box 2 (.t 2)⟩,⟨some 8,none,.box 4 (.c (.agg [.int .i64 0,.nils,.int .i64 0,.nils]))⟩]) (
.seq (
.reg [⟨some 9,none,.off 3 (.t 4)⟩,⟨some 10,none,.ld 1 false (.t 9)⟩,⟨some 11,none,.call .pure (.c (.fn (.f 62) [] [])) [.t 10]⟩,⟨some 12,none,.ld 8 true (.t 4)⟩,⟨some 13,none,.ld 3 true (.t 5)⟩,⟨some 14,none,.ld 2 true (.t 6)⟩,⟨some 15,none,.mov (.t 3)⟩,⟨some 16,none,.call .pure (.c (.fn (.f 116) [] [])) [.t 12,.t 13,.t 14,.t 15]⟩,⟨some 17,none,.off 0 (.t 4)⟩,⟨some 18,none,.ld 1 false (.t 17)⟩,⟨some 19,none,.len 1 (.t 18)⟩,⟨some 20,none,.call .pure (.c (.fn (.f 55) [] [])) [.t 16,.t 19]⟩,⟨some 21,none,.off 0 (.t 4)⟩,⟨some 22,none,.ld 1 false (.t 21)⟩,⟨some 23,none,.call .pure (.c (.fn (.f 56) [] [])) [.t 20,.t 22]⟩,⟨some 24,none,.call .pure (.c (.fn (.f 49) [] [])) [.t 11,.t 23]⟩,⟨none,none,.st 4 (.t 8) (.t 24)⟩]) (
.ret))⟩
/- (lenslet/sky.Star).natural -/
def c68 : Fnc := ⟨[.t 2],
.seq (
.reg [⟨some 1,none,.box 3 (.t 0)⟩,⟨some 2,none,.mov (.c (.bool false))⟩]) (
.seq (
.reg [⟨some 3,none,.ld 3 true (.t 1)⟩,⟨some 4,none,.off 0 (.t 1)⟩,⟨some 5,none,.ld 2 true (.t 4)⟩,⟨some 6,none,.mkagg [.str [],.str [],.str []] [(0,2,(.t 5)),(2,1,(.c (.str [48])))]⟩,⟨some 7,none,.eq false (.ag [2,2,2]) (.t 3) (.t 6)⟩,⟨some 2,none,.mov (.t 7)⟩]) (
.ret))⟩
/- lenslet/num.F -/
def c69 : Fnc := ⟨[.cell 2 4 true],
.seq (
.reg [⟨some 2,none,.box 4 (.c (.agg [.int .i64 0,.nils,.int .i64 0,.nils]))⟩]) (
.seq (
.reg [⟨some 3,none,.mov (.t 0)⟩,⟨some 4,none,.call .pure (.c (.fn (.f 117) [] [])) [.t 3]⟩,⟨some 5,none,.call .pure (.c (.fn (.f 111) [] [])) [.t 4]⟩,⟨none,none,.st 4 (.t 2) (.t 5)⟩]) (
.ret))⟩
/- (lenslet/num.Frac).Div -/
def c70 : Fnc := ⟨[.cell 4 4 true],
.seq (
.reg [⟨some 2,none,.box 4 (.t 0)⟩,⟨some 3,none,.box 4 (.t 1)⟩,⟨some 4,none,.box 4 (.c (.agg [.int .i64 0,.nils,.int .i64 0,.nils]))⟩]) (
.seq (
.reg [⟨some 5,none,.ld 4 true (.t 2)⟩,⟨some 6,none,.ld 4 true (.t 3)⟩,⟨some 7,none,.call .pure (.c (.fn (.f 73) [] [])) [.t 6]⟩,⟨some 8,none,.call .pure (.c (.fn (.f 49) [] [])) [.t 5,.t 7]⟩,⟨none,none,.st 4 (.t 4) (.t 8)⟩]) (
.ret))⟩
/- (lenslet/num.Frac).Cmp -/
def c71 : Fnc := ⟨[.t 4],
.seq (
.reg [⟨some 2,none,.box 4 (.t 0)⟩,⟨some 3,none,.box 4 (.t 1)⟩,⟨some 4,none,.mov (.c (.int .i64 0))⟩]) (
.seq (
.reg [⟨some 5,none,.off 0 (.t 2)⟩,⟨some 6,none,.ld 2 true (.t 5)⟩,⟨some 7,none,.off 2 (.t 3)⟩,⟨some 8,none,.ld 2 true (.t 7)⟩,⟨some 9,none,.call .pure (.c (.fn (.f 100) [] [])) [.t 6,.t 8]⟩,⟨some 10,none,.off 0 (.t 3)⟩,⟨some 11,none,.ld 2 true (.t 10)⟩,⟨some 12,none,.off 2 (.t 2)⟩,⟨some 13,none,.ld 2 true (.t 12)⟩,⟨some 14,none,.call .pure (.c (.fn (.f 100) [] [])) [.t 11,.t 13]⟩,⟨some 15,none,.call .pure (.c (.fn (.f 118) [] [])) [.t 9,.t 14]⟩,⟨some 4,none,.mov (.t 15)⟩]) (
.ret))⟩
/- (lenslet/sky.point).sub -/
def c72 : Fnc := ⟨[.cell 4 8 true],
.seq (
.reg [⟨some 2,none,.box 8 (.t 0)⟩,⟨some 3,none,.box 8 (.t 1)⟩,⟨some 4,none,.box 8 (.c (.agg [.int .i64 0,.nils,.int .i64 0,.nils,.int .i64 0,.nils,.int .i64 0,.nils]))⟩]) (
.seq (
.reg [⟨some 5,none,.off 0 (.t 2)⟩,⟨some 6,none,.ld 4 true (.t 5)⟩,⟨some 7,none,.off 0 (.t 3)⟩,⟨some 8,none,.ld 4 true (.t 7)⟩,⟨some 9,none,.call .pure (.c (.fn (.f 50) [] [])) [.t 6,.t 8]⟩,⟨some 10,none,.off 4 (.t 2)⟩,⟨some 11,none,.ld 4 true (.t 10)⟩,⟨some 12,none,.off 4 (.t 3)⟩,⟨some 13,none,.ld 4 true (.t 12)⟩,⟨some 14,none,.call .pure (.c (.fn (.f 50) [] [])) [.t 11,.t 13]⟩,⟨some 15,none,.mkagg [.int .i64 0,.nils,.int .i64 0,.nils,.int .i64 0,.nils,.int .i64 0,.nils] [(0,4,(.t 9)),(4,4,(.t 14))]⟩,⟨none,none,.st 8 (.t 4) (.t 15)⟩]) (
.ret))⟩
/- (lenslet/num.Frac).Inv -/
def c73 : Fnc := ⟨[.cell 2 4 true],
.seq (
.reg [⟨some 1,none,.box 4 (.t 0)⟩,⟨some 2,none,.box 4 (.c (.agg [.int .i64 0,.nils,.int .i64 0,.nils]))⟩]) (
.seq (
.reg [⟨some 3,none,.off 2 (.t 1)⟩,⟨some 4,none,.ld 2 true (.t 3)⟩,⟨some 5,none,.off 0 (.t 1)⟩,⟨some 6,none,.ld 2 true (.t 5)⟩,⟨some 7,none,.call .pure (.c (.fn (.f 101) [] [])) [.t 4,.t 6]⟩,⟨none,none,.st 4 (.t 2) (.t 7)⟩]) (
.ret))⟩
/- (lenslet/num.Frac).Add -/
def c74 : Fnc := ⟨[.cell 4 4 true],
.seq (
.reg [⟨some 2,none,.box 4 (.t 0)⟩,⟨some 3,none,.box 4 (.t 1)⟩,⟨some 4,none,.box 4 (.c (.agg [.int .i64 0,.nils,.int .i64 0,.nils]))⟩]) (
.seq (
.seq (
.reg [⟨some 5,none,.ld 4 true (.t 2)⟩,⟨some 6,none,.call .pure (.c (.fn (.f 98) [] [])) [.t 5]⟩,⟨some 7,none,.mov (.t 6)⟩,⟨some 8,some (7,true),.ld 4 true (.t 3)⟩,⟨some 9,some (7,true),.call .pure (.c (.fn (.f 98) [] [])) [.t 8]⟩,⟨some 10,none,.pick (.t 7) (.t 9) (.c (.bool false))⟩]) (
.cond (.t 10) (
 .seq (
 .reg [⟨some 11,none,.off 0 (.t 2)⟩,
   ⟨some 12,none,.ld 2 true (.t 11)⟩,
   ⟨some 13,none,.off 0 (.t 3)⟩,
   ⟨some 14,none,.ld 2 true (.t 13)⟩,
   ⟨some 15,none,.call .pure (.c (.fn (.f 119) [] [])) [.t 12,.t 14]⟩,
   ⟨some 16,none,.call .pure (.c (.fn (.f 111) [] [])) [.t 15]⟩,
   ⟨none,none,.st 4 (.t 4) (.t 16)⟩]) (
 .ret)) (
 .skip))) (
.seq (
.reg [⟨some 17,none,.off 0 (.t 2)⟩,⟨some 18,none,.ld 2 true (.t 17)⟩,⟨some 19,none,.off 2 (.t 3)⟩,⟨some 20,none,.ld 2 true (.t 19)⟩,⟨some 21,none,.call .pure (.c (.fn (.f 100) [] [])) [.t 18,.t 20]⟩,⟨some 22,none,.off 0 (.t 3)⟩,⟨some 23,none,.ld 2 true (.t 22)⟩,⟨some 24,none,.off 2 (.t 2)⟩,⟨some 25,none,.ld 2 true (.t 24)⟩,⟨some 26,none,.call .pure (.c (.fn (.f 100) [] [])) [.t 23,.t 25]⟩,⟨some 27,none,.call .pure (.c (.fn (.f 119) [] [])) [.t 21,.t 26]⟩,⟨some 28,none,.off 2 (.t 2)⟩,⟨some 29,none,.ld 2 true (.t 28)⟩,⟨some 30,none,.off 2 (.t 3)⟩,⟨some 31,none,.ld 2 true (.t 30)⟩,⟨some 32,none,.call .pure (.c (.fn (.f 100) [] [])) [.t 29,.t 31]⟩,⟨some 33,none,.call .pure (.c (.fn (.f 101) [] [])) [.t 27,.t 32]⟩,⟨none,none,.st 4 (.t 4) (.t 33)⟩]) (
.ret)))⟩
/- (lenslet/sky.point).scaled -/
def c75 : Fnc := ⟨[.cell 4 8 true],
.seq (
.reg [⟨some 2,none,.box 8 (.t 0)⟩,⟨some 3,none,.box 4 (.t 1)⟩,⟨some 4,none,.box 8 (.c (.agg [.int .i64 0,.nils,.int .i64 0,.nils,.int .i64 0,.nils,.int .i64 0,.nils]))⟩]) (
.seq (
.reg [⟨some 5,none,.off 0 (.t 2)⟩,⟨some 6,none,.ld 4 true (.t 5)⟩,⟨some 7,none,.ld 4 true (.t 3)⟩,⟨some 8,none,.call .pure (.c (.fn (.f 49) [] [])) [.t 6,.t 7]⟩,⟨some 9,none,.off 4 (.t 2)⟩,⟨some 10,none,.ld 4 true (.t 9)⟩,⟨some 11,none,.ld 4 true (.t 3)⟩,⟨some 12,none,.call .pure (.c (.fn (.f 49) [] [])) [.t 10,.t 11]⟩,⟨some 13,none,.mkagg [.int .i64 0,.nils,.int .i64 0,.nils,.int .i64 0,.nils,.int .i64 0,.nils] [(0,4,(.t 8)),(4,4,(.t 12))]⟩,⟨none,none,.st 8 (.t 4) (.t 13)⟩]) (
.ret))⟩
/- lenslet/sky.checkLayers -/
def c76 : Fnc := ⟨[.t 2],
.seq (
.reg [⟨some 2,none,.mov (.c (.int .i64 0))⟩]) (
.seq (
.seq (
.reg [⟨some 3,none,.mov (.t 0)⟩,⟨some 4,none,.len 1 (.t 3)⟩,⟨some 5,none,.bin .gtr (.t 4) (.c (.int .i64 4))⟩]) (
.cond (.t 5) (
 .seq (
 .reg [⟨some 2,none,.mov (.c (.int .i64 5))⟩]) (
 .ret)) (
 .skip))) (
.seq (
.reg [⟨some 6,none,.mov (.t 0)⟩,⟨some 7,none,.call .pure (.c (.fn (.f 120) [] [])) [.t 6,.c (.fn (.f 115) [] [])]⟩,⟨some 8,none,.call .pure (.c (.fn (.f 33) [] [])) [.t 7]⟩,⟨some 2,none,.mov (.t 8)⟩]) (
.ret)))⟩
/- lenslet/sky.mapped[lenslet/sky.Star,lenslet/api.Errno] -/
def c77_0 : VC :=
.seq (
.reg [⟨some 11,none,.bin .lss (.t 10) (.t 9)⟩]) (
.seq (
.cond (.t 11) (
 .skip) (
 .exit 0)) (
.seq (
.blk 1 (
.seq (
.reg [⟨some 12,none,.ixa 3 (.t 8) (.t 10)⟩,⟨some 13,none,.ld 3 true (.t 12)⟩,⟨some 7,none,.box 3 (.c (.agg [.str [],.str [],.str []]))⟩,⟨none,none,.st 3 (.t 7) (.t 13)⟩]) (
.reg [⟨some 14,none,.mov (.t 5)⟩,⟨some 15,none,.mov (.t 1)⟩,⟨some 16,none,.ld 3 true (.t 7)⟩,⟨some 17,none,.call .pure (.t 15) [.t 16]⟩,⟨some 18,none,.mksl 1 1 [.int .i64 0] [(0,1,(.t 17))]⟩,⟨some 19,none,.app 1 8 (.t 14) (.t 18)⟩,⟨some 5,none,.mov (.t 19)⟩]))) (
.reg [⟨some 20,none,.bin .add (.t 10) (.c (.int .i64 1))⟩,⟨some 10,none,.mov (.t 20)⟩])))
def c77 : Fnc := ⟨[.t 4],
.seq (
.reg [⟨some 4,none,.mov (.c (.nils))⟩]) (
.seq (
.reg [⟨some 5,none,.mov (.c (.nils))⟩]) (
.seq (
.seq (
.reg [⟨some 8,none,.mov (.t 0)⟩,⟨some 9,none,.len 1 (.t 8)⟩,⟨some 10,none,.mov (.c (.int .i64 0))⟩]) (
.seq (
.blk 0 (
.loop [1,5,8,9,10] c77_0)) (
.kp [5]))) (
.seq (
.reg [⟨some 21,none,.mov (.t 5)⟩,⟨some 4,none,.mov (.t 21)⟩]) (
.ret))))⟩
/- lenslet/sky.checkPlaces -/
def c78 : Fnc := ⟨[.t 2],
.seq (
.reg [⟨some 2,none,.mov (.c (.int .i64 0))⟩]) (
.seq (
.seq (
.reg [⟨some 3,none,.mov (.t 0)⟩,⟨some 4,none,.len 1 (.t 3)⟩,⟨some 5,none,.bin .gtr (.t 4) (.c (.int .i64 256))⟩]) (
.cond (.t 5) (
 .seq (
 .reg [⟨some 2,none,.mov (.c (.int .i64 5))⟩]) (
 .ret)) (
 .skip))) (
.seq (
.reg [⟨some 6,none,.mov (.t 0)⟩,⟨some 7,none,.call .pure (.c (.fn (.f 121) [] [])) [.t 6,.c (.fn (.f 53) [] [])]⟩,⟨some 8,none,.call .pure (.c (.fn (.f 33) [] [])) [.t 7]⟩,⟨some 2,none,.mov (.t 8)⟩]) (
.ret)))⟩
/- lenslet/sky.mapped[lenslet/sky.Layer,int] -/
def c79_0 : VC :=
.seq (
.reg [⟨some 11,none,.bin .lss (.t 10) (.t 9)⟩]) (
.seq (
.cond (.t 11) (
 .skip) (
 .exit 0)) (
.seq (
.blk 1 (
.seq (
.reg [⟨some 12,none,.ixa 8 (.t 8) (.t 10)⟩,⟨some 13,none,.ld 8 true (.t 12)⟩,⟨some 7,none,.box 8 (.c (.agg [.nils,.str [],.str [],.str [],.str [],.str [],.str [],.str []]))⟩,⟨none,none,.st 8 (.t 7) (.t 13)⟩]) (
.reg [⟨some 14,none,.mov (.t 5)⟩,⟨some 15,none,.mov (.t 1)⟩,⟨some 16,none,.ld 8 true (.t 7)⟩,⟨some 17,none,.call .pure (.t 15) [.t 16]⟩,⟨some 18,none,.mksl 1 1 [.int .i64 0] [(0,1,(.t 17))]⟩,⟨some 19,none,.app 1 8 (.t 14) (.t 18)⟩,⟨some 5,none,.mov (.t 19)⟩]))) (
.reg [⟨some 20,none,.bin .add (.t 10) (.c (.int .i64 1))⟩,⟨some 10,none,.mov (.t 20)⟩])))
def c79 : Fnc := ⟨[.t 4],
.seq (
.reg [⟨some 4,none,.mov (.c (.nils))⟩]) (
.seq (
.reg [⟨some 5,none,.mov (.c (.nils))⟩]) (
.seq (
.seq (
.reg [⟨some 8,none,.mov (.t 0)⟩,⟨some 9,none,.len 1 (.t 8)⟩,⟨some 10,none,.mov (.c (.int .i64 0))⟩]) (
.seq (
.blk 0 (
.loop [1,5,8,9,10] c79_0)) (
.kp [5]))) (
.seq (
.reg [⟨some 21,none,.mov (.t 5)⟩,⟨some 4,none,.mov (.t 21)⟩]) (
.ret))))⟩
/- lenslet/sky.Matrix.1 -/
def c80 : Fnc := ⟨[.t 2],
.seq (
.reg [⟨some 1,none,.box 8 (.t 0)⟩,⟨some 2,none,.mov (.c (.int .i64 0))⟩]) (
.seq (
.reg [⟨some 3,none,.off 0 (.t 1)⟩,⟨some 4,none,.ld 1 false (.t 3)⟩,⟨some 5,none,.len 1 (.t 4)⟩,⟨some 6,none,.off 0 (.t 1)⟩,⟨some 7,none,.ld 1 false (.t 6)⟩,⟨some 8,none,.len 1 (.t 7)⟩,⟨some 9,none,.bin .mul (.t 5) (.t 8)⟩,⟨some 2,none,.mov (.t 9)⟩]) (
.ret))⟩
/- lenslet/sky.Matrix.2 -/
def c81 : Fnc := ⟨[.t 4],
.seq (
.reg [⟨some 4,none,.mov (.c (.int .i64 0))⟩]) (
.seq (
.reg [⟨some 5,none,.mov (.t 0)⟩,⟨some 6,none,.mov (.t 1)⟩,⟨some 7,none,.bin .add (.t 5) (.t 6)⟩,⟨some 4,none,.mov (.t 7)⟩]) (
.ret))⟩
/- lenslet/sky.weighed -/
def c82_0 : VC :=
.seq (
.reg [⟨some 56,none,.bin .lss (.t 55) (.c (.int .i64 4))⟩]) (
.seq (
.cond (.t 56) (
 .skip) (
 .exit 2)) (
.seq (
.blk 3 (
.seq (
.reg [⟨some 57,none,.mov (.t 55)⟩,⟨some 58,none,.ixv 4 4 true (.t 54) (.t 55)⟩,⟨some 18,none,.box 4 (.c (.agg [.int .i64 0,.nils,.int .i64 0,.nils]))⟩,⟨some 17,none,.mov (.t 57)⟩,⟨none,none,.st 4 (.t 18) (.t 58)⟩]) (
.seq (
.reg [⟨some 60,none,.ld 10 true (.t 16)⟩,⟨some 61,none,.mov (.t 17)⟩,⟨some 62,none,.mov (.t 15)⟩,⟨some 63,none,.call .pure (.c (.fn (.f 105) [] [])) [.t 60,.t 61,.t 62]⟩,⟨some 59,none,.mov (.t 63)⟩,⟨some 64,none,.ext 0 (.t 59)⟩,⟨some 65,none,.ext 1 (.t 59)⟩,⟨some 19,none,.mov (.t 64)⟩,⟨some 20,none,.mov (.t 65)⟩]) (
.seq (
.reg [⟨some 66,none,.mov (.t 12)⟩,⟨some 67,none,.mov (.t 20)⟩,⟨some 68,none,.mov (.t 15)⟩,⟨some 69,none,.bin .mul (.t 67) (.t 68)⟩,⟨some 70,none,.bin .add (.t 66) (.t 69)⟩,⟨some 71,none,.mov (.t 19)⟩,⟨some 72,none,.bin .add (.t 70) (.t 71)⟩,⟨some 21,none,.mov (.t 72)⟩]) (
.seq (
.seq (
.reg [⟨some 74,none,.mov (.t 11)⟩,⟨some 75,none,.mov (.t 21)⟩,⟨some 76,none,.lkp 1 (.agg [.int .i64 0,.nils,.int .i64 0,.nils]) true (.t 74) (.t 75)⟩,⟨some 73,none,.mov (.t 76)⟩,⟨some 77,none,.ext 0 (.t 73)⟩,⟨some 78,none,.ext 1 (.t 73)⟩,⟨some 22,none,.box 4 (.c (.agg [.int .i64 0,.nils,.int .i64 0,.nils]))⟩,⟨none,none,.st 4 (.t 22) (.t 77)⟩,⟨some 23,none,.mov (.t 78)⟩]) (
.seq (
.reg [⟨some 79,none,.mov (.t 23)⟩]) (
.cond (.t 79) (
 .reg [⟨some 80,none,.ld 4 true (.t 18)⟩,
   ⟨some 81,none,.ld 4 true (.t 22)⟩,
   ⟨some 82,none,.call .pure (.c (.fn (.f 74) [] [])) [.t 80,.t 81]⟩,
   ⟨none,none,.st 4 (.t 18) (.t 82)⟩]) (
 .skip)))) (
.reg [⟨some 83,none,.mov (.t 11)⟩,⟨some 84,none,.mov (.t 21)⟩,⟨some 85,none,.ld 4 true (.t 18)⟩,⟨none,none,.mup 1 (.t 83) (.t 84) (.t 85)⟩])))))) (
.reg [⟨some 86,none,.bin .add (.t 55) (.c (.int .i64 1))⟩,⟨some 55,none,.mov (.t 86)⟩])))
def c82_1 : VC :=
.seq (
.reg [⟨some 91,none,.bin .lss (.t 90) (.t 89)⟩]) (
.seq (
.cond (.t 91) (
 .skip) (
 .exit 4)) (
.seq (
.blk 5 (
.seq (
.reg [⟨some 92,none,.mov (.t 90)⟩,⟨some 24,none,.mov (.t 92)⟩]) (
.seq (
.reg [⟨some 94,none,.mov (.t 11)⟩,⟨some 95,none,.mov (.t 12)⟩,⟨some 96,none,.mov (.t 24)⟩,⟨some 97,none,.bin .add (.t 95) (.t 96)⟩,⟨some 98,none,.lkp 1 (.agg [.int .i64 0,.nils,.int .i64 0,.nils]) true (.t 94) (.t 97)⟩,⟨some 93,none,.mov (.t 98)⟩,⟨some 99,none,.ext 0 (.t 93)⟩,⟨some 100,none,.ext 1 (.t 93)⟩,⟨some 25,none,.box 4 (.c (.agg [.int .i64 0,.nils,.int .i64 0,.nils]))⟩,⟨none,none,.st 4 (.t 25) (.t 99)⟩,⟨some 26,none,.mov (.t 100)⟩]) (
.seq (
.reg [⟨some 101,none,.mov (.t 26)⟩]) (
.cond (.t 101) (
 .reg [⟨some 102,none,.mov (.t 11)⟩,
   ⟨some 103,none,.mov (.t 12)⟩,
   ⟨some 104,none,.mov (.t 24)⟩,
   ⟨some 105,none,.bin .add (.t 103) (.t 104)⟩,
   ⟨some 106,none,.ld 4 true (.t 25)⟩,
   ⟨some 107,none,.off 3 (.t 14)⟩,
   ⟨some 108,none,.ld 1 false (.t 107)⟩,
   ⟨some 109,none,.call .pure (.c (.fn (.f 62) [] [])) [.t 108]⟩,
   ⟨some 110,none,.call .pure (.c (.fn (.f 49) [] [])) [.t 106,.t 109]⟩,
   ⟨none,none,.mup 1 (.t 102) (.t 105) (.t 110)⟩]) (
 .skip)))))) (
.reg [⟨some 111,none,.bin .add (.t 90) (.c (.int .i64 1))⟩,⟨some 90,none,.mov (.t 111)⟩])))
def c82_2 : VC :=
.seq (
.reg [⟨some 35,none,.bin .lss (.t 34) (.t 33)⟩]) (
.seq (
.cond (.t 35) (
 .skip) (
 .exit 0)) (
.seq (
.blk 1 (
.seq (
.reg [⟨some 36,none,.ixa 8 (.t 32) (.t 34)⟩,⟨some 37,none,.ld 8 true (.t 36)⟩,⟨some 14,none,.box 8 (.c (.agg [.nils,.str [],.str [],.str [],.str [],.str [],.str [],.str []]))⟩,⟨none,none,.st 8 (.t 14) (.t 37)⟩]) (
.seq (
.reg [⟨some 38,none,.off 0 (.t 14)⟩,⟨some 39,none,.ld 1 false (.t 38)⟩,⟨some 40,none,.len 1 (.t 39)⟩,⟨some 15,none,.mov (.t 40)⟩]) (
.seq (
.seq (
.reg [⟨some 41,none,.ld 3 true (.t 6)⟩,⟨some 42,none,.off 1 (.t 14)⟩,⟨some 43,none,.ld 1 false (.t 42)⟩,⟨some 44,none,.call .pure (.c (.fn (.f 62) [] [])) [.t 43]⟩,⟨some 45,none,.call .pure (.c (.fn (.f 63) [] [])) [.t 41,.t 44]⟩]) (
.cond (.t 45) (
 .seq (
 .reg [⟨some 46,none,.ld 8 true (.t 14)⟩,
   ⟨some 47,none,.ld 3 true (.t 6)⟩,
   ⟨some 48,none,.ld 2 true (.t 7)⟩,
   ⟨some 49,none,.mov (.t 3)⟩,
   ⟨some 50,none,.call .pure (.c (.fn (.f 116) [] [])) [.t 46,.t 47,.t 48,.t 49]⟩,
   ⟨some 51,none,.mov (.t 15)⟩,
   ⟨some 52,none,.call .pure (.c (.fn (.f 55) [] [])) [.t 50,.t 51]⟩,
   ⟨some 16,none,.box 10 (.c (.agg [.int .i64 0,.int .i64 0,.int .i64 0,.nils,.int .i64 0,.nils,.int .i64 0,.nils,.int .i64 0,.nils]))⟩,
   ⟨none,none,.st 10 (.t 16) (.t 52)⟩]) (
 .seq (
 .reg [⟨some 53,none,.ld 10 true (.t 16)⟩,
   ⟨some 54,none,.call .pure (.c (.fn (.f 104) [] [])) [.t 53]⟩,
   ⟨some 55,none,.mov (.c (.int .i64 0))⟩]) (
 .seq (
 .blk 2 (
 .loop [3,4,6,7,11,12,14,15,16,32,33,34,54,55] c82_0)) (
 .kp [3,4,6,7,11,12,14,15,32,33,34])))) (
 .skip))) (
.seq (
.seq (
.reg [⟨some 87,none,.mov (.t 15)⟩,⟨some 88,none,.mov (.t 15)⟩,⟨some 89,none,.bin .mul (.t 87) (.t 88)⟩,⟨some 90,none,.mov (.c (.int .i64 0))⟩]) (
.seq (
.blk 4 (
.loop [3,4,6,7,11,12,14,15,32,33,34,89,90] c82_1)) (
.kp [3,4,6,7,11,12,15,32,33,34]))) (
.reg [⟨some 112,none,.mov (.t 12)⟩,⟨some 113,none,.mov (.t 15)⟩,⟨some 114,none,.mov (.t 15)⟩,⟨some 115,none,.bin .mul (.t 113) (.t 114)⟩,⟨some 116,none,.bin .add (.t 112) (.t 115)⟩,⟨some 12,none,.mov (.t 116)⟩])))))) (
.reg [⟨some 117,none,.bin .add (.t 34) (.c (.int .i64 1))⟩,⟨some 34,none,.mov (.t 117)⟩])))
def c82_3 : VC :=
.seq (
.reg [⟨some 120,none,.bin .lss (.t 119) (.t 118)⟩]) (
.seq (
.cond (.t 120) (
 .skip) (
 .exit 6)) (
.seq (
.blk 7 (
.seq (
.reg [⟨some 121,none,.mov (.t 119)⟩,⟨some 28,none,.mov (.t 121)⟩]) (
.seq (
.reg [⟨some 123,none,.mov (.t 11)⟩,⟨some 124,none,.mov (.t 28)⟩,⟨some 125,none,.lkp 1 (.agg [.int .i64 0,.nils,.int .i64 0,.nils]) true (.t 123) (.t 124)⟩,⟨some 122,none,.mov (.t 125)⟩,⟨some 126,none,.ext 0 (.t 122)⟩,⟨some 127,none,.ext 1 (.t 122)⟩,⟨some 29,none,.box 4 (.c (.agg [.int .i64 0,.nils,.int .i64 0,.nils]))⟩,⟨none,none,.st 4 (.t 29) (.t 126)⟩,⟨some 30,none,.mov (.t 127)⟩]) (
.seq (
.seq (
.reg [⟨some 128,none,.mov (.t 30)⟩,⟨some 129,none,.un .not (.t 128)⟩]) (
.cond (.t 129) (
 .reg [⟨some 130,none,.call .pure (.c (.fn (.f 69) [] [])) [.c (.int .i64 0)]⟩,
   ⟨none,none,.st 4 (.t 29) (.t 130)⟩]) (
 .skip))) (
.reg [⟨some 131,none,.mov (.t 27)⟩,⟨some 132,none,.ld 4 true (.t 29)⟩,⟨some 133,none,.mksl 1 4 [.int .i64 0,.nils,.int .i64 0,.nils] [(0,4,(.t 132))]⟩,⟨some 134,none,.app 4 64 (.t 131) (.t 133)⟩,⟨some 27,none,.mov (.t 134)⟩]))))) (
.reg [⟨some 135,none,.bin .add (.t 119) (.c (.int .i64 1))⟩,⟨some 119,none,.mov (.t 135)⟩])))
def c82 : Fnc := ⟨[.t 10],
.seq (
.reg [⟨some 6,none,.box 3 (.t 1)⟩,⟨some 7,none,.box 2 (.t 2)⟩,⟨some 10,none,.mov (.c (.nils))⟩]) (
.seq (
.reg [⟨some 31,none,.mkm⟩,⟨some 11,none,.mov (.t 31)⟩]) (
.seq (
.reg [⟨some 12,none,.mov (.c (.int .i64 0))⟩]) (
.seq (
.seq (
.reg [⟨some 32,none,.mov (.t 0)⟩,⟨some 33,none,.len 1 (.t 32)⟩,⟨some 34,none,.mov (.c (.int .i64 0))⟩]) (
.seq (
.blk 0 (
.loop [3,4,6,7,11,12,32,33,34] c82_2)) (
.kp [4,11]))) (
.seq (
.reg [⟨some 27,none,.mov (.c (.nils))⟩]) (
.seq (
.seq (
.reg [⟨some 118,none,.mov (.t 4)⟩,⟨some 119,none,.mov (.c (.int .i64 0))⟩]) (
.seq (
.blk 6 (
.loop [11,27,118,119] c82_3)) (
.kp [27]))) (
.seq (
.reg [⟨some 136,none,.mov (.t 27)⟩,⟨some 10,none,.mov (.t 136)⟩]) (
.ret)))))))⟩
/- lenslet/sky.results -/
def c83 : Fnc := ⟨[.t 2,.t 3],
.seq (
.reg [⟨some 2,none,.mov (.c (.nils))⟩,⟨some 3,none,.mov (.c (.int .i64 0))⟩]) (
.seq (
.seq (
.reg [⟨some 4,none,.mov (.t 0)⟩,⟨some 5,none,.call .pure (.c (.fn (.f 122) [] [])) [.t 4,.c (.fn (.f 107) [] [])]⟩]) (
.cond (.t 5) (
 .seq (
 .reg [⟨some 2,none,.mov (.c (.nils))⟩,
   ⟨some 3,none,.mov (.c (.int .i64 4))⟩]) (
 .ret)) (
 .skip))) (
.seq (
.reg [⟨some 6,none,.mov (.t 0)⟩,⟨some 7,none,.call .pure (.c (.fn (.f 123) [] [])) [.t 6]⟩,⟨some 2,none,.mov (.t 7)⟩,⟨some 3,none,.mov (.c (.int .i64 0))⟩]) (
.ret)))⟩
/- lenslet/number.CheckMatrix -/
def c84 : Fnc := ⟨[.t 2],
.seq (
.reg [⟨some 1,none,.box 1 (.t 0)⟩,⟨some 2,none,.mov (.c (.int .i64 0))⟩]) (
.seq (
.seq (
.reg [⟨some 4,none,.ld 1 false (.t 1)⟩,⟨some 5,none,.len 1 (.t 4)⟩,⟨some 6,none,.bin .eql (.t 5) (.c (.int .i64 0))⟩,⟨some 7,none,.call .pure (.c (.fn (.f 124) [] [])) [.t 6,.c (.int .i64 12)]⟩,⟨some 8,none,.ld 1 false (.t 1)⟩,⟨some 9,none,.len 1 (.t 8)⟩,⟨some 10,none,.bin .gtr (.t 9) (.c (.int .i64 64))⟩,⟨some 11,none,.call .pure (.c (.fn (.f 124) [] [])) [.t 10,.c (.int .i64 5)]⟩,⟨some 12,none,.mksl 2 1 [.int .i64 0,.int .i64 0] [(0,1,(.t 7)),(1,1,(.t 11))]⟩,⟨some 13,none,.call .pure (.c (.fn (.f 125) [] [])) [.t 12]⟩,⟨some 3,none,.mov (.t 13)⟩]) (
.seq (
.reg [⟨some 14,none,.mov (.t 3)⟩,⟨some 15,none,.bin .neq (.t 14) (.c (.int .i64 0))⟩]) (
.cond (.t 15) (
 .seq (
 .reg [⟨some 16,none,.mov (.t 3)⟩,
   ⟨some 2,none,.mov (.t 16)⟩]) (
 .ret)) (
 .skip)))) (
.seq (
.reg [⟨some 17,none,.ld 1 false (.t 1)⟩,⟨some 18,none,.mkf (.f 126) [] [.t 1]⟩,⟨some 19,none,.call .pure (.c (.fn (.f 127) [] [])) [.t 17,.t 18]⟩,⟨some 2,none,.mov (.t 19)⟩]) (
.ret)))⟩
/- lenslet/sky.mapped[lenslet/api.Rat,lenslet/api.Errno] -/
def c85_0 : VC :=
.seq (
.reg [⟨some 11,none,.bin .lss (.t 10) (.t 9)⟩]) (
.seq (
.cond (.t 11) (
 .skip) (
 .exit 0)) (
.seq (
.blk 1 (
.seq (
.reg [⟨some 12,none,.ixa 1 (.t 8) (.t 10)⟩,⟨some 13,none,.ld 1 false (.t 12)⟩,⟨some 7,none,.mov (.t 13)⟩]) (
.reg [⟨some 14,none,.mov (.t 5)⟩,⟨some 15,none,.mov (.t 1)⟩,⟨some 16,none,.mov (.t 7)⟩,⟨some 17,none,.call .pure (.t 15) [.t 16]⟩,⟨some 18,none,.mksl 1 1 [.int .i64 0] [(0,1,(.t 17))]⟩,⟨some 19,none,.app 1 8 (.t 14) (.t 18)⟩,⟨some 5,none,.mov (.t 19)⟩]))) (
.reg [⟨some 20,none,.bin .add (.t 10) (.c (.int .i64 1))⟩,⟨some 10,none,.mov (.t 20)⟩])))
def c85 : Fnc := ⟨[.t 4],
.seq (
.reg [⟨some 4,none,.mov (.c (.nils))⟩]) (
.seq (
.reg [⟨some 5,none,.mov (.c (.nils))⟩]) (
.seq (
.seq (
.reg [⟨some 8,none,.mov (.t 0)⟩,⟨some 9,none,.len 1 (.t 8)⟩,⟨some 10,none,.mov (.c (.int .i64 0))⟩]) (
.seq (
.blk 0 (
.loop [1,5,8,9,10] c85_0)) (
.kp [5]))) (
.seq (
.reg [⟨some 21,none,.mov (.t 5)⟩,⟨some 4,none,.mov (.t 21)⟩]) (
.ret))))⟩
/- lenslet/number.Check -/
def c86 : Fnc := ⟨[.t 2],
.seq (
.reg [⟨some 2,none,.mov (.c (.int .i64 0))⟩]) (
.seq (
.reg [⟨some 12,none,.mov (.t 0)⟩,⟨some 13,none,.call .pure (.c (.fn (.f 128) [] [])) [.t 12,.c (.str [45])]⟩,⟨some 11,none,.mov (.t 13)⟩,⟨some 14,none,.ext 0 (.t 11)⟩,⟨some 15,none,.ext 1 (.t 11)⟩,⟨some 3,none,.mov (.t 14)⟩,⟨some 4,none,.mov (.t 15)⟩]) (
.seq (
.reg [⟨some 17,none,.mov (.t 3)⟩,⟨some 18,none,.call .pure (.c (.fn (.f 109) [] [])) [.t 17,.c (.str [47])]⟩,⟨some 16,none,.mov (.t 18)⟩,⟨some 19,none,.ext 0 (.t 16)⟩,⟨some 20,none,.ext 1 (.t 16)⟩,⟨some 21,none,.ext 2 (.t 16)⟩,⟨some 5,none,.mov (.t 19)⟩,⟨some 6,none,.mov (.t 20)⟩,⟨some 7,none,.mov (.t 21)⟩]) (
.seq (
.reg [⟨some 22,none,.mov (.t 5)⟩,⟨some 23,none,.call .pure (.c (.fn (.f 129) [] [])) [.t 22]⟩,⟨some 24,none,.mov (.t 23)⟩,⟨some 25,some (24,true),.mov (.t 4)⟩,⟨some 26,some (24,true),.un .not (.t 25)⟩,⟨some 27,some (24,true),.mov (.t 26)⟩,⟨some 28,some (27,false),.mov (.t 5)⟩,⟨some 29,some (27,false),.bin .neq (.t 28) (.c (.str [48]))⟩,⟨some 30,some (24,true),.pick (.t 27) (.c (.bool true)) (.t 29)⟩,⟨some 31,none,.pick (.t 24) (.t 30) (.c (.bool false))⟩,⟨some 8,none,.mov (.t 31)⟩]) (
.seq (
.seq (
.reg [⟨some 32,none,.mov (.t 7)⟩]) (
.cond (.t 32) (
 .reg [⟨some 33,none,.mov (.t 8)⟩,
   ⟨some 34,none,.mov (.t 33)⟩,
   ⟨some 35,some (34,true),.mov (.t 6)⟩,
   ⟨some 36,some (34,true),.call .pure (.c (.fn (.f 129) [] [])) [.t 35]⟩,
   ⟨some 37,none,.pick (.t 34) (.t 36) (.c (.bool false))⟩,
   ⟨some 38,none,.mov (.t 37)⟩,
   ⟨some 39,some (38,true),.mov (.t 6)⟩,
   ⟨some 40,some (38,true),.bin .neq (.t 39) (.c (.str [48]))⟩,
   ⟨some 41,none,.pick (.t 38) (.t 40) (.c (.bool false))⟩,
   ⟨some 42,none,.mov (.t 41)⟩,
   ⟨some 43,some (42,true),.mov (.t 6)⟩,
   ⟨some 44,some (42,true),.bin .neq (.t 43) (.c (.str [49]))⟩,
   ⟨some 45,none,.pick (.t 42) (.t 44) (.c (.bool false))⟩,
   ⟨some 8,none,.mov (.t 45)⟩]) (
 .skip))) (
.seq (
.seq (
.reg [⟨some 46,none,.mov (.t 8)⟩,⟨some 47,none,.un .not (.t 46)⟩,⟨some 48,none,.call .pure (.c (.fn (.f 124) [] [])) [.t 47,.c (.int .i64 1)]⟩,⟨some 49,none,.mov (.t 5)⟩,⟨some 50,none,.len 0 (.t 49)⟩,⟨some 51,none,.bin .gtr (.t 50) (.c (.int .i64 600))⟩,⟨some 52,none,.mov (.t 51)⟩,⟨some 53,some (52,false),.mov (.t 6)⟩,⟨some 54,some (52,false),.len 0 (.t 53)⟩,⟨some 55,some (52,false),.bin .gtr (.t 54) (.c (.int .i64 600))⟩,⟨some 56,none,.pick (.t 52) (.c (.bool true)) (.t 55)⟩,⟨some 57,none,.call .pure (.c (.fn (.f 124) [] [])) [.t 56,.c (.int .i64 4)]⟩,⟨some 58,none,.mksl 2 1 [.int .i64 0,.int .i64 0] [(0,1,(.t 48)),(1,1,(.t 57))]⟩,⟨some 59,none,.call .pure (.c (.fn (.f 125) [] [])) [.t 58]⟩,⟨some 9,none,.mov (.t 59)⟩]) (
.seq (
.reg [⟨some 60,none,.mov (.t 9)⟩,⟨some 61,none,.bin .neq (.t 60) (.c (.int .i64 0))⟩]) (
.cond (.t 61) (
 .seq (
 .reg [⟨some 62,none,.mov (.t 9)⟩,
   ⟨some 2,none,.mov (.t 62)⟩]) (
 .ret)) (
 .skip)))) (
.seq (
.reg [⟨some 63,none,.mov (.t 7)⟩,⟨some 64,none,.mov (.t 63)⟩,⟨some 65,some (64,true),.mov (.t 5)⟩,⟨some 66,some (64,true),.call .pure (.c (.fn (.f 110) [] [])) [.t 65]⟩,⟨some 67,some (64,true),.mov (.t 6)⟩,⟨some 68,some (64,true),.call .pure (.c (.fn (.f 110) [] [])) [.t 67]⟩,⟨some 69,some (64,true),.call .pure (.c (.fn (.f 130) [] [])) [.t 66,.t 68]⟩,⟨some 70,some (64,true),.call .pure (.c (.fn (.f 117) [] [])) [.c (.int .i64 1)]⟩,⟨some 71,some (64,true),.call .pure (.c (.fn (.f 118) [] [])) [.t 69,.t 70]⟩,⟨some 72,some (64,true),.bin .neq (.t 71) (.c (.int .i64 0))⟩,⟨some 73,none,.pick (.t 64) (.t 72) (.c (.bool false))⟩,⟨some 10,none,.mov (.t 73)⟩]) (
.seq (
.reg [⟨some 74,none,.mov (.t 10)⟩,⟨some 75,none,.call .pure (.c (.fn (.f 124) [] [])) [.t 74,.c (.int .i64 1)]⟩,⟨some 2,none,.mov (.t 75)⟩]) (
.ret))))))))⟩
/- lenslet/sky.mapped[[]lenslet/api.Rat,[]lenslet/num.Frac] -/
def c87_0 : VC :=
.seq (
.reg [⟨some 11,none,.bin .lss (.t 10) (.t 9)⟩]) (
.seq (
.cond (.t 11) (
 .skip) (
 .exit 0)) (
.seq (
.blk 1 (
.seq (
.reg [⟨some 12,none,.ixa 1 (.t 8) (.t 10)⟩,⟨some 13,none,.ld 1 false (.t 12)⟩,⟨some 7,none,.mov (.t 13)⟩]) (
.reg [⟨some 14,none,.mov (.t 5)⟩,⟨some 15,none,.mov (.t 1)⟩,⟨some 16,none,.mov (.t 7)⟩,⟨some 17,none,.call .pure (.t 15) [.t 16]⟩,⟨some 18,none,.mksl 1 1 [.nils] [(0,1,(.t 17))]⟩,⟨some 19,none,.app 1 24 (.t 14) (.t 18)⟩,⟨some 5,none,.mov (.t 19)⟩]))) (
.reg [⟨some 20,none,.bin .add (.t 10) (.c (.int .i64 1))⟩,⟨some 10,none,.mov (.t 20)⟩])))
def c87 : Fnc := ⟨[.t 4],
.seq (
.reg [⟨some 4,none,.mov (.c (.nils))⟩]) (
.seq (
.reg [⟨some 5,none,.mov (.c (.nils))⟩]) (
.seq (
.seq (
.reg [⟨some 8,none,.mov (.t 0)⟩,⟨some 9,none,.len 1 (.t 8)⟩,⟨some 10,none,.mov (.c (.int .i64 0))⟩]) (
.seq (
.blk 0 (
.loop [1,5,8,9,10] c87_0)) (
.kp [5]))) (
.seq (
.reg [⟨some 21,none,.mov (.t 5)⟩,⟨some 4,none,.mov (.t 21)⟩]) (
.ret))))⟩
/- lenslet/num.FromAll -/
def c88_0 : VC :=
.seq (
.reg [⟨some 12,none,.bin .lss (.t 11) (.t 10)⟩]) (
.seq (
.cond (.t 12) (
 .skip) (
 .exit 0)) (
.seq (
.blk 1 (
.seq (
.reg [⟨some 13,none,.mov (.t 11)⟩,⟨some 14,none,.ixa 1 (.t 9) (.t 11)⟩,⟨some 15,none,.ld 1 false (.t 14)⟩,⟨some 4,none,.mov (.t 13)⟩,⟨some 5,none,.mov (.t 15)⟩]) (
.reg [⟨some 16,none,.mov (.t 3)⟩,⟨some 17,none,.mov (.t 4)⟩,⟨some 18,none,.mov (.t 5)⟩,⟨some 19,none,.call .pure (.c (.fn (.f 62) [] [])) [.t 18]⟩,⟨some 20,none,.ixa 4 (.t 16) (.t 17)⟩,⟨none,none,.st 4 (.t 20) (.t 19)⟩]))) (
.reg [⟨some 21,none,.bin .add (.t 11) (.c (.int .i64 1))⟩,⟨some 11,none,.mov (.t 21)⟩])))
def c88 : Fnc := ⟨[.t 2],
.seq (
.reg [⟨some 2,none,.mov (.c (.nils))⟩]) (
.seq (
.reg [⟨some 6,none,.mov (.t 0)⟩,⟨some 7,none,.len 1 (.t 6)⟩,⟨some 8,none,.mks 4 64 [.int .i64 0,.nils,.int .i64 0,.nils] (.t 7) (.t 7)⟩,⟨some 3,none,.mov (.t 8)⟩]) (
.seq (
.seq (
.reg [⟨some 9,none,.mov (.t 0)⟩,⟨some 10,none,.len 1 (.t 9)⟩,⟨some 11,none,.mov (.c (.int .i64 0))⟩]) (
.seq (
.blk 0 (
.loop [3,9,10,11] c88_0)) (
.kp [3]))) (
.seq (
.reg [⟨some 22,none,.mov (.t 3)⟩,⟨some 2,none,.mov (.t 22)⟩]) (
.ret))))⟩
/- lenslet/sky.Tomography.1 -/
def c89_0 : VC :=
.seq (
.reg [⟨some 21,none,.bin .lss (.t 20) (.t 19)⟩]) (
.seq (
.cond (.t 21) (
 .skip) (
 .exit 2)) (
.seq (
.blk 3 (
.seq (
.reg [⟨some 22,none,.mov (.t 20)⟩,⟨some 23,none,.ixa 1 (.t 18) (.t 20)⟩,⟨some 24,none,.ld 1 false (.t 23)⟩,⟨some 8,none,.mov (.t 22)⟩,⟨some 9,none,.mov (.t 24)⟩]) (
.seq (
.reg [⟨some 25,none,.mov (.t 6)⟩,⟨some 26,none,.mov (.t 9)⟩,⟨some 27,none,.call .pure (.c (.fn (.f 131) [] [])) [.t 25,.t 26]⟩,⟨some 10,none,.box 4 (.c (.agg [.int .i64 0,.nils,.int .i64 0,.nils]))⟩,⟨none,none,.st 4 (.t 10) (.t 27)⟩]) (
.seq (
.seq (
.reg [⟨some 28,none,.mov (.t 5)⟩,⟨some 29,none,.mov (.t 8)⟩,⟨some 30,none,.bin .eql (.t 28) (.t 29)⟩]) (
.cond (.t 30) (
 .reg [⟨some 31,none,.ld 4 true (.t 10)⟩,
   ⟨some 32,none,.ld 1 false (.t 1)⟩,
   ⟨some 33,none,.call .pure (.c (.fn (.f 62) [] [])) [.t 32]⟩,
   ⟨some 34,none,.call .pure (.c (.fn (.f 74) [] [])) [.t 31,.t 33]⟩,
   ⟨none,none,.st 4 (.t 10) (.t 34)⟩]) (
 .skip))) (
.reg [⟨some 35,none,.mov (.t 7)⟩,⟨some 36,none,.ld 4 true (.t 10)⟩,⟨some 37,none,.mksl 1 4 [.int .i64 0,.nils,.int .i64 0,.nils] [(0,4,(.t 36))]⟩,⟨some 38,none,.app 4 64 (.t 35) (.t 37)⟩,⟨some 7,none,.mov (.t 38)⟩]))))) (
.reg [⟨some 39,none,.bin .add (.t 20) (.c (.int .i64 1))⟩,⟨some 20,none,.mov (.t 39)⟩])))
def c89_1 : VC :=
.seq (
.reg [⟨some 14,none,.bin .lss (.t 13) (.t 12)⟩]) (
.seq (
.cond (.t 14) (
 .skip) (
 .exit 0)) (
.seq (
.blk 1 (
.seq (
.reg [⟨some 15,none,.mov (.t 13)⟩,⟨some 16,none,.ixa 1 (.t 11) (.t 13)⟩,⟨some 17,none,.ld 1 false (.t 16)⟩,⟨some 5,none,.mov (.t 15)⟩,⟨some 6,none,.mov (.t 17)⟩]) (
.seq (
.reg [⟨some 7,none,.mov (.c (.nils))⟩]) (
.seq (
.seq (
.reg [⟨some 18,none,.mov (.t 0)⟩,⟨some 19,none,.len 1 (.t 18)⟩,⟨some 20,none,.mov (.c (.int .i64 0))⟩]) (
.seq (
.blk 2 (
.loop [0,1,4,5,6,7,11,12,13,18,19,20] c89_0)) (
.kp [0,1,4,7,11,12,13]))) (
.seq (
.fz [7]) (
.reg [⟨some 40,none,.mov (.t 4)⟩,⟨some 41,none,.mov (.t 7)⟩,⟨some 42,none,.mksl 1 1 [.nils] [(0,1,(.t 41))]⟩,⟨some 43,none,.app 1 24 (.t 40) (.t 42)⟩,⟨some 4,none,.mov (.t 43)⟩])))))) (
.reg [⟨some 44,none,.bin .add (.t 13) (.c (.int .i64 1))⟩,⟨some 13,none,.mov (.t 44)⟩])))
def c89 : Fnc := ⟨[.t 3],
.seq (
.reg [⟨some 3,none,.mov (.c (.nils))⟩]) (
.seq (
.reg [⟨some 4,none,.mov (.c (.nils))⟩]) (
.seq (
.seq (
.reg [⟨some 11,none,.mov (.t 0)⟩,⟨some 12,none,.len 1 (.t 11)⟩,⟨some 13,none,.mov (.c (.int .i64 0))⟩]) (
.seq (
.blk 0 (
.loop [0,1,4,11,12,13] c89_1)) (
.kp [4]))) (
.seq (
.reg [⟨some 45,none,.mov (.t 4)⟩,⟨some 3,none,.mov (.t 45)⟩]) (
.ret))))⟩
/- lenslet/sky.solve -/
def c90_0 : VC :=
.seq (
.reg [⟨some 21,none,.bin .lss (.t 20) (.t 19)⟩]) (
.seq (
.cond (.t 21) (
 .skip) (
 .exit 0)) (
.seq (
.blk 1 (
.seq (
.reg [⟨some 22,none,.mov (.t 20)⟩,⟨some 7,none,.mov (.t 22)⟩]) (
.seq (
.reg [⟨some 23,none,.mov (.t 6)⟩,⟨some 24,none,.mov (.t 7)⟩,⟨some 25,none,.mov (.t 5)⟩,⟨some 26,none,.bin .add (.t 25) (.c (.int .i64 1))⟩,⟨some 27,none,.mks 4 64 [.int .i64 0,.nils,.int .i64 0,.nils] (.t 26) (.t 26)⟩,⟨some 28,none,.ixa 1 (.t 23) (.t 24)⟩,⟨none,none,.st 1 (.t 28) (.t 27)⟩]) (
.seq (
.reg [⟨some 29,none,.mov (.t 6)⟩,⟨some 30,none,.mov (.t 7)⟩,⟨some 31,none,.ixa 1 (.t 29) (.t 30)⟩,⟨some 32,none,.ld 1 false (.t 31)⟩,⟨some 33,none,.mov (.t 0)⟩,⟨some 34,none,.mov (.t 7)⟩,⟨some 35,none,.ixa 1 (.t 33) (.t 34)⟩,⟨some 36,none,.ld 1 false (.t 35)⟩,⟨some 37,none,.cpy 4 (.t 32) (.t 36)⟩]) (
.reg [⟨some 38,none,.mov (.t 6)⟩,⟨some 39,none,.mov (.t 7)⟩,⟨some 40,none,.ixa 1 (.t 38) (.t 39)⟩,⟨some 41,none,.ld 1 false (.t 40)⟩,⟨some 42,none,.mov (.t 5)⟩,⟨some 43,none,.mov (.t 1)⟩,⟨some 44,none,.mov (.t 7)⟩,⟨some 45,none,.ixa 4 (.t 43) (.t 44)⟩,⟨some 46,none,.ld 4 true (.t 45)⟩,⟨some 47,none,.ixa 4 (.t 41) (.t 42)⟩,⟨none,none,.st 4 (.t 47) (.t 46)⟩]))))) (
.reg [⟨some 48,none,.bin .add (.t 20) (.c (.int .i64 1))⟩,⟨some 20,none,.mov (.t 48)⟩])))
def c90_1 : VC :=
.seq (
.seq (
.reg [⟨some 87,none,.mov (.t 11)⟩,⟨some 88,none,.mov (.t 5)⟩,⟨some 89,none,.bin .leq (.t 87) (.t 88)⟩]) (
.cond (.t 89) (
 .skip) (
 .exit 6))) (
.seq (
.blk 7 (
.reg [⟨some 92,none,.mov (.t 6)⟩,⟨some 93,none,.mov (.t 9)⟩,⟨some 94,none,.ixa 1 (.t 92) (.t 93)⟩,⟨some 95,none,.ld 1 false (.t 94)⟩,⟨some 96,none,.mov (.t 11)⟩,⟨some 97,none,.mov (.t 6)⟩,⟨some 98,none,.mov (.t 9)⟩,⟨some 99,none,.ixa 1 (.t 97) (.t 98)⟩,⟨some 100,none,.ld 1 false (.t 99)⟩,⟨some 101,none,.mov (.t 11)⟩,⟨some 102,none,.ixa 4 (.t 100) (.t 101)⟩,⟨some 103,none,.ld 4 true (.t 102)⟩,⟨some 104,none,.ld 4 true (.t 10)⟩,⟨some 105,none,.mov (.t 6)⟩,⟨some 106,none,.mov (.t 8)⟩,⟨some 107,none,.ixa 1 (.t 105) (.t 106)⟩,⟨some 108,none,.ld 1 false (.t 107)⟩,⟨some 109,none,.mov (.t 11)⟩,⟨some 110,none,.ixa 4 (.t 108) (.t 109)⟩,⟨some 111,none,.ld 4 true (.t 110)⟩,⟨some 112,none,.call .pure (.c (.fn (.f 49) [] [])) [.t 104,.t 111]⟩,⟨some 113,none,.call .pure (.c (.fn (.f 50) [] [])) [.t 103,.t 112]⟩,⟨some 114,none,.ixa 4 (.t 95) (.t 96)⟩,⟨none,none,.st 4 (.t 114) (.t 113)⟩])) (
.reg [⟨some 90,none,.mov (.t 11)⟩,⟨some 91,none,.bin .add (.t 90) (.c (.int .i64 1))⟩,⟨some 11,none,.mov (.t 91)⟩]))
def c90_2 : VC :=
.seq (
.reg [⟨some 55,none,.bin .lss (.t 54) (.t 53)⟩]) (
.seq (
.cond (.t 55) (
 .skip) (
 .exit 4)) (
.seq (
.blk 5 (
.seq (
.reg [⟨some 56,none,.mov (.t 54)⟩,⟨some 9,none,.mov (.t 56)⟩]) (
.seq (
.seq (
.reg [⟨some 57,none,.mov (.t 9)⟩,⟨some 58,none,.mov (.t 8)⟩,⟨some 59,none,.bin .eql (.t 57) (.t 58)⟩,⟨some 60,none,.mov (.t 59)⟩,⟨some 61,some (60,false),.mov (.t 6)⟩,⟨some 62,some (60,false),.mov (.t 9)⟩,⟨some 63,some (60,false),.ixa 1 (.t 61) (.t 62)⟩,⟨some 64,some (60,false),.ld 1 false (.t 63)⟩,⟨some 65,some (60,false),.mov (.t 8)⟩,⟨some 66,some (60,false),.ixa 4 (.t 64) (.t 65)⟩,⟨some 67,some (60,false),.ld 4 true (.t 66)⟩,⟨some 68,some (60,false),.call .pure (.c (.fn (.f 108) [] [])) [.t 67]⟩,⟨some 69,some (60,false),.bin .eql (.t 68) (.c (.int .i64 0))⟩,⟨some 70,none,.pick (.t 60) (.c (.bool true)) (.t 69)⟩]) (
.cond (.t 70) (
 .exit 5) (
 .skip))) (
.seq (
.reg [⟨some 71,none,.mov (.t 6)⟩,⟨some 72,none,.mov (.t 9)⟩,⟨some 73,none,.ixa 1 (.t 71) (.t 72)⟩,⟨some 74,none,.ld 1 false (.t 73)⟩,⟨some 75,none,.mov (.t 8)⟩,⟨some 76,none,.ixa 4 (.t 74) (.t 75)⟩,⟨some 77,none,.ld 4 true (.t 76)⟩,⟨some 78,none,.mov (.t 6)⟩,⟨some 79,none,.mov (.t 8)⟩,⟨some 80,none,.ixa 1 (.t 78) (.t 79)⟩,⟨some 81,none,.ld 1 false (.t 80)⟩,⟨some 82,none,.mov (.t 8)⟩,⟨some 83,none,.ixa 4 (.t 81) (.t 82)⟩,⟨some 84,none,.ld 4 true (.t 83)⟩,⟨some 85,none,.call .pure (.c (.fn (.f 70) [] [])) [.t 77,.t 84]⟩,⟨some 10,none,.box 4 (.c (.agg [.int .i64 0,.nils,.int .i64 0,.nils]))⟩,⟨none,none,.st 4 (.t 10) (.t 85)⟩]) (
.seq (
.reg [⟨some 86,none,.mov (.t 8)⟩,⟨some 11,none,.mov (.t 86)⟩]) (
.seq (
.blk 6 (
.loop [5,6,8,9,10,11,49,50,53,54] c90_1)) (
.kp [5,6,8,49,50,53,54]))))))) (
.reg [⟨some 115,none,.bin .add (.t 54) (.c (.int .i64 1))⟩,⟨some 54,none,.mov (.t 115)⟩])))
def c90_3 : VC :=
.seq (
.reg [⟨some 51,none,.bin .lss (.t 50) (.t 49)⟩]) (
.seq (
.cond (.t 51) (
 .skip) (
 .exit 2)) (
.seq (
.blk 3 (
.seq (
.reg [⟨some 52,none,.mov (.t 50)⟩,⟨some 8,none,.mov (.t 52)⟩]) (
.seq (
.reg [⟨some 53,none,.mov (.t 5)⟩,⟨some 54,none,.mov (.c (.int .i64 0))⟩]) (
.seq (
.blk 4 (
.loop [5,6,8,49,50,53,54] c90_2)) (
.kp [5,6,49,50]))))) (
.reg [⟨some 116,none,.bin .add (.t 50) (.c (.int .i64 1))⟩,⟨some 50,none,.mov (.t 116)⟩])))
def c90_4 : VC :=
.seq (
.reg [⟨some 121,none,.bin .lss (.t 120) (.t 119)⟩]) (
.seq (
.cond (.t 121) (
 .skip) (
 .exit 8)) (
.seq (
.blk 9 (
.seq (
.reg [⟨some 122,none,.mov (.t 120)⟩,⟨some 13,none,.mov (.t 122)⟩]) (
.reg [⟨some 123,none,.mov (.t 12)⟩,⟨some 124,none,.mov (.t 13)⟩,⟨some 125,none,.mov (.t 6)⟩,⟨some 126,none,.mov (.t 13)⟩,⟨some 127,none,.ixa 1 (.t 125) (.t 126)⟩,⟨some 128,none,.ld 1 false (.t 127)⟩,⟨some 129,none,.mov (.t 5)⟩,⟨some 130,none,.ixa 4 (.t 128) (.t 129)⟩,⟨some 131,none,.ld 4 true (.t 130)⟩,⟨some 132,none,.mov (.t 6)⟩,⟨some 133,none,.mov (.t 13)⟩,⟨some 134,none,.ixa 1 (.t 132) (.t 133)⟩,⟨some 135,none,.ld 1 false (.t 134)⟩,⟨some 136,none,.mov (.t 13)⟩,⟨some 137,none,.ixa 4 (.t 135) (.t 136)⟩,⟨some 138,none,.ld 4 true (.t 137)⟩,⟨some 139,none,.call .pure (.c (.fn (.f 70) [] [])) [.t 131,.t 138]⟩,⟨some 140,none,.ixa 4 (.t 123) (.t 124)⟩,⟨none,none,.st 4 (.t 140) (.t 139)⟩]))) (
.reg [⟨some 141,none,.bin .add (.t 120) (.c (.int .i64 1))⟩,⟨some 120,none,.mov (.t 141)⟩])))
def c90 : Fnc := ⟨[.t 4],
.seq (
.reg [⟨some 4,none,.mov (.c (.nils))⟩]) (
.seq (
.reg [⟨some 14,none,.mov (.t 1)⟩,⟨some 15,none,.len 1 (.t 14)⟩,⟨some 5,none,.mov (.t 15)⟩]) (
.seq (
.reg [⟨some 16,none,.mov (.t 5)⟩,⟨some 17,none,.mks 1 24 [.nils] (.t 16) (.t 16)⟩,⟨some 6,none,.mov (.t 17)⟩]) (
.seq (
.seq (
.reg [⟨some 18,none,.mov (.t 6)⟩,⟨some 19,none,.len 1 (.t 18)⟩,⟨some 20,none,.mov (.c (.int .i64 0))⟩]) (
.seq (
.blk 0 (
.loop [0,1,5,6,19,20] c90_0)) (
.kp [5,6]))) (
.seq (
.seq (
.reg [⟨some 49,none,.mov (.t 5)⟩,⟨some 50,none,.mov (.c (.int .i64 0))⟩]) (
.seq (
.blk 2 (
.loop [5,6,49,50] c90_3)) (
.kp [5,6]))) (
.seq (
.reg [⟨some 117,none,.mov (.t 5)⟩,⟨some 118,none,.mks 4 64 [.int .i64 0,.nils,.int .i64 0,.nils] (.t 117) (.t 117)⟩,⟨some 12,none,.mov (.t 118)⟩]) (
.seq (
.seq (
.reg [⟨some 119,none,.mov (.t 5)⟩,⟨some 120,none,.mov (.c (.int .i64 0))⟩]) (
.seq (
.blk 8 (
.loop [5,6,12,119,120] c90_4)) (
.kp [12]))) (
.seq (
.reg [⟨some 142,none,.mov (.t 12)⟩,⟨some 4,none,.mov (.t 142)⟩]) (
.ret))))))))⟩
/- lenslet/sky.Tomography.2 -/
def c91 : Fnc := ⟨[.cell 3 4 true],
.seq (
.reg [⟨some 3,none,.box 4 (.c (.agg [.int .i64 0,.nils,.int .i64 0,.nils]))⟩]) (
.seq (
.reg [⟨some 4,none,.mov (.t 0)⟩,⟨some 5,none,.ld 1 false (.t 1)⟩,⟨some 6,none,.call .pure (.c (.fn (.f 131) [] [])) [.t 4,.t 5]⟩,⟨none,none,.st 4 (.t 3) (.t 6)⟩]) (
.ret))⟩
/- lenslet/sky.mapped[[]lenslet/num.Frac,lenslet/num.Frac] -/
def c92_0 : VC :=
.seq (
.reg [⟨some 11,none,.bin .lss (.t 10) (.t 9)⟩]) (
.seq (
.cond (.t 11) (
 .skip) (
 .exit 0)) (
.seq (
.blk 1 (
.seq (
.reg [⟨some 12,none,.ixa 1 (.t 8) (.t 10)⟩,⟨some 13,none,.ld 1 false (.t 12)⟩,⟨some 7,none,.mov (.t 13)⟩]) (
.reg [⟨some 14,none,.mov (.t 5)⟩,⟨some 15,none,.mov (.t 1)⟩,⟨some 16,none,.mov (.t 7)⟩,⟨some 17,none,.call .pure (.t 15) [.t 16]⟩,⟨some 18,none,.mksl 1 4 [.int .i64 0,.nils,.int .i64 0,.nils] [(0,4,(.t 17))]⟩,⟨some 19,none,.app 4 64 (.t 14) (.t 18)⟩,⟨some 5,none,.mov (.t 19)⟩]))) (
.reg [⟨some 20,none,.bin .add (.t 10) (.c (.int .i64 1))⟩,⟨some 10,none,.mov (.t 20)⟩])))
def c92 : Fnc := ⟨[.t 4],
.seq (
.reg [⟨some 4,none,.mov (.c (.nils))⟩]) (
.seq (
.reg [⟨some 5,none,.mov (.c (.nils))⟩]) (
.seq (
.seq (
.reg [⟨some 8,none,.mov (.t 0)⟩,⟨some 9,none,.len 1 (.t 8)⟩,⟨some 10,none,.mov (.c (.int .i64 0))⟩]) (
.seq (
.blk 0 (
.loop [1,5,8,9,10] c92_0)) (
.kp [5]))) (
.seq (
.reg [⟨some 21,none,.mov (.t 5)⟩,⟨some 4,none,.mov (.t 21)⟩]) (
.ret))))⟩
/- lenslet/sky.Tomography.3 -/
def c93 : Fnc := ⟨[.cell 3 4 true],
.seq (
.reg [⟨some 3,none,.box 4 (.c (.agg [.int .i64 0,.nils,.int .i64 0,.nils]))⟩]) (
.seq (
.reg [⟨some 4,none,.mov (.t 0)⟩,⟨some 5,none,.ld 1 false (.t 1)⟩,⟨some 6,none,.call .pure (.c (.fn (.f 131) [] [])) [.t 4,.t 5]⟩,⟨none,none,.st 4 (.t 3) (.t 6)⟩]) (
.ret))⟩
/- lenslet/sky.square.1 -/
def c94 : Fnc := ⟨[.t 3],
.seq (
.reg [⟨some 3,none,.mov (.c (.bool false))⟩]) (
.seq (
.reg [⟨some 4,none,.mov (.t 0)⟩,⟨some 5,none,.ld 1 false (.t 1)⟩,⟨some 6,none,.un .neg (.t 5)⟩,⟨some 7,none,.bin .lss (.t 4) (.t 6)⟩,⟨some 8,none,.mov (.t 7)⟩,⟨some 9,some (8,false),.mov (.t 0)⟩,⟨some 10,some (8,false),.ld 1 false (.t 1)⟩,⟨some 11,some (8,false),.bin .gtr (.t 9) (.t 10)⟩,⟨some 12,none,.pick (.t 8) (.c (.bool true)) (.t 11)⟩,⟨some 3,none,.mov (.t 12)⟩]) (
.ret))⟩
/- slices.ContainsFunc[[]int,int] -/
def c95 : Fnc := ⟨[.t 4],
.seq (
.reg [⟨some 4,none,.mov (.c (.bool false))⟩]) (
.seq (
.reg [⟨some 5,none,.mov (.t 0)⟩,⟨some 6,none,.mov (.t 1)⟩,⟨some 7,none,.call .pure (.c (.fn (.f 132) [] [])) [.t 5,.t 6]⟩,⟨some 8,none,.bin .geq (.t 7) (.c (.int .i64 0))⟩,⟨some 4,none,.mov (.t 8)⟩]) (
.ret))⟩
/- lenslet/sky.cells -/
def c96 : Fnc := ⟨[.t 2],
.seq (
.reg [⟨some 1,none,.box 1 (.t 0)⟩,⟨some 2,none,.mov (.c (.nilf))⟩]) (
.seq (
.reg [⟨some 3,none,.mkf (.f 133) [] [.t 1]⟩,⟨some 2,none,.mov (.t 3)⟩]) (
.ret))⟩
/- lenslet/sky.at -/
def c97 : Fnc := ⟨[.t 6],
.seq (
.reg [⟨some 6,none,.mov (.c (.int .i64 0))⟩]) (
.seq (
.reg [⟨some 7,none,.mov (.t 0)⟩,⟨some 8,none,.mov (.t 2)⟩,⟨some 9,none,.mov (.t 0)⟩,⟨some 10,none,.len 1 (.t 9)⟩,⟨some 11,none,.call .pure (.c (.fn (.f 134) [] [])) [.t 8,.t 10]⟩,⟨some 12,none,.ixa 1 (.t 7) (.t 11)⟩,⟨some 13,none,.ld 1 false (.t 12)⟩,⟨some 14,none,.mov (.t 1)⟩,⟨some 15,none,.mov (.t 0)⟩,⟨some 16,none,.len 1 (.t 15)⟩,⟨some 17,none,.call .pure (.c (.fn (.f 134) [] [])) [.t 14,.t 16]⟩,⟨some 18,none,.ixa 1 (.t 13) (.t 17)⟩,⟨some 19,none,.ld 1 false (.t 18)⟩,⟨some 6,none,.mov (.t 19)⟩]) (
.ret))⟩
/- (lenslet/num.Frac).IsWhole -/
def c98 : Fnc := ⟨[.t 2],
.seq (
.reg [⟨some 1,none,.box 4 (.t 0)⟩,⟨some 2,none,.mov (.c (.bool false))⟩]) (
.seq (
.reg [⟨some 3,none,.off 2 (.t 1)⟩,⟨some 4,none,.off 1 (.t 3)⟩,⟨some 5,none,.ld 1 false (.t 4)⟩,⟨some 6,none,.eq false .sl (.t 5) (.c (.nils))⟩,⟨some 7,none,.mov (.t 6)⟩,⟨some 8,some (7,true),.off 2 (.t 1)⟩,⟨some 9,some (7,true),.off 0 (.t 8)⟩,⟨some 10,some (7,true),.ld 1 false (.t 9)⟩,⟨some 11,some (7,true),.bin .eql (.t 10) (.c (.int .i64 1))⟩,⟨some 12,none,.pick (.t 7) (.t 11) (.c (.bool false))⟩,⟨some 2,none,.mov (.t 12)⟩]) (
.ret))⟩
/- (lenslet/num.Int).String -/
def c99_0 : VC :=
.seq (
.seq (
.reg [⟨some 24,none,.mov (.t 4)⟩,⟨some 25,none,.len 1 (.t 24)⟩,⟨some 26,none,.bin .gtr (.t 25) (.c (.int .i64 0))⟩]) (
.cond (.t 26) (
 .skip) (
 .exit 0))) (
.blk 1 (
.seq (
.reg [⟨some 28,none,.mov (.t 4)⟩,⟨some 29,none,.mov (.t 5)⟩,⟨some 30,none,.call .pure (.c (.fn (.f 137) [] [])) [.t 28,.t 29]⟩,⟨some 27,none,.mov (.t 30)⟩,⟨some 31,none,.ext 0 (.t 27)⟩,⟨some 32,none,.ext 1 (.t 27)⟩,⟨some 7,none,.mov (.t 31)⟩,⟨some 8,none,.mov (.t 32)⟩]) (
.seq (
.reg [⟨some 9,none,.mov (.c (.str [48]))⟩]) (
.seq (
.seq (
.reg [⟨some 33,none,.mov (.t 8)⟩,⟨some 34,none,.len 1 (.t 33)⟩,⟨some 35,none,.bin .gtr (.t 34) (.c (.int .i64 0))⟩]) (
.cond (.t 35) (
 .reg [⟨some 36,none,.mov (.t 8)⟩,
   ⟨some 37,none,.ixa 1 (.t 36) (.c (.int .i64 0))⟩,
   ⟨some 38,none,.ld 1 false (.t 37)⟩,
   ⟨some 39,none,.call .pure (.c (.fn (.f 138) [] [])) [.t 38,.c (.int .i64 10)]⟩,
   ⟨some 9,none,.mov (.t 39)⟩]) (
 .skip))) (
.seq (
.seq (
.reg [⟨some 40,none,.mov (.t 7)⟩,⟨some 41,none,.len 1 (.t 40)⟩,⟨some 42,none,.bin .gtr (.t 41) (.c (.int .i64 0))⟩]) (
.cond (.t 42) (
 .reg [⟨some 43,none,.mov (.t 9)⟩,
   ⟨some 44,none,.len 0 (.t 43)⟩,
   ⟨some 45,none,.bin .sub (.c (.int .i64 18)) (.t 44)⟩,
   ⟨some 46,none,.call .pure (.c (.fn (.f 139) [] [])) [.c (.str [48]),.t 45]⟩,
   ⟨some 47,none,.mov (.t 9)⟩,
   ⟨some 48,none,.bin .add (.t 46) (.t 47)⟩,
   ⟨some 9,none,.mov (.t 48)⟩]) (
 .skip))) (
.seq (
.reg [⟨some 49,none,.mov (.t 6)⟩,⟨some 50,none,.mov (.t 9)⟩,⟨some 51,none,.mksl 1 1 [.str []] [(0,1,(.t 50))]⟩,⟨some 52,none,.app 1 16 (.t 49) (.t 51)⟩,⟨some 6,none,.mov (.t 52)⟩]) (
.reg [⟨some 53,none,.mov (.t 7)⟩,⟨some 4,none,.mov (.t 53)⟩])))))))
def c99_1 : VC :=
.seq (
.seq (
.reg [⟨some 59,none,.mov (.t 11)⟩,⟨some 60,none,.bin .geq (.t 59) (.c (.int .i64 0))⟩]) (
.cond (.t 60) (
 .skip) (
 .exit 2))) (
.seq (
.blk 3 (
.reg [⟨some 63,none,.mov (.t 6)⟩,⟨some 64,none,.mov (.t 11)⟩,⟨some 65,none,.ixa 1 (.t 63) (.t 64)⟩,⟨some 66,none,.ld 1 false (.t 65)⟩,⟨some 67,none,.call .pure (.c (.fn (.f 140) [] [])) [.t 10,.t 66]⟩])) (
.reg [⟨some 61,none,.mov (.t 11)⟩,⟨some 62,none,.bin .sub (.t 61) (.c (.int .i64 1))⟩,⟨some 11,none,.mov (.t 62)⟩]))
def c99 : Fnc := ⟨[.t 2],
.seq (
.reg [⟨some 1,none,.box 2 (.t 0)⟩,⟨some 2,none,.mov (.c (.str []))⟩]) (
.seq (
.seq (
.reg [⟨some 12,none,.off 1 (.t 1)⟩,⟨some 13,none,.ld 1 false (.t 12)⟩,⟨some 14,none,.eq false .sl (.t 13) (.c (.nils))⟩]) (
.cond (.t 14) (
 .seq (
 .reg [⟨some 15,none,.off 0 (.t 1)⟩,
   ⟨some 16,none,.ld 1 false (.t 15)⟩,
   ⟨some 17,none,.call .pure (.c (.fn (.f 135) [] [])) [.t 16]⟩,
   ⟨some 2,none,.mov (.t 17)⟩]) (
 .ret)) (
 .skip))) (
.seq (
.reg [⟨some 19,none,.ld 2 true (.t 1)⟩,⟨some 20,none,.call .pure (.c (.fn (.f 136) [] [])) [.t 19]⟩,⟨some 18,none,.mov (.t 20)⟩,⟨some 21,none,.ext 0 (.t 18)⟩,⟨some 22,none,.ext 1 (.t 18)⟩,⟨some 3,none,.mov (.t 21)⟩,⟨some 4,none,.mov (.t 22)⟩]) (
.seq (
.reg [⟨some 23,none,.mksl 1 1 [.int .u64 0] [(0,1,(.c (.int .u64 1000000000000000000)))]⟩,⟨some 5,none,.mov (.t 23)⟩]) (
.seq (
.reg [⟨some 6,none,.mov (.c (.nils))⟩]) (
.seq (
.seq (
.blk 0 (
.loop [3,4,5,6] c99_0)) (
.kp [3,6])) (
.seq (
.reg [⟨some 10,none,.box 2 (.c (.agg [.nilp,.nils]))⟩]) (
.seq (
.seq (
.reg [⟨some 54,none,.mov (.t 3)⟩]) (
.cond (.t 54) (
 .reg [⟨some 55,none,.call .pure (.c (.fn (.f 140) [] [])) [.t 10,.c (.str [45])]⟩]) (
 .skip))) (
.seq (
.seq (
.reg [⟨some 56,none,.mov (.t 6)⟩,⟨some 57,none,.len 1 (.t 56)⟩,⟨some 58,none,.bin .sub (.t 57) (.c (.int .i64 1))⟩,⟨some 11,none,.mov (.t 58)⟩]) (
.seq (
.blk 2 (
.loop [6,10,11] c99_1)) (
.kp [10]))) (
.seq (
.reg [⟨some 68,none,.call .pure (.c (.fn (.f 141) [] [])) [.t 10]⟩,⟨some 2,none,.mov (.t 68)⟩]) (
.ret))))))))))⟩
/- (lenslet/num.Int).Mul -/
def c100 : Fnc := ⟨[.cell 4 2 true],
.seq (
.reg [⟨some 2,none,.box 2 (.t 0)⟩,⟨some 3,none,.box 2 (.t 1)⟩,⟨some 4,none,.box 2 (.c (.agg [.int .i64 0,.nils]))⟩]) (
.seq (
.seq (
.reg [⟨some 11,none,.off 1 (.t 2)⟩,⟨some 12,none,.ld 1 false (.t 11)⟩,⟨some 13,none,.eq false .sl (.t 12) (.c (.nils))⟩,⟨some 14,none,.mov (.t 13)⟩,⟨some 15,some (14,true),.off 1 (.t 3)⟩,⟨some 16,some (14,true),.ld 1 false (.t 15)⟩,⟨some 17,some (14,true),.eq false .sl (.t 16) (.c (.nils))⟩,⟨some 18,none,.pick (.t 14) (.t 17) (.c (.bool false))⟩]) (
.cond (.t 18) (
 .seq (
 .reg [⟨some 20,none,.off 0 (.t 2)⟩,
   ⟨some 21,none,.ld 1 false (.t 20)⟩,
   ⟨some 22,none,.call .pure (.c (.fn (.f 142) [] [])) [.t 21]⟩,
   ⟨some 23,none,.off 0 (.t 3)⟩,
   ⟨some 24,none,.ld 1 false (.t 23)⟩,
   ⟨some 25,none,.call .pure (.c (.fn (.f 142) [] [])) [.t 24]⟩,
   ⟨some 26,none,.call .pure (.c (.fn (.f 143) [] [])) [.t 22,.t 25]⟩,
   ⟨some 19,none,.mov (.t 26)⟩,
   ⟨some 27,none,.ext 0 (.t 19)⟩,
   ⟨some 28,none,.ext 1 (.t 19)⟩,
   ⟨some 5,none,.mov (.t 27)⟩,
   ⟨some 6,none,.mov (.t 28)⟩]) (
 .seq (
 .reg [⟨some 29,none,.mov (.t 5)⟩,
   ⟨some 30,none,.bin .eql (.t 29) (.c (.int .u64 0))⟩,
   ⟨some 31,none,.mov (.t 30)⟩,
   ⟨some 32,some (31,true),.mov (.t 6)⟩,
   ⟨some 33,some (31,true),.bin .leq (.t 32) (.c (.int .u64 9223372036854775807))⟩,
   ⟨some 34,none,.pick (.t 31) (.t 33) (.c (.bool false))⟩]) (
 .cond (.t 34) (
  .seq (
  .seq (
  .reg [⟨some 35,none,.off 0 (.t 2)⟩,
    ⟨some 36,none,.ld 1 false (.t 35)⟩,
    ⟨some 37,none,.bin .lss (.t 36) (.c (.int .i64 0))⟩,
    ⟨some 38,none,.off 0 (.t 3)⟩,
    ⟨some 39,none,.ld 1 false (.t 38)⟩,
    ⟨some 40,none,.bin .lss (.t 39) (.c (.int .i64 0))⟩,
    ⟨some 41,none,.eq true .b (.t 37) (.t 40)⟩]) (
  .cond (.t 41) (
   .seq (
   .reg [⟨some 42,none,.mov (.t 6)⟩,
     ⟨some 43,none,.cv (.toInt .i64) (.t 42)⟩,
     ⟨some 44,none,.un .neg (.t 43)⟩,
     ⟨some 45,none,.mkagg [.int .i64 0,.nils] [(0,1,(.t 44))]⟩,
     ⟨none,none,.st 2 (.t 4) (.t 45)⟩]) (
   .ret)) (
   .skip))) (
  .seq (
  .reg [⟨some 46,none,.mov (.t 6)⟩,
    ⟨some 47,none,.cv (.toInt .i64) (.t 46)⟩,
    ⟨some 48,none,.mkagg [.int .i64 0,.nils] [(0,1,(.t 47))]⟩,
    ⟨none,none,.st 2 (.t 4) (.t 48)⟩]) (
  .ret))) (
  .skip)))) (
 .skip))) (
.seq (
.reg [⟨some 50,none,.ld 2 true (.t 2)⟩,⟨some 51,none,.call .pure (.c (.fn (.f 136) [] [])) [.t 50]⟩,⟨some 49,none,.mov (.t 51)⟩,⟨some 52,none,.ext 0 (.t 49)⟩,⟨some 53,none,.ext 1 (.t 49)⟩,⟨some 7,none,.mov (.t 52)⟩,⟨some 8,none,.mov (.t 53)⟩]) (
.seq (
.reg [⟨some 55,none,.ld 2 true (.t 3)⟩,⟨some 56,none,.call .pure (.c (.fn (.f 136) [] [])) [.t 55]⟩,⟨some 54,none,.mov (.t 56)⟩,⟨some 57,none,.ext 0 (.t 54)⟩,⟨some 58,none,.ext 1 (.t 54)⟩,⟨some 9,none,.mov (.t 57)⟩,⟨some 10,none,.mov (.t 58)⟩]) (
.seq (
.reg [⟨some 59,none,.mov (.t 7)⟩,⟨some 60,none,.mov (.t 9)⟩,⟨some 61,none,.eq true .b (.t 59) (.t 60)⟩,⟨some 62,none,.mov (.t 8)⟩,⟨some 63,none,.mov (.t 10)⟩,⟨some 64,none,.call .pure (.c (.fn (.f 144) [] [])) [.t 62,.t 63]⟩,⟨some 65,none,.call .pure (.c (.fn (.f 145) [] [])) [.t 61,.t 64]⟩,⟨none,none,.st 2 (.t 4) (.t 65)⟩]) (
.ret)))))⟩
/- lenslet/num.Make -/
def c101 : Fnc := ⟨[.cell 4 4 true],
.seq (
.reg [⟨some 2,none,.box 2 (.t 0)⟩,⟨some 3,none,.box 2 (.t 1)⟩,⟨some 4,none,.box 4 (.c (.agg [.int .i64 0,.nils,.int .i64 0,.nils]))⟩]) (
.seq (
.seq (
.reg [⟨some 6,none,.ld 2 true (.t 3)⟩,⟨some 7,none,.call .pure (.c (.fn (.f 146) [] [])) [.t 6]⟩,⟨some 8,none,.bin .lss (.t 7) (.c (.int .i64 0))⟩]) (
.cond (.t 8) (
 .reg [⟨some 9,none,.ld 2 true (.t 2)⟩,
   ⟨some 10,none,.call .pure (.c (.fn (.f 147) [] [])) [.t 9]⟩,
   ⟨some 11,none,.ld 2 true (.t 3)⟩,
   ⟨some 12,none,.call .pure (.c (.fn (.f 147) [] [])) [.t 11]⟩,
   ⟨none,none,.st 2 (.t 2) (.t 10)⟩,
   ⟨none,none,.st 2 (.t 3) (.t 12)⟩]) (
 .skip))) (
.seq (
.seq (
.reg [⟨some 13,none,.off 1 (.t 3)⟩,⟨some 14,none,.ld 1 false (.t 13)⟩,⟨some 15,none,.eq false .sl (.t 14) (.c (.nils))⟩,⟨some 16,none,.mov (.t 15)⟩,⟨some 17,some (16,true),.off 0 (.t 3)⟩,⟨some 18,some (16,true),.ld 1 false (.t 17)⟩,⟨some 19,some (16,true),.bin .eql (.t 18) (.c (.int .i64 1))⟩,⟨some 20,none,.pick (.t 16) (.t 19) (.c (.bool false))⟩]) (
.cond (.t 20) (
 .seq (
 .reg [⟨some 21,none,.ld 2 true (.t 2)⟩,
   ⟨some 22,none,.ld 2 true (.t 3)⟩,
   ⟨some 23,none,.mkagg [.int .i64 0,.nils,.int .i64 0,.nils] [(0,2,(.t 21)),(2,2,(.t 22))]⟩,
   ⟨none,none,.st 4 (.t 4) (.t 23)⟩]) (
 .ret)) (
 .skip))) (
.seq (
.reg [⟨some 24,none,.ld 2 true (.t 2)⟩,⟨some 25,none,.ld 2 true (.t 3)⟩,⟨some 26,none,.call .pure (.c (.fn (.f 130) [] [])) [.t 24,.t 25]⟩,⟨some 5,none,.box 2 (.c (.agg [.int .i64 0,.nils]))⟩,⟨none,none,.st 2 (.t 5) (.t 26)⟩]) (
.seq (
.reg [⟨some 27,none,.ld 2 true (.t 2)⟩,⟨some 28,none,.ld 2 true (.t 5)⟩,⟨some 29,none,.call .pure (.c (.fn (.f 148) [] [])) [.t 27,.t 28]⟩,⟨some 30,none,.ld 2 true (.t 3)⟩,⟨some 31,none,.ld 2 true (.t 5)⟩,⟨some 32,none,.call .pure (.c (.fn (.f 148) [] [])) [.t 30,.t 31]⟩,⟨some 33,none,.mkagg [.int .i64 0,.nils,.int .i64 0,.nils] [(0,2,(.t 29)),(2,2,(.t 32))]⟩,⟨none,none,.st 4 (.t 4) (.t 33)⟩]) (
.ret)))))⟩
/- (lenslet/num.Frac).Neg -/
def c102 : Fnc := ⟨[.cell 2 4 true],
.seq (
.reg [⟨some 1,none,.box 4 (.t 0)⟩,⟨some 2,none,.box 4 (.c (.agg [.int .i64 0,.nils,.int .i64 0,.nils]))⟩]) (
.seq (
.reg [⟨some 3,none,.off 0 (.t 1)⟩,⟨some 4,none,.ld 2 true (.t 3)⟩,⟨some 5,none,.call .pure (.c (.fn (.f 147) [] [])) [.t 4]⟩,⟨some 6,none,.off 2 (.t 1)⟩,⟨some 7,none,.ld 2 true (.t 6)⟩,⟨some 8,none,.mkagg [.int .i64 0,.nils,.int .i64 0,.nils] [(0,2,(.t 5)),(2,2,(.t 7))]⟩,⟨none,none,.st 4 (.t 2) (.t 8)⟩]) (
.ret))⟩
/- lenslet/sky.reduced -/
def c103 : Fnc := ⟨[.t 4,.cell 5 4 true],
.seq (
.reg [⟨some 2,none,.box 4 (.t 0)⟩,⟨some 4,none,.mov (.c (.int .i64 0))⟩,⟨some 5,none,.box 4 (.c (.agg [.int .i64 0,.nils,.int .i64 0,.nils]))⟩]) (
.seq (
.reg [⟨some 10,none,.ld 4 true (.t 2)⟩,⟨some 11,none,.call .pure (.c (.fn (.f 149) [] [])) [.t 10]⟩,⟨some 12,none,.call .pure (.c (.fn (.f 111) [] [])) [.t 11]⟩,⟨some 6,none,.box 4 (.c (.agg [.int .i64 0,.nils,.int .i64 0,.nils]))⟩,⟨none,none,.st 4 (.t 6) (.t 12)⟩]) (
.seq (
.reg [⟨some 13,none,.ld 4 true (.t 6)⟩,⟨some 14,none,.mov (.t 1)⟩,⟨some 15,none,.call .pure (.c (.fn (.f 69) [] [])) [.t 14]⟩,⟨some 16,none,.ld 4 true (.t 6)⟩,⟨some 17,none,.mov (.t 1)⟩,⟨some 18,none,.call .pure (.c (.fn (.f 69) [] [])) [.t 17]⟩,⟨some 19,none,.call .pure (.c (.fn (.f 70) [] [])) [.t 16,.t 18]⟩,⟨some 20,none,.call .pure (.c (.fn (.f 149) [] [])) [.t 19]⟩,⟨some 21,none,.call .pure (.c (.fn (.f 111) [] [])) [.t 20]⟩,⟨some 22,none,.call .pure (.c (.fn (.f 49) [] [])) [.t 15,.t 21]⟩,⟨some 23,none,.call .pure (.c (.fn (.f 50) [] [])) [.t 13,.t 22]⟩,⟨some 7,none,.box 4 (.c (.agg [.int .i64 0,.nils,.int .i64 0,.nils]))⟩,⟨none,none,.st 4 (.t 7) (.t 23)⟩]) (
.seq (
.reg [⟨some 25,none,.off 0 (.t 7)⟩,⟨some 26,none,.ld 2 true (.t 25)⟩,⟨some 27,none,.call .pure (.c (.fn (.f 150) [] [])) [.t 26]⟩,⟨some 24,none,.mov (.t 27)⟩,⟨some 28,none,.ext 0 (.t 24)⟩,⟨some 29,none,.ext 1 (.t 24)⟩,⟨some 8,none,.mov (.t 28)⟩,⟨some 9,none,.mov (.t 29)⟩]) (
.seq (
.reg [⟨some 30,none,.mov (.t 8)⟩,⟨some 31,none,.ld 4 true (.t 2)⟩,⟨some 32,none,.ld 4 true (.t 6)⟩,⟨some 33,none,.call .pure (.c (.fn (.f 50) [] [])) [.t 31,.t 32]⟩,⟨some 4,none,.mov (.t 30)⟩,⟨none,none,.st 4 (.t 5) (.t 33)⟩]) (
.ret)))))⟩
/- (lenslet/sky.ray).weights -/
def c104 : Fnc := ⟨[.cell 2 16 true],
.seq (
.reg [⟨some 1,none,.box 10 (.t 0)⟩,⟨some 2,none,.box 16 (.c (.agg [.int .i64 0,.nils,.int .i64 0,.nils,.int .i64 0,.nils,.int .i64 0,.nils,.int .i64 0,.nils,.int .i64 0,.nils,.int .i64 0,.nils,.int .i64 0,.nils]))⟩]) (
.seq (
.reg [⟨some 6,none,.call .pure (.c (.fn (.f 69) [] [])) [.c (.int .i64 1)]⟩,⟨some 3,none,.box 4 (.c (.agg [.int .i64 0,.nils,.int .i64 0,.nils]))⟩,⟨none,none,.st 4 (.t 3) (.t 6)⟩]) (
.seq (
.reg [⟨some 7,none,.ld 4 true (.t 3)⟩,⟨some 8,none,.off 2 (.t 1)⟩,⟨some 9,none,.ld 4 true (.t 8)⟩,⟨some 10,none,.call .pure (.c (.fn (.f 50) [] [])) [.t 7,.t 9]⟩,⟨some 11,none,.ld 4 true (.t 3)⟩,⟨some 12,none,.off 6 (.t 1)⟩,⟨some 13,none,.ld 4 true (.t 12)⟩,⟨some 14,none,.call .pure (.c (.fn (.f 50) [] [])) [.t 11,.t 13]⟩,⟨some 4,none,.box 4 (.c (.agg [.int .i64 0,.nils,.int .i64 0,.nils]))⟩,⟨some 5,none,.box 4 (.c (.agg [.int .i64 0,.nils,.int .i64 0,.nils]))⟩,⟨none,none,.st 4 (.t 4) (.t 10)⟩,⟨none,none,.st 4 (.t 5) (.t 14)⟩]) (
.seq (
.reg [⟨some 15,none,.ld 4 true (.t 4)⟩,⟨some 16,none,.ld 4 true (.t 5)⟩,⟨some 17,none,.call .pure (.c (.fn (.f 49) [] [])) [.t 15,.t 16]⟩,⟨some 18,none,.off 2 (.t 1)⟩,⟨some 19,none,.ld 4 true (.t 18)⟩,⟨some 20,none,.ld 4 true (.t 5)⟩,⟨some 21,none,.call .pure (.c (.fn (.f 49) [] [])) [.t 19,.t 20]⟩,⟨some 22,none,.ld 4 true (.t 4)⟩,⟨some 23,none,.off 6 (.t 1)⟩,⟨some 24,none,.ld 4 true (.t 23)⟩,⟨some 25,none,.call .pure (.c (.fn (.f 49) [] [])) [.t 22,.t 24]⟩,⟨some 26,none,.off 2 (.t 1)⟩,⟨some 27,none,.ld 4 true (.t 26)⟩,⟨some 28,none,.off 6 (.t 1)⟩,⟨some 29,none,.ld 4 true (.t 28)⟩,⟨some 30,none,.call .pure (.c (.fn (.f 49) [] [])) [.t 27,.t 29]⟩,⟨some 31,none,.mkagg [.int .i64 0,.nils,.int .i64 0,.nils,.int .i64 0,.nils,.int .i64 0,.nils,.int .i64 0,.nils,.int .i64 0,.nils,.int .i64 0,.nils,.int .i64 0,.nils] [(0,4,(.t 17)),(4,4,(.t 21)),(8,4,(.t 25)),(12,4,(.t 30))]⟩,⟨none,none,.st 16 (.t 2) (.t 31)⟩]) (
.ret))))⟩
/- (lenslet/sky.ray).corner -/
def c105 : Fnc := ⟨[.t 6,.t 7],
.seq (
.reg [⟨some 3,none,.box 10 (.t 0)⟩,⟨some 6,none,.mov (.c (.int .i64 0))⟩,⟨some 7,none,.mov (.c (.int .i64 0))⟩]) (
.seq (
.reg [⟨some 8,none,.off 0 (.t 3)⟩,⟨some 9,none,.ld 1 false (.t 8)⟩,⟨some 10,none,.mov (.t 1)⟩,⟨some 11,none,.bin .rem (.t 10) (.c (.int .i64 2))⟩,⟨some 12,none,.bin .add (.t 9) (.t 11)⟩,⟨some 13,none,.mov (.t 2)⟩,⟨some 14,none,.call .pure (.c (.fn (.f 134) [] [])) [.t 12,.t 13]⟩,⟨some 15,none,.off 1 (.t 3)⟩,⟨some 16,none,.ld 1 false (.t 15)⟩,⟨some 17,none,.mov (.t 1)⟩,⟨some 18,none,.bin .quo (.t 17) (.c (.int .i64 2))⟩,⟨some 19,none,.bin .add (.t 16) (.t 18)⟩,⟨some 20,none,.mov (.t 2)⟩,⟨some 21,none,.call .pure (.c (.fn (.f 134) [] [])) [.t 19,.t 20]⟩,⟨some 6,none,.mov (.t 14)⟩,⟨some 7,none,.mov (.t 21)⟩]) (
.ret))⟩
/- lenslet/sky.total[lenslet/num.Frac] -/
def c106_0 : VC :=
.seq (
.reg [⟨some 12,none,.bin .lss (.t 11) (.t 10)⟩]) (
.seq (
.cond (.t 12) (
 .skip) (
 .exit 0)) (
.seq (
.blk 1 (
.seq (
.reg [⟨some 13,none,.ixa 4 (.t 9) (.t 11)⟩,⟨some 14,none,.ld 4 true (.t 13)⟩,⟨some 8,none,.box 4 (.c (.agg [.int .i64 0,.nils,.int .i64 0,.nils]))⟩,⟨none,none,.st 4 (.t 8) (.t 14)⟩]) (
.reg [⟨some 15,none,.mov (.t 2)⟩,⟨some 16,none,.ld 4 true (.t 3)⟩,⟨some 17,none,.ld 4 true (.t 8)⟩,⟨some 18,none,.call .pure (.t 15) [.t 16,.t 17]⟩,⟨none,none,.st 4 (.t 3) (.t 18)⟩]))) (
.reg [⟨some 19,none,.bin .add (.t 11) (.c (.int .i64 1))⟩,⟨some 11,none,.mov (.t 19)⟩])))
def c106 : Fnc := ⟨[.cell 6 4 true],
.seq (
.reg [⟨some 3,none,.box 4 (.t 0)⟩,⟨some 6,none,.box 4 (.c (.agg [.int .i64 0,.nils,.int .i64 0,.nils]))⟩]) (
.seq (
.seq (
.reg [⟨some 9,none,.mov (.t 1)⟩,⟨some 10,none,.len 1 (.t 9)⟩,⟨some 11,none,.mov (.c (.int .i64 0))⟩]) (
.seq (
.blk 0 (
.loop [2,3,6,9,10,11] c106_0)) (
.kp [3,6]))) (
.seq (
.reg [⟨some 20,none,.ld 4 true (.t 3)⟩,⟨none,none,.st 4 (.t 6) (.t 20)⟩]) (
.ret)))⟩
/- (lenslet/num.Frac).Large -/
def c107 : Fnc := ⟨[.t 2],
.seq (
.reg [⟨some 1,none,.box 4 (.t 0)⟩,⟨some 2,none,.mov (.c (.bool false))⟩]) (
.seq (
.reg [⟨some 3,none,.off 0 (.t 1)⟩,⟨some 4,none,.ld 2 true (.t 3)⟩,⟨some 5,none,.call .pure (.c (.fn (.f 151) [] [])) [.t 4]⟩,⟨some 6,none,.mov (.t 5)⟩,⟨some 7,some (6,false),.off 2 (.t 1)⟩,⟨some 8,some (6,false),.ld 2 true (.t 7)⟩,⟨some 9,some (6,false),.call .pure (.c (.fn (.f 151) [] [])) [.t 8]⟩,⟨some 10,none,.pick (.t 6) (.c (.bool true)) (.t 9)⟩,⟨some 2,none,.mov (.t 10)⟩]) (
.ret))⟩
/- (lenslet/num.Frac).Sign -/
def c108 : Fnc := ⟨[.t 2],
.seq (
.reg [⟨some 1,none,.box 4 (.t 0)⟩,⟨some 2,none,.mov (.c (.int .i64 0))⟩]) (
.seq (
.reg [⟨some 3,none,.off 0 (.t 1)⟩,⟨some 4,none,.ld 2 true (.t 3)⟩,⟨some 5,none,.call .pure (.c (.fn (.f 146) [] [])) [.t 4]⟩,⟨some 2,none,.mov (.t 5)⟩]) (
.ret))⟩
/- lenslet/num.Read -/
def c110_0 : VC :=
.seq (
.seq (
.reg [⟨some 13,none,.mov (.t 0)⟩,⟨some 14,none,.len 0 (.t 13)⟩,⟨some 15,none,.bin .gtr (.t 14) (.c (.int .i64 0))⟩]) (
.cond (.t 15) (
 .skip) (
 .exit 0))) (
.blk 1 (
.seq (
.reg [⟨some 16,none,.mov (.t 0)⟩,⟨some 17,none,.len 0 (.t 16)⟩,⟨some 18,none,.mn [.c (.int .i64 18),.t 17]⟩,⟨some 5,none,.mov (.t 18)⟩]) (
.seq (
.reg [⟨some 20,none,.mov (.t 0)⟩,⟨some 21,none,.mov (.t 5)⟩,⟨some 22,none,.sli .str (.t 20) none (some (.t 21))⟩,⟨some 23,none,.call .pure (.c (.fn (.f 154) [] [])) [.t 22]⟩,⟨some 19,none,.mov (.t 23)⟩,⟨some 24,none,.ext 0 (.t 19)⟩,⟨some 25,none,.ext 1 (.t 19)⟩,⟨some 6,none,.mov (.t 24)⟩,⟨some 7,none,.mov (.t 25)⟩]) (
.seq (
.reg [⟨some 26,none,.ld 2 true (.t 4)⟩,⟨some 27,none,.call .pure (.c (.fn (.f 117) [] [])) [.c (.int .i64 10)]⟩,⟨some 28,none,.mov (.t 5)⟩,⟨some 29,none,.call .pure (.c (.fn (.f 155) [] [])) [.t 27,.t 28]⟩,⟨some 30,none,.call .pure (.c (.fn (.f 100) [] [])) [.t 26,.t 29]⟩,⟨some 31,none,.mov (.t 6)⟩,⟨some 32,none,.call .pure (.c (.fn (.f 117) [] [])) [.t 31]⟩,⟨some 33,none,.call .pure (.c (.fn (.f 119) [] [])) [.t 30,.t 32]⟩,⟨none,none,.st 2 (.t 4) (.t 33)⟩]) (
.reg [⟨some 34,none,.mov (.t 0)⟩,⟨some 35,none,.mov (.t 5)⟩,⟨some 36,none,.sli .str (.t 34) (some (.t 35)) none⟩,⟨some 0,none,.mov (.t 36)⟩])))))
def c110 : Fnc := ⟨[.cell 2 2 true],
.seq (
.reg [⟨some 2,none,.box 2 (.c (.agg [.int .i64 0,.nils]))⟩]) (
.seq (
.reg [⟨some 8,none,.mov (.t 0)⟩,⟨some 9,none,.call .pure (.c (.fn (.f 152) [] [])) [.t 8,.c (.str [45])]⟩,⟨some 3,none,.mov (.t 9)⟩]) (
.seq (
.reg [⟨some 10,none,.mov (.t 0)⟩,⟨some 11,none,.call .pure (.c (.fn (.f 153) [] [])) [.t 10,.c (.str [45])]⟩,⟨some 0,none,.mov (.t 11)⟩]) (
.seq (
.reg [⟨some 12,none,.mkagg [.int .i64 0,.nils] []⟩,⟨some 4,none,.box 2 (.c (.agg [.int .i64 0,.nils]))⟩,⟨none,none,.st 2 (.t 4) (.t 12)⟩]) (
.seq (
.seq (
.blk 0 (
.loop [0,2,3,4] c110_0)) (
.kp [2,3,4])) (
.seq (
.seq (
.reg [⟨some 37,none,.mov (.t 3)⟩]) (
.cond (.t 37) (
 .seq (
 .reg [⟨some 38,none,.ld 2 true (.t 4)⟩,
   ⟨some 39,none,.call .pure (.c (.fn (.f 147) [] [])) [.t 38]⟩,
   ⟨none,none,.st 2 (.t 2) (.t 39)⟩]) (
 .ret)) (
 .skip))) (
.seq (
.reg [⟨some 40,none,.ld 2 true (.t 4)⟩,⟨none,none,.st 2 (.t 2) (.t 40)⟩]) (
.ret)))))))⟩
/- lenslet/num.Whole -/
def c111 : Fnc := ⟨[.cell 2 4 true],
.seq (
.reg [⟨some 1,none,.box 2 (.t 0)⟩,⟨some 2,none,.box 4 (.c (.agg [.int .i64 0,.nils,.int .i64 0,.nils]))⟩]) (
.seq (
.reg [⟨some 3,none,.ld 2 true (.t 1)⟩,⟨some 4,none,.call .pure (.c (.fn (.f 117) [] [])) [.c (.int .i64 1)]⟩,⟨some 5,none,.mkagg [.int .i64 0,.nils,.int .i64 0,.nils] [(0,2,(.t 3)),(2,2,(.t 4))]⟩,⟨none,none,.st 4 (.t 2) (.t 5)⟩]) (
.ret))⟩
/- (lenslet/sky.point).add -/
def c112 : Fnc := ⟨[.cell 4 8 true],
.seq (
.reg [⟨some 2,none,.box 8 (.t 0)⟩,⟨some 3,none,.box 8 (.t 1)⟩,⟨some 4,none,.box 8 (.c (.agg [.int .i64 0,.nils,.int .i64 0,.nils,.int .i64 0,.nils,.int .i64 0,.nils]))⟩]) (
.seq (
.reg [⟨some 5,none,.off 0 (.t 2)⟩,⟨some 6,none,.ld 4 true (.t 5)⟩,⟨some 7,none,.off 0 (.t 3)⟩,⟨some 8,none,.ld 4 true (.t 7)⟩,⟨some 9,none,.call .pure (.c (.fn (.f 74) [] [])) [.t 6,.t 8]⟩,⟨some 10,none,.off 4 (.t 2)⟩,⟨some 11,none,.ld 4 true (.t 10)⟩,⟨some 12,none,.off 4 (.t 3)⟩,⟨some 13,none,.ld 4 true (.t 12)⟩,⟨some 14,none,.call .pure (.c (.fn (.f 74) [] [])) [.t 11,.t 13]⟩,⟨some 15,none,.mkagg [.int .i64 0,.nils,.int .i64 0,.nils,.int .i64 0,.nils,.int .i64 0,.nils] [(0,4,(.t 9)),(4,4,(.t 14))]⟩,⟨none,none,.st 8 (.t 4) (.t 15)⟩]) (
.ret))⟩
/- (lenslet/sky.point).large -/
def c113 : Fnc := ⟨[.t 2],
.seq (
.reg [⟨some 1,none,.box 8 (.t 0)⟩,⟨some 2,none,.mov (.c (.bool false))⟩]) (
.seq (
.reg [⟨some 3,none,.off 0 (.t 1)⟩,⟨some 4,none,.ld 4 true (.t 3)⟩,⟨some 5,none,.call .pure (.c (.fn (.f 107) [] [])) [.t 4]⟩,⟨some 6,none,.mov (.t 5)⟩,⟨some 7,some (6,false),.off 4 (.t 1)⟩,⟨some 8,some (6,false),.ld 4 true (.t 7)⟩,⟨some 9,some (6,false),.call .pure (.c (.fn (.f 107) [] [])) [.t 8]⟩,⟨some 10,none,.pick (.t 6) (.c (.bool true)) (.t 9)⟩,⟨some 2,none,.mov (.t 10)⟩]) (
.ret))⟩
/- (lenslet/sky.point).place -/
def c114 : Fnc := ⟨[.cell 2 2 true],
.seq (
.reg [⟨some 1,none,.box 8 (.t 0)⟩,⟨some 2,none,.box 2 (.c (.agg [.str [],.str []]))⟩]) (
.seq (
.reg [⟨some 3,none,.off 0 (.t 1)⟩,⟨some 4,none,.ld 4 true (.t 3)⟩,⟨some 5,none,.call .pure (.c (.fn (.f 46) [] [])) [.t 4]⟩,⟨some 6,none,.off 4 (.t 1)⟩,⟨some 7,none,.ld 4 true (.t 6)⟩,⟨some 8,none,.call .pure (.c (.fn (.f 46) [] [])) [.t 7]⟩,⟨some 9,none,.mkagg [.str [],.str []] [(0,1,(.t 5)),(1,1,(.t 8))]⟩,⟨none,none,.st 2 (.t 2) (.t 9)⟩]) (
.ret))⟩
/- lenslet/sky.CheckLayer -/
def c115 : Fnc := ⟨[.t 2],
.seq (
.reg [⟨some 1,none,.box 8 (.t 0)⟩,⟨some 2,none,.mov (.c (.int .i64 0))⟩]) (
.seq (
.reg [⟨some 3,none,.off 0 (.t 1)⟩,⟨some 4,none,.ld 1 false (.t 3)⟩,⟨some 5,none,.call .pure (.c (.fn (.f 4) [] [])) [.t 4]⟩,⟨some 6,none,.off 1 (.t 1)⟩,⟨some 7,none,.ld 1 false (.t 6)⟩,⟨some 8,none,.call .pure (.c (.fn (.f 61) [] [])) [.t 7,.c (.int .i64 0)]⟩,⟨some 9,none,.off 2 (.t 1)⟩,⟨some 10,none,.ld 1 false (.t 9)⟩,⟨some 11,none,.call .pure (.c (.fn (.f 61) [] [])) [.t 10,.c (.int .i64 1)]⟩,⟨some 12,none,.off 3 (.t 1)⟩,⟨some 13,none,.ld 1 false (.t 12)⟩,⟨some 14,none,.call .pure (.c (.fn (.f 86) [] [])) [.t 13]⟩,⟨some 15,none,.off 4 (.t 1)⟩,⟨some 16,none,.ld 2 true (.t 15)⟩,⟨some 17,none,.call .pure (.c (.fn (.f 53) [] [])) [.t 16]⟩,⟨some 18,none,.off 6 (.t 1)⟩,⟨some 19,none,.ld 2 true (.t 18)⟩,⟨some 20,none,.call .pure (.c (.fn (.f 53) [] [])) [.t 19]⟩,⟨some 21,none,.mksl 6 1 [.int .i64 0,.int .i64 0,.int .i64 0,.int .i64 0,.int .i64 0,.int .i64 0] [(0,1,(.t 5)),(1,1,(.t 8)),(2,1,(.t 11)),(3,1,(.t 14)),(4,1,(.t 17)),(5,1,(.t 20))]⟩,⟨some 22,none,.call .pure (.c (.fn (.f 33) [] [])) [.t 21]⟩,⟨some 2,none,.mov (.t 22)⟩]) (
.ret))⟩
/- (lenslet/sky.Layer).position -/
def c116 : Fnc := ⟨[.cell 8 8 true],
.seq (
.reg [⟨some 4,none,.box 8 (.t 0)⟩,⟨some 5,none,.box 3 (.t 1)⟩,⟨some 6,none,.box 2 (.t 2)⟩,⟨some 8,none,.box 8 (.c (.agg [.int .i64 0,.nils,.int .i64 0,.nils,.int .i64 0,.nils,.int .i64 0,.nils]))⟩]) (
.seq (
.reg [⟨some 10,none,.ld 3 true (.t 5)⟩,⟨some 11,none,.off 1 (.t 4)⟩,⟨some 12,none,.ld 1 false (.t 11)⟩,⟨some 13,none,.call .pure (.c (.fn (.f 62) [] [])) [.t 12]⟩,⟨some 14,none,.ld 2 true (.t 6)⟩,⟨some 15,none,.call .pure (.c (.fn (.f 64) [] [])) [.t 10,.t 13,.t 14]⟩,⟨some 16,none,.off 2 (.t 4)⟩,⟨some 17,none,.ld 1 false (.t 16)⟩,⟨some 18,none,.call .pure (.c (.fn (.f 62) [] [])) [.t 17]⟩,⟨some 19,none,.call .pure (.c (.fn (.f 75) [] [])) [.t 15,.t 18]⟩,⟨some 9,none,.box 8 (.c (.agg [.int .i64 0,.nils,.int .i64 0,.nils,.int .i64 0,.nils,.int .i64 0,.nils]))⟩,⟨none,none,.st 8 (.t 9) (.t 19)⟩]) (
.seq (
.reg [⟨some 20,none,.ld 8 true (.t 9)⟩,⟨some 21,none,.off 4 (.t 4)⟩,⟨some 22,none,.ld 2 true (.t 21)⟩,⟨some 23,none,.call .pure (.c (.fn (.f 54) [] [])) [.t 22]⟩,⟨some 24,none,.call .pure (.c (.fn (.f 112) [] [])) [.t 20,.t 23]⟩,⟨some 25,none,.off 6 (.t 4)⟩,⟨some 26,none,.ld 2 true (.t 25)⟩,⟨some 27,none,.call .pure (.c (.fn (.f 54) [] [])) [.t 26]⟩,⟨some 28,none,.mov (.t 3)⟩,⟨some 29,none,.call .pure (.c (.fn (.f 69) [] [])) [.t 28]⟩,⟨some 30,none,.call .pure (.c (.fn (.f 75) [] [])) [.t 27,.t 29]⟩,⟨some 31,none,.call .pure (.c (.fn (.f 112) [] [])) [.t 24,.t 30]⟩,⟨none,none,.st 8 (.t 8) (.t 31)⟩]) (
.ret)))⟩
/- lenslet/num.Of -/
def c117 : Fnc := ⟨[.cell 2 2 true],
.seq (
.reg [⟨some 2,none,.box 2 (.c (.agg [.int .i64 0,.nils]))⟩]) (
.seq (
.reg [⟨some 3,none,.mov (.t 0)⟩,⟨some 4,none,.mkagg [.int .i64 0,.nils] [(0,1,(.t 3))]⟩,⟨none,none,.st 2 (.t 2) (.t 4)⟩]) (
.ret))⟩
/- (lenslet/num.Int).Cmp -/
def c118 : Fnc := ⟨[.t 4],
.seq (
.reg [⟨some 2,none,.box 2 (.t 0)⟩,⟨some 3,none,.box 2 (.t 1)⟩,⟨some 4,none,.mov (.c (.int .i64 0))⟩]) (
.seq (
.seq (
.reg [⟨some 5,none,.off 1 (.t 2)⟩,⟨some 6,none,.ld 1 false (.t 5)⟩,⟨some 7,none,.eq false .sl (.t 6) (.c (.nils))⟩,⟨some 8,none,.mov (.t 7)⟩,⟨some 9,some (8,true),.off 1 (.t 3)⟩,⟨some 10,some (8,true),.ld 1 false (.t 9)⟩,⟨some 11,some (8,true),.eq false .sl (.t 10) (.c (.nils))⟩,⟨some 12,none,.pick (.t 8) (.t 11) (.c (.bool false))⟩]) (
.cond (.t 12) (
 .seq (
 .blk 0 (
 .seq (
 .reg [⟨some 14,none,.off 0 (.t 2)⟩,
   ⟨some 15,none,.ld 1 false (.t 14)⟩,
   ⟨some 16,none,.off 0 (.t 3)⟩,
   ⟨some 17,none,.ld 1 false (.t 16)⟩,
   ⟨some 18,none,.bin .lss (.t 15) (.t 17)⟩,
   ⟨some 13,none,.mov (.t 18)⟩]) (
 .cond (.t 13) (
  .seq (
  .reg [⟨some 4,none,.mov (.c (.int .i64 (-1)))⟩]) (
  .ret)) (
  .seq (
  .reg [⟨some 20,none,.off 0 (.t 2)⟩,
    ⟨some 21,none,.ld 1 false (.t 20)⟩,
    ⟨some 22,none,.off 0 (.t 3)⟩,
    ⟨some 23,none,.ld 1 false (.t 22)⟩,
    ⟨some 24,none,.bin .gtr (.t 21) (.t 23)⟩,
    ⟨some 19,none,.mov (.t 24)⟩]) (
  .cond (.t 19) (
   .seq (
   .reg [⟨some 4,none,.mov (.c (.int .i64 1))⟩]) (
   .ret)) (
   .skip)))))) (
 .seq (
 .reg [⟨some 4,none,.mov (.c (.int .i64 0))⟩]) (
 .ret))) (
 .skip))) (
.seq (
.reg [⟨some 25,none,.ld 2 true (.t 2)⟩,⟨some 26,none,.ld 2 true (.t 3)⟩,⟨some 27,none,.call .pure (.c (.fn (.f 156) [] [])) [.t 25,.t 26]⟩,⟨some 28,none,.call .pure (.c (.fn (.f 146) [] [])) [.t 27]⟩,⟨some 4,none,.mov (.t 28)⟩]) (
.ret)))⟩
/- (lenslet/num.Int).Add -/
def c119 : Fnc := ⟨[.cell 4 2 true],
.seq (
.reg [⟨some 2,none,.box 2 (.t 0)⟩,⟨some 3,none,.box 2 (.t 1)⟩,⟨some 4,none,.box 2 (.c (.agg [.int .i64 0,.nils]))⟩]) (
.seq (
.seq (
.reg [⟨some 10,none,.off 1 (.t 2)⟩,⟨some 11,none,.ld 1 false (.t 10)⟩,⟨some 12,none,.eq false .sl (.t 11) (.c (.nils))⟩,⟨some 13,none,.mov (.t 12)⟩,⟨some 14,some (13,true),.off 1 (.t 3)⟩,⟨some 15,some (13,true),.ld 1 false (.t 14)⟩,⟨some 16,some (13,true),.eq false .sl (.t 15) (.c (.nils))⟩,⟨some 17,none,.pick (.t 13) (.t 16) (.c (.bool false))⟩]) (
.cond (.t 17) (
 .seq (
 .reg [⟨some 18,none,.off 0 (.t 2)⟩,
   ⟨some 19,none,.ld 1 false (.t 18)⟩,
   ⟨some 20,none,.off 0 (.t 3)⟩,
   ⟨some 21,none,.ld 1 false (.t 20)⟩,
   ⟨some 22,none,.bin .add (.t 19) (.t 21)⟩,
   ⟨some 5,none,.mov (.t 22)⟩]) (
 .seq (
 .reg [⟨some 23,none,.mov (.t 5)⟩,
   ⟨some 24,none,.off 0 (.t 2)⟩,
   ⟨some 25,none,.ld 1 false (.t 24)⟩,
   ⟨some 26,none,.bin .gtr (.t 23) (.t 25)⟩,
   ⟨some 27,none,.off 0 (.t 3)⟩,
   ⟨some 28,none,.ld 1 false (.t 27)⟩,
   ⟨some 29,none,.bin .gtr (.t 28) (.c (.int .i64 0))⟩,
   ⟨some 30,none,.eq false .b (.t 26) (.t 29)⟩]) (
 .cond (.t 30) (
  .seq (
  .reg [⟨some 31,none,.mov (.t 5)⟩,
    ⟨some 32,none,.mkagg [.int .i64 0,.nils] [(0,1,(.t 31))]⟩,
    ⟨none,none,.st 2 (.t 4) (.t 32)⟩]) (
  .ret)) (
  .skip)))) (
 .skip))) (
.seq (
.reg [⟨some 34,none,.ld 2 true (.t 2)⟩,⟨some 35,none,.call .pure (.c (.fn (.f 136) [] [])) [.t 34]⟩,⟨some 33,none,.mov (.t 35)⟩,⟨some 36,none,.ext 0 (.t 33)⟩,⟨some 37,none,.ext 1 (.t 33)⟩,⟨some 6,none,.mov (.t 36)⟩,⟨some 7,none,.mov (.t 37)⟩]) (
.seq (
.reg [⟨some 39,none,.ld 2 true (.t 3)⟩,⟨some 40,none,.call .pure (.c (.fn (.f 136) [] [])) [.t 39]⟩,⟨some 38,none,.mov (.t 40)⟩,⟨some 41,none,.ext 0 (.t 38)⟩,⟨some 42,none,.ext 1 (.t 38)⟩,⟨some 8,none,.mov (.t 41)⟩,⟨some 9,none,.mov (.t 42)⟩]) (
.seq (
.blk 0 (
.seq (
.reg [⟨some 44,none,.mov (.t 6)⟩,⟨some 45,none,.mov (.t 8)⟩,⟨some 46,none,.eq false .b (.t 44) (.t 45)⟩,⟨some 43,none,.mov (.t 46)⟩]) (
.cond (.t 43) (
 .seq (
 .reg [⟨some 47,none,.mov (.t 6)⟩,
   ⟨some 48,none,.mov (.t 7)⟩,
   ⟨some 49,none,.mov (.t 9)⟩,
   ⟨some 50,none,.call .pure (.c (.fn (.f 157) [] [])) [.t 48,.t 49]⟩,
   ⟨some 51,none,.call .pure (.c (.fn (.f 145) [] [])) [.t 47,.t 50]⟩,
   ⟨none,none,.st 2 (.t 4) (.t 51)⟩]) (
 .ret)) (
 .seq (
 .reg [⟨some 53,none,.mov (.t 7)⟩,
   ⟨some 54,none,.mov (.t 9)⟩,
   ⟨some 55,none,.call .pure (.c (.fn (.f 158) [] [])) [.t 53,.t 54]⟩,
   ⟨some 56,none,.bin .geq (.t 55) (.c (.int .i64 0))⟩,
   ⟨some 52,none,.mov (.t 56)⟩]) (
 .cond (.t 52) (
  .seq (
  .reg [⟨some 57,none,.mov (.t 6)⟩,
    ⟨some 58,none,.mov (.t 7)⟩,
    ⟨some 59,none,.mov (.t 9)⟩,
    ⟨some 60,none,.call .pure (.c (.fn (.f 159) [] [])) [.t 58,.t 59]⟩,
    ⟨some 61,none,.call .pure (.c (.fn (.f 145) [] [])) [.t 57,.t 60]⟩,
    ⟨none,none,.st 2 (.t 4) (.t 61)⟩]) (
  .ret)) (
  .skip)))))) (
.seq (
.reg [⟨some 62,none,.mov (.t 8)⟩,⟨some 63,none,.mov (.t 9)⟩,⟨some 64,none,.mov (.t 7)⟩,⟨some 65,none,.call .pure (.c (.fn (.f 159) [] [])) [.t 63,.t 64]⟩,⟨some 66,none,.call .pure (.c (.fn (.f 145) [] [])) [.t 62,.t 65]⟩,⟨none,none,.st 2 (.t 4) (.t 66)⟩]) (
.ret))))))⟩
/- lenslet/sky.mapped[lenslet/sky.Layer,lenslet/api.Errno] -/
def c120_0 : VC :=
.seq (
.reg [⟨some 11,none,.bin .lss (.t 10) (.t 9)⟩]) (
.seq (
.cond (.t 11) (
 .skip) (
 .exit 0)) (
.seq (
.blk 1 (
.seq (
.reg [⟨some 12,none,.ixa 8 (.t 8) (.t 10)⟩,⟨some 13,none,.ld 8 true (.t 12)⟩,⟨some 7,none,.box 8 (.c (.agg [.nils,.str [],.str [],.str [],.str [],.str [],.str [],.str []]))⟩,⟨none,none,.st 8 (.t 7) (.t 13)⟩]) (
.reg [⟨some 14,none,.mov (.t 5)⟩,⟨some 15,none,.mov (.t 1)⟩,⟨some 16,none,.ld 8 true (.t 7)⟩,⟨some 17,none,.call .pure (.t 15) [.t 16]⟩,⟨some 18,none,.mksl 1 1 [.int .i64 0] [(0,1,(.t 17))]⟩,⟨some 19,none,.app 1 8 (.t 14) (.t 18)⟩,⟨some 5,none,.mov (.t 19)⟩]))) (
.reg [⟨some 20,none,.bin .add (.t 10) (.c (.int .i64 1))⟩,⟨some 10,none,.mov (.t 20)⟩])))
def c120 : Fnc := ⟨[.t 4],
.seq (
.reg [⟨some 4,none,.mov (.c (.nils))⟩]) (
.seq (
.reg [⟨some 5,none,.mov (.c (.nils))⟩]) (
.seq (
.seq (
.reg [⟨some 8,none,.mov (.t 0)⟩,⟨some 9,none,.len 1 (.t 8)⟩,⟨some 10,none,.mov (.c (.int .i64 0))⟩]) (
.seq (
.blk 0 (
.loop [1,5,8,9,10] c120_0)) (
.kp [5]))) (
.seq (
.reg [⟨some 21,none,.mov (.t 5)⟩,⟨some 4,none,.mov (.t 21)⟩]) (
.ret))))⟩
/- lenslet/sky.mapped[lenslet/api.Place,lenslet/api.Errno] -/
def c121_0 : VC :=
.seq (
.reg [⟨some 11,none,.bin .lss (.t 10) (.t 9)⟩]) (
.seq (
.cond (.t 11) (
 .skip) (
 .exit 0)) (
.seq (
.blk 1 (
.seq (
.reg [⟨some 12,none,.ixa 2 (.t 8) (.t 10)⟩,⟨some 13,none,.ld 2 true (.t 12)⟩,⟨some 7,none,.box 2 (.c (.agg [.str [],.str []]))⟩,⟨none,none,.st 2 (.t 7) (.t 13)⟩]) (
.reg [⟨some 14,none,.mov (.t 5)⟩,⟨some 15,none,.mov (.t 1)⟩,⟨some 16,none,.ld 2 true (.t 7)⟩,⟨some 17,none,.call .pure (.t 15) [.t 16]⟩,⟨some 18,none,.mksl 1 1 [.int .i64 0] [(0,1,(.t 17))]⟩,⟨some 19,none,.app 1 8 (.t 14) (.t 18)⟩,⟨some 5,none,.mov (.t 19)⟩]))) (
.reg [⟨some 20,none,.bin .add (.t 10) (.c (.int .i64 1))⟩,⟨some 10,none,.mov (.t 20)⟩])))
def c121 : Fnc := ⟨[.t 4],
.seq (
.reg [⟨some 4,none,.mov (.c (.nils))⟩]) (
.seq (
.reg [⟨some 5,none,.mov (.c (.nils))⟩]) (
.seq (
.seq (
.reg [⟨some 8,none,.mov (.t 0)⟩,⟨some 9,none,.len 1 (.t 8)⟩,⟨some 10,none,.mov (.c (.int .i64 0))⟩]) (
.seq (
.blk 0 (
.loop [1,5,8,9,10] c121_0)) (
.kp [5]))) (
.seq (
.reg [⟨some 21,none,.mov (.t 5)⟩,⟨some 4,none,.mov (.t 21)⟩]) (
.ret))))⟩
/- slices.ContainsFunc[[]lenslet/num.Frac,lenslet/num.Frac] -/
def c122 : Fnc := ⟨[.t 4],
.seq (
.reg [⟨some 4,none,.mov (.c (.bool false))⟩]) (
.seq (
.reg [⟨some 5,none,.mov (.t 0)⟩,⟨some 6,none,.mov (.t 1)⟩,⟨some 7,none,.call .pure (.c (.fn (.f 160) [] [])) [.t 5,.t 6]⟩,⟨some 8,none,.bin .geq (.t 7) (.c (.int .i64 0))⟩,⟨some 4,none,.mov (.t 8)⟩]) (
.ret))⟩
/- lenslet/num.Texts -/
def c123_0 : VC :=
.seq (
.reg [⟨some 12,none,.bin .lss (.t 11) (.t 10)⟩]) (
.seq (
.cond (.t 12) (
 .skip) (
 .exit 0)) (
.seq (
.blk 1 (
.seq (
.reg [⟨some 13,none,.mov (.t 11)⟩,⟨some 14,none,.ixa 4 (.t 9) (.t 11)⟩,⟨some 15,none,.ld 4 true (.t 14)⟩,⟨some 5,none,.box 4 (.c (.agg [.int .i64 0,.nils,.int .i64 0,.nils]))⟩,⟨some 4,none,.mov (.t 13)⟩,⟨none,none,.st 4 (.t 5) (.t 15)⟩]) (
.reg [⟨some 16,none,.mov (.t 3)⟩,⟨some 17,none,.mov (.t 4)⟩,⟨some 18,none,.ld 4 true (.t 5)⟩,⟨some 19,none,.call .pure (.c (.fn (.f 46) [] [])) [.t 18]⟩,⟨some 20,none,.ixa 1 (.t 16) (.t 17)⟩,⟨none,none,.st 1 (.t 20) (.t 19)⟩]))) (
.reg [⟨some 21,none,.bin .add (.t 11) (.c (.int .i64 1))⟩,⟨some 11,none,.mov (.t 21)⟩])))
def c123 : Fnc := ⟨[.t 2],
.seq (
.reg [⟨some 2,none,.mov (.c (.nils))⟩]) (
.seq (
.reg [⟨some 6,none,.mov (.t 0)⟩,⟨some 7,none,.len 1 (.t 6)⟩,⟨some 8,none,.mks 1 16 [.str []] (.t 7) (.t 7)⟩,⟨some 3,none,.mov (.t 8)⟩]) (
.seq (
.seq (
.reg [⟨some 9,none,.mov (.t 0)⟩,⟨some 10,none,.len 1 (.t 9)⟩,⟨some 11,none,.mov (.c (.int .i64 0))⟩]) (
.seq (
.blk 0 (
.loop [3,9,10,11] c123_0)) (
.kp [3]))) (
.seq (
.reg [⟨some 22,none,.mov (.t 3)⟩,⟨some 2,none,.mov (.t 22)⟩]) (
.ret))))⟩
/- lenslet/number.when -/
def c124 : Fnc := ⟨[.t 4],
.seq (
.reg [⟨some 4,none,.mov (.c (.int .i64 0))⟩]) (
.seq (
.seq (
.reg [⟨some 5,none,.mov (.t 0)⟩]) (
.cond (.t 5) (
 .seq (
 .reg [⟨some 6,none,.mov (.t 1)⟩,
   ⟨some 4,none,.mov (.t 6)⟩]) (
 .ret)) (
 .skip))) (
.seq (
.reg [⟨some 4,none,.mov (.c (.int .i64 0))⟩]) (
.ret)))⟩
/- lenslet/number.first -/
def c125_0 : VC :=
.seq (
.reg [⟨some 8,none,.bin .lss (.t 7) (.t 6)⟩]) (
.seq (
.cond (.t 8) (
 .skip) (
 .exit 0)) (
.seq (
.blk 1 (
.seq (
.reg [⟨some 9,none,.ixa 1 (.t 5) (.t 7)⟩,⟨some 10,none,.ld 1 false (.t 9)⟩,⟨some 4,none,.mov (.t 10)⟩]) (
.seq (
.reg [⟨some 11,none,.mov (.t 4)⟩,⟨some 12,none,.bin .neq (.t 11) (.c (.int .i64 0))⟩]) (
.cond (.t 12) (
 .seq (
 .reg [⟨some 13,none,.mov (.t 4)⟩,
   ⟨some 2,none,.mov (.t 13)⟩]) (
 .ret)) (
 .skip))))) (
.reg [⟨some 14,none,.bin .add (.t 7) (.c (.int .i64 1))⟩,⟨some 7,none,.mov (.t 14)⟩])))
def c125 : Fnc := ⟨[.t 2],
.seq (
.reg [⟨some 2,none,.mov (.c (.int .i64 0))⟩]) (
.seq (
.seq (
.reg [⟨some 5,none,.mov (.t 0)⟩,⟨some 6,none,.len 1 (.t 5)⟩,⟨some 7,none,.mov (.c (.int .i64 0))⟩]) (
.seq (
.blk 0 (
.loop [5,6,7] c125_0)) (
.kp []))) (
.seq (
.reg [⟨some 2,none,.mov (.c (.int .i64 0))⟩]) (
.ret)))⟩
/- lenslet/number.CheckMatrix.1 -/
def c126 : Fnc := ⟨[.t 3],
.seq (
.reg [⟨some 3,none,.mov (.c (.int .i64 0))⟩]) (
.seq (
.reg [⟨some 4,none,.mov (.t 0)⟩,⟨some 5,none,.len 1 (.t 4)⟩,⟨some 6,none,.bin .eql (.t 5) (.c (.int .i64 0))⟩,⟨some 7,none,.call .pure (.c (.fn (.f 124) [] [])) [.t 6,.c (.int .i64 12)]⟩,⟨some 8,none,.mov (.t 0)⟩,⟨some 9,none,.len 1 (.t 8)⟩,⟨some 10,none,.bin .gtr (.t 9) (.c (.int .i64 64))⟩,⟨some 11,none,.call .pure (.c (.fn (.f 124) [] [])) [.t 10,.c (.int .i64 5)]⟩,⟨some 12,none,.mov (.t 0)⟩,⟨some 13,none,.len 1 (.t 12)⟩,⟨some 14,none,.ld 1 false (.t 1)⟩,⟨some 15,none,.ixa 1 (.t 14) (.c (.int .i64 0))⟩,⟨some 16,none,.ld 1 false (.t 15)⟩,⟨some 17,none,.len 1 (.t 16)⟩,⟨some 18,none,.bin .neq (.t 13) (.t 17)⟩,⟨some 19,none,.call .pure (.c (.fn (.f 124) [] [])) [.t 18,.c (.int .i64 2)]⟩,⟨some 20,none,.mov (.t 0)⟩,⟨some 21,none,.call .pure (.c (.fn (.f 161) [] [])) [.t 20]⟩,⟨some 22,none,.mksl 4 1 [.int .i64 0,.int .i64 0,.int .i64 0,.int .i64 0] [(0,1,(.t 7)),(1,1,(.t 11)),(2,1,(.t 19)),(3,1,(.t 21))]⟩,⟨some 23,none,.call .pure (.c (.fn (.f 125) [] [])) [.t 22]⟩,⟨some 3,none,.mov (.t 23)⟩]) (
.ret))⟩
/- lenslet/number.each[[]lenslet/api.Rat] -/
def c127_0 : VC :=
.seq (
.reg [⟨some 11,none,.bin .lss (.t 10) (.t 9)⟩]) (
.seq (
.cond (.t 11) (
 .skip) (
 .exit 0)) (
.seq (
.blk 1 (
.seq (
.reg [⟨some 12,none,.ixa 1 (.t 8) (.t 10)⟩,⟨some 13,none,.ld 1 false (.t 12)⟩,⟨some 6,none,.mov (.t 13)⟩]) (
.seq (
.reg [⟨some 14,none,.mov (.t 1)⟩,⟨some 15,none,.mov (.t 6)⟩,⟨some 16,none,.call .pure (.t 14) [.t 15]⟩,⟨some 7,none,.mov (.t 16)⟩]) (
.seq (
.reg [⟨some 17,none,.mov (.t 7)⟩,⟨some 18,none,.bin .neq (.t 17) (.c (.int .i64 0))⟩]) (
.cond (.t 18) (
 .seq (
 .reg [⟨some 19,none,.mov (.t 7)⟩,
   ⟨some 4,none,.mov (.t 19)⟩]) (
 .ret)) (
 .skip)))))) (
.reg [⟨some 20,none,.bin .add (.t 10) (.c (.int .i64 1))⟩,⟨some 10,none,.mov (.t 20)⟩])))
def c127 : Fnc := ⟨[.t 4],
.seq (
.reg [⟨some 4,none,.mov (.c (.int .i64 0))⟩]) (
.seq (
.seq (
.reg [⟨some 8,none,.mov (.t 0)⟩,⟨some 9,none,.len 1 (.t 8)⟩,⟨some 10,none,.mov (.c (.int .i64 0))⟩]) (
.seq (
.blk 0 (
.loop [1,8,9,10] c127_0)) (
.kp []))) (
.seq (
.reg [⟨some 4,none,.mov (.c (.int .i64 0))⟩]) (
.ret)))⟩
/- lenslet/number.isDecimal -/
def c129 : Fnc := ⟨[.t 2],
.seq (
.reg [⟨some 2,none,.mov (.c (.bool false))⟩]) (
.seq (
.reg [⟨some 3,none,.mov (.t 0)⟩,⟨some 4,none,.bin .neq (.t 3) (.c (.str []))⟩,⟨some 5,none,.mov (.t 4)⟩,⟨some 6,some (5,true),.mov (.t 0)⟩,⟨some 7,some (5,true),.call .pure (.c (.fn (.f 162) [] [])) [.t 6,.c (.str [48,49,50,51,52,53,54,55,56,57])]⟩,⟨some 8,some (5,true),.bin .eql (.t 7) (.c (.str []))⟩,⟨some 9,none,.pick (.t 5) (.t 8) (.c (.bool false))⟩,⟨some 10,none,.mov (.t 9)⟩,⟨some 11,some (10,true),.mov (.t 0)⟩,⟨some 12,some (10,true),.ixs (.t 11) (.c (.int .i64 0))⟩,⟨some 13,some (10,true),.bin .neq (.t 12) (.c (.int .u8 48))⟩,⟨some 14,some (10,true),.mov (.t 13)⟩,⟨some 15,some (14,false),.mov (.t 0)⟩,⟨some 16,some (14,false),.bin .eql (.t 15) (.c (.str [48]))⟩,⟨some 17,some (10,true),.pick (.t 14) (.c (.bool true)) (.t 16)⟩,⟨some 18,none,.pick (.t 10) (.t 17) (.c (.bool false))⟩,⟨some 2,none,.mov (.t 18)⟩]) (
.ret))⟩
/- lenslet/num.Gcd -/
def c130_0 : VC :=
.seq (
.seq (
.reg [⟨some 11,none,.ld 2 true (.t 3)⟩,⟨some 12,none,.call .pure (.c (.fn (.f 146) [] [])) [.t 11]⟩,⟨some 13,none,.bin .neq (.t 12) (.c (.int .i64 0))⟩]) (
.cond (.t 13) (
 .skip) (
 .exit 0))) (
.blk 1 (
.seq (
.reg [⟨some 15,none,.ld 2 true (.t 2)⟩,⟨some 16,none,.ld 2 true (.t 3)⟩,⟨some 17,none,.call .pure (.c (.fn (.f 164) [] [])) [.t 15,.t 16]⟩,⟨some 14,none,.mov (.t 17)⟩,⟨some 18,none,.ext 0 (.t 14)⟩,⟨some 19,none,.ext 1 (.t 14)⟩,⟨some 5,none,.box 2 (.c (.agg [.int .i64 0,.nils]))⟩,⟨some 6,none,.box 2 (.c (.agg [.int .i64 0,.nils]))⟩,⟨none,none,.st 2 (.t 5) (.t 18)⟩,⟨none,none,.st 2 (.t 6) (.t 19)⟩]) (
.reg [⟨some 20,none,.ld 2 true (.t 3)⟩,⟨some 21,none,.ld 2 true (.t 6)⟩,⟨none,none,.std [(2,true,6)] 2 (.t 2) (.t 20)⟩,⟨none,none,.st 2 (.t 3) (.t 21)⟩])))
def c130 : Fnc := ⟨[.cell 4 2 true],
.seq (
.reg [⟨some 2,none,.box 2 (.t 0)⟩,⟨some 3,none,.box 2 (.t 1)⟩,⟨some 4,none,.box 2 (.c (.agg [.int .i64 0,.nils]))⟩]) (
.seq (
.reg [⟨some 7,none,.ld 2 true (.t 2)⟩,⟨some 8,none,.call .pure (.c (.fn (.f 163) [] [])) [.t 7]⟩,⟨some 9,none,.ld 2 true (.t 3)⟩,⟨some 10,none,.call .pure (.c (.fn (.f 163) [] [])) [.t 9]⟩,⟨none,none,.st 2 (.t 2) (.t 8)⟩,⟨none,none,.st 2 (.t 3) (.t 10)⟩]) (
.seq (
.seq (
.blk 0 (
.loop [2,3,4] c130_0)) (
.kp [2,4])) (
.seq (
.reg [⟨some 22,none,.ld 2 true (.t 2)⟩,⟨none,none,.st 2 (.t 4) (.t 22)⟩]) (
.ret))))⟩
/- lenslet/sky.dot -/
def c131_0 : VC :=
.seq (
.reg [⟨some 11,none,.bin .lss (.t 10) (.t 9)⟩]) (
.seq (
.cond (.t 11) (
 .skip) (
 .exit 0)) (
.seq (
.blk 1 (
.seq (
.reg [⟨some 12,none,.mov (.t 10)⟩,⟨some 6,none,.mov (.t 12)⟩]) (
.reg [⟨some 13,none,.ld 4 true (.t 5)⟩,⟨some 14,none,.mov (.t 0)⟩,⟨some 15,none,.mov (.t 6)⟩,⟨some 16,none,.ixa 4 (.t 14) (.t 15)⟩,⟨some 17,none,.ld 4 true (.t 16)⟩,⟨some 18,none,.mov (.t 1)⟩,⟨some 19,none,.mov (.t 6)⟩,⟨some 20,none,.ixa 4 (.t 18) (.t 19)⟩,⟨some 21,none,.ld 4 true (.t 20)⟩,⟨some 22,none,.call .pure (.c (.fn (.f 49) [] [])) [.t 17,.t 21]⟩,⟨some 23,none,.call .pure (.c (.fn (.f 74) [] [])) [.t 13,.t 22]⟩,⟨none,none,.st 4 (.t 5) (.t 23)⟩]))) (
.reg [⟨some 24,none,.bin .add (.t 10) (.c (.int .i64 1))⟩,⟨some 10,none,.mov (.t 24)⟩])))
def c131 : Fnc := ⟨[.cell 4 4 true],
.seq (
.reg [⟨some 4,none,.box 4 (.c (.agg [.int .i64 0,.nils,.int .i64 0,.nils]))⟩]) (
.seq (
.reg [⟨some 7,none,.call .pure (.c (.fn (.f 69) [] [])) [.c (.int .i64 0)]⟩,⟨some 5,none,.box 4 (.c (.agg [.int .i64 0,.nils,.int .i64 0,.nils]))⟩,⟨none,none,.st 4 (.t 5) (.t 7)⟩]) (
.seq (
.seq (
.reg [⟨some 8,none,.mov (.t 0)⟩,⟨some 9,none,.len 1 (.t 8)⟩,⟨some 10,none,.mov (.c (.int .i64 0))⟩]) (
.seq (
.blk 0 (
.loop [0,1,4,5,9,10] c131_0)) (
.kp [4,5]))) (
.seq (
.reg [⟨some 25,none,.ld 4 true (.t 5)⟩,⟨none,none,.st 4 (.t 4) (.t 25)⟩]) (
.ret))))⟩
/- slices.IndexFunc[[]int,int] -/
def c132_0 : VC :=
.seq (
.reg [⟨some 9,none,.bin .lss (.t 8) (.t 7)⟩]) (
.seq (
.cond (.t 9) (
 .skip) (
 .exit 0)) (
.seq (
.blk 1 (
.seq (
.reg [⟨some 10,none,.mov (.t 8)⟩,⟨some 5,none,.mov (.t 10)⟩]) (
.seq (
.reg [⟨some 11,none,.mov (.t 1)⟩,⟨some 12,none,.mov (.t 0)⟩,⟨some 13,none,.mov (.t 5)⟩,⟨some 14,none,.ixa 1 (.t 12) (.t 13)⟩,⟨some 15,none,.ld 1 false (.t 14)⟩,⟨some 16,none,.call .pure (.t 11) [.t 15]⟩]) (
.cond (.t 16) (
 .seq (
 .reg [⟨some 17,none,.mov (.t 5)⟩,
   ⟨some 4,none,.mov (.t 17)⟩]) (
 .ret)) (
 .skip))))) (
.reg [⟨some 18,none,.bin .add (.t 8) (.c (.int .i64 1))⟩,⟨some 8,none,.mov (.t 18)⟩])))
def c132 : Fnc := ⟨[.t 4],
.seq (
.reg [⟨some 4,none,.mov (.c (.int .i64 0))⟩]) (
.seq (
.seq (
.reg [⟨some 6,none,.mov (.t 0)⟩,⟨some 7,none,.len 1 (.t 6)⟩,⟨some 8,none,.mov (.c (.int .i64 0))⟩]) (
.seq (
.blk 0 (
.loop [0,1,7,8] c132_0)) (
.kp []))) (
.seq (
.reg [⟨some 4,none,.mov (.c (.int .i64 (-1)))⟩]) (
.ret)))⟩
/- lenslet/sky.cells.1 -/
def c133_0 : VC :=
.seq (
.reg [⟨some 11,none,.bin .lss (.t 10) (.t 9)⟩]) (
.seq (
.cond (.t 11) (
 .skip) (
 .exit 2)) (
.seq (
.blk 3 (
.seq (
.reg [⟨some 12,none,.mov (.t 10)⟩,⟨some 4,none,.mov (.t 12)⟩]) (
.seq (
.reg [⟨some 13,none,.mov (.t 0)⟩,⟨some 14,none,.mov (.t 4)⟩,⟨some 15,none,.mov (.t 3)⟩,⟨some 16,none,.call .heap (.t 13) [.t 14,.t 15]⟩,⟨some 17,none,.un .not (.t 16)⟩]) (
.cond (.t 17) (
 .ret) (
 .skip))))) (
.reg [⟨some 18,none,.bin .add (.t 10) (.c (.int .i64 1))⟩,⟨some 10,none,.mov (.t 18)⟩])))
def c133_1 : VC :=
.seq (
.reg [⟨some 7,none,.bin .lss (.t 6) (.t 5)⟩]) (
.seq (
.cond (.t 7) (
 .skip) (
 .exit 0)) (
.seq (
.blk 1 (
.seq (
.reg [⟨some 8,none,.mov (.t 6)⟩,⟨some 3,none,.mov (.t 8)⟩]) (
.seq (
.reg [⟨some 9,none,.ld 1 false (.t 1)⟩,⟨some 10,none,.mov (.c (.int .i64 0))⟩]) (
.seq (
.blk 2 (
.loop [0,1,3,5,6,9,10] c133_0)) (
.kp [0,1,5,6]))))) (
.reg [⟨some 19,none,.bin .add (.t 6) (.c (.int .i64 1))⟩,⟨some 6,none,.mov (.t 19)⟩])))
def c133 : Fnc := ⟨[],
.seq (
.reg [⟨some 5,none,.ld 1 false (.t 1)⟩,⟨some 6,none,.mov (.c (.int .i64 0))⟩]) (
.seq (
.blk 0 (
.loop [0,1,5,6] c133_1)) (
.kp []))⟩
/- lenslet/sky.modulo -/
def c134 : Fnc := ⟨[.t 4],
.seq (
.reg [⟨some 4,none,.mov (.c (.int .i64 0))⟩]) (
.seq (
.reg [⟨some 5,none,.mov (.t 0)⟩,⟨some 6,none,.mov (.t 1)⟩,⟨some 7,none,.bin .rem (.t 5) (.t 6)⟩,⟨some 8,none,.mov (.t 1)⟩,⟨some 9,none,.bin .add (.t 7) (.t 8)⟩,⟨some 10,none,.mov (.t 1)⟩,⟨some 11,none,.bin .rem (.t 9) (.t 10)⟩,⟨some 4,none,.mov (.t 11)⟩]) (
.ret))⟩
/- (lenslet/num.Int).parts -/
def c136 : Fnc := ⟨[.t 2,.t 3],
.seq (
.reg [⟨some 1,none,.box 2 (.t 0)⟩,⟨some 2,none,.mov (.c (.bool false))⟩,⟨some 3,none,.mov (.c (.nils))⟩]) (
.seq (
.blk 0 (
.seq (
.reg [⟨some 5,none,.off 1 (.t 1)⟩,⟨some 6,none,.ld 1 false (.t 5)⟩,⟨some 7,none,.eq true .sl (.t 6) (.c (.nils))⟩,⟨some 4,none,.mov (.t 7)⟩]) (
.cond (.t 4) (
 .seq (
 .reg [⟨some 8,none,.off 0 (.t 1)⟩,
   ⟨some 9,none,.ld 1 false (.t 8)⟩,
   ⟨some 10,none,.bin .lss (.t 9) (.c (.int .i64 0))⟩,
   ⟨some 11,none,.off 1 (.t 1)⟩,
   ⟨some 12,none,.ld 1 false (.t 11)⟩,
   ⟨some 2,none,.mov (.t 10)⟩,
   ⟨some 3,none,.mov (.t 12)⟩]) (
 .ret)) (
 .seq (
 .reg [⟨some 14,none,.off 0 (.t 1)⟩,
   ⟨some 15,none,.ld 1 false (.t 14)⟩,
   ⟨some 16,none,.bin .eql (.t 15) (.c (.int .i64 0))⟩,
   ⟨some 13,none,.mov (.t 16)⟩]) (
 .cond (.t 13) (
  .seq (
  .reg [⟨some 2,none,.mov (.c (.bool false))⟩,
    ⟨some 3,none,.mov (.c (.nils))⟩]) (
  .ret)) (
  .skip)))))) (
.seq (
.reg [⟨some 17,none,.off 0 (.t 1)⟩,⟨some 18,none,.ld 1 false (.t 17)⟩,⟨some 19,none,.bin .lss (.t 18) (.c (.int .i64 0))⟩,⟨some 20,none,.off 0 (.t 1)⟩,⟨some 21,none,.ld 1 false (.t 20)⟩,⟨some 22,none,.call .pure (.c (.fn (.f 142) [] [])) [.t 21]⟩,⟨some 23,none,.mksl 1 1 [.int .u64 0] [(0,1,(.t 22))]⟩,⟨some 2,none,.mov (.t 19)⟩,⟨some 3,none,.mov (.t 23)⟩]) (
.ret)))⟩
/- lenslet/num.divide -/
def c137_0 : VC :=
.seq (
.seq (
.reg [⟨some 30,none,.mov (.t 8)⟩,⟨some 31,none,.bin .geq (.t 30) (.c (.int .i64 0))⟩]) (
.cond (.t 31) (
 .skip) (
 .exit 0))) (
.seq (
.blk 1 (
.reg [⟨some 35,none,.mov (.t 6)⟩,⟨some 36,none,.mov (.t 8)⟩,⟨some 37,none,.mov (.t 7)⟩,⟨some 38,none,.mov (.t 0)⟩,⟨some 39,none,.mov (.t 8)⟩,⟨some 40,none,.ixa 1 (.t 38) (.t 39)⟩,⟨some 41,none,.ld 1 false (.t 40)⟩,⟨some 42,none,.mov (.t 1)⟩,⟨some 43,none,.ixa 1 (.t 42) (.c (.int .i64 0))⟩,⟨some 44,none,.ld 1 false (.t 43)⟩,⟨some 45,none,.call .pure (.c (.fn (.f 165) [] [])) [.t 37,.t 41,.t 44]⟩,⟨some 34,none,.mov (.t 45)⟩,⟨some 46,none,.ext 0 (.t 34)⟩,⟨some 47,none,.ext 1 (.t 34)⟩,⟨some 48,none,.ixa 1 (.t 35) (.t 36)⟩,⟨none,none,.st 1 (.t 48) (.t 46)⟩,⟨some 7,none,.mov (.t 47)⟩])) (
.reg [⟨some 32,none,.mov (.t 8)⟩,⟨some 33,none,.bin .sub (.t 32) (.c (.int .i64 1))⟩,⟨some 8,none,.mov (.t 33)⟩]))
def c137_1 : VC :=
.seq (
.seq (
.reg [⟨some 80,none,.mov (.t 14)⟩,⟨some 81,none,.bin .geq (.t 80) (.c (.int .i64 0))⟩]) (
.cond (.t 81) (
 .skip) (
 .exit 2))) (
.seq (
.blk 3 (
.reg [⟨some 84,none,.mov (.t 13)⟩,⟨some 85,none,.mov (.t 14)⟩,⟨some 86,none,.mov (.t 11)⟩,⟨some 87,none,.mov (.t 14)⟩,⟨some 88,none,.mov (.t 14)⟩,⟨some 89,none,.mov (.t 12)⟩,⟨some 90,none,.bin .add (.t 88) (.t 89)⟩,⟨some 91,none,.bin .add (.t 90) (.c (.int .i64 1))⟩,⟨some 92,none,.sli (.sl 1) (.t 86) (some (.t 87)) (some (.t 91))⟩,⟨some 93,none,.mov (.t 10)⟩,⟨some 94,none,.call .heap (.c (.fn (.f 169) [] [])) [.t 92,.t 93]⟩,⟨some 95,none,.ixa 1 (.t 84) (.t 85)⟩,⟨none,none,.st 1 (.t 95) (.t 94)⟩])) (
.reg [⟨some 82,none,.mov (.t 14)⟩,⟨some 83,none,.bin .sub (.t 82) (.c (.int .i64 1))⟩,⟨some 14,none,.mov (.t 83)⟩]))
def c137_2 : VC :=
.seq (
.reg [⟨some 98,none,.bin .lss (.t 97) (.t 96)⟩]) (
.seq (
.cond (.t 98) (
 .skip) (
 .exit 4)) (
.seq (
.blk 5 (
.seq (
.reg [⟨some 99,none,.mov (.t 97)⟩,⟨some 15,none,.mov (.t 99)⟩]) (
.seq (
.reg [⟨some 100,none,.mov (.t 11)⟩,⟨some 101,none,.mov (.t 15)⟩,⟨some 102,none,.ixa 1 (.t 100) (.t 101)⟩,⟨some 103,none,.ld 1 false (.t 102)⟩,⟨some 104,none,.mov (.t 9)⟩,⟨some 105,none,.bin .shr (.t 103) (.t 104)⟩,⟨some 106,none,.ixa 1 (.t 100) (.t 101)⟩,⟨none,none,.st 1 (.t 106) (.t 105)⟩]) (
.seq (
.reg [⟨some 107,none,.mov (.t 9)⟩,⟨some 108,none,.bin .gtr (.t 107) (.c (.int .i64 0))⟩,⟨some 109,none,.mov (.t 108)⟩,⟨some 110,some (109,true),.mov (.t 15)⟩,⟨some 111,some (109,true),.bin .add (.t 110) (.c (.int .i64 1))⟩,⟨some 112,some (109,true),.mov (.t 11)⟩,⟨some 113,some (109,true),.len 1 (.t 112)⟩,⟨some 114,some (109,true),.bin .lss (.t 111) (.t 113)⟩,⟨some 115,none,.pick (.t 109) (.t 114) (.c (.bool false))⟩]) (
.cond (.t 115) (
 .reg [⟨some 116,none,.mov (.t 11)⟩,
   ⟨some 117,none,.mov (.t 15)⟩,
   ⟨some 118,none,.ixa 1 (.t 116) (.t 117)⟩,
   ⟨some 119,none,.ld 1 false (.t 118)⟩,
   ⟨some 120,none,.mov (.t 11)⟩,
   ⟨some 121,none,.mov (.t 15)⟩,
   ⟨some 122,none,.bin .add (.t 121) (.c (.int .i64 1))⟩,
   ⟨some 123,none,.ixa 1 (.t 120) (.t 122)⟩,
   ⟨some 124,none,.ld 1 false (.t 123)⟩,
   ⟨some 125,none,.mov (.t 9)⟩,
   ⟨some 126,none,.bin .sub (.c (.int .i64 64)) (.t 125)⟩,
   ⟨some 127,none,.bin .shl (.t 124) (.t 126)⟩,
   ⟨some 128,none,.bin .or (.t 119) (.t 127)⟩,
   ⟨some 129,none,.ixa 1 (.t 116) (.t 117)⟩,
   ⟨none,none,.st 1 (.t 129) (.t 128)⟩]) (
 .skip)))))) (
.reg [⟨some 130,none,.bin .add (.t 97) (.c (.int .i64 1))⟩,⟨some 97,none,.mov (.t 130)⟩])))
def c137 : Fnc := ⟨[.t 4,.t 5],
.seq (
.reg [⟨some 4,none,.mov (.c (.nils))⟩,⟨some 5,none,.mov (.c (.nils))⟩]) (
.seq (
.seq (
.reg [⟨some 16,none,.mov (.t 0)⟩,⟨some 17,none,.mov (.t 1)⟩,⟨some 18,none,.call .pure (.c (.fn (.f 158) [] [])) [.t 16,.t 17]⟩,⟨some 19,none,.bin .lss (.t 18) (.c (.int .i64 0))⟩]) (
.cond (.t 19) (
 .seq (
 .reg [⟨some 20,none,.mov (.t 0)⟩,
   ⟨some 4,none,.mov (.c (.nils))⟩,
   ⟨some 5,none,.mov (.t 20)⟩]) (
 .ret)) (
 .skip))) (
.seq (
.seq (
.reg [⟨some 21,none,.mov (.t 1)⟩,⟨some 22,none,.len 1 (.t 21)⟩,⟨some 23,none,.bin .eql (.t 22) (.c (.int .i64 1))⟩]) (
.cond (.t 23) (
 .seq (
 .reg [⟨some 24,none,.mov (.t 0)⟩,
   ⟨some 25,none,.len 1 (.t 24)⟩,
   ⟨some 26,none,.mks 1 8 [.int .u64 0] (.t 25) (.t 25)⟩,
   ⟨some 6,none,.mov (.t 26)⟩]) (
 .seq (
 .reg [⟨some 7,none,.mov (.c (.int .u64 0))⟩]) (
 .seq (
 .seq (
 .reg [⟨some 27,none,.mov (.t 0)⟩,
   ⟨some 28,none,.len 1 (.t 27)⟩,
   ⟨some 29,none,.bin .sub (.t 28) (.c (.int .i64 1))⟩,
   ⟨some 8,none,.mov (.t 29)⟩]) (
 .seq (
 .blk 0 (
 .loop [0,1,6,7,8] c137_0)) (
 .kp [6,7]))) (
 .seq (
 .reg [⟨some 49,none,.mov (.t 6)⟩,
   ⟨some 50,none,.call .pure (.c (.fn (.f 166) [] [])) [.t 49]⟩,
   ⟨some 51,none,.mov (.t 7)⟩,
   ⟨some 52,none,.mksl 1 1 [.int .u64 0] [(0,1,(.t 51))]⟩,
   ⟨some 53,none,.call .pure (.c (.fn (.f 166) [] [])) [.t 52]⟩,
   ⟨some 4,none,.mov (.t 50)⟩,
   ⟨some 5,none,.mov (.t 53)⟩]) (
 .ret))))) (
 .skip))) (
.seq (
.reg [⟨some 54,none,.mov (.t 1)⟩,⟨some 55,none,.mov (.t 1)⟩,⟨some 56,none,.len 1 (.t 55)⟩,⟨some 57,none,.bin .sub (.t 56) (.c (.int .i64 1))⟩,⟨some 58,none,.ixa 1 (.t 54) (.t 57)⟩,⟨some 59,none,.ld 1 false (.t 58)⟩,⟨some 60,none,.call .pure (.c (.fn (.f 167) [] [])) [.t 59]⟩,⟨some 9,none,.mov (.t 60)⟩]) (
.seq (
.reg [⟨some 61,none,.mov (.t 1)⟩,⟨some 62,none,.mov (.t 9)⟩,⟨some 63,none,.call .own (.c (.fn (.f 168) [] [])) [.t 61,.t 62]⟩,⟨some 64,none,.call .pure (.c (.fn (.f 166) [] [])) [.t 63]⟩,⟨some 10,none,.mov (.t 64)⟩]) (
.seq (
.reg [⟨some 65,none,.mov (.t 0)⟩,⟨some 66,none,.mov (.t 9)⟩,⟨some 67,none,.call .own (.c (.fn (.f 168) [] [])) [.t 65,.t 66]⟩,⟨some 11,none,.mov (.t 67)⟩]) (
.seq (
.reg [⟨some 68,none,.mov (.t 10)⟩,⟨some 69,none,.len 1 (.t 68)⟩,⟨some 12,none,.mov (.t 69)⟩]) (
.seq (
.reg [⟨some 70,none,.mov (.t 0)⟩,⟨some 71,none,.len 1 (.t 70)⟩,⟨some 72,none,.mov (.t 12)⟩,⟨some 73,none,.bin .sub (.t 71) (.t 72)⟩,⟨some 74,none,.bin .add (.t 73) (.c (.int .i64 1))⟩,⟨some 75,none,.mks 1 8 [.int .u64 0] (.t 74) (.t 74)⟩,⟨some 13,none,.mov (.t 75)⟩]) (
.seq (
.seq (
.reg [⟨some 76,none,.mov (.t 0)⟩,⟨some 77,none,.len 1 (.t 76)⟩,⟨some 78,none,.mov (.t 12)⟩,⟨some 79,none,.bin .sub (.t 77) (.t 78)⟩,⟨some 14,none,.mov (.t 79)⟩]) (
.seq (
.blk 2 (
.loop [9,10,11,12,13,14] c137_1)) (
.kp [9,11,12,13]))) (
.seq (
.seq (
.reg [⟨some 96,none,.mov (.t 12)⟩,⟨some 97,none,.mov (.c (.int .i64 0))⟩]) (
.seq (
.blk 4 (
.loop [9,11,12,13,96,97] c137_2)) (
.kp [11,12,13]))) (
.seq (
.reg [⟨some 131,none,.mov (.t 13)⟩,⟨some 132,none,.call .pure (.c (.fn (.f 166) [] [])) [.t 131]⟩,⟨some 133,none,.mov (.t 11)⟩,⟨some 134,none,.mov (.t 12)⟩,⟨some 135,none,.sli (.sl 1) (.t 133) none (some (.t 134))⟩,⟨some 136,none,.call .pure (.c (.fn (.f 166) [] [])) [.t 135]⟩,⟨some 4,none,.mov (.t 132)⟩,⟨some 5,none,.mov (.t 136)⟩]) (
.ret)))))))))))⟩
/- (*strings.Builder).WriteString -/
def c140 : Fnc := ⟨[.t 4,.t 5],
.seq (
.reg [⟨some 4,none,.mov (.c (.int .i64 0))⟩,⟨some 5,none,.mov (.c (.undef))⟩]) (
.seq (
.reg [⟨some 6,none,.mov (.t 0)⟩,⟨some 7,none,.call .pure (.c (.fn (.f 170) [] [])) [.t 6]⟩]) (
.seq (
.reg [⟨some 8,none,.mov (.t 0)⟩,⟨some 9,none,.mov (.t 0)⟩,⟨some 10,none,.nilc (.t 9)⟩,⟨some 11,none,.off 1 (.t 10)⟩,⟨some 12,none,.ld 1 false (.t 11)⟩,⟨some 13,none,.mov (.t 1)⟩,⟨some 14,none,.app 1 1 (.t 12) (.t 13)⟩,⟨some 15,none,.nilc (.t 8)⟩,⟨some 16,none,.off 1 (.t 15)⟩,⟨none,none,.st 1 (.t 16) (.t 14)⟩]) (
.seq (
.reg [⟨some 17,none,.mov (.t 1)⟩,⟨some 18,none,.len 0 (.t 17)⟩,⟨some 4,none,.mov (.t 18)⟩,⟨some 5,none,.mov (.c (.undef))⟩]) (
.ret))))⟩
/- (*strings.Builder).String -/
def c141 : Fnc := ⟨[.t 2],
.seq (
.reg [⟨some 2,none,.mov (.c (.str []))⟩]) (
.seq (
.reg [⟨some 3,none,.mov (.t 0)⟩,⟨some 4,none,.nilc (.t 3)⟩,⟨some 5,none,.off 1 (.t 4)⟩,⟨some 6,none,.ld 1 false (.t 5)⟩,⟨some 7,none,.call .pure (.c (.undef)) []⟩,⟨some 8,none,.mov (.t 0)⟩,⟨some 9,none,.nilc (.t 8)⟩,⟨some 10,none,.off 1 (.t 9)⟩,⟨some 11,none,.ld 1 false (.t 10)⟩,⟨some 12,none,.len 1 (.t 11)⟩,⟨some 13,none,.call .pure (.c (.undef)) []⟩,⟨some 2,none,.mov (.t 13)⟩]) (
.ret))⟩
/- lenslet/num.size -/
def c142 : Fnc := ⟨[.t 2],
.seq (
.reg [⟨some 2,none,.mov (.c (.int .u64 0))⟩]) (
.seq (
.seq (
.reg [⟨some 3,none,.mov (.t 0)⟩,⟨some 4,none,.bin .lss (.t 3) (.c (.int .i64 0))⟩]) (
.cond (.t 4) (
 .seq (
 .reg [⟨some 5,none,.mov (.t 0)⟩,
   ⟨some 6,none,.un .neg (.t 5)⟩,
   ⟨some 7,none,.cv (.toInt .u64) (.t 6)⟩,
   ⟨some 2,none,.mov (.t 7)⟩]) (
 .ret)) (
 .skip))) (
.seq (
.reg [⟨some 8,none,.mov (.t 0)⟩,⟨some 9,none,.cv (.toInt .u64) (.t 8)⟩,⟨some 2,none,.mov (.t 9)⟩]) (
.ret)))⟩
/- lenslet/num.mulWords -/
def c144_0 : VC :=
.seq (
.reg [⟨some 30,none,.bin .lss (.t 29) (.t 28)⟩]) (
.seq (
.cond (.t 30) (
 .skip) (
 .exit 2)) (
.seq (
.blk 3 (
.seq (
.reg [⟨some 31,none,.mov (.t 29)⟩,⟨some 32,none,.ixa 1 (.t 27) (.t 29)⟩,⟨some 33,none,.ld 1 false (.t 32)⟩,⟨some 9,none,.mov (.t 31)⟩,⟨some 10,none,.mov (.t 33)⟩]) (
.seq (
.reg [⟨some 35,none,.mov (.t 7)⟩,⟨some 36,none,.mov (.t 10)⟩,⟨some 37,none,.call .pure (.c (.fn (.f 143) [] [])) [.t 35,.t 36]⟩,⟨some 34,none,.mov (.t 37)⟩,⟨some 38,none,.ext 0 (.t 34)⟩,⟨some 39,none,.ext 1 (.t 34)⟩,⟨some 11,none,.mov (.t 38)⟩,⟨some 12,none,.mov (.t 39)⟩]) (
.seq (
.reg [⟨some 13,none,.mov (.c (.int .u64 0))⟩]) (
.seq (
.reg [⟨some 41,none,.mov (.t 12)⟩,⟨some 42,none,.mov (.t 5)⟩,⟨some 43,none,.mov (.t 6)⟩,⟨some 44,none,.mov (.t 9)⟩,⟨some 45,none,.bin .add (.t 43) (.t 44)⟩,⟨some 46,none,.ixa 1 (.t 42) (.t 45)⟩,⟨some 47,none,.ld 1 false (.t 46)⟩,⟨some 48,none,.call .pure (.c (.fn (.f 171) [] [])) [.t 41,.t 47,.c (.int .u64 0)]⟩,⟨some 40,none,.mov (.t 48)⟩,⟨some 49,none,.ext 0 (.t 40)⟩,⟨some 50,none,.ext 1 (.t 40)⟩,⟨some 12,none,.mov (.t 49)⟩,⟨some 13,none,.mov (.t 50)⟩]) (
.seq (
.reg [⟨some 51,none,.mov (.t 11)⟩,⟨some 52,none,.mov (.t 13)⟩,⟨some 53,none,.bin .add (.t 51) (.t 52)⟩,⟨some 11,none,.mov (.t 53)⟩]) (
.seq (
.reg [⟨some 55,none,.mov (.t 12)⟩,⟨some 56,none,.mov (.t 8)⟩,⟨some 57,none,.call .pure (.c (.fn (.f 171) [] [])) [.t 55,.t 56,.c (.int .u64 0)]⟩,⟨some 54,none,.mov (.t 57)⟩,⟨some 58,none,.ext 0 (.t 54)⟩,⟨some 59,none,.ext 1 (.t 54)⟩,⟨some 12,none,.mov (.t 58)⟩,⟨some 13,none,.mov (.t 59)⟩]) (
.reg [⟨some 60,none,.mov (.t 5)⟩,⟨some 61,none,.mov (.t 6)⟩,⟨some 62,none,.mov (.t 9)⟩,⟨some 63,none,.bin .add (.t 61) (.t 62)⟩,⟨some 64,none,.mov (.t 12)⟩,⟨some 65,none,.mov (.t 11)⟩,⟨some 66,none,.mov (.t 13)⟩,⟨some 67,none,.bin .add (.t 65) (.t 66)⟩,⟨some 68,none,.ixa 1 (.t 60) (.t 63)⟩,⟨none,none,.st 1 (.t 68) (.t 64)⟩,⟨some 8,none,.mov (.t 67)⟩])))))))) (
.reg [⟨some 69,none,.bin .add (.t 29) (.c (.int .i64 1))⟩,⟨some 29,none,.mov (.t 69)⟩])))
def c144_1 : VC :=
.seq (
.reg [⟨some 23,none,.bin .lss (.t 22) (.t 21)⟩]) (
.seq (
.cond (.t 23) (
 .skip) (
 .exit 0)) (
.seq (
.blk 1 (
.seq (
.reg [⟨some 24,none,.mov (.t 22)⟩,⟨some 25,none,.ixa 1 (.t 20) (.t 22)⟩,⟨some 26,none,.ld 1 false (.t 25)⟩,⟨some 6,none,.mov (.t 24)⟩,⟨some 7,none,.mov (.t 26)⟩]) (
.seq (
.reg [⟨some 8,none,.mov (.c (.int .u64 0))⟩]) (
.seq (
.seq (
.reg [⟨some 27,none,.mov (.t 1)⟩,⟨some 28,none,.len 1 (.t 27)⟩,⟨some 29,none,.mov (.c (.int .i64 0))⟩]) (
.seq (
.blk 2 (
.loop [1,5,6,7,8,20,21,22,27,28,29] c144_0)) (
.kp [1,5,6,8,20,21,22]))) (
.reg [⟨some 70,none,.mov (.t 5)⟩,⟨some 71,none,.mov (.t 6)⟩,⟨some 72,none,.mov (.t 1)⟩,⟨some 73,none,.len 1 (.t 72)⟩,⟨some 74,none,.bin .add (.t 71) (.t 73)⟩,⟨some 75,none,.mov (.t 8)⟩,⟨some 76,none,.ixa 1 (.t 70) (.t 74)⟩,⟨none,none,.st 1 (.t 76) (.t 75)⟩]))))) (
.reg [⟨some 77,none,.bin .add (.t 22) (.c (.int .i64 1))⟩,⟨some 22,none,.mov (.t 77)⟩])))
def c144 : Fnc := ⟨[.t 4],
.seq (
.reg [⟨some 4,none,.mov (.c (.nils))⟩]) (
.seq (
.reg [⟨some 14,none,.mov (.t 0)⟩,⟨some 15,none,.len 1 (.t 14)⟩,⟨some 16,none,.mov (.t 1)⟩,⟨some 17,none,.len 1 (.t 16)⟩,⟨some 18,none,.bin .add (.t 15) (.t 17)⟩,⟨some 19,none,.mks 1 8 [.int .u64 0] (.t 18) (.t 18)⟩,⟨some 5,none,.mov (.t 19)⟩]) (
.seq (
.seq (
.reg [⟨some 20,none,.mov (.t 0)⟩,⟨some 21,none,.len 1 (.t 20)⟩,⟨some 22,none,.mov (.c (.int .i64 0))⟩]) (
.seq (
.blk 0 (
.loop [1,5,20,21,22] c144_1)) (
.kp [5]))) (
.seq (
.reg [⟨some 78,none,.mov (.t 5)⟩,⟨some 79,none,.call .pure (.c (.fn (.f 166) [] [])) [.t 78]⟩,⟨some 4,none,.mov (.t 79)⟩]) (
.ret))))⟩
/- lenslet/num.made -/
def c145 : Fnc := ⟨[.cell 4 2 true],
.seq (
.reg [⟨some 4,none,.box 2 (.c (.agg [.int .i64 0,.nils]))⟩]) (
.seq (
.blk 0 (
.seq (
.reg [⟨some 6,none,.mov (.t 1)⟩,⟨some 7,none,.len 1 (.t 6)⟩,⟨some 8,none,.bin .eql (.t 7) (.c (.int .i64 0))⟩,⟨some 5,none,.mov (.t 8)⟩]) (
.cond (.t 5) (
 .seq (
 .reg [⟨some 9,none,.mkagg [.int .i64 0,.nils] []⟩,
   ⟨none,none,.st 2 (.t 4) (.t 9)⟩]) (
 .ret)) (
 .seq (
 .reg [⟨some 11,none,.mov (.t 1)⟩,
   ⟨some 12,none,.len 1 (.t 11)⟩,
   ⟨some 13,none,.bin .eql (.t 12) (.c (.int .i64 1))⟩,
   ⟨some 14,none,.mov (.t 13)⟩,
   ⟨some 15,some (14,true),.mov (.t 1)⟩,
   ⟨some 16,some (14,true),.ixa 1 (.t 15) (.c (.int .i64 0))⟩,
   ⟨some 17,some (14,true),.ld 1 false (.t 16)⟩,
   ⟨some 18,some (14,true),.bin .leq (.t 17) (.c (.int .u64 9223372036854775807))⟩,
   ⟨some 19,none,.pick (.t 14) (.t 18) (.c (.bool false))⟩,
   ⟨some 20,none,.mov (.t 19)⟩,
   ⟨some 21,some (20,true),.mov (.t 0)⟩,
   ⟨some 22,none,.pick (.t 20) (.t 21) (.c (.bool false))⟩,
   ⟨some 10,none,.mov (.t 22)⟩]) (
 .cond (.t 10) (
  .seq (
  .reg [⟨some 23,none,.mov (.t 1)⟩,
    ⟨some 24,none,.ixa 1 (.t 23) (.c (.int .i64 0))⟩,
    ⟨some 25,none,.ld 1 false (.t 24)⟩,
    ⟨some 26,none,.cv (.toInt .i64) (.t 25)⟩,
    ⟨some 27,none,.un .neg (.t 26)⟩,
    ⟨some 28,none,.mkagg [.int .i64 0,.nils] [(0,1,(.t 27))]⟩,
    ⟨none,none,.st 2 (.t 4) (.t 28)⟩]) (
  .ret)) (
  .seq (
  .reg [⟨some 30,none,.mov (.t 1)⟩,
    ⟨some 31,none,.len 1 (.t 30)⟩,
    ⟨some 32,none,.bin .eql (.t 31) (.c (.int .i64 1))⟩,
    ⟨some 33,none,.mov (.t 32)⟩,
    ⟨some 34,some (33,true),.mov (.t 1)⟩,
    ⟨some 35,some (33,true),.ixa 1 (.t 34) (.c (.int .i64 0))⟩,
    ⟨some 36,some (33,true),.ld 1 false (.t 35)⟩,
    ⟨some 37,some (33,true),.bin .leq (.t 36) (.c (.int .u64 9223372036854775807))⟩,
    ⟨some 38,none,.pick (.t 33) (.t 37) (.c (.bool false))⟩,
    ⟨some 29,none,.mov (.t 38)⟩]) (
  .cond (.t 29) (
   .seq (
   .reg [⟨some 39,none,.mov (.t 1)⟩,
     ⟨some 40,none,.ixa 1 (.t 39) (.c (.int .i64 0))⟩,
     ⟨some 41,none,.ld 1 false (.t 40)⟩,
     ⟨some 42,none,.cv (.toInt .i64) (.t 41)⟩,
     ⟨some 43,none,.mkagg [.int .i64 0,.nils] [(0,1,(.t 42))]⟩,
     ⟨none,none,.st 2 (.t 4) (.t 43)⟩]) (
   .ret)) (
   .seq (
   .reg [⟨some 45,none,.mov (.t 0)⟩,
     ⟨some 44,none,.mov (.t 45)⟩]) (
   .cond (.t 44) (
    .seq (
    .reg [⟨some 46,none,.mov (.t 1)⟩,
      ⟨some 47,none,.mkagg [.int .i64 0,.nils] [(0,1,(.c (.int .i64 (-1)))),(1,1,(.t 46))]⟩,
      ⟨none,none,.st 2 (.t 4) (.t 47)⟩]) (
    .ret)) (
    .skip)))))))))) (
.seq (
.reg [⟨some 48,none,.mov (.t 1)⟩,⟨some 49,none,.mkagg [.int .i64 0,.nils] [(0,1,(.c (.int .i64 1))),(1,1,(.t 48))]⟩,⟨none,none,.st 2 (.t 4) (.t 49)⟩]) (
.ret)))⟩
/- (lenslet/num.Int).Sign -/
def c146 : Fnc := ⟨[.t 2],
.seq (
.reg [⟨some 1,none,.box 2 (.t 0)⟩,⟨some 2,none,.mov (.c (.int .i64 0))⟩]) (
.seq (
.reg [⟨some 3,none,.off 0 (.t 1)⟩,⟨some 4,none,.ld 1 false (.t 3)⟩,⟨some 5,none,.mn [.c (.int .i64 1),.t 4]⟩,⟨some 6,none,.mx [.c (.int .i64 (-1)),.t 5]⟩,⟨some 2,none,.mov (.t 6)⟩]) (
.ret))⟩
/- (lenslet/num.Int).Neg -/
def c147 : Fnc := ⟨[.cell 2 2 true],
.seq (
.reg [⟨some 1,none,.box 2 (.t 0)⟩,⟨some 2,none,.box 2 (.c (.agg [.int .i64 0,.nils]))⟩]) (
.seq (
.seq (
.reg [⟨some 5,none,.off 1 (.t 1)⟩,⟨some 6,none,.ld 1 false (.t 5)⟩,⟨some 7,none,.eq false .sl (.t 6) (.c (.nils))⟩,⟨some 8,none,.mov (.t 7)⟩,⟨some 9,some (8,true),.off 0 (.t 1)⟩,⟨some 10,some (8,true),.ld 1 false (.t 9)⟩,⟨some 11,some (8,true),.bin .neq (.t 10) (.c (.int .i64 (-9223372036854775808)))⟩,⟨some 12,none,.pick (.t 8) (.t 11) (.c (.bool false))⟩]) (
.cond (.t 12) (
 .seq (
 .reg [⟨some 13,none,.off 0 (.t 1)⟩,
   ⟨some 14,none,.ld 1 false (.t 13)⟩,
   ⟨some 15,none,.un .neg (.t 14)⟩,
   ⟨some 16,none,.mkagg [.int .i64 0,.nils] [(0,1,(.t 15))]⟩,
   ⟨none,none,.st 2 (.t 2) (.t 16)⟩]) (
 .ret)) (
 .skip))) (
.seq (
.reg [⟨some 18,none,.ld 2 true (.t 1)⟩,⟨some 19,none,.call .pure (.c (.fn (.f 136) [] [])) [.t 18]⟩,⟨some 17,none,.mov (.t 19)⟩,⟨some 20,none,.ext 0 (.t 17)⟩,⟨some 21,none,.ext 1 (.t 17)⟩,⟨some 3,none,.mov (.t 20)⟩,⟨some 4,none,.mov (.t 21)⟩]) (
.seq (
.reg [⟨some 22,none,.mov (.t 3)⟩,⟨some 23,none,.un .not (.t 22)⟩,⟨some 24,none,.mov (.t 4)⟩,⟨some 25,none,.call .pure (.c (.fn (.f 145) [] [])) [.t 23,.t 24]⟩,⟨none,none,.st 2 (.t 2) (.t 25)⟩]) (
.ret))))⟩
/- (lenslet/num.Int).Quo -/
def c148 : Fnc := ⟨[.cell 4 2 true],
.seq (
.reg [⟨some 2,none,.box 2 (.t 0)⟩,⟨some 3,none,.box 2 (.t 1)⟩,⟨some 4,none,.box 2 (.c (.agg [.int .i64 0,.nils]))⟩]) (
.seq (
.seq (
.reg [⟨some 7,none,.ld 2 true (.t 3)⟩,⟨some 8,none,.call .pure (.c (.fn (.f 146) [] [])) [.t 7]⟩,⟨some 9,none,.bin .lss (.t 8) (.c (.int .i64 0))⟩]) (
.cond (.t 9) (
 .reg [⟨some 10,none,.ld 2 true (.t 2)⟩,
   ⟨some 11,none,.call .pure (.c (.fn (.f 147) [] [])) [.t 10]⟩,
   ⟨some 12,none,.ld 2 true (.t 3)⟩,
   ⟨some 13,none,.call .pure (.c (.fn (.f 147) [] [])) [.t 12]⟩,
   ⟨none,none,.st 2 (.t 2) (.t 11)⟩,
   ⟨none,none,.st 2 (.t 3) (.t 13)⟩]) (
 .skip))) (
.seq (
.reg [⟨some 15,none,.ld 2 true (.t 2)⟩,⟨some 16,none,.ld 2 true (.t 3)⟩,⟨some 17,none,.call .pure (.c (.fn (.f 164) [] [])) [.t 15,.t 16]⟩,⟨some 14,none,.mov (.t 17)⟩,⟨some 18,none,.ext 0 (.t 14)⟩,⟨some 19,none,.ext 1 (.t 14)⟩,⟨some 5,none,.box 2 (.c (.agg [.int .i64 0,.nils]))⟩,⟨some 6,none,.box 2 (.c (.agg [.int .i64 0,.nils]))⟩,⟨none,none,.st 2 (.t 5) (.t 18)⟩,⟨none,none,.st 2 (.t 6) (.t 19)⟩]) (
.seq (
.reg [⟨some 20,none,.ld 2 true (.t 5)⟩,⟨none,none,.st 2 (.t 4) (.t 20)⟩]) (
.ret))))⟩
/- (lenslet/num.Frac).Floor -/
def c149 : Fnc := ⟨[.cell 2 2 true],
.seq (
.reg [⟨some 1,none,.box 4 (.t 0)⟩,⟨some 2,none,.box 2 (.c (.agg [.int .i64 0,.nils]))⟩]) (
.seq (
.reg [⟨some 6,none,.off 0 (.t 1)⟩,⟨some 7,none,.ld 2 true (.t 6)⟩,⟨some 8,none,.off 2 (.t 1)⟩,⟨some 9,none,.ld 2 true (.t 8)⟩,⟨some 10,none,.call .pure (.c (.fn (.f 164) [] [])) [.t 7,.t 9]⟩,⟨some 5,none,.mov (.t 10)⟩,⟨some 11,none,.ext 0 (.t 5)⟩,⟨some 12,none,.ext 1 (.t 5)⟩,⟨some 3,none,.box 2 (.c (.agg [.int .i64 0,.nils]))⟩,⟨some 4,none,.box 2 (.c (.agg [.int .i64 0,.nils]))⟩,⟨none,none,.st 2 (.t 3) (.t 11)⟩,⟨none,none,.st 2 (.t 4) (.t 12)⟩]) (
.seq (
.reg [⟨some 13,none,.ld 2 true (.t 3)⟩,⟨none,none,.st 2 (.t 2) (.t 13)⟩]) (
.ret)))⟩
/- (lenslet/num.Int).Small -/
def c150 : Fnc := ⟨[.t 2,.t 3],
.seq (
.reg [⟨some 1,none,.box 2 (.t 0)⟩,⟨some 2,none,.mov (.c (.int .i64 0))⟩,⟨some 3,none,.mov (.c (.bool false))⟩]) (
.seq (
.reg [⟨some 4,none,.off 0 (.t 1)⟩,⟨some 5,none,.ld 1 false (.t 4)⟩,⟨some 6,none,.off 1 (.t 1)⟩,⟨some 7,none,.ld 1 false (.t 6)⟩,⟨some 8,none,.eq false .sl (.t 7) (.c (.nils))⟩,⟨some 2,none,.mov (.t 5)⟩,⟨some 3,none,.mov (.t 8)⟩]) (
.ret))⟩
/- lenslet/num.long -/
def c151 : Fnc := ⟨[.t 2],
.seq (
.reg [⟨some 1,none,.box 2 (.t 0)⟩,⟨some 2,none,.mov (.c (.bool false))⟩]) (
.seq (
.reg [⟨some 3,none,.ld 2 true (.t 1)⟩,⟨some 4,none,.call .pure (.c (.fn (.f 172) [] [])) [.t 3]⟩,⟨some 5,none,.bin .gtr (.t 4) (.c (.int .i64 1800))⟩,⟨some 6,none,.mov (.t 5)⟩,⟨some 7,some (6,true),.ld 2 true (.t 1)⟩,⟨some 8,some (6,true),.call .pure (.c (.fn (.f 99) [] [])) [.t 7]⟩,⟨some 9,some (6,true),.call .pure (.c (.fn (.f 153) [] [])) [.t 8,.c (.str [45])]⟩,⟨some 10,some (6,true),.len 0 (.t 9)⟩,⟨some 11,some (6,true),.bin .gtr (.t 10) (.c (.int .i64 600))⟩,⟨some 12,none,.pick (.t 6) (.t 11) (.c (.bool false))⟩,⟨some 2,none,.mov (.t 12)⟩]) (
.ret))⟩
/- (lenslet/num.Int).Pow -/
def c155_0 : VC :=
.seq (
.seq (
.reg [⟨some 7,none,.mov (.t 1)⟩,⟨some 8,none,.bin .gtr (.t 7) (.c (.int .i64 0))⟩]) (
.cond (.t 8) (
 .skip) (
 .exit 0))) (
.seq (
.blk 1 (
.seq (
.seq (
.reg [⟨some 11,none,.mov (.t 1)⟩,⟨some 12,none,.bin .and (.t 11) (.c (.int .i64 1))⟩,⟨some 13,none,.bin .eql (.t 12) (.c (.int .i64 1))⟩]) (
.cond (.t 13) (
 .reg [⟨some 14,none,.ld 2 true (.t 5)⟩,
   ⟨some 15,none,.ld 2 true (.t 2)⟩,
   ⟨some 16,none,.call .pure (.c (.fn (.f 100) [] [])) [.t 14,.t 15]⟩,
   ⟨none,none,.st 2 (.t 5) (.t 16)⟩]) (
 .skip))) (
.seq (
.reg [⟨some 17,none,.mov (.t 1)⟩,⟨some 18,none,.bin .gtr (.t 17) (.c (.int .i64 1))⟩]) (
.cond (.t 18) (
 .reg [⟨some 19,none,.ld 2 true (.t 2)⟩,
   ⟨some 20,none,.ld 2 true (.t 2)⟩,
   ⟨some 21,none,.call .pure (.c (.fn (.f 100) [] [])) [.t 19,.t 20]⟩,
   ⟨none,none,.st 2 (.t 2) (.t 21)⟩]) (
 .skip))))) (
.reg [⟨some 9,none,.mov (.t 1)⟩,⟨some 10,none,.bin .shr (.t 9) (.c (.int .u64 1))⟩,⟨some 1,none,.mov (.t 10)⟩]))
def c155 : Fnc := ⟨[.cell 4 2 true],
.seq (
.reg [⟨some 2,none,.box 2 (.t 0)⟩,⟨some 4,none,.box 2 (.c (.agg [.int .i64 0,.nils]))⟩]) (
.seq (
.reg [⟨some 6,none,.call .pure (.c (.fn (.f 117) [] [])) [.c (.int .i64 1)]⟩,⟨some 5,none,.box 2 (.c (.agg [.int .i64 0,.nils]))⟩,⟨none,none,.st 2 (.t 5) (.t 6)⟩]) (
.seq (
.seq (
.blk 0 (
.loop [1,2,4,5] c155_0)) (
.kp [4,5])) (
.seq (
.reg [⟨some 22,none,.ld 2 true (.t 5)⟩,⟨none,none,.st 2 (.t 4) (.t 22)⟩]) (
.ret))))⟩
/- (lenslet/num.Int).Sub -/
def c156 : Fnc := ⟨[.cell 4 2 true],
.seq (
.reg [⟨some 2,none,.box 2 (.t 0)⟩,⟨some 3,none,.box 2 (.t 1)⟩,⟨some 4,none,.box 2 (.c (.agg [.int .i64 0,.nils]))⟩]) (
.seq (
.reg [⟨some 5,none,.ld 2 true (.t 2)⟩,⟨some 6,none,.ld 2 true (.t 3)⟩,⟨some 7,none,.call .pure (.c (.fn (.f 147) [] [])) [.t 6]⟩,⟨some 8,none,.call .pure (.c (.fn (.f 119) [] [])) [.t 5,.t 7]⟩,⟨none,none,.st 2 (.t 4) (.t 8)⟩]) (
.ret))⟩
/- lenslet/num.addWords -/
def c157_0 : VC :=
.seq (
.reg [⟨some 23,none,.bin .lss (.t 22) (.t 21)⟩]) (
.seq (
.cond (.t 23) (
 .skip) (
 .exit 0)) (
.seq (
.blk 1 (
.seq (
.reg [⟨some 24,none,.mov (.t 22)⟩,⟨some 7,none,.mov (.t 24)⟩]) (
.seq (
.reg [⟨some 8,none,.mov (.c (.int .u64 0))⟩]) (
.seq (
.seq (
.reg [⟨some 25,none,.mov (.t 7)⟩,⟨some 26,none,.mov (.t 1)⟩,⟨some 27,none,.len 1 (.t 26)⟩,⟨some 28,none,.bin .lss (.t 25) (.t 27)⟩]) (
.cond (.t 28) (
 .reg [⟨some 29,none,.mov (.t 1)⟩,
   ⟨some 30,none,.mov (.t 7)⟩,
   ⟨some 31,none,.ixa 1 (.t 29) (.t 30)⟩,
   ⟨some 32,none,.ld 1 false (.t 31)⟩,
   ⟨some 8,none,.mov (.t 32)⟩]) (
 .skip))) (
.reg [⟨some 34,none,.mov (.t 5)⟩,⟨some 35,none,.mov (.t 7)⟩,⟨some 36,none,.mov (.t 0)⟩,⟨some 37,none,.mov (.t 7)⟩,⟨some 38,none,.ixa 1 (.t 36) (.t 37)⟩,⟨some 39,none,.ld 1 false (.t 38)⟩,⟨some 40,none,.mov (.t 8)⟩,⟨some 41,none,.mov (.t 6)⟩,⟨some 42,none,.call .pure (.c (.fn (.f 171) [] [])) [.t 39,.t 40,.t 41]⟩,⟨some 33,none,.mov (.t 42)⟩,⟨some 43,none,.ext 0 (.t 33)⟩,⟨some 44,none,.ext 1 (.t 33)⟩,⟨some 45,none,.ixa 1 (.t 34) (.t 35)⟩,⟨none,none,.st 1 (.t 45) (.t 43)⟩,⟨some 6,none,.mov (.t 44)⟩]))))) (
.reg [⟨some 46,none,.bin .add (.t 22) (.c (.int .i64 1))⟩,⟨some 22,none,.mov (.t 46)⟩])))
def c157 : Fnc := ⟨[.t 4],
.seq (
.reg [⟨some 4,none,.mov (.c (.nils))⟩]) (
.seq (
.seq (
.reg [⟨some 9,none,.mov (.t 0)⟩,⟨some 10,none,.len 1 (.t 9)⟩,⟨some 11,none,.mov (.t 1)⟩,⟨some 12,none,.len 1 (.t 11)⟩,⟨some 13,none,.bin .lss (.t 10) (.t 12)⟩]) (
.cond (.t 13) (
 .reg [⟨some 14,none,.mov (.t 1)⟩,
   ⟨some 15,none,.mov (.t 0)⟩,
   ⟨some 0,none,.mov (.t 14)⟩,
   ⟨some 1,none,.mov (.t 15)⟩]) (
 .skip))) (
.seq (
.reg [⟨some 16,none,.mov (.t 0)⟩,⟨some 17,none,.len 1 (.t 16)⟩,⟨some 18,none,.bin .add (.t 17) (.c (.int .i64 1))⟩,⟨some 19,none,.mks 1 8 [.int .u64 0] (.t 18) (.t 18)⟩,⟨some 5,none,.mov (.t 19)⟩]) (
.seq (
.reg [⟨some 6,none,.mov (.c (.int .u64 0))⟩]) (
.seq (
.seq (
.reg [⟨some 20,none,.mov (.t 0)⟩,⟨some 21,none,.len 1 (.t 20)⟩,⟨some 22,none,.mov (.c (.int .i64 0))⟩]) (
.seq (
.blk 0 (
.loop [0,1,5,6,21,22] c157_0)) (
.kp [0,5,6]))) (
.seq (
.reg [⟨some 47,none,.mov (.t 5)⟩,⟨some 48,none,.mov (.t 0)⟩,⟨some 49,none,.len 1 (.t 48)⟩,⟨some 50,none,.mov (.t 6)⟩,⟨some 51,none,.ixa 1 (.t 47) (.t 49)⟩,⟨none,none,.st 1 (.t 51) (.t 50)⟩]) (
.seq (
.reg [⟨some 52,none,.mov (.t 5)⟩,⟨some 53,none,.call .pure (.c (.fn (.f 166) [] [])) [.t 52]⟩,⟨some 4,none,.mov (.t 53)⟩]) (
.ret)))))))⟩
/- lenslet/num.compareWords -/
def c158_0 : VC :=
.seq (
.seq (
.reg [⟨some 19,none,.mov (.t 5)⟩,⟨some 20,none,.bin .geq (.t 19) (.c (.int .i64 0))⟩]) (
.cond (.t 20) (
 .skip) (
 .exit 0))) (
.seq (
.blk 1 (
.seq (
.reg [⟨some 23,none,.mov (.t 0)⟩,⟨some 24,none,.mov (.t 5)⟩,⟨some 25,none,.ixa 1 (.t 23) (.t 24)⟩,⟨some 26,none,.ld 1 false (.t 25)⟩,⟨some 27,none,.mov (.t 1)⟩,⟨some 28,none,.mov (.t 5)⟩,⟨some 29,none,.ixa 1 (.t 27) (.t 28)⟩,⟨some 30,none,.ld 1 false (.t 29)⟩,⟨some 31,none,.bin .neq (.t 26) (.t 30)⟩]) (
.cond (.t 31) (
 .seq (
 .seq (
 .reg [⟨some 32,none,.mov (.t 0)⟩,
   ⟨some 33,none,.mov (.t 5)⟩,
   ⟨some 34,none,.ixa 1 (.t 32) (.t 33)⟩,
   ⟨some 35,none,.ld 1 false (.t 34)⟩,
   ⟨some 36,none,.mov (.t 1)⟩,
   ⟨some 37,none,.mov (.t 5)⟩,
   ⟨some 38,none,.ixa 1 (.t 36) (.t 37)⟩,
   ⟨some 39,none,.ld 1 false (.t 38)⟩,
   ⟨some 40,none,.bin .lss (.t 35) (.t 39)⟩]) (
 .cond (.t 40) (
  .seq (
  .reg [⟨some 4,none,.mov (.c (.int .i64 (-1)))⟩]) (
  .ret)) (
  .skip))) (
 .seq (
 .reg [⟨some 4,none,.mov (.c (.int .i64 1))⟩]) (
 .ret))) (
 .skip)))) (
.reg [⟨some 21,none,.mov (.t 5)⟩,⟨some 22,none,.bin .sub (.t 21) (.c (.int .i64 1))⟩,⟨some 5,none,.mov (.t 22)⟩]))
def c158 : Fnc := ⟨[.t 4],
.seq (
.reg [⟨some 4,none,.mov (.c (.int .i64 0))⟩]) (
.seq (
.seq (
.reg [⟨some 6,none,.mov (.t 0)⟩,⟨some 7,none,.len 1 (.t 6)⟩,⟨some 8,none,.mov (.t 1)⟩,⟨some 9,none,.len 1 (.t 8)⟩,⟨some 10,none,.bin .neq (.t 7) (.t 9)⟩]) (
.cond (.t 10) (
 .seq (
 .seq (
 .reg [⟨some 11,none,.mov (.t 0)⟩,
   ⟨some 12,none,.len 1 (.t 11)⟩,
   ⟨some 13,none,.mov (.t 1)⟩,
   ⟨some 14,none,.len 1 (.t 13)⟩,
   ⟨some 15,none,.bin .lss (.t 12) (.t 14)⟩]) (
 .cond (.t 15) (
  .seq (
  .reg [⟨some 4,none,.mov (.c (.int .i64 (-1)))⟩]) (
  .ret)) (
  .skip))) (
 .seq (
 .reg [⟨some 4,none,.mov (.c (.int .i64 1))⟩]) (
 .ret))) (
 .skip))) (
.seq (
.seq (
.reg [⟨some 16,none,.mov (.t 0)⟩,⟨some 17,none,.len 1 (.t 16)⟩,⟨some 18,none,.bin .sub (.t 17) (.c (.int .i64 1))⟩,⟨some 5,none,.mov (.t 18)⟩]) (
.seq (
.blk 0 (
.loop [0,1,5] c158_0)) (
.kp []))) (
.seq (
.reg [⟨some 4,none,.mov (.c (.int .i64 0))⟩]) (
.ret))))⟩
/- lenslet/num.subWords -/
def c159_0 : VC :=
.seq (
.reg [⟨some 15,none,.bin .lss (.t 14) (.t 13)⟩]) (
.seq (
.cond (.t 15) (
 .skip) (
 .exit 0)) (
.seq (
.blk 1 (
.seq (
.reg [⟨some 16,none,.mov (.t 14)⟩,⟨some 7,none,.mov (.t 16)⟩]) (
.seq (
.reg [⟨some 8,none,.mov (.c (.int .u64 0))⟩]) (
.seq (
.seq (
.reg [⟨some 17,none,.mov (.t 7)⟩,⟨some 18,none,.mov (.t 1)⟩,⟨some 19,none,.len 1 (.t 18)⟩,⟨some 20,none,.bin .lss (.t 17) (.t 19)⟩]) (
.cond (.t 20) (
 .reg [⟨some 21,none,.mov (.t 1)⟩,
   ⟨some 22,none,.mov (.t 7)⟩,
   ⟨some 23,none,.ixa 1 (.t 21) (.t 22)⟩,
   ⟨some 24,none,.ld 1 false (.t 23)⟩,
   ⟨some 8,none,.mov (.t 24)⟩]) (
 .skip))) (
.reg [⟨some 26,none,.mov (.t 5)⟩,⟨some 27,none,.mov (.t 7)⟩,⟨some 28,none,.mov (.t 0)⟩,⟨some 29,none,.mov (.t 7)⟩,⟨some 30,none,.ixa 1 (.t 28) (.t 29)⟩,⟨some 31,none,.ld 1 false (.t 30)⟩,⟨some 32,none,.mov (.t 8)⟩,⟨some 33,none,.mov (.t 6)⟩,⟨some 34,none,.call .pure (.c (.fn (.f 173) [] [])) [.t 31,.t 32,.t 33]⟩,⟨some 25,none,.mov (.t 34)⟩,⟨some 35,none,.ext 0 (.t 25)⟩,⟨some 36,none,.ext 1 (.t 25)⟩,⟨some 37,none,.ixa 1 (.t 26) (.t 27)⟩,⟨none,none,.st 1 (.t 37) (.t 35)⟩,⟨some 6,none,.mov (.t 36)⟩]))))) (
.reg [⟨some 38,none,.bin .add (.t 14) (.c (.int .i64 1))⟩,⟨some 14,none,.mov (.t 38)⟩])))
def c159 : Fnc := ⟨[.t 4],
.seq (
.reg [⟨some 4,none,.mov (.c (.nils))⟩]) (
.seq (
.reg [⟨some 9,none,.mov (.t 0)⟩,⟨some 10,none,.len 1 (.t 9)⟩,⟨some 11,none,.mks 1 8 [.int .u64 0] (.t 10) (.t 10)⟩,⟨some 5,none,.mov (.t 11)⟩]) (
.seq (
.reg [⟨some 6,none,.mov (.c (.int .u64 0))⟩]) (
.seq (
.seq (
.reg [⟨some 12,none,.mov (.t 0)⟩,⟨some 13,none,.len 1 (.t 12)⟩,⟨some 14,none,.mov (.c (.int .i64 0))⟩]) (
.seq (
.blk 0 (
.loop [0,1,5,6,13,14] c159_0)) (
.kp [5]))) (
.seq (
.reg [⟨some 39,none,.mov (.t 5)⟩,⟨some 40,none,.call .pure (.c (.fn (.f 166) [] [])) [.t 39]⟩,⟨some 4,none,.mov (.t 40)⟩]) (
.ret)))))⟩
/- slices.IndexFunc[[]lenslet/num.Frac,lenslet/num.Frac] -/
def c160_0 : VC :=
.seq (
.reg [⟨some 9,none,.bin .lss (.t 8) (.t 7)⟩]) (
.seq (
.cond (.t 9) (
 .skip) (
 .exit 0)) (
.seq (
.blk 1 (
.seq (
.reg [⟨some 10,none,.mov (.t 8)⟩,⟨some 5,none,.mov (.t 10)⟩]) (
.seq (
.reg [⟨some 11,none,.mov (.t 1)⟩,⟨some 12,none,.mov (.t 0)⟩,⟨some 13,none,.mov (.t 5)⟩,⟨some 14,none,.ixa 4 (.t 12) (.t 13)⟩,⟨some 15,none,.ld 4 true (.t 14)⟩,⟨some 16,none,.call .pure (.t 11) [.t 15]⟩]) (
.cond (.t 16) (
 .seq (
 .reg [⟨some 17,none,.mov (.t 5)⟩,
   ⟨some 4,none,.mov (.t 17)⟩]) (
 .ret)) (
 .skip))))) (
.reg [⟨some 18,none,.bin .add (.t 8) (.c (.int .i64 1))⟩,⟨some 8,none,.mov (.t 18)⟩])))
def c160 : Fnc := ⟨[.t 4],
.seq (
.reg [⟨some 4,none,.mov (.c (.int .i64 0))⟩]) (
.seq (
.seq (
.reg [⟨some 6,none,.mov (.t 0)⟩,⟨some 7,none,.len 1 (.t 6)⟩,⟨some 8,none,.mov (.c (.int .i64 0))⟩]) (
.seq (
.blk 0 (
.loop [0,1,7,8] c160_0)) (
.kp []))) (
.seq (
.reg [⟨some 4,none,.mov (.c (.int .i64 (-1)))⟩]) (
.ret)))⟩
/- lenslet/number.checkAll -/
def c161_0 : VC :=
.seq (
.reg [⟨some 9,none,.bin .lss (.t 8) (.t 7)⟩]) (
.seq (
.cond (.t 9) (
 .skip) (
 .exit 0)) (
.seq (
.blk 1 (
.seq (
.reg [⟨some 10,none,.ixa 1 (.t 6) (.t 8)⟩,⟨some 11,none,.ld 1 false (.t 10)⟩,⟨some 4,none,.mov (.t 11)⟩]) (
.seq (
.reg [⟨some 12,none,.mov (.t 4)⟩,⟨some 13,none,.call .pure (.c (.fn (.f 86) [] [])) [.t 12]⟩,⟨some 5,none,.mov (.t 13)⟩]) (
.seq (
.reg [⟨some 14,none,.mov (.t 5)⟩,⟨some 15,none,.bin .neq (.t 14) (.c (.int .i64 0))⟩]) (
.cond (.t 15) (
 .seq (
 .reg [⟨some 16,none,.mov (.t 5)⟩,
   ⟨some 2,none,.mov (.t 16)⟩]) (
 .ret)) (
 .skip)))))) (
.reg [⟨some 17,none,.bin .add (.t 8) (.c (.int .i64 1))⟩,⟨some 8,none,.mov (.t 17)⟩])))
def c161 : Fnc := ⟨[.t 2],
.seq (
.reg [⟨some 2,none,.mov (.c (.int .i64 0))⟩]) (
.seq (
.seq (
.reg [⟨some 6,none,.mov (.t 0)⟩,⟨some 7,none,.len 1 (.t 6)⟩,⟨some 8,none,.mov (.c (.int .i64 0))⟩]) (
.seq (
.blk 0 (
.loop [6,7,8] c161_0)) (
.kp []))) (
.seq (
.reg [⟨some 2,none,.mov (.c (.int .i64 0))⟩]) (
.ret)))⟩
/- (lenslet/num.Int).Abs -/
def c163 : Fnc := ⟨[.cell 2 2 true],
.seq (
.reg [⟨some 1,none,.box 2 (.t 0)⟩,⟨some 2,none,.box 2 (.c (.agg [.int .i64 0,.nils]))⟩]) (
.seq (
.seq (
.reg [⟨some 3,none,.off 0 (.t 1)⟩,⟨some 4,none,.ld 1 false (.t 3)⟩,⟨some 5,none,.bin .lss (.t 4) (.c (.int .i64 0))⟩]) (
.cond (.t 5) (
 .seq (
 .reg [⟨some 6,none,.ld 2 true (.t 1)⟩,
   ⟨some 7,none,.call .pure (.c (.fn (.f 147) [] [])) [.t 6]⟩,
   ⟨none,none,.st 2 (.t 2) (.t 7)⟩]) (
 .ret)) (
 .skip))) (
.seq (
.reg [⟨some 8,none,.ld 2 true (.t 1)⟩,⟨none,none,.st 2 (.t 2) (.t 8)⟩]) (
.ret)))⟩
/- (lenslet/num.Int).DivMod -/
def c164 : Fnc := ⟨[.cell 4 2 true,.cell 5 2 true],
.seq (
.reg [⟨some 2,none,.box 2 (.t 0)⟩,⟨some 3,none,.box 2 (.t 1)⟩,⟨some 4,none,.box 2 (.c (.agg [.int .i64 0,.nils]))⟩,⟨some 5,none,.box 2 (.c (.agg [.int .i64 0,.nils]))⟩]) (
.seq (
.seq (
.reg [⟨some 16,none,.off 1 (.t 2)⟩,⟨some 17,none,.ld 1 false (.t 16)⟩,⟨some 18,none,.eq false .sl (.t 17) (.c (.nils))⟩,⟨some 19,none,.mov (.t 18)⟩,⟨some 20,some (19,true),.off 1 (.t 3)⟩,⟨some 21,some (19,true),.ld 1 false (.t 20)⟩,⟨some 22,some (19,true),.eq false .sl (.t 21) (.c (.nils))⟩,⟨some 23,none,.pick (.t 19) (.t 22) (.c (.bool false))⟩,⟨some 24,none,.mov (.t 23)⟩,⟨some 25,some (24,true),.off 0 (.t 2)⟩,⟨some 26,some (24,true),.ld 1 false (.t 25)⟩,⟨some 27,some (24,true),.bin .neq (.t 26) (.c (.int .i64 (-9223372036854775808)))⟩,⟨some 28,none,.pick (.t 24) (.t 27) (.c (.bool false))⟩]) (
.cond (.t 28) (
 .seq (
 .reg [⟨some 29,none,.off 0 (.t 2)⟩,
   ⟨some 30,none,.ld 1 false (.t 29)⟩,
   ⟨some 31,none,.off 0 (.t 3)⟩,
   ⟨some 32,none,.ld 1 false (.t 31)⟩,
   ⟨some 33,none,.bin .quo (.t 30) (.t 32)⟩,
   ⟨some 34,none,.off 0 (.t 2)⟩,
   ⟨some 35,none,.ld 1 false (.t 34)⟩,
   ⟨some 36,none,.off 0 (.t 3)⟩,
   ⟨some 37,none,.ld 1 false (.t 36)⟩,
   ⟨some 38,none,.bin .rem (.t 35) (.t 37)⟩,
   ⟨some 6,none,.mov (.t 33)⟩,
   ⟨some 7,none,.mov (.t 38)⟩]) (
 .seq (
 .seq (
 .reg [⟨some 39,none,.mov (.t 7)⟩,
   ⟨some 40,none,.bin .lss (.t 39) (.c (.int .i64 0))⟩]) (
 .cond (.t 40) (
  .reg [⟨some 41,none,.mov (.t 6)⟩,
    ⟨some 42,none,.bin .sub (.t 41) (.c (.int .i64 1))⟩,
    ⟨some 43,none,.mov (.t 7)⟩,
    ⟨some 44,none,.off 0 (.t 3)⟩,
    ⟨some 45,none,.ld 1 false (.t 44)⟩,
    ⟨some 46,none,.bin .add (.t 43) (.t 45)⟩,
    ⟨some 6,none,.mov (.t 42)⟩,
    ⟨some 7,none,.mov (.t 46)⟩]) (
  .skip))) (
 .seq (
 .reg [⟨some 47,none,.mov (.t 6)⟩,
   ⟨some 48,none,.mkagg [.int .i64 0,.nils] [(0,1,(.t 47))]⟩,
   ⟨some 49,none,.mov (.t 7)⟩,
   ⟨some 50,none,.mkagg [.int .i64 0,.nils] [(0,1,(.t 49))]⟩,
   ⟨none,none,.st 2 (.t 4) (.t 48)⟩,
   ⟨none,none,.st 2 (.t 5) (.t 50)⟩]) (
 .ret)))) (
 .skip))) (
.seq (
.reg [⟨some 52,none,.ld 2 true (.t 2)⟩,⟨some 53,none,.call .pure (.c (.fn (.f 136) [] [])) [.t 52]⟩,⟨some 51,none,.mov (.t 53)⟩,⟨some 54,none,.ext 0 (.t 51)⟩,⟨some 55,none,.ext 1 (.t 51)⟩,⟨some 8,none,.mov (.t 54)⟩,⟨some 9,none,.mov (.t 55)⟩]) (
.seq (
.reg [⟨some 57,none,.ld 2 true (.t 3)⟩,⟨some 58,none,.call .pure (.c (.fn (.f 136) [] [])) [.t 57]⟩,⟨some 56,none,.mov (.t 58)⟩,⟨some 59,none,.ext 0 (.t 56)⟩,⟨some 60,none,.ext 1 (.t 56)⟩,⟨some 10,none,.mov (.t 59)⟩,⟨some 11,none,.mov (.t 60)⟩]) (
.seq (
.reg [⟨some 62,none,.mov (.t 9)⟩,⟨some 63,none,.mov (.t 11)⟩,⟨some 64,none,.call .pure (.c (.fn (.f 137) [] [])) [.t 62,.t 63]⟩,⟨some 61,none,.mov (.t 64)⟩,⟨some 65,none,.ext 0 (.t 61)⟩,⟨some 66,none,.ext 1 (.t 61)⟩,⟨some 12,none,.mov (.t 65)⟩,⟨some 13,none,.mov (.t 66)⟩]) (
.seq (
.reg [⟨some 67,none,.mov (.t 8)⟩,⟨some 68,none,.mov (.t 12)⟩,⟨some 69,none,.call .pure (.c (.fn (.f 145) [] [])) [.t 67,.t 68]⟩,⟨some 70,none,.mov (.t 8)⟩,⟨some 71,none,.mov (.t 13)⟩,⟨some 72,none,.call .pure (.c (.fn (.f 145) [] [])) [.t 70,.t 71]⟩,⟨some 14,none,.box 2 (.c (.agg [.int .i64 0,.nils]))⟩,⟨some 15,none,.box 2 (.c (.agg [.int .i64 0,.nils]))⟩,⟨none,none,.st 2 (.t 14) (.t 69)⟩,⟨none,none,.st 2 (.t 15) (.t 72)⟩]) (
.seq (
.seq (
.reg [⟨some 73,none,.ld 2 true (.t 15)⟩,⟨some 74,none,.call .pure (.c (.fn (.f 146) [] [])) [.t 73]⟩,⟨some 75,none,.bin .lss (.t 74) (.c (.int .i64 0))⟩]) (
.cond (.t 75) (
 .reg [⟨some 76,none,.ld 2 true (.t 14)⟩,
   ⟨some 77,none,.call .pure (.c (.fn (.f 117) [] [])) [.c (.int .i64 1)]⟩,
   ⟨some 78,none,.call .pure (.c (.fn (.f 156) [] [])) [.t 76,.t 77]⟩,
   ⟨some 79,none,.ld 2 true (.t 15)⟩,
   ⟨some 80,none,.ld 2 true (.t 3)⟩,
   ⟨some 81,none,.call .pure (.c (.fn (.f 119) [] [])) [.t 79,.t 80]⟩,
   ⟨none,none,.st 2 (.t 14) (.t 78)⟩,
   ⟨none,none,.st 2 (.t 15) (.t 81)⟩]) (
 .skip))) (
.seq (
.reg [⟨some 82,none,.ld 2 true (.t 14)⟩,⟨some 83,none,.ld 2 true (.t 15)⟩,⟨none,none,.std [(2,true,15)] 2 (.t 4) (.t 82)⟩,⟨none,none,.st 2 (.t 5) (.t 83)⟩]) (
.ret))))))))⟩
/- math/bits.Div64 -/
def c165_0 : VC :=
.seq (
.seq (
.reg [⟨some 67,none,.mov (.t 15)⟩,⟨some 68,none,.bin .geq (.t 67) (.c (.int .u64 4294967296))⟩,⟨some 69,none,.mov (.t 68)⟩,⟨some 70,some (69,false),.mov (.t 15)⟩,⟨some 71,some (69,false),.mov (.t 10)⟩,⟨some 72,some (69,false),.bin .mul (.t 70) (.t 71)⟩,⟨some 73,some (69,false),.mov (.t 16)⟩,⟨some 74,some (69,false),.bin .mul (.c (.int .u64 4294967296)) (.t 73)⟩,⟨some 75,some (69,false),.mov (.t 13)⟩,⟨some 76,some (69,false),.bin .add (.t 74) (.t 75)⟩,⟨some 77,some (69,false),.bin .gtr (.t 72) (.t 76)⟩,⟨some 78,none,.pick (.t 69) (.c (.bool true)) (.t 77)⟩]) (
.cond (.t 78) (
 .skip) (
 .exit 0))) (
.blk 1 (
.seq (
.reg [⟨some 79,none,.mov (.t 15)⟩,⟨some 80,none,.bin .sub (.t 79) (.c (.int .u64 1))⟩,⟨some 15,none,.mov (.t 80)⟩]) (
.seq (
.reg [⟨some 81,none,.mov (.t 16)⟩,⟨some 82,none,.mov (.t 9)⟩,⟨some 83,none,.bin .add (.t 81) (.t 82)⟩,⟨some 16,none,.mov (.t 83)⟩]) (
.seq (
.reg [⟨some 84,none,.mov (.t 16)⟩,⟨some 85,none,.bin .geq (.t 84) (.c (.int .u64 4294967296))⟩]) (
.cond (.t 85) (
 .exit 0) (
 .skip))))))
def c165_1 : VC :=
.seq (
.seq (
.reg [⟨some 102,none,.mov (.t 18)⟩,⟨some 103,none,.bin .geq (.t 102) (.c (.int .u64 4294967296))⟩,⟨some 104,none,.mov (.t 103)⟩,⟨some 105,some (104,false),.mov (.t 18)⟩,⟨some 106,some (104,false),.mov (.t 10)⟩,⟨some 107,some (104,false),.bin .mul (.t 105) (.t 106)⟩,⟨some 108,some (104,false),.mov (.t 16)⟩,⟨some 109,some (104,false),.bin .mul (.c (.int .u64 4294967296)) (.t 108)⟩,⟨some 110,some (104,false),.mov (.t 14)⟩,⟨some 111,some (104,false),.bin .add (.t 109) (.t 110)⟩,⟨some 112,some (104,false),.bin .gtr (.t 107) (.t 111)⟩,⟨some 113,none,.pick (.t 104) (.c (.bool true)) (.t 112)⟩]) (
.cond (.t 113) (
 .skip) (
 .exit 2))) (
.blk 3 (
.seq (
.reg [⟨some 114,none,.mov (.t 18)⟩,⟨some 115,none,.bin .sub (.t 114) (.c (.int .u64 1))⟩,⟨some 18,none,.mov (.t 115)⟩]) (
.seq (
.reg [⟨some 116,none,.mov (.t 16)⟩,⟨some 117,none,.mov (.t 9)⟩,⟨some 118,none,.bin .add (.t 116) (.t 117)⟩,⟨some 16,none,.mov (.t 118)⟩]) (
.seq (
.reg [⟨some 119,none,.mov (.t 16)⟩,⟨some 120,none,.bin .geq (.t 119) (.c (.int .u64 4294967296))⟩]) (
.cond (.t 120) (
 .exit 2) (
 .skip))))))
def c165 : Fnc := ⟨[.t 6,.t 7],
.seq (
.reg [⟨some 6,none,.mov (.c (.int .u64 0))⟩,⟨some 7,none,.mov (.c (.int .u64 0))⟩]) (
.seq (
.seq (
.reg [⟨some 19,none,.mov (.t 2)⟩,⟨some 20,none,.bin .eql (.t 19) (.c (.int .u64 0))⟩]) (
.cond (.t 20) (
 .reg [⟨some 21,none,.ld 1 false (.c (.undef))⟩,
   ⟨none,none,.call .pure (.c (.undef)) []⟩]) (
 .skip))) (
.seq (
.seq (
.reg [⟨some 22,none,.mov (.t 2)⟩,⟨some 23,none,.mov (.t 0)⟩,⟨some 24,none,.bin .leq (.t 22) (.t 23)⟩]) (
.cond (.t 24) (
 .reg [⟨some 25,none,.ld 1 false (.c (.undef))⟩,
   ⟨none,none,.call .pure (.c (.undef)) []⟩]) (
 .skip))) (
.seq (
.seq (
.reg [⟨some 26,none,.mov (.t 0)⟩,⟨some 27,none,.bin .eql (.t 26) (.c (.int .u64 0))⟩]) (
.cond (.t 27) (
 .seq (
 .reg [⟨some 28,none,.mov (.t 1)⟩,
   ⟨some 29,none,.mov (.t 2)⟩,
   ⟨some 30,none,.bin .quo (.t 28) (.t 29)⟩,
   ⟨some 31,none,.mov (.t 1)⟩,
   ⟨some 32,none,.mov (.t 2)⟩,
   ⟨some 33,none,.bin .rem (.t 31) (.t 32)⟩,
   ⟨some 6,none,.mov (.t 30)⟩,
   ⟨some 7,none,.mov (.t 33)⟩]) (
 .ret)) (
 .skip))) (
.seq (
.reg [⟨some 34,none,.mov (.t 2)⟩,⟨some 35,none,.call .pure (.c (.fn (.f 167) [] [])) [.t 34]⟩,⟨some 36,none,.cv (.toInt .u64) (.t 35)⟩,⟨some 8,none,.mov (.t 36)⟩]) (
.seq (
.reg [⟨some 37,none,.mov (.t 2)⟩,⟨some 38,none,.mov (.t 8)⟩,⟨some 39,none,.bin .shl (.t 37) (.t 38)⟩,⟨some 2,none,.mov (.t 39)⟩]) (
.seq (
.reg [⟨some 40,none,.mov (.t 2)⟩,⟨some 41,none,.bin .shr (.t 40) (.c (.int .u64 32))⟩,⟨some 9,none,.mov (.t 41)⟩]) (
.seq (
.reg [⟨some 42,none,.mov (.t 2)⟩,⟨some 43,none,.bin .and (.t 42) (.c (.int .u64 4294967295))⟩,⟨some 10,none,.mov (.t 43)⟩]) (
.seq (
.reg [⟨some 44,none,.mov (.t 0)⟩,⟨some 45,none,.mov (.t 8)⟩,⟨some 46,none,.bin .shl (.t 44) (.t 45)⟩,⟨some 47,none,.mov (.t 1)⟩,⟨some 48,none,.mov (.t 8)⟩,⟨some 49,none,.bin .sub (.c (.int .u64 64)) (.t 48)⟩,⟨some 50,none,.bin .shr (.t 47) (.t 49)⟩,⟨some 51,none,.bin .or (.t 46) (.t 50)⟩,⟨some 11,none,.mov (.t 51)⟩]) (
.seq (
.reg [⟨some 52,none,.mov (.t 1)⟩,⟨some 53,none,.mov (.t 8)⟩,⟨some 54,none,.bin .shl (.t 52) (.t 53)⟩,⟨some 12,none,.mov (.t 54)⟩]) (
.seq (
.reg [⟨some 55,none,.mov (.t 12)⟩,⟨some 56,none,.bin .shr (.t 55) (.c (.int .u64 32))⟩,⟨some 13,none,.mov (.t 56)⟩]) (
.seq (
.reg [⟨some 57,none,.mov (.t 12)⟩,⟨some 58,none,.bin .and (.t 57) (.c (.int .u64 4294967295))⟩,⟨some 14,none,.mov (.t 58)⟩]) (
.seq (
.reg [⟨some 59,none,.mov (.t 11)⟩,⟨some 60,none,.mov (.t 9)⟩,⟨some 61,none,.bin .quo (.t 59) (.t 60)⟩,⟨some 15,none,.mov (.t 61)⟩]) (
.seq (
.reg [⟨some 62,none,.mov (.t 11)⟩,⟨some 63,none,.mov (.t 15)⟩,⟨some 64,none,.mov (.t 9)⟩,⟨some 65,none,.bin .mul (.t 63) (.t 64)⟩,⟨some 66,none,.bin .sub (.t 62) (.t 65)⟩,⟨some 16,none,.mov (.t 66)⟩]) (
.seq (
.seq (
.blk 0 (
.loop [2,8,9,10,11,13,14,15,16] c165_0)) (
.kp [2,8,9,10,11,13,14,15])) (
.seq (
.reg [⟨some 86,none,.mov (.t 11)⟩,⟨some 87,none,.bin .mul (.t 86) (.c (.int .u64 4294967296))⟩,⟨some 88,none,.mov (.t 13)⟩,⟨some 89,none,.bin .add (.t 87) (.t 88)⟩,⟨some 90,none,.mov (.t 15)⟩,⟨some 91,none,.mov (.t 2)⟩,⟨some 92,none,.bin .mul (.t 90) (.t 91)⟩,⟨some 93,none,.bin .sub (.t 89) (.t 92)⟩,⟨some 17,none,.mov (.t 93)⟩]) (
.seq (
.reg [⟨some 94,none,.mov (.t 17)⟩,⟨some 95,none,.mov (.t 9)⟩,⟨some 96,none,.bin .quo (.t 94) (.t 95)⟩,⟨some 18,none,.mov (.t 96)⟩]) (
.seq (
.reg [⟨some 97,none,.mov (.t 17)⟩,⟨some 98,none,.mov (.t 18)⟩,⟨some 99,none,.mov (.t 9)⟩,⟨some 100,none,.bin .mul (.t 98) (.t 99)⟩,⟨some 101,none,.bin .sub (.t 97) (.t 100)⟩,⟨some 16,none,.mov (.t 101)⟩]) (
.seq (
.seq (
.blk 2 (
.loop [2,8,9,10,14,15,16,17,18] c165_1)) (
.kp [2,8,14,15,17,18])) (
.seq (
.reg [⟨some 121,none,.mov (.t 15)⟩,⟨some 122,none,.bin .mul (.t 121) (.c (.int .u64 4294967296))⟩,⟨some 123,none,.mov (.t 18)⟩,⟨some 124,none,.bin .add (.t 122) (.t 123)⟩,⟨some 125,none,.mov (.t 17)⟩,⟨some 126,none,.bin .mul (.t 125) (.c (.int .u64 4294967296))⟩,⟨some 127,none,.mov (.t 14)⟩,⟨some 128,none,.bin .add (.t 126) (.t 127)⟩,⟨some 129,none,.mov (.t 18)⟩,⟨some 130,none,.mov (.t 2)⟩,⟨some 131,none,.bin .mul (.t 129) (.t 130)⟩,⟨some 132,none,.bin .sub (.t 128) (.t 131)⟩,⟨some 133,none,.mov (.t 8)⟩,⟨some 134,none,.bin .shr (.t 132) (.t 133)⟩,⟨some 6,none,.mov (.t 124)⟩,⟨some 7,none,.mov (.t 134)⟩]) (
.ret))))))))))))))))))))⟩
/- lenslet/num.trim -/
def c166_0 : VC :=
.seq (
.seq (
.reg [⟨some 6,none,.mov (.t 3)⟩,⟨some 7,none,.bin .gtr (.t 6) (.c (.int .i64 0))⟩,⟨some 8,none,.mov (.t 7)⟩,⟨some 9,some (8,true),.mov (.t 0)⟩,⟨some 10,some (8,true),.mov (.t 3)⟩,⟨some 11,some (8,true),.bin .sub (.t 10) (.c (.int .i64 1))⟩,⟨some 12,some (8,true),.ixa 1 (.t 9) (.t 11)⟩,⟨some 13,some (8,true),.ld 1 false (.t 12)⟩,⟨some 14,some (8,true),.bin .eql (.t 13) (.c (.int .u64 0))⟩,⟨some 15,none,.pick (.t 8) (.t 14) (.c (.bool false))⟩]) (
.cond (.t 15) (
 .skip) (
 .exit 0))) (
.blk 1 (
.reg [⟨some 16,none,.mov (.t 3)⟩,⟨some 17,none,.bin .sub (.t 16) (.c (.int .i64 1))⟩,⟨some 3,none,.mov (.t 17)⟩]))
def c166 : Fnc := ⟨[.t 2],
.seq (
.reg [⟨some 2,none,.mov (.c (.nils))⟩]) (
.seq (
.reg [⟨some 4,none,.mov (.t 0)⟩,⟨some 5,none,.len 1 (.t 4)⟩,⟨some 3,none,.mov (.t 5)⟩]) (
.seq (
.seq (
.blk 0 (
.loop [0,3] c166_0)) (
.kp [0,3])) (
.seq (
.reg [⟨some 18,none,.mov (.t 0)⟩,⟨some 19,none,.mov (.t 3)⟩,⟨some 20,none,.sli (.sl 1) (.t 18) none (some (.t 19))⟩,⟨some 2,none,.mov (.t 20)⟩]) (
.ret))))⟩
/- lenslet/num.shiftUp -/
def c168_0 : VC :=
.seq (
.reg [⟨some 15,none,.bin .lss (.t 14) (.t 13)⟩]) (
.seq (
.cond (.t 15) (
 .skip) (
 .exit 0)) (
.seq (
.blk 1 (
.seq (
.reg [⟨some 16,none,.mov (.t 14)⟩,⟨some 17,none,.ixa 1 (.t 12) (.t 14)⟩,⟨some 18,none,.ld 1 false (.t 17)⟩,⟨some 6,none,.mov (.t 16)⟩,⟨some 7,none,.mov (.t 18)⟩]) (
.seq (
.reg [⟨some 19,none,.mov (.t 5)⟩,⟨some 20,none,.mov (.t 6)⟩,⟨some 21,none,.ixa 1 (.t 19) (.t 20)⟩,⟨some 22,none,.ld 1 false (.t 21)⟩,⟨some 23,none,.mov (.t 7)⟩,⟨some 24,none,.mov (.t 1)⟩,⟨some 25,none,.bin .shl (.t 23) (.t 24)⟩,⟨some 26,none,.bin .or (.t 22) (.t 25)⟩,⟨some 27,none,.ixa 1 (.t 19) (.t 20)⟩,⟨none,none,.st 1 (.t 27) (.t 26)⟩]) (
.seq (
.reg [⟨some 28,none,.mov (.t 1)⟩,⟨some 29,none,.bin .gtr (.t 28) (.c (.int .i64 0))⟩]) (
.cond (.t 29) (
 .reg [⟨some 30,none,.mov (.t 5)⟩,
   ⟨some 31,none,.mov (.t 6)⟩,
   ⟨some 32,none,.bin .add (.t 31) (.c (.int .i64 1))⟩,
   ⟨some 33,none,.mov (.t 7)⟩,
   ⟨some 34,none,.mov (.t 1)⟩,
   ⟨some 35,none,.bin .sub (.c (.int .i64 64)) (.t 34)⟩,
   ⟨some 36,none,.bin .shr (.t 33) (.t 35)⟩,
   ⟨some 37,none,.ixa 1 (.t 30) (.t 32)⟩,
   ⟨none,none,.st 1 (.t 37) (.t 36)⟩]) (
 .skip)))))) (
.reg [⟨some 38,none,.bin .add (.t 14) (.c (.int .i64 1))⟩,⟨some 14,none,.mov (.t 38)⟩])))
def c168 : Fnc := ⟨[.t 4],
.seq (
.reg [⟨some 4,none,.mov (.c (.nils))⟩]) (
.seq (
.reg [⟨some 8,none,.mov (.t 0)⟩,⟨some 9,none,.len 1 (.t 8)⟩,⟨some 10,none,.bin .add (.t 9) (.c (.int .i64 1))⟩,⟨some 11,none,.mks 1 8 [.int .u64 0] (.t 10) (.t 10)⟩,⟨some 5,none,.mov (.t 11)⟩]) (
.seq (
.seq (
.reg [⟨some 12,none,.mov (.t 0)⟩,⟨some 13,none,.len 1 (.t 12)⟩,⟨some 14,none,.mov (.c (.int .i64 0))⟩]) (
.seq (
.blk 0 (
.loop [1,5,12,13,14] c168_0)) (
.kp [5]))) (
.seq (
.reg [⟨some 39,none,.mov (.t 5)⟩,⟨some 4,none,.mov (.t 39)⟩]) (
.ret))))⟩
/- lenslet/num.step -/
def c169_0 : VC :=
.seq (
.seq (
.reg [⟨some 63,none,.mov (.t 8)⟩,⟨some 64,none,.bin .eql (.t 63) (.c (.int .u64 0))⟩]) (
.cond (.t 64) (
 .skip) (
 .exit 0))) (
.blk 1 (
.seq (
.reg [⟨some 66,none,.mov (.t 6)⟩,⟨some 67,none,.mov (.t 1)⟩,⟨some 68,none,.mov (.t 5)⟩,⟨some 69,none,.bin .sub (.t 68) (.c (.int .i64 2))⟩,⟨some 70,none,.ixa 1 (.t 67) (.t 69)⟩,⟨some 71,none,.ld 1 false (.t 70)⟩,⟨some 72,none,.call .pure (.c (.fn (.f 143) [] [])) [.t 66,.t 71]⟩,⟨some 65,none,.mov (.t 72)⟩,⟨some 73,none,.ext 0 (.t 65)⟩,⟨some 74,none,.ext 1 (.t 65)⟩,⟨some 9,none,.mov (.t 73)⟩,⟨some 10,none,.mov (.t 74)⟩]) (
.seq (
.seq (
.reg [⟨some 75,none,.mov (.t 9)⟩,⟨some 76,none,.mov (.t 7)⟩,⟨some 77,none,.bin .lss (.t 75) (.t 76)⟩,⟨some 78,none,.mov (.t 77)⟩,⟨some 79,some (78,false),.mov (.t 9)⟩,⟨some 80,some (78,false),.mov (.t 7)⟩,⟨some 81,some (78,false),.bin .eql (.t 79) (.t 80)⟩,⟨some 82,some (78,false),.mov (.t 81)⟩,⟨some 83,some (82,true),.mov (.t 10)⟩,⟨some 84,some (82,true),.mov (.t 0)⟩,⟨some 85,some (82,true),.mov (.t 5)⟩,⟨some 86,some (82,true),.bin .sub (.t 85) (.c (.int .i64 2))⟩,⟨some 87,some (82,true),.ixa 1 (.t 84) (.t 86)⟩,⟨some 88,some (82,true),.ld 1 false (.t 87)⟩,⟨some 89,some (82,true),.bin .leq (.t 83) (.t 88)⟩,⟨some 90,some (78,false),.pick (.t 82) (.t 89) (.c (.bool false))⟩,⟨some 91,none,.pick (.t 78) (.c (.bool true)) (.t 90)⟩]) (
.cond (.t 91) (
 .exit 0) (
 .skip))) (
.seq (
.reg [⟨some 92,none,.mov (.t 6)⟩,⟨some 93,none,.bin .sub (.t 92) (.c (.int .u64 1))⟩,⟨some 6,none,.mov (.t 93)⟩]) (
.reg [⟨some 95,none,.mov (.t 7)⟩,⟨some 96,none,.mov (.t 1)⟩,⟨some 97,none,.mov (.t 5)⟩,⟨some 98,none,.bin .sub (.t 97) (.c (.int .i64 1))⟩,⟨some 99,none,.ixa 1 (.t 96) (.t 98)⟩,⟨some 100,none,.ld 1 false (.t 99)⟩,⟨some 101,none,.call .pure (.c (.fn (.f 171) [] [])) [.t 95,.t 100,.c (.int .u64 0)]⟩,⟨some 94,none,.mov (.t 101)⟩,⟨some 102,none,.ext 0 (.t 94)⟩,⟨some 103,none,.ext 1 (.t 94)⟩,⟨some 7,none,.mov (.t 102)⟩,⟨some 8,none,.mov (.t 103)⟩])))))
def c169_1 : VC :=
.seq (
.reg [⟨some 106,none,.bin .lss (.t 105) (.t 104)⟩]) (
.seq (
.cond (.t 106) (
 .skip) (
 .exit 2)) (
.seq (
.blk 3 (
.seq (
.reg [⟨some 107,none,.mov (.t 105)⟩,⟨some 13,none,.mov (.t 107)⟩]) (
.seq (
.reg [⟨some 109,none,.mov (.t 6)⟩,⟨some 110,none,.mov (.t 1)⟩,⟨some 111,none,.mov (.t 13)⟩,⟨some 112,none,.ixa 1 (.t 110) (.t 111)⟩,⟨some 113,none,.ld 1 false (.t 112)⟩,⟨some 114,none,.call .pure (.c (.fn (.f 143) [] [])) [.t 109,.t 113]⟩,⟨some 108,none,.mov (.t 114)⟩,⟨some 115,none,.ext 0 (.t 108)⟩,⟨some 116,none,.ext 1 (.t 108)⟩,⟨some 14,none,.mov (.t 115)⟩,⟨some 15,none,.mov (.t 116)⟩]) (
.seq (
.reg [⟨some 16,none,.mov (.c (.int .u64 0))⟩]) (
.seq (
.reg [⟨some 118,none,.mov (.t 15)⟩,⟨some 119,none,.mov (.t 12)⟩,⟨some 120,none,.call .pure (.c (.fn (.f 171) [] [])) [.t 118,.t 119,.c (.int .u64 0)]⟩,⟨some 117,none,.mov (.t 120)⟩,⟨some 121,none,.ext 0 (.t 117)⟩,⟨some 122,none,.ext 1 (.t 117)⟩,⟨some 15,none,.mov (.t 121)⟩,⟨some 16,none,.mov (.t 122)⟩]) (
.seq (
.reg [⟨some 123,none,.mov (.t 14)⟩,⟨some 124,none,.mov (.t 16)⟩,⟨some 125,none,.bin .add (.t 123) (.t 124)⟩,⟨some 12,none,.mov (.t 125)⟩]) (
.reg [⟨some 127,none,.mov (.t 0)⟩,⟨some 128,none,.mov (.t 13)⟩,⟨some 129,none,.mov (.t 0)⟩,⟨some 130,none,.mov (.t 13)⟩,⟨some 131,none,.ixa 1 (.t 129) (.t 130)⟩,⟨some 132,none,.ld 1 false (.t 131)⟩,⟨some 133,none,.mov (.t 15)⟩,⟨some 134,none,.mov (.t 11)⟩,⟨some 135,none,.call .pure (.c (.fn (.f 173) [] [])) [.t 132,.t 133,.t 134]⟩,⟨some 126,none,.mov (.t 135)⟩,⟨some 136,none,.ext 0 (.t 126)⟩,⟨some 137,none,.ext 1 (.t 126)⟩,⟨some 138,none,.ixa 1 (.t 127) (.t 128)⟩,⟨none,none,.st 1 (.t 138) (.t 136)⟩,⟨some 11,none,.mov (.t 137)⟩]))))))) (
.reg [⟨some 139,none,.bin .add (.t 105) (.c (.int .i64 1))⟩,⟨some 105,none,.mov (.t 139)⟩])))
def c169_2 : VC :=
.seq (
.reg [⟨some 158,none,.bin .lss (.t 157) (.t 156)⟩]) (
.seq (
.cond (.t 158) (
 .skip) (
 .exit 4)) (
.seq (
.blk 5 (
.seq (
.reg [⟨some 159,none,.mov (.t 157)⟩,⟨some 18,none,.mov (.t 159)⟩]) (
.reg [⟨some 161,none,.mov (.t 0)⟩,⟨some 162,none,.mov (.t 18)⟩,⟨some 163,none,.mov (.t 0)⟩,⟨some 164,none,.mov (.t 18)⟩,⟨some 165,none,.ixa 1 (.t 163) (.t 164)⟩,⟨some 166,none,.ld 1 false (.t 165)⟩,⟨some 167,none,.mov (.t 1)⟩,⟨some 168,none,.mov (.t 18)⟩,⟨some 169,none,.ixa 1 (.t 167) (.t 168)⟩,⟨some 170,none,.ld 1 false (.t 169)⟩,⟨some 171,none,.mov (.t 17)⟩,⟨some 172,none,.call .pure (.c (.fn (.f 171) [] [])) [.t 166,.t 170,.t 171]⟩,⟨some 160,none,.mov (.t 172)⟩,⟨some 173,none,.ext 0 (.t 160)⟩,⟨some 174,none,.ext 1 (.t 160)⟩,⟨some 175,none,.ixa 1 (.t 161) (.t 162)⟩,⟨none,none,.st 1 (.t 175) (.t 173)⟩,⟨some 17,none,.mov (.t 174)⟩]))) (
.reg [⟨some 176,none,.bin .add (.t 157) (.c (.int .i64 1))⟩,⟨some 157,none,.mov (.t 176)⟩])))
def c169 : Fnc := ⟨[.t 4],
.seq (
.reg [⟨some 4,none,.mov (.c (.int .u64 0))⟩]) (
.seq (
.reg [⟨some 19,none,.mov (.t 1)⟩,⟨some 20,none,.len 1 (.t 19)⟩,⟨some 5,none,.mov (.t 20)⟩]) (
.seq (
.reg [⟨some 6,none,.mov (.c (.int .u64 0))⟩,⟨some 7,none,.mov (.c (.int .u64 0))⟩]) (
.seq (
.reg [⟨some 8,none,.mov (.c (.int .u64 0))⟩]) (
.seq (
.seq (
.reg [⟨some 21,none,.mov (.t 0)⟩,⟨some 22,none,.mov (.t 5)⟩,⟨some 23,none,.ixa 1 (.t 21) (.t 22)⟩,⟨some 24,none,.ld 1 false (.t 23)⟩,⟨some 25,none,.mov (.t 1)⟩,⟨some 26,none,.mov (.t 5)⟩,⟨some 27,none,.bin .sub (.t 26) (.c (.int .i64 1))⟩,⟨some 28,none,.ixa 1 (.t 25) (.t 27)⟩,⟨some 29,none,.ld 1 false (.t 28)⟩,⟨some 30,none,.bin .geq (.t 24) (.t 29)⟩]) (
.cond (.t 30) (
 .seq (
 .reg [⟨some 6,none,.mov (.c (.int .u64 18446744073709551615))⟩]) (
 .reg [⟨some 32,none,.mov (.t 0)⟩,
   ⟨some 33,none,.mov (.t 5)⟩,
   ⟨some 34,none,.bin .sub (.t 33) (.c (.int .i64 1))⟩,
   ⟨some 35,none,.ixa 1 (.t 32) (.t 34)⟩,
   ⟨some 36,none,.ld 1 false (.t 35)⟩,
   ⟨some 37,none,.mov (.t 1)⟩,
   ⟨some 38,none,.mov (.t 5)⟩,
   ⟨some 39,none,.bin .sub (.t 38) (.c (.int .i64 1))⟩,
   ⟨some 40,none,.ixa 1 (.t 37) (.t 39)⟩,
   ⟨some 41,none,.ld 1 false (.t 40)⟩,
   ⟨some 42,none,.call .pure (.c (.fn (.f 171) [] [])) [.t 36,.t 41,.c (.int .u64 0)]⟩,
   ⟨some 31,none,.mov (.t 42)⟩,
   ⟨some 43,none,.ext 0 (.t 31)⟩,
   ⟨some 44,none,.ext 1 (.t 31)⟩,
   ⟨some 7,none,.mov (.t 43)⟩,
   ⟨some 8,none,.mov (.t 44)⟩])) (
 .reg [⟨some 46,none,.mov (.t 0)⟩,
   ⟨some 47,none,.mov (.t 5)⟩,
   ⟨some 48,none,.ixa 1 (.t 46) (.t 47)⟩,
   ⟨some 49,none,.ld 1 false (.t 48)⟩,
   ⟨some 50,none,.mov (.t 0)⟩,
   ⟨some 51,none,.mov (.t 5)⟩,
   ⟨some 52,none,.bin .sub (.t 51) (.c (.int .i64 1))⟩,
   ⟨some 53,none,.ixa 1 (.t 50) (.t 52)⟩,
   ⟨some 54,none,.ld 1 false (.t 53)⟩,
   ⟨some 55,none,.mov (.t 1)⟩,
   ⟨some 56,none,.mov (.t 5)⟩,
   ⟨some 57,none,.bin .sub (.t 56) (.c (.int .i64 1))⟩,
   ⟨some 58,none,.ixa 1 (.t 55) (.t 57)⟩,
   ⟨some 59,none,.ld 1 false (.t 58)⟩,
   ⟨some 60,none,.call .pure (.c (.fn (.f 165) [] [])) [.t 49,.t 54,.t 59]⟩,
   ⟨some 45,none,.mov (.t 60)⟩,
   ⟨some 61,none,.ext 0 (.t 45)⟩,
   ⟨some 62,none,.ext 1 (.t 45)⟩,
   ⟨some 6,none,.mov (.t 61)⟩,
   ⟨some 7,none,.mov (.t 62)⟩]))) (
.seq (
.seq (
.blk 0 (
.loop [0,1,5,6,7,8] c169_0)) (
.kp [0,1,5,6])) (
.seq (
.reg [⟨some 11,none,.mov (.c (.int .u64 0))⟩,⟨some 12,none,.mov (.c (.int .u64 0))⟩]) (
.seq (
.seq (
.reg [⟨some 104,none,.mov (.t 5)⟩,⟨some 105,none,.mov (.c (.int .i64 0))⟩]) (
.seq (
.blk 2 (
.loop [0,1,5,6,11,12,104,105] c169_1)) (
.kp [0,1,5,6,11,12]))) (
.seq (
.reg [⟨some 141,none,.mov (.t 0)⟩,⟨some 142,none,.mov (.t 5)⟩,⟨some 143,none,.mov (.t 0)⟩,⟨some 144,none,.mov (.t 5)⟩,⟨some 145,none,.ixa 1 (.t 143) (.t 144)⟩,⟨some 146,none,.ld 1 false (.t 145)⟩,⟨some 147,none,.mov (.t 12)⟩,⟨some 148,none,.mov (.t 11)⟩,⟨some 149,none,.call .pure (.c (.fn (.f 173) [] [])) [.t 146,.t 147,.t 148]⟩,⟨some 140,none,.mov (.t 149)⟩,⟨some 150,none,.ext 0 (.t 140)⟩,⟨some 151,none,.ext 1 (.t 140)⟩,⟨some 152,none,.ixa 1 (.t 141) (.t 142)⟩,⟨none,none,.st 1 (.t 152) (.t 150)⟩,⟨some 11,none,.mov (.t 151)⟩]) (
.seq (
.seq (
.reg [⟨some 153,none,.mov (.t 11)⟩,⟨some 154,none,.bin .eql (.t 153) (.c (.int .u64 0))⟩]) (
.cond (.t 154) (
 .seq (
 .reg [⟨some 155,none,.mov (.t 6)⟩,
   ⟨some 4,none,.mov (.t 155)⟩]) (
 .ret)) (
 .skip))) (
.seq (
.reg [⟨some 17,none,.mov (.c (.int .u64 0))⟩]) (
.seq (
.seq (
.reg [⟨some 156,none,.mov (.t 5)⟩,⟨some 157,none,.mov (.c (.int .i64 0))⟩]) (
.seq (
.blk 4 (
.loop [0,1,5,6,17,156,157] c169_2)) (
.kp [0,5,6,17]))) (
.seq (
.reg [⟨some 177,none,.mov (.t 0)⟩,⟨some 178,none,.mov (.t 5)⟩,⟨some 179,none,.ixa 1 (.t 177) (.t 178)⟩,⟨some 180,none,.ld 1 false (.t 179)⟩,⟨some 181,none,.mov (.t 17)⟩,⟨some 182,none,.bin .add (.t 180) (.t 181)⟩,⟨some 183,none,.ixa 1 (.t 177) (.t 178)⟩,⟨none,none,.st 1 (.t 183) (.t 182)⟩]) (
.seq (
.reg [⟨some 184,none,.mov (.t 6)⟩,⟨some 185,none,.bin .sub (.t 184) (.c (.int .u64 1))⟩,⟨some 4,none,.mov (.t 185)⟩]) (
.ret))))))))))))))⟩
/- (*strings.Builder).copyCheck -/
def c170 : Fnc := ⟨[],
.seq (
.reg [⟨some 2,none,.mov (.t 0)⟩,⟨some 3,none,.nilc (.t 2)⟩,⟨some 4,none,.off 0 (.t 3)⟩,⟨some 5,none,.ld 1 false (.t 4)⟩,⟨some 6,none,.call .pure (.c (.undef)) []⟩]) (
.cond (.t 6) (
 .reg [⟨some 7,none,.mov (.t 0)⟩,
   ⟨some 8,none,.mov (.t 0)⟩,
   ⟨some 9,none,.call .pure (.c (.undef)) []⟩,
   ⟨some 10,none,.call .pure (.c (.fn (.f 174) [] [])) [.t 9]⟩,
   ⟨some 11,none,.call .pure (.c (.undef)) []⟩,
   ⟨some 12,none,.nilc (.t 7)⟩,
   ⟨some 13,none,.off 0 (.t 12)⟩,
   ⟨none,none,.st 1 (.t 13) (.t 11)⟩]) (
 .seq (
 .reg [⟨some 14,none,.mov (.t 0)⟩,
   ⟨some 15,none,.nilc (.t 14)⟩,
   ⟨some 16,none,.off 0 (.t 15)⟩,
   ⟨some 17,none,.ld 1 false (.t 16)⟩,
   ⟨some 18,none,.mov (.t 0)⟩,
   ⟨some 19,none,.call .pure (.c (.undef)) []⟩]) (
 .cond (.t 19) (
  .reg [⟨none,none,.call .pure (.c (.undef)) []⟩]) (
  .skip))))⟩
/- (lenslet/num.Int).Bits -/
def c172 : Fnc := ⟨[.t 2],
.seq (
.reg [⟨some 1,none,.box 2 (.t 0)⟩,⟨some 2,none,.mov (.c (.int .i64 0))⟩]) (
.seq (
.reg [⟨some 6,none,.ld 2 true (.t 1)⟩,⟨some 7,none,.call .pure (.c (.fn (.f 136) [] [])) [.t 6]⟩,⟨some 5,none,.mov (.t 7)⟩,⟨some 8,none,.ext 0 (.t 5)⟩,⟨some 9,none,.ext 1 (.t 5)⟩,⟨some 3,none,.mov (.t 8)⟩,⟨some 4,none,.mov (.t 9)⟩]) (
.seq (
.seq (
.reg [⟨some 10,none,.mov (.t 4)⟩,⟨some 11,none,.len 1 (.t 10)⟩,⟨some 12,none,.bin .eql (.t 11) (.c (.int .i64 0))⟩]) (
.cond (.t 12) (
 .seq (
 .reg [⟨some 2,none,.mov (.c (.int .i64 0))⟩]) (
 .ret)) (
 .skip))) (
.seq (
.reg [⟨some 13,none,.mov (.t 4)⟩,⟨some 14,none,.len 1 (.t 13)⟩,⟨some 15,none,.bin .sub (.t 14) (.c (.int .i64 1))⟩,⟨some 16,none,.bin .mul (.c (.int .i64 64)) (.t 15)⟩,⟨some 17,none,.mov (.t 4)⟩,⟨some 18,none,.mov (.t 4)⟩,⟨some 19,none,.len 1 (.t 18)⟩,⟨some 20,none,.bin .sub (.t 19) (.c (.int .i64 1))⟩,⟨some 21,none,.ixa 1 (.t 17) (.t 20)⟩,⟨some 22,none,.ld 1 false (.t 21)⟩,⟨some 23,none,.call .pure (.c (.fn (.f 175) [] [])) [.t 22]⟩,⟨some 24,none,.bin .add (.t 16) (.t 23)⟩,⟨some 2,none,.mov (.t 24)⟩]) (
.ret))))⟩
end VE
