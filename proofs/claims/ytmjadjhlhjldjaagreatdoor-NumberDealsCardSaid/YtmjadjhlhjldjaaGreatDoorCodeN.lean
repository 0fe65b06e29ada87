import Derived.Test.YtmjadjhlhjldjaaGreatDoorCode
set_option linter.all false
/- Code of chapter 1 beside what VP1 holds (NumberDraws,NumberDeals),as printed. -/
set_option maxRecDepth 100000
namespace VE
/- lenslet/lensletlaw01.NumberDraws -/
def c177 : Fnc := ⟨[.t 4],
.seq (
.reg [⟨some 4,none,.mov (.c (.bool false))⟩]) (
.seq (
.seq (
.reg [⟨some 8,none,.call .pure (.c (.fn (.f 179) [] [])) []⟩,⟨some 9,none,.un .not (.t 8)⟩]) (
.cond (.t 9) (
 .seq (
 .reg [⟨some 4,none,.mov (.c (.bool false))⟩]) (
 .ret)) (
 .skip))) (
.seq (
.reg [⟨some 11,none,.mov (.t 0)⟩,⟨some 12,none,.mov (.t 1)⟩,⟨some 13,none,.call .pure (.c (.fn (.f 180) [] [])) [.t 11,.t 12]⟩,⟨some 10,none,.mov (.t 13)⟩,⟨some 14,none,.ext 0 (.t 10)⟩,⟨some 15,none,.ext 1 (.t 10)⟩,⟨some 5,none,.mov (.t 14)⟩,⟨some 6,none,.mov (.t 15)⟩]) (
.seq (
.reg [⟨some 16,none,.mov (.t 0)⟩,⟨some 17,none,.mov (.t 1)⟩,⟨some 18,none,.call .pure (.c (.fn (.f 181) [] [])) [.t 16,.t 17]⟩,⟨some 7,none,.mov (.t 18)⟩]) (
.seq (
.seq (
.reg [⟨some 19,none,.mov (.t 7)⟩,⟨some 20,none,.bin .neq (.t 19) (.c (.int .i64 0))⟩]) (
.cond (.t 20) (
 .seq (
 .reg [⟨some 21,none,.mov (.t 5)⟩,
   ⟨some 22,none,.mov (.t 6)⟩,
   ⟨some 23,none,.mov (.t 7)⟩,
   ⟨some 24,none,.call .pure (.c (.fn (.f 182) [] [])) [.t 21,.t 22,.t 23,.c (.nils)]⟩,
   ⟨some 4,none,.mov (.t 24)⟩]) (
 .ret)) (
 .skip))) (
.seq (
.reg [⟨some 25,none,.mov (.t 5)⟩,⟨some 26,none,.mov (.t 6)⟩,⟨some 27,none,.mov (.t 0)⟩,⟨some 28,none,.mov (.t 1)⟩,⟨some 29,none,.call .pure (.c (.fn (.f 183) [] [])) [.t 27,.t 28]⟩,⟨some 30,none,.call .pure (.c (.fn (.f 182) [] [])) [.t 25,.t 26,.c (.int .i64 0),.t 29]⟩,⟨some 4,none,.mov (.t 30)⟩]) (
.ret))))))⟩
/- lenslet/lensletlaw01.NumberDeals -/
def c178 : Fnc := ⟨[.t 4],
.seq (
.reg [⟨some 4,none,.mov (.c (.bool false))⟩]) (
.seq (
.seq (
.reg [⟨some 7,none,.call .pure (.c (.fn (.f 179) [] [])) []⟩,⟨some 8,none,.un .not (.t 7)⟩,⟨some 9,none,.mov (.t 8)⟩,⟨some 10,some (9,false),.mov (.t 1)⟩,⟨some 11,some (9,false),.bin .gtr (.t 10) (.c (.int .i64 40))⟩,⟨some 12,none,.pick (.t 9) (.c (.bool true)) (.t 11)⟩,⟨some 13,none,.mov (.t 12)⟩,⟨some 14,some (13,false),.mov (.t 0)⟩,⟨some 15,some (13,false),.mov (.t 1)⟩,⟨some 16,some (13,false),.call .pure (.c (.fn (.f 181) [] [])) [.t 14,.t 15]⟩,⟨some 17,some (13,false),.bin .neq (.t 16) (.c (.int .i64 0))⟩,⟨some 18,none,.pick (.t 13) (.c (.bool true)) (.t 17)⟩]) (
.cond (.t 18) (
 .seq (
 .reg [⟨some 19,none,.call .pure (.c (.fn (.f 179) [] [])) []⟩,
   ⟨some 4,none,.mov (.t 19)⟩]) (
 .ret)) (
 .skip))) (
.seq (
.reg [⟨some 21,none,.mov (.t 0)⟩,⟨some 22,none,.mov (.t 1)⟩,⟨some 23,none,.call .pure (.c (.fn (.f 180) [] [])) [.t 21,.t 22]⟩,⟨some 20,none,.mov (.t 23)⟩,⟨some 24,none,.ext 0 (.t 20)⟩,⟨some 25,none,.ext 1 (.t 20)⟩,⟨some 5,none,.mov (.t 24)⟩,⟨some 6,none,.mov (.t 25)⟩]) (
.seq (
.seq (
.reg [⟨some 26,none,.mov (.t 6)⟩,⟨some 27,none,.bin .neq (.t 26) (.c (.int .i64 0))⟩,⟨some 28,none,.mov (.t 27)⟩,⟨some 29,some (28,false),.mov (.t 5)⟩,⟨some 30,some (28,false),.len 1 (.t 29)⟩,⟨some 31,some (28,false),.mov (.t 1)⟩,⟨some 32,some (28,false),.bin .neq (.t 30) (.t 31)⟩,⟨some 33,none,.pick (.t 28) (.c (.bool true)) (.t 32)⟩,⟨some 34,none,.mov (.t 33)⟩,⟨some 35,some (34,false),.mov (.t 5)⟩,⟨some 36,some (34,false),.call .pure (.c (.fn (.f 184) [] [])) [.t 35]⟩,⟨some 37,some (34,false),.un .not (.t 36)⟩,⟨some 38,none,.pick (.t 34) (.c (.bool true)) (.t 37)⟩]) (
.cond (.t 38) (
 .seq (
 .reg [⟨some 4,none,.mov (.c (.bool false))⟩]) (
 .ret)) (
 .skip))) (
.seq (
.reg [⟨some 39,none,.mov (.t 1)⟩,⟨some 40,none,.bin .lss (.t 39) (.c (.int .i64 2))⟩,⟨some 41,none,.mov (.t 40)⟩,⟨some 42,some (41,false),.mov (.t 5)⟩,⟨some 43,some (41,false),.mov (.t 1)⟩,⟨some 44,some (41,false),.bin .sub (.t 43) (.c (.int .i64 1))⟩,⟨some 45,some (41,false),.ixa 1 (.t 42) (.t 44)⟩,⟨some 46,some (41,false),.ld 1 false (.t 45)⟩,⟨some 47,some (41,false),.mov (.t 0)⟩,⟨some 48,some (41,false),.bin .mul (.c (.int .i64 39373)) (.t 47)⟩,⟨some 49,some (41,false),.bin .rem (.t 48) (.c (.int .i64 2147483647))⟩,⟨some 50,some (41,false),.mov (.t 1)⟩,⟨some 51,some (41,false),.bin .rem (.t 49) (.t 50)⟩,⟨some 52,some (41,false),.bin .eql (.t 46) (.t 51)⟩,⟨some 53,none,.pick (.t 41) (.c (.bool true)) (.t 52)⟩,⟨some 4,none,.mov (.t 53)⟩]) (
.ret)))))⟩
/- lenslet/lensletlaw01.awake -/
def c179 : Fnc := ⟨[.t 0],
.seq (
.reg [⟨some 0,none,.mov (.c (.bool false))⟩]) (
.seq (
.reg [⟨some 48,none,.call .pure (.c (.fn (.f 185) [] [])) [.c (.int .i64 15),.c (.int .i64 (-6))]⟩,⟨some 47,none,.mov (.t 48)⟩,⟨some 49,none,.ext 0 (.t 47)⟩,⟨some 50,none,.ext 1 (.t 47)⟩,⟨some 1,none,.mov (.t 49)⟩,⟨some 2,none,.mov (.t 50)⟩]) (
.seq (
.reg [⟨some 52,none,.call .pure (.c (.fn (.f 186) [] [])) [.c (.str [45,53,47,50])]⟩,⟨some 51,none,.mov (.t 52)⟩,⟨some 53,none,.ext 0 (.t 51)⟩,⟨some 54,none,.ext 1 (.t 51)⟩,⟨some 3,none,.mov (.t 53)⟩,⟨some 4,none,.mov (.t 54)⟩]) (
.seq (
.reg [⟨some 56,none,.call .pure (.c (.fn (.f 187) [] [])) [.c (.str [45,49]),.c (.str [50])]⟩,⟨some 57,none,.call .pure (.c (.fn (.f 187) [] [])) [.c (.str [45,51]),.c (.str [52])]⟩,⟨some 58,none,.call .pure (.c (.fn (.f 188) [] [])) [.t 56,.t 57]⟩,⟨some 55,none,.mov (.t 58)⟩,⟨some 59,none,.ext 0 (.t 55)⟩,⟨some 60,none,.ext 1 (.t 55)⟩,⟨some 5,none,.box 2 (.c (.agg [.str [],.str []]))⟩,⟨none,none,.st 2 (.t 5) (.t 59)⟩,⟨some 6,none,.mov (.t 60)⟩]) (
.seq (
.reg [⟨some 62,none,.call .pure (.c (.fn (.f 187) [] [])) [.c (.str [49]),.c (.str [50])]⟩,⟨some 63,none,.call .pure (.c (.fn (.f 187) [] [])) [.c (.str [52]),.c (.str [56])]⟩,⟨some 64,none,.call .pure (.c (.fn (.f 189) [] [])) [.t 62,.t 63]⟩,⟨some 61,none,.mov (.t 64)⟩,⟨some 65,none,.ext 0 (.t 61)⟩,⟨some 66,none,.ext 1 (.t 61)⟩,⟨some 7,none,.box 2 (.c (.agg [.str [],.str []]))⟩,⟨none,none,.st 2 (.t 7) (.t 65)⟩,⟨some 8,none,.mov (.t 66)⟩]) (
.seq (
.reg [⟨some 68,none,.call .pure (.c (.fn (.f 187) [] [])) [.c (.str [45,49]),.c (.str [50])]⟩,⟨some 69,none,.call .pure (.c (.fn (.f 190) [] [])) [.t 68]⟩,⟨some 67,none,.mov (.t 69)⟩,⟨some 70,none,.ext 0 (.t 67)⟩,⟨some 71,none,.ext 1 (.t 67)⟩,⟨some 9,none,.box 2 (.c (.agg [.str [],.str []]))⟩,⟨none,none,.st 2 (.t 9) (.t 70)⟩,⟨some 10,none,.mov (.t 71)⟩]) (
.seq (
.reg [⟨some 73,none,.call .pure (.c (.fn (.f 187) [] [])) [.c (.str [49]),.c (.str [50])]⟩,⟨some 74,none,.call .pure (.c (.fn (.f 187) [] [])) [.c (.str [51]),.c (.str [52])]⟩,⟨some 75,none,.call .pure (.c (.fn (.f 191) [] [])) [.t 73,.t 74]⟩,⟨some 72,none,.mov (.t 75)⟩,⟨some 76,none,.ext 0 (.t 72)⟩,⟨some 77,none,.ext 1 (.t 72)⟩,⟨some 11,none,.mov (.t 76)⟩,⟨some 12,none,.mov (.t 77)⟩]) (
.seq (
.reg [⟨some 79,none,.call .pure (.c (.fn (.f 187) [] [])) [.c (.str [49]),.c (.str [50])]⟩,⟨some 80,none,.call .pure (.c (.fn (.f 187) [] [])) [.c (.str [50]),.c (.str [51])]⟩,⟨some 81,none,.call .pure (.c (.fn (.f 191) [] [])) [.t 79,.t 80]⟩,⟨some 78,none,.mov (.t 81)⟩,⟨some 82,none,.ext 0 (.t 78)⟩,⟨some 83,none,.ext 1 (.t 78)⟩,⟨some 13,none,.mov (.t 82)⟩,⟨some 14,none,.mov (.t 83)⟩]) (
.seq (
.reg [⟨some 85,none,.call .pure (.c (.fn (.f 192) [] [])) [.c (.str [50]),.c (.int .i64 3)]⟩,⟨some 84,none,.mov (.t 85)⟩,⟨some 86,none,.ext 0 (.t 84)⟩,⟨some 87,none,.ext 1 (.t 84)⟩,⟨some 15,none,.box 2 (.c (.agg [.str [],.str []]))⟩,⟨none,none,.st 2 (.t 15) (.t 86)⟩,⟨some 16,none,.mov (.t 87)⟩]) (
.seq (
.reg [⟨some 89,none,.call .pure (.c (.fn (.f 193) [] [])) [.c (.str [49,47,54]),.c (.int .i64 5)]⟩,⟨some 88,none,.mov (.t 89)⟩,⟨some 90,none,.ext 0 (.t 88)⟩,⟨some 91,none,.ext 1 (.t 88)⟩,⟨some 17,none,.box 2 (.c (.agg [.str [],.str []]))⟩,⟨none,none,.st 2 (.t 17) (.t 90)⟩,⟨some 18,none,.mov (.t 91)⟩]) (
.seq (
.reg [⟨some 93,none,.call .pure (.c (.fn (.f 193) [] [])) [.c (.str [49,47,56]),.c (.int .i64 3)]⟩,⟨some 92,none,.mov (.t 93)⟩,⟨some 94,none,.ext 0 (.t 92)⟩,⟨some 95,none,.ext 1 (.t 92)⟩,⟨some 19,none,.box 2 (.c (.agg [.str [],.str []]))⟩,⟨none,none,.st 2 (.t 19) (.t 94)⟩,⟨some 20,none,.mov (.t 95)⟩]) (
.seq (
.reg [⟨some 97,none,.call .pure (.c (.fn (.f 194) [] [])) [.c (.str [45,49,47,56]),.c (.int .i64 3)]⟩,⟨some 96,none,.mov (.t 97)⟩,⟨some 98,none,.ext 0 (.t 96)⟩,⟨some 99,none,.ext 1 (.t 96)⟩,⟨some 21,none,.box 2 (.c (.agg [.str [],.str []]))⟩,⟨none,none,.st 2 (.t 21) (.t 98)⟩,⟨some 22,none,.mov (.t 99)⟩]) (
.seq (
.seq (
.reg [⟨some 100,none,.mov (.t 2)⟩,⟨some 101,none,.mov (.t 4)⟩,⟨some 102,none,.bin .add (.t 100) (.t 101)⟩,⟨some 103,none,.mov (.t 6)⟩,⟨some 104,none,.bin .add (.t 102) (.t 103)⟩,⟨some 105,none,.mov (.t 8)⟩,⟨some 106,none,.bin .add (.t 104) (.t 105)⟩,⟨some 107,none,.mov (.t 10)⟩,⟨some 108,none,.bin .add (.t 106) (.t 107)⟩,⟨some 109,none,.mov (.t 12)⟩,⟨some 110,none,.bin .add (.t 108) (.t 109)⟩,⟨some 111,none,.mov (.t 16)⟩,⟨some 112,none,.bin .add (.t 110) (.t 111)⟩,⟨some 113,none,.mov (.t 18)⟩,⟨some 114,none,.bin .add (.t 112) (.t 113)⟩,⟨some 115,none,.mov (.t 20)⟩,⟨some 116,none,.bin .add (.t 114) (.t 115)⟩,⟨some 117,none,.mov (.t 22)⟩,⟨some 118,none,.bin .add (.t 116) (.t 117)⟩,⟨some 119,none,.bin .neq (.t 118) (.c (.int .i64 0))⟩,⟨some 120,none,.mov (.t 119)⟩,⟨some 121,some (120,false),.mov (.t 1)⟩,⟨some 122,some (120,false),.bin .neq (.t 121) (.c (.str [45,53,47,50]))⟩,⟨some 123,none,.pick (.t 120) (.c (.bool true)) (.t 122)⟩,⟨some 124,none,.mov (.t 123)⟩,⟨some 125,some (124,false),.mov (.t 3)⟩,⟨some 126,some (124,false),.bin .neq (.t 125) (.c (.str [45,51]))⟩,⟨some 127,none,.pick (.t 124) (.c (.bool true)) (.t 126)⟩,⟨some 128,none,.mov (.t 127)⟩,⟨some 129,some (128,false),.ld 2 true (.t 5)⟩,⟨some 130,some (128,false),.call .pure (.c (.fn (.f 187) [] [])) [.c (.str [45,54]),.c (.str [56])]⟩,⟨some 131,some (128,false),.eq true (.ag [2,2]) (.t 129) (.t 130)⟩,⟨some 132,none,.pick (.t 128) (.c (.bool true)) (.t 131)⟩,⟨some 133,none,.mov (.t 132)⟩,⟨some 134,some (133,false),.ld 2 true (.t 7)⟩,⟨some 135,some (133,false),.call .pure (.c (.fn (.f 187) [] [])) [.c (.str [49,47,56]),.c (.str [49,47,50])]⟩,⟨some 136,some (133,false),.eq true (.ag [2,2]) (.t 134) (.t 135)⟩,⟨some 137,none,.pick (.t 133) (.c (.bool true)) (.t 136)⟩,⟨some 138,none,.mov (.t 137)⟩,⟨some 139,some (138,false),.ld 2 true (.t 9)⟩,⟨some 140,some (138,false),.call .pure (.c (.fn (.f 187) [] [])) [.c (.str [48]),.c (.str [52])]⟩,⟨some 141,some (138,false),.eq true (.ag [2,2]) (.t 139) (.t 140)⟩,⟨some 142,none,.pick (.t 138) (.c (.bool true)) (.t 141)⟩,⟨some 143,none,.mov (.t 142)⟩,⟨some 144,some (143,false),.mov (.t 11)⟩,⟨some 145,some (143,false),.bin .neq (.t 144) (.c (.int .i64 (-1)))⟩,⟨some 146,none,.pick (.t 143) (.c (.bool true)) (.t 145)⟩,⟨some 147,none,.mov (.t 146)⟩,⟨some 148,some (147,false),.mov (.t 14)⟩,⟨some 149,some (147,false),.bin .neq (.t 148) (.c (.int .i64 24))⟩,⟨some 150,none,.pick (.t 147) (.c (.bool true)) (.t 149)⟩,⟨some 151,none,.mov (.t 150)⟩,⟨some 152,some (151,false),.ld 2 true (.t 15)⟩,⟨some 153,some (151,false),.call .pure (.c (.fn (.f 187) [] [])) [.c (.str [55,48,55,47,53,48,48]),.c (.str [50,56,51,47,50,48,48])]⟩,⟨some 154,some (151,false),.eq true (.ag [2,2]) (.t 152) (.t 153)⟩,⟨some 155,none,.pick (.t 151) (.c (.bool true)) (.t 154)⟩]) (
.cond (.t 155) (
 .seq (
 .reg [⟨some 0,none,.mov (.c (.bool false))⟩]) (
 .ret)) (
 .skip))) (
.seq (
.reg [⟨some 157,none,.call .pure (.c (.fn (.f 195) [] [])) [.c (.str [49,47,52]),.c (.int .i64 2)]⟩,⟨some 156,none,.mov (.t 157)⟩,⟨some 158,none,.ext 0 (.t 156)⟩,⟨some 159,none,.ext 1 (.t 156)⟩,⟨some 23,none,.box 4 (.c (.agg [.str [],.str [],.str [],.str []]))⟩,⟨none,none,.st 4 (.t 23) (.t 158)⟩,⟨some 24,none,.mov (.t 159)⟩]) (
.seq (
.reg [⟨some 161,none,.call .pure (.c (.fn (.f 196) [] [])) [.c (.str [49]),.c (.str [50])]⟩,⟨some 162,none,.call .pure (.c (.fn (.f 196) [] [])) [.c (.str [51]),.c (.str [45,49])]⟩,⟨some 163,none,.call .pure (.c (.fn (.f 197) [] [])) [.t 161,.t 162]⟩,⟨some 160,none,.mov (.t 163)⟩,⟨some 164,none,.ext 0 (.t 160)⟩,⟨some 165,none,.ext 1 (.t 160)⟩,⟨some 25,none,.box 4 (.c (.agg [.str [],.str [],.str [],.str []]))⟩,⟨none,none,.st 4 (.t 25) (.t 164)⟩,⟨some 26,none,.mov (.t 165)⟩]) (
.seq (
.reg [⟨some 167,none,.call .pure (.c (.fn (.f 196) [] [])) [.c (.str [49]),.c (.str [50])]⟩,⟨some 168,none,.call .pure (.c (.fn (.f 198) [] [])) [.t 167]⟩,⟨some 166,none,.mov (.t 168)⟩,⟨some 169,none,.ext 0 (.t 166)⟩,⟨some 170,none,.ext 1 (.t 166)⟩,⟨some 27,none,.box 4 (.c (.agg [.str [],.str [],.str [],.str []]))⟩,⟨none,none,.st 4 (.t 27) (.t 169)⟩,⟨some 28,none,.mov (.t 170)⟩]) (
.seq (
.reg [⟨some 172,none,.call .pure (.c (.fn (.f 196) [] [])) [.c (.str [49]),.c (.str [50])]⟩,⟨some 173,none,.call .pure (.c (.fn (.f 199) [] [])) [.t 172]⟩,⟨some 171,none,.mov (.t 173)⟩,⟨some 174,none,.ext 0 (.t 171)⟩,⟨some 175,none,.ext 1 (.t 171)⟩,⟨some 29,none,.box 2 (.c (.agg [.str [],.str []]))⟩,⟨none,none,.st 2 (.t 29) (.t 174)⟩,⟨some 30,none,.mov (.t 175)⟩]) (
.seq (
.reg [⟨some 177,none,.mksl 2 1 [.str [],.str []] [(0,1,(.c (.str [49]))),(1,1,(.c (.str [50])))]⟩,⟨some 178,none,.mksl 2 1 [.str [],.str []] [(0,1,(.c (.str [51]))),(1,1,(.c (.str [52])))]⟩,⟨some 179,none,.mksl 2 1 [.nils,.nils] [(0,1,(.t 177)),(1,1,(.t 178))]⟩,⟨some 180,none,.mksl 2 1 [.str [],.str []] [(0,1,(.c (.str [48]))),(1,1,(.c (.str [49])))]⟩,⟨some 181,none,.mksl 2 1 [.str [],.str []] [(0,1,(.c (.str [49]))),(1,1,(.c (.str [48])))]⟩,⟨some 182,none,.mksl 2 1 [.nils,.nils] [(0,1,(.t 180)),(1,1,(.t 181))]⟩,⟨some 183,none,.call .pure (.c (.fn (.f 200) [] [])) [.t 179,.t 182]⟩,⟨some 176,none,.mov (.t 183)⟩,⟨some 184,none,.ext 0 (.t 176)⟩,⟨some 185,none,.ext 1 (.t 176)⟩,⟨some 31,none,.mov (.t 184)⟩,⟨some 32,none,.mov (.t 185)⟩]) (
.seq (
.reg [⟨some 187,none,.mksl 2 1 [.str [],.str []] [(0,1,(.c (.str [49]))),(1,1,(.c (.str [50])))]⟩,⟨some 188,none,.mksl 2 1 [.str [],.str []] [(0,1,(.c (.str [51]))),(1,1,(.c (.str [52])))]⟩,⟨some 189,none,.mksl 2 1 [.nils,.nils] [(0,1,(.t 187)),(1,1,(.t 188))]⟩,⟨some 190,none,.mksl 2 1 [.str [],.str []] [(0,1,(.c (.str [53]))),(1,1,(.c (.str [49,49])))]⟩,⟨some 191,none,.call .pure (.c (.fn (.f 201) [] [])) [.t 189,.t 190]⟩,⟨some 186,none,.mov (.t 191)⟩,⟨some 192,none,.ext 0 (.t 186)⟩,⟨some 193,none,.ext 1 (.t 186)⟩,⟨some 33,none,.mov (.t 192)⟩,⟨some 34,none,.mov (.t 193)⟩]) (
.seq (
.reg [⟨some 195,none,.call .pure (.c (.fn (.f 202) [] [])) [.c (.str [49,47,51])]⟩,⟨some 194,none,.mov (.t 195)⟩,⟨some 196,none,.ext 0 (.t 194)⟩,⟨some 197,none,.ext 1 (.t 194)⟩,⟨some 35,none,.mov (.t 196)⟩,⟨some 36,none,.mov (.t 197)⟩]) (
.seq (
.reg [⟨some 199,none,.mov (.t 35)⟩,⟨some 200,none,.call .pure (.c (.fn (.f 203) [] [])) [.t 199]⟩,⟨some 198,none,.mov (.t 200)⟩,⟨some 201,none,.ext 0 (.t 198)⟩,⟨some 202,none,.ext 1 (.t 198)⟩,⟨some 37,none,.mov (.t 201)⟩,⟨some 38,none,.mov (.t 202)⟩]) (
.seq (
.reg [⟨some 204,none,.call .pure (.c (.fn (.f 202) [] [])) [.c (.str [49,54,55,55,55,50,49,55])]⟩,⟨some 203,none,.mov (.t 204)⟩,⟨some 205,none,.ext 0 (.t 203)⟩,⟨some 206,none,.ext 1 (.t 203)⟩,⟨some 39,none,.mov (.t 205)⟩,⟨some 40,none,.mov (.t 206)⟩]) (
.seq (
.reg [⟨some 208,none,.mksl 3 1 [.str [],.str [],.str []] [(0,1,(.c (.str [49]))),(1,1,(.c (.str [50]))),(2,1,(.c (.str [51])))]⟩,⟨some 209,none,.mksl 3 1 [.str [],.str [],.str []] [(0,1,(.c (.str [50]))),(1,1,(.c (.str [52]))),(2,1,(.c (.str [54])))]⟩,⟨some 210,none,.mksl 2 1 [.nils,.nils] [(0,1,(.t 208)),(1,1,(.t 209))]⟩,⟨some 211,none,.call .pure (.c (.fn (.f 204) [] [])) [.t 210]⟩,⟨some 207,none,.mov (.t 211)⟩,⟨some 212,none,.ext 0 (.t 207)⟩,⟨some 213,none,.ext 1 (.t 207)⟩,⟨some 41,none,.mov (.t 212)⟩,⟨some 42,none,.mov (.t 213)⟩]) (
.seq (
.reg [⟨some 215,none,.mksl 3 1 [.str [],.str [],.str []] [(0,1,(.c (.str [49]))),(1,1,(.c (.str [50]))),(2,1,(.c (.str [51])))]⟩,⟨some 216,none,.mksl 3 1 [.str [],.str [],.str []] [(0,1,(.c (.str [50]))),(1,1,(.c (.str [52]))),(2,1,(.c (.str [54])))]⟩,⟨some 217,none,.mksl 2 1 [.nils,.nils] [(0,1,(.t 215)),(1,1,(.t 216))]⟩,⟨some 218,none,.call .pure (.c (.fn (.f 205) [] [])) [.t 217]⟩,⟨some 214,none,.mov (.t 218)⟩,⟨some 219,none,.ext 0 (.t 214)⟩,⟨some 220,none,.ext 1 (.t 214)⟩,⟨some 43,none,.mov (.t 219)⟩,⟨some 44,none,.mov (.t 220)⟩]) (
.seq (
.reg [⟨some 222,none,.call .pure (.c (.fn (.f 180) [] [])) [.c (.int .i64 1),.c (.int .i64 3)]⟩,⟨some 221,none,.mov (.t 222)⟩,⟨some 223,none,.ext 0 (.t 221)⟩,⟨some 224,none,.ext 1 (.t 221)⟩,⟨some 45,none,.mov (.t 223)⟩,⟨some 46,none,.mov (.t 224)⟩]) (
.seq (
.seq (
.reg [⟨some 225,none,.mov (.t 24)⟩,⟨some 226,none,.mov (.t 26)⟩,⟨some 227,none,.bin .add (.t 225) (.t 226)⟩,⟨some 228,none,.mov (.t 28)⟩,⟨some 229,none,.bin .add (.t 227) (.t 228)⟩,⟨some 230,none,.mov (.t 30)⟩,⟨some 231,none,.bin .add (.t 229) (.t 230)⟩,⟨some 232,none,.mov (.t 32)⟩,⟨some 233,none,.bin .add (.t 231) (.t 232)⟩,⟨some 234,none,.mov (.t 34)⟩,⟨some 235,none,.bin .add (.t 233) (.t 234)⟩,⟨some 236,none,.mov (.t 36)⟩,⟨some 237,none,.bin .add (.t 235) (.t 236)⟩,⟨some 238,none,.mov (.t 38)⟩,⟨some 239,none,.bin .add (.t 237) (.t 238)⟩,⟨some 240,none,.mov (.t 40)⟩,⟨some 241,none,.bin .add (.t 239) (.t 240)⟩,⟨some 242,none,.mov (.t 42)⟩,⟨some 243,none,.bin .add (.t 241) (.t 242)⟩,⟨some 244,none,.mov (.t 44)⟩,⟨some 245,none,.bin .add (.t 243) (.t 244)⟩,⟨some 246,none,.mov (.t 46)⟩,⟨some 247,none,.bin .add (.t 245) (.t 246)⟩,⟨some 248,none,.bin .neq (.t 247) (.c (.int .i64 0))⟩,⟨some 249,none,.mov (.t 248)⟩,⟨some 250,some (249,false),.ld 2 true (.t 17)⟩,⟨some 251,some (249,false),.call .pure (.c (.fn (.f 187) [] [])) [.c (.str [49,47,50]),.c (.str [49,47,50])]⟩,⟨some 252,some (249,false),.eq true (.ag [2,2]) (.t 250) (.t 251)⟩,⟨some 253,none,.pick (.t 249) (.c (.bool true)) (.t 252)⟩,⟨some 254,none,.mov (.t 253)⟩,⟨some 255,some (254,false),.ld 2 true (.t 19)⟩,⟨some 256,some (254,false),.call .pure (.c (.fn (.f 187) [] [])) [.c (.str [55,48,55,47,49,48,48,48]),.c (.str [49,55,55,47,50,53,48])]⟩,⟨some 257,some (254,false),.eq true (.ag [2,2]) (.t 255) (.t 256)⟩,⟨some 258,none,.pick (.t 254) (.c (.bool true)) (.t 257)⟩,⟨some 259,none,.mov (.t 258)⟩,⟨some 260,some (259,false),.ld 2 true (.t 21)⟩,⟨some 261,some (259,false),.call .pure (.c (.fn (.f 187) [] [])) [.c (.str [45,49,55,55,47,50,53,48]),.c (.str [45,55,48,55,47,49,48,48,48])]⟩,⟨some 262,some (259,false),.eq true (.ag [2,2]) (.t 260) (.t 261)⟩,⟨some 263,none,.pick (.t 259) (.c (.bool true)) (.t 262)⟩,⟨some 264,none,.mov (.t 263)⟩,⟨some 265,some (264,false),.ld 4 true (.t 23)⟩,⟨some 266,some (264,false),.call .pure (.c (.fn (.f 196) [] [])) [.c (.str [48]),.c (.str [49])]⟩,⟨some 267,some (264,false),.eq true (.ag [2,2,2,2]) (.t 265) (.t 266)⟩,⟨some 268,none,.pick (.t 264) (.c (.bool true)) (.t 267)⟩,⟨some 269,none,.mov (.t 268)⟩,⟨some 270,some (269,false),.ld 4 true (.t 25)⟩,⟨some 271,some (269,false),.call .pure (.c (.fn (.f 196) [] [])) [.c (.str [53]),.c (.str [53])]⟩,⟨some 272,some (269,false),.eq true (.ag [2,2,2,2]) (.t 270) (.t 271)⟩,⟨some 273,none,.pick (.t 269) (.c (.bool true)) (.t 272)⟩,⟨some 274,none,.mov (.t 273)⟩,⟨some 275,some (274,false),.ld 4 true (.t 27)⟩,⟨some 276,some (274,false),.call .pure (.c (.fn (.f 196) [] [])) [.c (.str [49]),.c (.str [45,50])]⟩,⟨some 277,some (274,false),.eq true (.ag [2,2,2,2]) (.t 275) (.t 276)⟩,⟨some 278,none,.pick (.t 274) (.c (.bool true)) (.t 277)⟩]) (
.cond (.t 278) (
 .seq (
 .reg [⟨some 0,none,.mov (.c (.bool false))⟩]) (
 .ret)) (
 .skip))) (
.seq (
.reg [⟨some 279,none,.ld 2 true (.t 29)⟩,⟨some 280,none,.call .pure (.c (.fn (.f 187) [] [])) [.c (.str [53]),.c (.str [53])]⟩,⟨some 281,none,.eq false (.ag [2,2]) (.t 279) (.t 280)⟩,⟨some 282,none,.mov (.t 281)⟩,⟨some 283,some (282,true),.mov (.t 31)⟩,⟨some 284,some (282,true),.mksl 2 1 [.str [],.str []] [(0,1,(.c (.str [50]))),(1,1,(.c (.str [49])))]⟩,⟨some 285,some (282,true),.mksl 2 1 [.str [],.str []] [(0,1,(.c (.str [52]))),(1,1,(.c (.str [51])))]⟩,⟨some 286,some (282,true),.mksl 2 1 [.nils,.nils] [(0,1,(.t 284)),(1,1,(.t 285))]⟩,⟨some 287,some (282,true),.call .pure (.c (.fn (.f 28) [] [])) [.t 283,.t 286]⟩,⟨some 288,none,.pick (.t 282) (.t 287) (.c (.bool false))⟩,⟨some 289,none,.mov (.t 288)⟩,⟨some 290,some (289,true),.mov (.t 33)⟩,⟨some 291,some (289,true),.mksl 2 1 [.str [],.str []] [(0,1,(.c (.str [49]))),(1,1,(.c (.str [50])))]⟩,⟨some 292,some (289,true),.call .pure (.c (.fn (.f 29) [] [])) [.t 290,.t 291]⟩,⟨some 293,none,.pick (.t 289) (.t 292) (.c (.bool false))⟩,⟨some 294,none,.mov (.t 293)⟩,⟨some 295,some (294,true),.mov (.t 37)⟩,⟨some 296,some (294,true),.bin .eql (.t 295) (.c (.str [49,49,49,56,52,56,49,49,47,51,51,53,53,52,52,51,50]))⟩,⟨some 297,none,.pick (.t 294) (.t 296) (.c (.bool false))⟩,⟨some 298,none,.mov (.t 297)⟩,⟨some 299,some (298,true),.mov (.t 39)⟩,⟨some 300,some (298,true),.bin .eql (.t 299) (.c (.flt .f32 1266679808))⟩,⟨some 301,none,.pick (.t 298) (.t 300) (.c (.bool false))⟩,⟨some 302,none,.mov (.t 301)⟩,⟨some 303,some (302,true),.mov (.t 43)⟩,⟨some 304,some (302,true),.bin .eql (.t 303) (.c (.int .i64 1))⟩,⟨some 305,none,.pick (.t 302) (.t 304) (.c (.bool false))⟩,⟨some 306,none,.mov (.t 305)⟩,⟨some 307,some (306,true),.mov (.t 41)⟩,⟨some 308,some (306,true),.mksl 3 1 [.str [],.str [],.str []] [(0,1,(.c (.str [49]))),(1,1,(.c (.str [48]))),(2,1,(.c (.str [45,49,47,51])))]⟩,⟨some 309,some (306,true),.mksl 3 1 [.str [],.str [],.str []] [(0,1,(.c (.str [48]))),(1,1,(.c (.str [49]))),(2,1,(.c (.str [45,50,47,51])))]⟩,⟨some 310,some (306,true),.mksl 2 1 [.nils,.nils] [(0,1,(.t 308)),(1,1,(.t 309))]⟩,⟨some 311,some (306,true),.call .pure (.c (.fn (.f 28) [] [])) [.t 307,.t 310]⟩,⟨some 312,none,.pick (.t 306) (.t 311) (.c (.bool false))⟩,⟨some 313,none,.mov (.t 312)⟩,⟨some 314,some (313,true),.mov (.t 45)⟩,⟨some 315,some (313,true),.mksl 3 1 [.int .i64 0,.int .i64 0,.int .i64 0] [(0,1,(.c (.int .i64 0))),(1,1,(.c (.int .i64 2))),(2,1,(.c (.int .i64 1)))]⟩,⟨some 316,some (313,true),.call .pure (.c (.fn (.f 59) [] [])) [.t 314,.t 315]⟩,⟨some 317,none,.pick (.t 313) (.t 316) (.c (.bool false))⟩,⟨some 0,none,.mov (.t 317)⟩]) (
.ret)))))))))))))))))))))))))))⟩
/- lenslet/number.Draw -/
def c180_0 : VC :=
.seq (
.reg [⟨some 23,none,.bin .lss (.t 22) (.t 21)⟩]) (
.seq (
.cond (.t 23) (
 .skip) (
 .exit 0)) (
.seq (
.blk 1 (
.seq (
.reg [⟨some 24,none,.mov (.t 22)⟩,⟨some 8,none,.mov (.t 24)⟩]) (
.reg [⟨some 25,none,.mov (.t 7)⟩,⟨some 26,none,.mov (.t 8)⟩,⟨some 27,none,.mksl 1 1 [.int .i64 0] [(0,1,(.t 26))]⟩,⟨some 28,none,.app 1 8 (.t 25) (.t 27)⟩,⟨some 7,none,.mov (.t 28)⟩]))) (
.reg [⟨some 29,none,.bin .add (.t 22) (.c (.int .i64 1))⟩,⟨some 22,none,.mov (.t 29)⟩])))
def c180_1 : VC :=
.seq (
.seq (
.reg [⟨some 33,none,.mov (.t 10)⟩,⟨some 34,none,.bin .gtr (.t 33) (.c (.int .i64 0))⟩]) (
.cond (.t 34) (
 .skip) (
 .exit 2))) (
.seq (
.blk 3 (
.seq (
.reg [⟨some 37,none,.mov (.t 9)⟩,⟨some 38,none,.bin .mul (.c (.int .i64 39373)) (.t 37)⟩,⟨some 39,none,.bin .rem (.t 38) (.c (.int .i64 2147483647))⟩,⟨some 9,none,.mov (.t 39)⟩]) (
.seq (
.reg [⟨some 40,none,.mov (.t 9)⟩,⟨some 41,none,.mov (.t 10)⟩,⟨some 42,none,.bin .add (.t 41) (.c (.int .i64 1))⟩,⟨some 43,none,.bin .rem (.t 40) (.t 42)⟩,⟨some 11,none,.mov (.t 43)⟩]) (
.reg [⟨some 44,none,.mov (.t 7)⟩,⟨some 45,none,.mov (.t 10)⟩,⟨some 46,none,.mov (.t 7)⟩,⟨some 47,none,.mov (.t 11)⟩,⟨some 48,none,.mov (.t 7)⟩,⟨some 49,none,.mov (.t 11)⟩,⟨some 50,none,.ixa 1 (.t 48) (.t 49)⟩,⟨some 51,none,.ld 1 false (.t 50)⟩,⟨some 52,none,.mov (.t 7)⟩,⟨some 53,none,.mov (.t 10)⟩,⟨some 54,none,.ixa 1 (.t 52) (.t 53)⟩,⟨some 55,none,.ld 1 false (.t 54)⟩,⟨some 56,none,.ixa 1 (.t 44) (.t 45)⟩,⟨none,none,.st 1 (.t 56) (.t 51)⟩,⟨some 57,none,.ixa 1 (.t 46) (.t 47)⟩,⟨none,none,.st 1 (.t 57) (.t 55)⟩])))) (
.reg [⟨some 35,none,.mov (.t 10)⟩,⟨some 36,none,.bin .sub (.t 35) (.c (.int .i64 1))⟩,⟨some 10,none,.mov (.t 36)⟩]))
def c180 : Fnc := ⟨[.t 4,.t 5],
.seq (
.reg [⟨some 4,none,.mov (.c (.nils))⟩,⟨some 5,none,.mov (.c (.int .i64 0))⟩]) (
.seq (
.seq (
.reg [⟨some 12,none,.mov (.t 0)⟩,⟨some 13,none,.call .pure (.c (.fn (.f 206) [] [])) [.t 12,.c (.int .i64 1),.c (.int .i64 2147483646)]⟩,⟨some 14,none,.mov (.t 1)⟩,⟨some 15,none,.call .pure (.c (.fn (.f 206) [] [])) [.t 14,.c (.int .i64 0),.c (.int .i64 256)]⟩,⟨some 16,none,.mksl 2 1 [.int .i64 0,.int .i64 0] [(0,1,(.t 13)),(1,1,(.t 15))]⟩,⟨some 17,none,.call .pure (.c (.fn (.f 125) [] [])) [.t 16]⟩,⟨some 6,none,.mov (.t 17)⟩]) (
.seq (
.reg [⟨some 18,none,.mov (.t 6)⟩,⟨some 19,none,.bin .neq (.t 18) (.c (.int .i64 0))⟩]) (
.cond (.t 19) (
 .seq (
 .reg [⟨some 20,none,.mov (.t 6)⟩,
   ⟨some 4,none,.mov (.c (.nils))⟩,
   ⟨some 5,none,.mov (.t 20)⟩]) (
 .ret)) (
 .skip)))) (
.seq (
.reg [⟨some 7,none,.mov (.c (.nils))⟩]) (
.seq (
.seq (
.reg [⟨some 21,none,.mov (.t 1)⟩,⟨some 22,none,.mov (.c (.int .i64 0))⟩]) (
.seq (
.blk 0 (
.loop [0,1,7,21,22] c180_0)) (
.kp [0,1,7]))) (
.seq (
.reg [⟨some 30,none,.mov (.t 0)⟩,⟨some 9,none,.mov (.t 30)⟩]) (
.seq (
.seq (
.reg [⟨some 31,none,.mov (.t 1)⟩,⟨some 32,none,.bin .sub (.t 31) (.c (.int .i64 1))⟩,⟨some 10,none,.mov (.t 32)⟩]) (
.seq (
.blk 2 (
.loop [7,9,10] c180_1)) (
.kp [7]))) (
.seq (
.reg [⟨some 58,none,.mov (.t 7)⟩,⟨some 4,none,.mov (.t 58)⟩,⟨some 5,none,.mov (.c (.int .i64 0))⟩]) (
.ret)))))))⟩
/- lenslet/lensletref01.CheckDraw -/
def c181 : Fnc := ⟨[.t 4],
.seq (
.reg [⟨some 4,none,.mov (.c (.int .i64 0))⟩]) (
.seq (
.seq (
.reg [⟨some 5,none,.mov (.t 0)⟩,⟨some 6,none,.bin .lss (.t 5) (.c (.int .i64 1))⟩,⟨some 7,none,.mov (.t 6)⟩,⟨some 8,some (7,false),.mov (.t 0)⟩,⟨some 9,some (7,false),.bin .gtr (.t 8) (.c (.int .i64 2147483646))⟩,⟨some 10,none,.pick (.t 7) (.c (.bool true)) (.t 9)⟩,⟨some 11,none,.mov (.t 10)⟩,⟨some 12,some (11,false),.mov (.t 1)⟩,⟨some 13,some (11,false),.bin .lss (.t 12) (.c (.int .i64 0))⟩,⟨some 14,none,.pick (.t 11) (.c (.bool true)) (.t 13)⟩,⟨some 15,none,.mov (.t 14)⟩,⟨some 16,some (15,false),.mov (.t 1)⟩,⟨some 17,some (15,false),.bin .gtr (.t 16) (.c (.int .i64 256))⟩,⟨some 18,none,.pick (.t 15) (.c (.bool true)) (.t 17)⟩]) (
.cond (.t 18) (
 .seq (
 .reg [⟨some 4,none,.mov (.c (.int .i64 3))⟩]) (
 .ret)) (
 .skip))) (
.seq (
.reg [⟨some 4,none,.mov (.c (.int .i64 0))⟩]) (
.ret)))⟩
/- lenslet/lensletlaw01.list -/
def c182 : Fnc := ⟨[.t 8],
.seq (
.reg [⟨some 8,none,.mov (.c (.bool false))⟩]) (
.seq (
.seq (
.reg [⟨some 9,none,.mov (.t 2)⟩,⟨some 10,none,.bin .neq (.t 9) (.c (.int .i64 0))⟩]) (
.cond (.t 10) (
 .seq (
 .reg [⟨some 11,none,.mov (.t 0)⟩,
   ⟨some 12,none,.len 1 (.t 11)⟩,
   ⟨some 13,none,.bin .eql (.t 12) (.c (.int .i64 0))⟩,
   ⟨some 14,none,.mov (.t 13)⟩,
   ⟨some 15,some (14,true),.mov (.t 1)⟩,
   ⟨some 16,some (14,true),.mov (.t 2)⟩,
   ⟨some 17,some (14,true),.bin .eql (.t 15) (.t 16)⟩,
   ⟨some 18,none,.pick (.t 14) (.t 17) (.c (.bool false))⟩,
   ⟨some 8,none,.mov (.t 18)⟩]) (
 .ret)) (
 .skip))) (
.seq (
.reg [⟨some 19,none,.mov (.t 1)⟩,⟨some 20,none,.bin .eql (.t 19) (.c (.int .i64 0))⟩,⟨some 21,none,.mov (.t 20)⟩,⟨some 22,some (21,true),.mov (.t 0)⟩,⟨some 23,some (21,true),.mov (.t 3)⟩,⟨some 24,some (21,true),.call .pure (.c (.fn (.f 59) [] [])) [.t 22,.t 23]⟩,⟨some 25,none,.pick (.t 21) (.t 24) (.c (.bool false))⟩,⟨some 8,none,.mov (.t 25)⟩]) (
.ret)))⟩
/- lenslet/lensletref01.Draw -/
def c183_0 : VC :=
.seq (
.seq (
.reg [⟨some 12,none,.mov (.t 6)⟩,⟨some 13,none,.bin .gtr (.t 12) (.c (.int .i64 0))⟩]) (
.cond (.t 13) (
 .skip) (
 .exit 0))) (
.seq (
.blk 1 (
.seq (
.reg [⟨some 16,none,.mov (.t 0)⟩,⟨some 17,none,.bin .mul (.c (.int .i64 39373)) (.t 16)⟩,⟨some 18,none,.bin .rem (.t 17) (.c (.int .i64 2147483647))⟩,⟨some 0,none,.mov (.t 18)⟩]) (
.seq (
.reg [⟨some 19,none,.mov (.t 0)⟩,⟨some 20,none,.mov (.t 6)⟩,⟨some 21,none,.bin .add (.t 20) (.c (.int .i64 1))⟩,⟨some 22,none,.bin .rem (.t 19) (.t 21)⟩,⟨some 7,none,.mov (.t 22)⟩]) (
.reg [⟨some 23,none,.mov (.t 5)⟩,⟨some 24,none,.mov (.t 6)⟩,⟨some 25,none,.mov (.t 5)⟩,⟨some 26,none,.mov (.t 7)⟩,⟨some 27,none,.mov (.t 5)⟩,⟨some 28,none,.mov (.t 7)⟩,⟨some 29,none,.ixa 1 (.t 27) (.t 28)⟩,⟨some 30,none,.ld 1 false (.t 29)⟩,⟨some 31,none,.mov (.t 5)⟩,⟨some 32,none,.mov (.t 6)⟩,⟨some 33,none,.ixa 1 (.t 31) (.t 32)⟩,⟨some 34,none,.ld 1 false (.t 33)⟩,⟨some 35,none,.ixa 1 (.t 23) (.t 24)⟩,⟨none,none,.st 1 (.t 35) (.t 30)⟩,⟨some 36,none,.ixa 1 (.t 25) (.t 26)⟩,⟨none,none,.st 1 (.t 36) (.t 34)⟩])))) (
.reg [⟨some 14,none,.mov (.t 6)⟩,⟨some 15,none,.bin .sub (.t 14) (.c (.int .i64 1))⟩,⟨some 6,none,.mov (.t 15)⟩]))
def c183 : Fnc := ⟨[.t 4],
.seq (
.reg [⟨some 4,none,.mov (.c (.nils))⟩]) (
.seq (
.reg [⟨some 8,none,.mov (.t 1)⟩,⟨some 9,none,.call .own (.c (.fn (.f 207) [] [])) [.t 8]⟩,⟨some 5,none,.mov (.t 9)⟩]) (
.seq (
.seq (
.reg [⟨some 10,none,.mov (.t 1)⟩,⟨some 11,none,.bin .sub (.t 10) (.c (.int .i64 1))⟩,⟨some 6,none,.mov (.t 11)⟩]) (
.seq (
.blk 0 (
.loop [0,5,6] c183_0)) (
.kp [5]))) (
.seq (
.reg [⟨some 37,none,.mov (.t 5)⟩,⟨some 4,none,.mov (.t 37)⟩]) (
.ret))))⟩
/- lenslet/lensletref01.IsOrder -/
def c184_0 : VC :=
.seq (
.seq (
.reg [⟨some 25,none,.mov (.t 4)⟩,⟨some 26,none,.mov (.t 3)⟩,⟨some 27,none,.bin .lss (.t 25) (.t 26)⟩]) (
.cond (.t 27) (
 .skip) (
 .exit 2))) (
.seq (
.blk 3 (
.seq (
.reg [⟨some 30,none,.mov (.t 0)⟩,⟨some 31,none,.mov (.t 4)⟩,⟨some 32,none,.ixa 1 (.t 30) (.t 31)⟩,⟨some 33,none,.ld 1 false (.t 32)⟩,⟨some 34,none,.mov (.t 0)⟩,⟨some 35,none,.mov (.t 3)⟩,⟨some 36,none,.ixa 1 (.t 34) (.t 35)⟩,⟨some 37,none,.ld 1 false (.t 36)⟩,⟨some 38,none,.bin .eql (.t 33) (.t 37)⟩]) (
.cond (.t 38) (
 .seq (
 .reg [⟨some 2,none,.mov (.c (.bool false))⟩]) (
 .ret)) (
 .skip)))) (
.reg [⟨some 28,none,.mov (.t 4)⟩,⟨some 29,none,.bin .add (.t 28) (.c (.int .i64 1))⟩,⟨some 4,none,.mov (.t 29)⟩]))
def c184_1 : VC :=
.seq (
.seq (
.reg [⟨some 5,none,.mov (.t 3)⟩,⟨some 6,none,.mov (.t 0)⟩,⟨some 7,none,.len 1 (.t 6)⟩,⟨some 8,none,.bin .lss (.t 5) (.t 7)⟩]) (
.cond (.t 8) (
 .skip) (
 .exit 0))) (
.seq (
.blk 1 (
.seq (
.seq (
.reg [⟨some 11,none,.mov (.t 0)⟩,⟨some 12,none,.mov (.t 3)⟩,⟨some 13,none,.ixa 1 (.t 11) (.t 12)⟩,⟨some 14,none,.ld 1 false (.t 13)⟩,⟨some 15,none,.bin .lss (.t 14) (.c (.int .i64 0))⟩,⟨some 16,none,.mov (.t 15)⟩,⟨some 17,some (16,false),.mov (.t 0)⟩,⟨some 18,some (16,false),.mov (.t 3)⟩,⟨some 19,some (16,false),.ixa 1 (.t 17) (.t 18)⟩,⟨some 20,some (16,false),.ld 1 false (.t 19)⟩,⟨some 21,some (16,false),.mov (.t 0)⟩,⟨some 22,some (16,false),.len 1 (.t 21)⟩,⟨some 23,some (16,false),.bin .geq (.t 20) (.t 22)⟩,⟨some 24,none,.pick (.t 16) (.c (.bool true)) (.t 23)⟩]) (
.cond (.t 24) (
 .seq (
 .reg [⟨some 2,none,.mov (.c (.bool false))⟩]) (
 .ret)) (
 .skip))) (
.seq (
.reg [⟨some 4,none,.mov (.c (.int .i64 0))⟩]) (
.seq (
.blk 2 (
.loop [0,3,4] c184_0)) (
.kp [0,3]))))) (
.reg [⟨some 9,none,.mov (.t 3)⟩,⟨some 10,none,.bin .add (.t 9) (.c (.int .i64 1))⟩,⟨some 3,none,.mov (.t 10)⟩]))
def c184 : Fnc := ⟨[.t 2],
.seq (
.reg [⟨some 2,none,.mov (.c (.bool false))⟩]) (
.seq (
.seq (
.reg [⟨some 3,none,.mov (.c (.int .i64 0))⟩]) (
.seq (
.blk 0 (
.loop [0,3] c184_1)) (
.kp []))) (
.seq (
.reg [⟨some 2,none,.mov (.c (.bool true))⟩]) (
.ret)))⟩
/- lenslet/number.Of -/
def c185 : Fnc := ⟨[.t 4,.t 5],
.seq (
.reg [⟨some 4,none,.mov (.c (.str []))⟩,⟨some 5,none,.mov (.c (.int .i64 0))⟩]) (
.seq (
.seq (
.reg [⟨some 6,none,.mov (.t 1)⟩,⟨some 7,none,.bin .eql (.t 6) (.c (.int .i64 0))⟩]) (
.cond (.t 7) (
 .seq (
 .reg [⟨some 4,none,.mov (.c (.str []))⟩,
   ⟨some 5,none,.mov (.c (.int .i64 6))⟩]) (
 .ret)) (
 .skip))) (
.seq (
.reg [⟨some 8,none,.mov (.t 0)⟩,⟨some 9,none,.call .pure (.c (.fn (.f 117) [] [])) [.t 8]⟩,⟨some 10,none,.mov (.t 1)⟩,⟨some 11,none,.call .pure (.c (.fn (.f 117) [] [])) [.t 10]⟩,⟨some 12,none,.call .pure (.c (.fn (.f 101) [] [])) [.t 9,.t 11]⟩,⟨some 13,none,.call .pure (.c (.fn (.f 208) [] [])) [.t 12]⟩,⟨some 14,none,.ext 0 (.t 13)⟩,⟨some 15,none,.ext 1 (.t 13)⟩,⟨some 4,none,.mov (.t 14)⟩,⟨some 5,none,.mov (.t 15)⟩]) (
.ret)))⟩
/- lenslet/number.Floor -/
def c186 : Fnc := ⟨[.t 2,.t 3],
.seq (
.reg [⟨some 2,none,.mov (.c (.str []))⟩,⟨some 3,none,.mov (.c (.int .i64 0))⟩]) (
.seq (
.seq (
.reg [⟨some 5,none,.mov (.t 0)⟩,⟨some 6,none,.call .pure (.c (.fn (.f 86) [] [])) [.t 5]⟩,⟨some 4,none,.mov (.t 6)⟩]) (
.seq (
.reg [⟨some 7,none,.mov (.t 4)⟩,⟨some 8,none,.bin .neq (.t 7) (.c (.int .i64 0))⟩]) (
.cond (.t 8) (
 .seq (
 .reg [⟨some 9,none,.mov (.t 4)⟩,
   ⟨some 2,none,.mov (.c (.str []))⟩,
   ⟨some 3,none,.mov (.t 9)⟩]) (
 .ret)) (
 .skip)))) (
.seq (
.reg [⟨some 10,none,.mov (.t 0)⟩,⟨some 11,none,.call .pure (.c (.fn (.f 62) [] [])) [.t 10]⟩,⟨some 12,none,.call .pure (.c (.fn (.f 149) [] [])) [.t 11]⟩,⟨some 13,none,.call .pure (.c (.fn (.f 111) [] [])) [.t 12]⟩,⟨some 14,none,.call .pure (.c (.fn (.f 208) [] [])) [.t 13]⟩,⟨some 15,none,.ext 0 (.t 14)⟩,⟨some 16,none,.ext 1 (.t 14)⟩,⟨some 2,none,.mov (.t 15)⟩,⟨some 3,none,.mov (.t 16)⟩]) (
.ret)))⟩
/- lenslet/lensletlaw01.span -/
def c187 : Fnc := ⟨[.cell 4 2 true],
.seq (
.reg [⟨some 4,none,.box 2 (.c (.agg [.str [],.str []]))⟩]) (
.seq (
.reg [⟨some 5,none,.mov (.t 0)⟩,⟨some 6,none,.mov (.t 1)⟩,⟨some 7,none,.mkagg [.str [],.str []] [(0,1,(.t 5)),(1,1,(.t 6))]⟩,⟨none,none,.st 2 (.t 4) (.t 7)⟩]) (
.ret))⟩
/- lenslet/number.Times -/
def c188 : Fnc := ⟨[.cell 4 2 true,.t 5],
.seq (
.reg [⟨some 2,none,.box 2 (.t 0)⟩,⟨some 3,none,.box 2 (.t 1)⟩,⟨some 4,none,.box 2 (.c (.agg [.str [],.str []]))⟩,⟨some 5,none,.mov (.c (.int .i64 0))⟩]) (
.seq (
.reg [⟨some 6,none,.ld 2 true (.t 2)⟩,⟨some 7,none,.ld 2 true (.t 3)⟩,⟨some 8,none,.call .pure (.c (.fn (.f 209) [] [])) [.t 6,.t 7,.c (.fn (.f 49) [] [])]⟩,⟨some 9,none,.ext 0 (.t 8)⟩,⟨some 10,none,.ext 1 (.t 8)⟩,⟨none,none,.st 2 (.t 4) (.t 9)⟩,⟨some 5,none,.mov (.t 10)⟩]) (
.ret))⟩
/- lenslet/number.Over -/
def c189 : Fnc := ⟨[.cell 4 2 true,.t 5],
.seq (
.reg [⟨some 2,none,.box 2 (.t 0)⟩,⟨some 3,none,.box 2 (.t 1)⟩,⟨some 4,none,.box 2 (.c (.agg [.str [],.str []]))⟩,⟨some 5,none,.mov (.c (.int .i64 0))⟩]) (
.seq (
.seq (
.reg [⟨some 7,none,.ld 2 true (.t 2)⟩,⟨some 8,none,.call .pure (.c (.fn (.f 210) [] [])) [.t 7]⟩,⟨some 9,none,.ld 2 true (.t 3)⟩,⟨some 10,none,.call .pure (.c (.fn (.f 210) [] [])) [.t 9]⟩,⟨some 11,none,.mksl 2 1 [.int .i64 0,.int .i64 0] [(0,1,(.t 8)),(1,1,(.t 10))]⟩,⟨some 12,none,.call .pure (.c (.fn (.f 125) [] [])) [.t 11]⟩,⟨some 6,none,.mov (.t 12)⟩]) (
.seq (
.reg [⟨some 13,none,.mov (.t 6)⟩,⟨some 14,none,.bin .neq (.t 13) (.c (.int .i64 0))⟩]) (
.cond (.t 14) (
 .seq (
 .reg [⟨some 15,none,.mkagg [.str [],.str []] []⟩,
   ⟨some 16,none,.mov (.t 6)⟩,
   ⟨none,none,.st 2 (.t 4) (.t 15)⟩,
   ⟨some 5,none,.mov (.t 16)⟩]) (
 .ret)) (
 .skip)))) (
.seq (
.seq (
.reg [⟨some 17,none,.off 0 (.t 3)⟩,⟨some 18,none,.ld 1 false (.t 17)⟩,⟨some 19,none,.call .pure (.c (.fn (.f 62) [] [])) [.t 18]⟩,⟨some 20,none,.call .pure (.c (.fn (.f 108) [] [])) [.t 19]⟩,⟨some 21,none,.bin .leq (.t 20) (.c (.int .i64 0))⟩,⟨some 22,none,.mov (.t 21)⟩,⟨some 23,some (22,true),.off 1 (.t 3)⟩,⟨some 24,some (22,true),.ld 1 false (.t 23)⟩,⟨some 25,some (22,true),.call .pure (.c (.fn (.f 62) [] [])) [.t 24]⟩,⟨some 26,some (22,true),.call .pure (.c (.fn (.f 108) [] [])) [.t 25]⟩,⟨some 27,some (22,true),.bin .geq (.t 26) (.c (.int .i64 0))⟩,⟨some 28,none,.pick (.t 22) (.t 27) (.c (.bool false))⟩]) (
.cond (.t 28) (
 .seq (
 .reg [⟨some 29,none,.mkagg [.str [],.str []] []⟩,
   ⟨none,none,.st 2 (.t 4) (.t 29)⟩,
   ⟨some 5,none,.mov (.c (.int .i64 6))⟩]) (
 .ret)) (
 .skip))) (
.seq (
.reg [⟨some 30,none,.ld 2 true (.t 2)⟩,⟨some 31,none,.ld 2 true (.t 3)⟩,⟨some 32,none,.call .pure (.c (.fn (.f 211) [] [])) [.t 30,.t 31,.c (.fn (.f 70) [] [])]⟩,⟨some 33,none,.ext 0 (.t 32)⟩,⟨some 34,none,.ext 1 (.t 32)⟩,⟨none,none,.st 2 (.t 4) (.t 33)⟩,⟨some 5,none,.mov (.t 34)⟩]) (
.ret))))⟩
/- lenslet/number.Square -/
def c190 : Fnc := ⟨[.cell 2 2 true,.t 3],
.seq (
.reg [⟨some 1,none,.box 2 (.t 0)⟩,⟨some 2,none,.box 2 (.c (.agg [.str [],.str []]))⟩,⟨some 3,none,.mov (.c (.int .i64 0))⟩]) (
.seq (
.seq (
.reg [⟨some 6,none,.ld 2 true (.t 1)⟩,⟨some 7,none,.call .pure (.c (.fn (.f 210) [] [])) [.t 6]⟩,⟨some 4,none,.mov (.t 7)⟩]) (
.seq (
.reg [⟨some 8,none,.mov (.t 4)⟩,⟨some 9,none,.bin .neq (.t 8) (.c (.int .i64 0))⟩]) (
.cond (.t 9) (
 .seq (
 .reg [⟨some 10,none,.mkagg [.str [],.str []] []⟩,
   ⟨some 11,none,.mov (.t 4)⟩,
   ⟨none,none,.st 2 (.t 2) (.t 10)⟩,
   ⟨some 3,none,.mov (.t 11)⟩]) (
 .ret)) (
 .skip)))) (
.seq (
.reg [⟨some 12,none,.ld 2 true (.t 1)⟩,⟨some 13,none,.call .pure (.c (.fn (.f 212) [] [])) [.t 12]⟩,⟨some 14,none,.call .pure (.c (.fn (.f 213) [] [])) [.t 13]⟩,⟨some 5,none,.box 8 (.c (.agg [.int .i64 0,.nils,.int .i64 0,.nils,.int .i64 0,.nils,.int .i64 0,.nils]))⟩,⟨none,none,.st 8 (.t 5) (.t 14)⟩]) (
.seq (
.reg [⟨some 15,none,.off 0 (.t 5)⟩,⟨some 16,none,.ld 4 true (.t 15)⟩,⟨some 17,none,.off 4 (.t 5)⟩,⟨some 18,none,.ld 4 true (.t 17)⟩,⟨some 19,none,.call .pure (.c (.fn (.f 214) [] [])) [.t 16,.t 18]⟩,⟨some 20,none,.ext 0 (.t 19)⟩,⟨some 21,none,.ext 1 (.t 19)⟩,⟨none,none,.st 2 (.t 2) (.t 20)⟩,⟨some 3,none,.mov (.t 21)⟩]) (
.ret))))⟩
/- lenslet/number.Compare -/
def c191 : Fnc := ⟨[.t 4,.t 5],
.seq (
.reg [⟨some 2,none,.box 2 (.t 0)⟩,⟨some 3,none,.box 2 (.t 1)⟩,⟨some 4,none,.mov (.c (.int .i64 0))⟩,⟨some 5,none,.mov (.c (.int .i64 0))⟩]) (
.seq (
.seq (
.reg [⟨some 7,none,.ld 2 true (.t 2)⟩,⟨some 8,none,.call .pure (.c (.fn (.f 210) [] [])) [.t 7]⟩,⟨some 9,none,.ld 2 true (.t 3)⟩,⟨some 10,none,.call .pure (.c (.fn (.f 210) [] [])) [.t 9]⟩,⟨some 11,none,.mksl 2 1 [.int .i64 0,.int .i64 0] [(0,1,(.t 8)),(1,1,(.t 10))]⟩,⟨some 12,none,.call .pure (.c (.fn (.f 125) [] [])) [.t 11]⟩,⟨some 6,none,.mov (.t 12)⟩]) (
.seq (
.reg [⟨some 13,none,.mov (.t 6)⟩,⟨some 14,none,.bin .neq (.t 13) (.c (.int .i64 0))⟩]) (
.cond (.t 14) (
 .seq (
 .reg [⟨some 15,none,.mov (.t 6)⟩,
   ⟨some 4,none,.mov (.c (.int .i64 0))⟩,
   ⟨some 5,none,.mov (.t 15)⟩]) (
 .ret)) (
 .skip)))) (
.seq (
.blk 0 (
.seq (
.reg [⟨some 17,none,.off 1 (.t 2)⟩,⟨some 18,none,.ld 1 false (.t 17)⟩,⟨some 19,none,.call .pure (.c (.fn (.f 62) [] [])) [.t 18]⟩,⟨some 20,none,.off 0 (.t 3)⟩,⟨some 21,none,.ld 1 false (.t 20)⟩,⟨some 22,none,.call .pure (.c (.fn (.f 62) [] [])) [.t 21]⟩,⟨some 23,none,.call .pure (.c (.fn (.f 71) [] [])) [.t 19,.t 22]⟩,⟨some 24,none,.bin .lss (.t 23) (.c (.int .i64 0))⟩,⟨some 16,none,.mov (.t 24)⟩]) (
.cond (.t 16) (
 .seq (
 .reg [⟨some 4,none,.mov (.c (.int .i64 (-1)))⟩,
   ⟨some 5,none,.mov (.c (.int .i64 0))⟩]) (
 .ret)) (
 .seq (
 .reg [⟨some 26,none,.off 0 (.t 2)⟩,
   ⟨some 27,none,.ld 1 false (.t 26)⟩,
   ⟨some 28,none,.call .pure (.c (.fn (.f 62) [] [])) [.t 27]⟩,
   ⟨some 29,none,.off 1 (.t 3)⟩,
   ⟨some 30,none,.ld 1 false (.t 29)⟩,
   ⟨some 31,none,.call .pure (.c (.fn (.f 62) [] [])) [.t 30]⟩,
   ⟨some 32,none,.call .pure (.c (.fn (.f 71) [] [])) [.t 28,.t 31]⟩,
   ⟨some 33,none,.bin .gtr (.t 32) (.c (.int .i64 0))⟩,
   ⟨some 25,none,.mov (.t 33)⟩]) (
 .cond (.t 25) (
  .seq (
  .reg [⟨some 4,none,.mov (.c (.int .i64 1))⟩,
    ⟨some 5,none,.mov (.c (.int .i64 0))⟩]) (
  .ret)) (
  .seq (
  .reg [⟨some 35,none,.ld 2 true (.t 2)⟩,
    ⟨some 36,none,.ld 2 true (.t 3)⟩,
    ⟨some 37,none,.eq false (.ag [2,2]) (.t 35) (.t 36)⟩,
    ⟨some 38,none,.mov (.t 37)⟩,
    ⟨some 39,some (38,true),.off 0 (.t 2)⟩,
    ⟨some 40,some (38,true),.ld 1 false (.t 39)⟩,
    ⟨some 41,some (38,true),.off 1 (.t 2)⟩,
    ⟨some 42,some (38,true),.ld 1 false (.t 41)⟩,
    ⟨some 43,some (38,true),.bin .eql (.t 40) (.t 42)⟩,
    ⟨some 44,none,.pick (.t 38) (.t 43) (.c (.bool false))⟩,
    ⟨some 34,none,.mov (.t 44)⟩]) (
  .cond (.t 34) (
   .seq (
   .reg [⟨some 4,none,.mov (.c (.int .i64 0))⟩,
     ⟨some 5,none,.mov (.c (.int .i64 0))⟩]) (
   .ret)) (
   .skip)))))))) (
.seq (
.reg [⟨some 4,none,.mov (.c (.int .i64 0))⟩,⟨some 5,none,.mov (.c (.int .i64 24))⟩]) (
.ret))))⟩
/- lenslet/number.Root -/
def c192 : Fnc := ⟨[.cell 4 2 true,.t 5],
.seq (
.reg [⟨some 4,none,.box 2 (.c (.agg [.str [],.str []]))⟩,⟨some 5,none,.mov (.c (.int .i64 0))⟩]) (
.seq (
.seq (
.reg [⟨some 8,none,.mov (.t 0)⟩,⟨some 9,none,.call .pure (.c (.fn (.f 86) [] [])) [.t 8]⟩,⟨some 6,none,.mov (.t 9)⟩]) (
.seq (
.reg [⟨some 10,none,.mov (.t 6)⟩,⟨some 11,none,.bin .neq (.t 10) (.c (.int .i64 0))⟩]) (
.cond (.t 11) (
 .seq (
 .reg [⟨some 12,none,.mkagg [.str [],.str []] []⟩,
   ⟨some 13,none,.mov (.t 6)⟩,
   ⟨none,none,.st 2 (.t 4) (.t 12)⟩,
   ⟨some 5,none,.mov (.t 13)⟩]) (
 .ret)) (
 .skip)))) (
.seq (
.seq (
.reg [⟨some 14,none,.mov (.t 0)⟩,⟨some 15,none,.call .pure (.c (.fn (.f 62) [] [])) [.t 14]⟩,⟨some 16,none,.call .pure (.c (.fn (.f 108) [] [])) [.t 15]⟩,⟨some 17,none,.bin .lss (.t 16) (.c (.int .i64 0))⟩,⟨some 18,none,.call .pure (.c (.fn (.f 124) [] [])) [.t 17,.c (.int .i64 3)]⟩,⟨some 19,none,.mov (.t 1)⟩,⟨some 20,none,.call .pure (.c (.fn (.f 215) [] [])) [.t 19]⟩,⟨some 21,none,.mksl 2 1 [.int .i64 0,.int .i64 0] [(0,1,(.t 18)),(1,1,(.t 20))]⟩,⟨some 22,none,.call .pure (.c (.fn (.f 125) [] [])) [.t 21]⟩,⟨some 7,none,.mov (.t 22)⟩]) (
.seq (
.reg [⟨some 23,none,.mov (.t 7)⟩,⟨some 24,none,.bin .neq (.t 23) (.c (.int .i64 0))⟩]) (
.cond (.t 24) (
 .seq (
 .reg [⟨some 25,none,.mkagg [.str [],.str []] []⟩,
   ⟨some 26,none,.mov (.t 7)⟩,
   ⟨none,none,.st 2 (.t 4) (.t 25)⟩,
   ⟨some 5,none,.mov (.t 26)⟩]) (
 .ret)) (
 .skip)))) (
.seq (
.reg [⟨some 27,none,.mov (.t 0)⟩,⟨some 28,none,.call .pure (.c (.fn (.f 62) [] [])) [.t 27]⟩,⟨some 29,none,.mov (.t 1)⟩,⟨some 30,none,.call .pure (.c (.fn (.f 216) [] [])) [.t 28,.t 29]⟩,⟨some 31,none,.ext 0 (.t 30)⟩,⟨some 32,none,.ext 1 (.t 30)⟩,⟨none,none,.st 2 (.t 4) (.t 31)⟩,⟨some 5,none,.mov (.t 32)⟩]) (
.ret))))⟩
/- lenslet/number.Cos -/
def c193 : Fnc := ⟨[.cell 4 2 true,.t 5],
.seq (
.reg [⟨some 4,none,.box 2 (.c (.agg [.str [],.str []]))⟩,⟨some 5,none,.mov (.c (.int .i64 0))⟩]) (
.seq (
.seq (
.reg [⟨some 7,none,.mov (.t 0)⟩,⟨some 8,none,.mov (.t 1)⟩,⟨some 9,none,.call .pure (.c (.fn (.f 217) [] [])) [.t 7,.t 8]⟩,⟨some 6,none,.mov (.t 9)⟩]) (
.seq (
.reg [⟨some 10,none,.mov (.t 6)⟩,⟨some 11,none,.bin .neq (.t 10) (.c (.int .i64 0))⟩]) (
.cond (.t 11) (
 .seq (
 .reg [⟨some 12,none,.mkagg [.str [],.str []] []⟩,
   ⟨some 13,none,.mov (.t 6)⟩,
   ⟨none,none,.st 2 (.t 4) (.t 12)⟩,
   ⟨some 5,none,.mov (.t 13)⟩]) (
 .ret)) (
 .skip)))) (
.seq (
.reg [⟨some 14,none,.mov (.t 0)⟩,⟨some 15,none,.call .pure (.c (.fn (.f 62) [] [])) [.t 14]⟩,⟨some 16,none,.mov (.t 1)⟩,⟨some 17,none,.call .pure (.c (.fn (.f 218) [] [])) [.t 15,.t 16]⟩,⟨some 18,none,.ext 0 (.t 17)⟩,⟨some 19,none,.ext 1 (.t 17)⟩,⟨none,none,.st 2 (.t 4) (.t 18)⟩,⟨some 5,none,.mov (.t 19)⟩]) (
.ret)))⟩
/- lenslet/number.Sin -/
def c194 : Fnc := ⟨[.cell 4 2 true,.t 5],
.seq (
.reg [⟨some 4,none,.box 2 (.c (.agg [.str [],.str []]))⟩,⟨some 5,none,.mov (.c (.int .i64 0))⟩]) (
.seq (
.seq (
.reg [⟨some 7,none,.mov (.t 0)⟩,⟨some 8,none,.mov (.t 1)⟩,⟨some 9,none,.call .pure (.c (.fn (.f 217) [] [])) [.t 7,.t 8]⟩,⟨some 6,none,.mov (.t 9)⟩]) (
.seq (
.reg [⟨some 10,none,.mov (.t 6)⟩,⟨some 11,none,.bin .neq (.t 10) (.c (.int .i64 0))⟩]) (
.cond (.t 11) (
 .seq (
 .reg [⟨some 12,none,.mkagg [.str [],.str []] []⟩,
   ⟨some 13,none,.mov (.t 6)⟩,
   ⟨none,none,.st 2 (.t 4) (.t 12)⟩,
   ⟨some 5,none,.mov (.t 13)⟩]) (
 .ret)) (
 .skip)))) (
.seq (
.reg [⟨some 14,none,.mov (.t 0)⟩,⟨some 15,none,.call .pure (.c (.fn (.f 62) [] [])) [.t 14]⟩,⟨some 16,none,.call .pure (.c (.fn (.f 117) [] [])) [.c (.int .i64 1)]⟩,⟨some 17,none,.call .pure (.c (.fn (.f 117) [] [])) [.c (.int .i64 4)]⟩,⟨some 18,none,.call .pure (.c (.fn (.f 101) [] [])) [.t 16,.t 17]⟩,⟨some 19,none,.call .pure (.c (.fn (.f 50) [] [])) [.t 15,.t 18]⟩,⟨some 20,none,.mov (.t 1)⟩,⟨some 21,none,.call .pure (.c (.fn (.f 218) [] [])) [.t 19,.t 20]⟩,⟨some 22,none,.ext 0 (.t 21)⟩,⟨some 23,none,.ext 1 (.t 21)⟩,⟨none,none,.st 2 (.t 4) (.t 22)⟩,⟨some 5,none,.mov (.t 23)⟩]) (
.ret)))⟩
/- lenslet/number.Turn -/
def c195 : Fnc := ⟨[.cell 4 4 true,.t 5],
.seq (
.reg [⟨some 4,none,.box 4 (.c (.agg [.str [],.str [],.str [],.str []]))⟩,⟨some 5,none,.mov (.c (.int .i64 0))⟩]) (
.seq (
.seq (
.reg [⟨some 12,none,.mov (.t 0)⟩,⟨some 13,none,.mov (.t 1)⟩,⟨some 14,none,.call .pure (.c (.fn (.f 217) [] [])) [.t 12,.t 13]⟩,⟨some 6,none,.mov (.t 14)⟩]) (
.seq (
.reg [⟨some 15,none,.mov (.t 6)⟩,⟨some 16,none,.bin .neq (.t 15) (.c (.int .i64 0))⟩]) (
.cond (.t 16) (
 .seq (
 .reg [⟨some 17,none,.mkagg [.str [],.str [],.str [],.str []] []⟩,
   ⟨some 18,none,.mov (.t 6)⟩,
   ⟨none,none,.st 4 (.t 4) (.t 17)⟩,
   ⟨some 5,none,.mov (.t 18)⟩]) (
 .ret)) (
 .skip)))) (
.seq (
.reg [⟨some 19,none,.call .pure (.c (.fn (.f 117) [] [])) [.c (.int .i64 1)]⟩,⟨some 20,none,.call .pure (.c (.fn (.f 117) [] [])) [.c (.int .i64 4)]⟩,⟨some 21,none,.call .pure (.c (.fn (.f 101) [] [])) [.t 19,.t 20]⟩,⟨some 7,none,.box 4 (.c (.agg [.int .i64 0,.nils,.int .i64 0,.nils]))⟩,⟨none,none,.st 4 (.t 7) (.t 21)⟩]) (
.seq (
.reg [⟨some 23,none,.mov (.t 0)⟩,⟨some 24,none,.call .pure (.c (.fn (.f 62) [] [])) [.t 23]⟩,⟨some 25,none,.mov (.t 1)⟩,⟨some 26,none,.call .pure (.c (.fn (.f 218) [] [])) [.t 24,.t 25]⟩,⟨some 22,none,.mov (.t 26)⟩,⟨some 27,none,.ext 0 (.t 22)⟩,⟨some 28,none,.ext 1 (.t 22)⟩,⟨some 8,none,.box 2 (.c (.agg [.str [],.str []]))⟩,⟨none,none,.st 2 (.t 8) (.t 27)⟩,⟨some 9,none,.mov (.t 28)⟩]) (
.seq (
.reg [⟨some 30,none,.mov (.t 0)⟩,⟨some 31,none,.call .pure (.c (.fn (.f 62) [] [])) [.t 30]⟩,⟨some 32,none,.ld 4 true (.t 7)⟩,⟨some 33,none,.call .pure (.c (.fn (.f 50) [] [])) [.t 31,.t 32]⟩,⟨some 34,none,.mov (.t 1)⟩,⟨some 35,none,.call .pure (.c (.fn (.f 218) [] [])) [.t 33,.t 34]⟩,⟨some 29,none,.mov (.t 35)⟩,⟨some 36,none,.ext 0 (.t 29)⟩,⟨some 37,none,.ext 1 (.t 29)⟩,⟨some 10,none,.box 2 (.c (.agg [.str [],.str []]))⟩,⟨none,none,.st 2 (.t 10) (.t 36)⟩,⟨some 11,none,.mov (.t 37)⟩]) (
.seq (
.reg [⟨some 38,none,.ld 2 true (.t 8)⟩,⟨some 39,none,.ld 2 true (.t 10)⟩,⟨some 40,none,.mkagg [.str [],.str [],.str [],.str []] [(0,2,(.t 38)),(2,2,(.t 39))]⟩,⟨some 41,none,.mov (.t 9)⟩,⟨some 42,none,.mov (.t 11)⟩,⟨some 43,none,.mksl 2 1 [.int .i64 0,.int .i64 0] [(0,1,(.t 41)),(1,1,(.t 42))]⟩,⟨some 44,none,.call .pure (.c (.fn (.f 125) [] [])) [.t 43]⟩,⟨none,none,.st 4 (.t 4) (.t 40)⟩,⟨some 5,none,.mov (.t 44)⟩]) (
.ret))))))⟩
/- lenslet/lensletref01.Complex -/
def c196 : Fnc := ⟨[.cell 4 4 true],
.seq (
.reg [⟨some 4,none,.box 4 (.c (.agg [.str [],.str [],.str [],.str []]))⟩]) (
.seq (
.reg [⟨some 5,none,.mov (.t 0)⟩,⟨some 6,none,.call .pure (.c (.fn (.f 219) [] [])) [.t 5]⟩,⟨some 7,none,.mov (.t 1)⟩,⟨some 8,none,.call .pure (.c (.fn (.f 219) [] [])) [.t 7]⟩,⟨some 9,none,.mkagg [.str [],.str [],.str [],.str []] [(0,2,(.t 6)),(2,2,(.t 8))]⟩,⟨none,none,.st 4 (.t 4) (.t 9)⟩]) (
.ret))⟩
/- lenslet/number.MulBox -/
def c197 : Fnc := ⟨[.cell 4 4 true,.t 5],
.seq (
.reg [⟨some 2,none,.box 4 (.t 0)⟩,⟨some 3,none,.box 4 (.t 1)⟩,⟨some 4,none,.box 4 (.c (.agg [.str [],.str [],.str [],.str []]))⟩,⟨some 5,none,.mov (.c (.int .i64 0))⟩]) (
.seq (
.seq (
.reg [⟨some 11,none,.ld 4 true (.t 2)⟩,⟨some 12,none,.call .pure (.c (.fn (.f 220) [] [])) [.t 11]⟩,⟨some 13,none,.ld 4 true (.t 3)⟩,⟨some 14,none,.call .pure (.c (.fn (.f 220) [] [])) [.t 13]⟩,⟨some 15,none,.mksl 2 1 [.int .i64 0,.int .i64 0] [(0,1,(.t 12)),(1,1,(.t 14))]⟩,⟨some 16,none,.call .pure (.c (.fn (.f 125) [] [])) [.t 15]⟩,⟨some 6,none,.mov (.t 16)⟩]) (
.seq (
.reg [⟨some 17,none,.mov (.t 6)⟩,⟨some 18,none,.bin .neq (.t 17) (.c (.int .i64 0))⟩]) (
.cond (.t 18) (
 .seq (
 .reg [⟨some 19,none,.mkagg [.str [],.str [],.str [],.str []] []⟩,
   ⟨some 20,none,.mov (.t 6)⟩,
   ⟨none,none,.st 4 (.t 4) (.t 19)⟩,
   ⟨some 5,none,.mov (.t 20)⟩]) (
 .ret)) (
 .skip)))) (
.seq (
.reg [⟨some 21,none,.off 0 (.t 2)⟩,⟨some 22,none,.ld 2 true (.t 21)⟩,⟨some 23,none,.call .pure (.c (.fn (.f 212) [] [])) [.t 22]⟩,⟨some 24,none,.off 2 (.t 2)⟩,⟨some 25,none,.ld 2 true (.t 24)⟩,⟨some 26,none,.call .pure (.c (.fn (.f 212) [] [])) [.t 25]⟩,⟨some 27,none,.off 0 (.t 3)⟩,⟨some 28,none,.ld 2 true (.t 27)⟩,⟨some 29,none,.call .pure (.c (.fn (.f 212) [] [])) [.t 28]⟩,⟨some 30,none,.off 2 (.t 3)⟩,⟨some 31,none,.ld 2 true (.t 30)⟩,⟨some 32,none,.call .pure (.c (.fn (.f 212) [] [])) [.t 31]⟩,⟨some 7,none,.box 8 (.c (.agg [.int .i64 0,.nils,.int .i64 0,.nils,.int .i64 0,.nils,.int .i64 0,.nils]))⟩,⟨some 8,none,.box 8 (.c (.agg [.int .i64 0,.nils,.int .i64 0,.nils,.int .i64 0,.nils,.int .i64 0,.nils]))⟩,⟨some 9,none,.box 8 (.c (.agg [.int .i64 0,.nils,.int .i64 0,.nils,.int .i64 0,.nils,.int .i64 0,.nils]))⟩,⟨some 10,none,.box 8 (.c (.agg [.int .i64 0,.nils,.int .i64 0,.nils,.int .i64 0,.nils,.int .i64 0,.nils]))⟩,⟨none,none,.st 8 (.t 7) (.t 23)⟩,⟨none,none,.st 8 (.t 8) (.t 26)⟩,⟨none,none,.st 8 (.t 9) (.t 29)⟩,⟨none,none,.st 8 (.t 10) (.t 32)⟩]) (
.seq (
.reg [⟨some 33,none,.ld 8 true (.t 7)⟩,⟨some 34,none,.ld 8 true (.t 9)⟩,⟨some 35,none,.call .pure (.c (.fn (.f 221) [] [])) [.t 33,.t 34]⟩,⟨some 36,none,.ld 8 true (.t 8)⟩,⟨some 37,none,.ld 8 true (.t 10)⟩,⟨some 38,none,.call .pure (.c (.fn (.f 221) [] [])) [.t 36,.t 37]⟩,⟨some 39,none,.call .pure (.c (.fn (.f 222) [] [])) [.t 38]⟩,⟨some 40,none,.call .pure (.c (.fn (.f 223) [] [])) [.t 35,.t 39]⟩,⟨some 41,none,.ld 8 true (.t 7)⟩,⟨some 42,none,.ld 8 true (.t 10)⟩,⟨some 43,none,.call .pure (.c (.fn (.f 221) [] [])) [.t 41,.t 42]⟩,⟨some 44,none,.ld 8 true (.t 8)⟩,⟨some 45,none,.ld 8 true (.t 9)⟩,⟨some 46,none,.call .pure (.c (.fn (.f 221) [] [])) [.t 44,.t 45]⟩,⟨some 47,none,.call .pure (.c (.fn (.f 223) [] [])) [.t 43,.t 46]⟩,⟨some 48,none,.call .pure (.c (.fn (.f 224) [] [])) [.t 40,.t 47]⟩,⟨some 49,none,.ext 0 (.t 48)⟩,⟨some 50,none,.ext 1 (.t 48)⟩,⟨none,none,.st 4 (.t 4) (.t 49)⟩,⟨some 5,none,.mov (.t 50)⟩]) (
.ret))))⟩
/- lenslet/number.Conjugate -/
def c198 : Fnc := ⟨[.cell 2 4 true,.t 3],
.seq (
.reg [⟨some 1,none,.box 4 (.t 0)⟩,⟨some 2,none,.box 4 (.c (.agg [.str [],.str [],.str [],.str []]))⟩,⟨some 3,none,.mov (.c (.int .i64 0))⟩]) (
.seq (
.seq (
.reg [⟨some 5,none,.ld 4 true (.t 1)⟩,⟨some 6,none,.call .pure (.c (.fn (.f 220) [] [])) [.t 5]⟩,⟨some 4,none,.mov (.t 6)⟩]) (
.seq (
.reg [⟨some 7,none,.mov (.t 4)⟩,⟨some 8,none,.bin .neq (.t 7) (.c (.int .i64 0))⟩]) (
.cond (.t 8) (
 .seq (
 .reg [⟨some 9,none,.mkagg [.str [],.str [],.str [],.str []] []⟩,
   ⟨some 10,none,.mov (.t 4)⟩,
   ⟨none,none,.st 4 (.t 2) (.t 9)⟩,
   ⟨some 3,none,.mov (.t 10)⟩]) (
 .ret)) (
 .skip)))) (
.seq (
.reg [⟨some 11,none,.off 0 (.t 1)⟩,⟨some 12,none,.ld 2 true (.t 11)⟩,⟨some 13,none,.call .pure (.c (.fn (.f 212) [] [])) [.t 12]⟩,⟨some 14,none,.off 2 (.t 1)⟩,⟨some 15,none,.ld 2 true (.t 14)⟩,⟨some 16,none,.call .pure (.c (.fn (.f 212) [] [])) [.t 15]⟩,⟨some 17,none,.call .pure (.c (.fn (.f 222) [] [])) [.t 16]⟩,⟨some 18,none,.call .pure (.c (.fn (.f 224) [] [])) [.t 13,.t 17]⟩,⟨some 19,none,.ext 0 (.t 18)⟩,⟨some 20,none,.ext 1 (.t 18)⟩,⟨none,none,.st 4 (.t 2) (.t 19)⟩,⟨some 3,none,.mov (.t 20)⟩]) (
.ret)))⟩
/- lenslet/number.Norm -/
def c199 : Fnc := ⟨[.cell 2 2 true,.t 3],
.seq (
.reg [⟨some 1,none,.box 4 (.t 0)⟩,⟨some 2,none,.box 2 (.c (.agg [.str [],.str []]))⟩,⟨some 3,none,.mov (.c (.int .i64 0))⟩]) (
.seq (
.seq (
.reg [⟨some 6,none,.ld 4 true (.t 1)⟩,⟨some 7,none,.call .pure (.c (.fn (.f 220) [] [])) [.t 6]⟩,⟨some 4,none,.mov (.t 7)⟩]) (
.seq (
.reg [⟨some 8,none,.mov (.t 4)⟩,⟨some 9,none,.bin .neq (.t 8) (.c (.int .i64 0))⟩]) (
.cond (.t 9) (
 .seq (
 .reg [⟨some 10,none,.mkagg [.str [],.str []] []⟩,
   ⟨some 11,none,.mov (.t 4)⟩,
   ⟨none,none,.st 2 (.t 2) (.t 10)⟩,
   ⟨some 3,none,.mov (.t 11)⟩]) (
 .ret)) (
 .skip)))) (
.seq (
.reg [⟨some 12,none,.off 0 (.t 1)⟩,⟨some 13,none,.ld 2 true (.t 12)⟩,⟨some 14,none,.call .pure (.c (.fn (.f 212) [] [])) [.t 13]⟩,⟨some 15,none,.call .pure (.c (.fn (.f 213) [] [])) [.t 14]⟩,⟨some 16,none,.off 2 (.t 1)⟩,⟨some 17,none,.ld 2 true (.t 16)⟩,⟨some 18,none,.call .pure (.c (.fn (.f 212) [] [])) [.t 17]⟩,⟨some 19,none,.call .pure (.c (.fn (.f 213) [] [])) [.t 18]⟩,⟨some 20,none,.call .pure (.c (.fn (.f 223) [] [])) [.t 15,.t 19]⟩,⟨some 5,none,.box 8 (.c (.agg [.int .i64 0,.nils,.int .i64 0,.nils,.int .i64 0,.nils,.int .i64 0,.nils]))⟩,⟨none,none,.st 8 (.t 5) (.t 20)⟩]) (
.seq (
.reg [⟨some 21,none,.off 0 (.t 5)⟩,⟨some 22,none,.ld 4 true (.t 21)⟩,⟨some 23,none,.off 4 (.t 5)⟩,⟨some 24,none,.ld 4 true (.t 23)⟩,⟨some 25,none,.call .pure (.c (.fn (.f 214) [] [])) [.t 22,.t 24]⟩,⟨some 26,none,.ext 0 (.t 25)⟩,⟨some 27,none,.ext 1 (.t 25)⟩,⟨none,none,.st 2 (.t 2) (.t 26)⟩,⟨some 3,none,.mov (.t 27)⟩]) (
.ret))))⟩
/- lenslet/number.Multiply -/
def c200_0 : VC :=
.seq (
.reg [⟨some 54,none,.bin .lss (.t 53) (.t 52)⟩]) (
.seq (
.cond (.t 54) (
 .skip) (
 .exit 4)) (
.seq (
.blk 5 (
.seq (
.reg [⟨some 55,none,.mov (.t 53)⟩,⟨some 56,none,.ixa 4 (.t 51) (.t 53)⟩,⟨some 57,none,.ld 4 true (.t 56)⟩,⟨some 16,none,.box 4 (.c (.agg [.int .i64 0,.nils,.int .i64 0,.nils]))⟩,⟨some 15,none,.mov (.t 55)⟩,⟨none,none,.st 4 (.t 16) (.t 57)⟩]) (
.reg [⟨some 58,none,.ld 4 true (.t 14)⟩,⟨some 59,none,.ld 4 true (.t 16)⟩,⟨some 60,none,.mov (.t 8)⟩,⟨some 61,none,.mov (.t 15)⟩,⟨some 62,none,.ixa 1 (.t 60) (.t 61)⟩,⟨some 63,none,.ld 1 false (.t 62)⟩,⟨some 64,none,.mov (.t 13)⟩,⟨some 65,none,.ixa 4 (.t 63) (.t 64)⟩,⟨some 66,none,.ld 4 true (.t 65)⟩,⟨some 67,none,.call .pure (.c (.fn (.f 49) [] [])) [.t 59,.t 66]⟩,⟨some 68,none,.call .pure (.c (.fn (.f 74) [] [])) [.t 58,.t 67]⟩,⟨none,none,.st 4 (.t 14) (.t 68)⟩]))) (
.reg [⟨some 69,none,.bin .add (.t 53) (.c (.int .i64 1))⟩,⟨some 53,none,.mov (.t 69)⟩])))
def c200_1 : VC :=
.seq (
.reg [⟨some 48,none,.bin .lss (.t 47) (.t 46)⟩]) (
.seq (
.cond (.t 48) (
 .skip) (
 .exit 2)) (
.seq (
.blk 3 (
.seq (
.reg [⟨some 49,none,.mov (.t 47)⟩,⟨some 13,none,.mov (.t 49)⟩]) (
.seq (
.reg [⟨some 50,none,.call .pure (.c (.fn (.f 69) [] [])) [.c (.int .i64 0)]⟩,⟨some 14,none,.box 4 (.c (.agg [.int .i64 0,.nils,.int .i64 0,.nils]))⟩,⟨none,none,.st 4 (.t 14) (.t 50)⟩]) (
.seq (
.seq (
.reg [⟨some 51,none,.mov (.t 11)⟩,⟨some 52,none,.len 1 (.t 51)⟩,⟨some 53,none,.mov (.c (.int .i64 0))⟩]) (
.seq (
.blk 4 (
.loop [8,9,11,12,13,14,37,38,39,46,47,51,52,53] c200_0)) (
.kp [8,9,11,12,14,37,38,39,46,47]))) (
.reg [⟨some 70,none,.mov (.t 12)⟩,⟨some 71,none,.ld 4 true (.t 14)⟩,⟨some 72,none,.mksl 1 4 [.int .i64 0,.nils,.int .i64 0,.nils] [(0,4,(.t 71))]⟩,⟨some 73,none,.app 4 64 (.t 70) (.t 72)⟩,⟨some 12,none,.mov (.t 73)⟩]))))) (
.reg [⟨some 74,none,.bin .add (.t 47) (.c (.int .i64 1))⟩,⟨some 47,none,.mov (.t 74)⟩])))
def c200_2 : VC :=
.seq (
.reg [⟨some 40,none,.bin .lss (.t 39) (.t 38)⟩]) (
.seq (
.cond (.t 40) (
 .skip) (
 .exit 0)) (
.seq (
.blk 1 (
.seq (
.reg [⟨some 41,none,.ixa 1 (.t 37) (.t 39)⟩,⟨some 42,none,.ld 1 false (.t 41)⟩,⟨some 11,none,.mov (.t 42)⟩]) (
.seq (
.reg [⟨some 12,none,.mov (.c (.nils))⟩]) (
.seq (
.seq (
.reg [⟨some 43,none,.mov (.t 8)⟩,⟨some 44,none,.ixa 1 (.t 43) (.c (.int .i64 0))⟩,⟨some 45,none,.ld 1 false (.t 44)⟩,⟨some 46,none,.len 1 (.t 45)⟩,⟨some 47,none,.mov (.c (.int .i64 0))⟩]) (
.seq (
.blk 2 (
.loop [8,9,11,12,37,38,39,46,47] c200_1)) (
.kp [8,9,12,37,38,39]))) (
.seq (
.fz [12]) (
.reg [⟨some 75,none,.mov (.t 9)⟩,⟨some 76,none,.mov (.t 12)⟩,⟨some 77,none,.mksl 1 1 [.nils] [(0,1,(.t 76))]⟩,⟨some 78,none,.app 1 24 (.t 75) (.t 77)⟩,⟨some 9,none,.mov (.t 78)⟩])))))) (
.reg [⟨some 79,none,.bin .add (.t 39) (.c (.int .i64 1))⟩,⟨some 39,none,.mov (.t 79)⟩])))
def c200 : Fnc := ⟨[.t 4,.t 5],
.seq (
.reg [⟨some 4,none,.mov (.c (.nils))⟩,⟨some 5,none,.mov (.c (.int .i64 0))⟩]) (
.seq (
.seq (
.reg [⟨some 17,none,.mov (.t 0)⟩,⟨some 18,none,.call .pure (.c (.fn (.f 84) [] [])) [.t 17]⟩,⟨some 19,none,.mov (.t 1)⟩,⟨some 20,none,.call .pure (.c (.fn (.f 84) [] [])) [.t 19]⟩,⟨some 21,none,.mksl 2 1 [.int .i64 0,.int .i64 0] [(0,1,(.t 18)),(1,1,(.t 20))]⟩,⟨some 22,none,.call .pure (.c (.fn (.f 125) [] [])) [.t 21]⟩,⟨some 6,none,.mov (.t 22)⟩]) (
.seq (
.reg [⟨some 23,none,.mov (.t 6)⟩,⟨some 24,none,.bin .neq (.t 23) (.c (.int .i64 0))⟩]) (
.cond (.t 24) (
 .seq (
 .reg [⟨some 25,none,.mov (.t 6)⟩,
   ⟨some 4,none,.mov (.c (.nils))⟩,
   ⟨some 5,none,.mov (.t 25)⟩]) (
 .ret)) (
 .skip)))) (
.seq (
.seq (
.reg [⟨some 26,none,.mov (.t 0)⟩,⟨some 27,none,.ixa 1 (.t 26) (.c (.int .i64 0))⟩,⟨some 28,none,.ld 1 false (.t 27)⟩,⟨some 29,none,.len 1 (.t 28)⟩,⟨some 30,none,.mov (.t 1)⟩,⟨some 31,none,.len 1 (.t 30)⟩,⟨some 32,none,.bin .neq (.t 29) (.t 31)⟩]) (
.cond (.t 32) (
 .seq (
 .reg [⟨some 4,none,.mov (.c (.nils))⟩,
   ⟨some 5,none,.mov (.c (.int .i64 2))⟩]) (
 .ret)) (
 .skip))) (
.seq (
.reg [⟨some 33,none,.mov (.t 0)⟩,⟨some 34,none,.call .pure (.c (.fn (.f 225) [] [])) [.t 33]⟩,⟨some 35,none,.mov (.t 1)⟩,⟨some 36,none,.call .pure (.c (.fn (.f 225) [] [])) [.t 35]⟩,⟨some 7,none,.mov (.t 34)⟩,⟨some 8,none,.mov (.t 36)⟩]) (
.seq (
.reg [⟨some 9,none,.mov (.c (.nils))⟩]) (
.seq (
.seq (
.reg [⟨some 37,none,.mov (.t 7)⟩,⟨some 38,none,.len 1 (.t 37)⟩,⟨some 39,none,.mov (.c (.int .i64 0))⟩]) (
.seq (
.blk 0 (
.loop [8,9,37,38,39] c200_2)) (
.kp [9]))) (
.seq (
.reg [⟨some 80,none,.mov (.t 9)⟩,⟨some 81,none,.call .pure (.c (.fn (.f 226) [] [])) [.t 80]⟩,⟨some 82,none,.ext 0 (.t 81)⟩,⟨some 83,none,.ext 1 (.t 81)⟩,⟨some 4,none,.mov (.t 82)⟩,⟨some 5,none,.mov (.t 83)⟩]) (
.ret)))))))⟩
/- lenslet/number.Solve -/
def c201_0 : VC :=
.seq (
.reg [⟨some 37,none,.bin .lss (.t 36) (.t 35)⟩]) (
.seq (
.cond (.t 37) (
 .skip) (
 .exit 0)) (
.seq (
.blk 1 (
.seq (
.reg [⟨some 38,none,.mov (.t 36)⟩,⟨some 39,none,.ixa 1 (.t 34) (.t 36)⟩,⟨some 40,none,.ld 1 false (.t 39)⟩,⟨some 8,none,.mov (.t 38)⟩,⟨some 9,none,.mov (.t 40)⟩]) (
.reg [⟨some 41,none,.mov (.t 7)⟩,⟨some 42,none,.mov (.t 9)⟩,⟨some 43,none,.mov (.t 1)⟩,⟨some 44,none,.mov (.t 8)⟩,⟨some 45,none,.ixa 1 (.t 43) (.t 44)⟩,⟨some 46,none,.ld 1 false (.t 45)⟩,⟨some 47,none,.call .pure (.c (.fn (.f 62) [] [])) [.t 46]⟩,⟨some 48,none,.mksl 1 4 [.int .i64 0,.nils,.int .i64 0,.nils] [(0,4,(.t 47))]⟩,⟨some 49,none,.app 4 64 (.t 42) (.t 48)⟩,⟨some 50,none,.mksl 1 1 [.nils] [(0,1,(.t 49))]⟩,⟨some 51,none,.app 1 24 (.t 41) (.t 50)⟩,⟨some 7,none,.mov (.t 51)⟩]))) (
.reg [⟨some 52,none,.bin .add (.t 36) (.c (.int .i64 1))⟩,⟨some 36,none,.mov (.t 52)⟩])))
def c201_1 : VC :=
.seq (
.reg [⟨some 79,none,.bin .lss (.t 78) (.t 77)⟩]) (
.seq (
.cond (.t 79) (
 .skip) (
 .exit 2)) (
.seq (
.blk 3 (
.seq (
.reg [⟨some 80,none,.ixa 1 (.t 76) (.t 78)⟩,⟨some 81,none,.ld 1 false (.t 80)⟩,⟨some 15,none,.mov (.t 81)⟩]) (
.reg [⟨some 82,none,.mov (.t 13)⟩,⟨some 83,none,.mov (.t 15)⟩,⟨some 84,none,.mov (.t 10)⟩,⟨some 85,none,.ixa 4 (.t 83) (.t 84)⟩,⟨some 86,none,.ld 4 true (.t 85)⟩,⟨some 87,none,.mksl 1 4 [.int .i64 0,.nils,.int .i64 0,.nils] [(0,4,(.t 86))]⟩,⟨some 88,none,.app 4 64 (.t 82) (.t 87)⟩,⟨some 13,none,.mov (.t 88)⟩]))) (
.reg [⟨some 89,none,.bin .add (.t 78) (.c (.int .i64 1))⟩,⟨some 78,none,.mov (.t 89)⟩])))
def c201 : Fnc := ⟨[.t 4,.t 5],
.seq (
.reg [⟨some 4,none,.mov (.c (.nils))⟩,⟨some 5,none,.mov (.c (.int .i64 0))⟩]) (
.seq (
.seq (
.reg [⟨some 18,none,.mov (.t 0)⟩,⟨some 19,none,.call .pure (.c (.fn (.f 84) [] [])) [.t 18]⟩,⟨some 20,none,.mov (.t 1)⟩,⟨some 21,none,.call .pure (.c (.fn (.f 161) [] [])) [.t 20]⟩,⟨some 22,none,.mov (.t 1)⟩,⟨some 23,none,.len 1 (.t 22)⟩,⟨some 24,none,.mov (.t 0)⟩,⟨some 25,none,.len 1 (.t 24)⟩,⟨some 26,none,.bin .neq (.t 23) (.t 25)⟩,⟨some 27,none,.call .pure (.c (.fn (.f 124) [] [])) [.t 26,.c (.int .i64 2)]⟩,⟨some 28,none,.mksl 3 1 [.int .i64 0,.int .i64 0,.int .i64 0] [(0,1,(.t 19)),(1,1,(.t 21)),(2,1,(.t 27))]⟩,⟨some 29,none,.call .pure (.c (.fn (.f 125) [] [])) [.t 28]⟩,⟨some 6,none,.mov (.t 29)⟩]) (
.seq (
.reg [⟨some 30,none,.mov (.t 6)⟩,⟨some 31,none,.bin .neq (.t 30) (.c (.int .i64 0))⟩]) (
.cond (.t 31) (
 .seq (
 .reg [⟨some 32,none,.mov (.t 6)⟩,
   ⟨some 4,none,.mov (.c (.nils))⟩,
   ⟨some 5,none,.mov (.t 32)⟩]) (
 .ret)) (
 .skip)))) (
.seq (
.reg [⟨some 7,none,.mov (.c (.nils))⟩]) (
.seq (
.seq (
.reg [⟨some 33,none,.mov (.t 0)⟩,⟨some 34,none,.call .pure (.c (.fn (.f 225) [] [])) [.t 33]⟩,⟨some 35,none,.len 1 (.t 34)⟩,⟨some 36,none,.mov (.c (.int .i64 0))⟩]) (
.seq (
.blk 0 (
.loop [0,1,7,34,35,36] c201_0)) (
.kp [0,7]))) (
.seq (
.reg [⟨some 53,none,.mov (.t 0)⟩,⟨some 54,none,.ixa 1 (.t 53) (.c (.int .i64 0))⟩,⟨some 55,none,.ld 1 false (.t 54)⟩,⟨some 56,none,.len 1 (.t 55)⟩,⟨some 10,none,.mov (.t 56)⟩]) (
.seq (
.reg [⟨some 58,none,.mov (.t 7)⟩,⟨some 59,none,.call .pure (.c (.fn (.f 227) [] [])) [.t 58]⟩,⟨some 57,none,.mov (.t 59)⟩,⟨some 60,none,.ext 0 (.t 57)⟩,⟨some 61,none,.ext 1 (.t 57)⟩,⟨some 11,none,.mov (.t 60)⟩,⟨some 12,none,.mov (.t 61)⟩]) (
.seq (
.seq (
.reg [⟨some 62,none,.mov (.t 12)⟩,⟨some 63,none,.len 1 (.t 62)⟩,⟨some 64,none,.mov (.t 10)⟩,⟨some 65,none,.bin .neq (.t 63) (.t 64)⟩,⟨some 66,none,.mov (.t 65)⟩,⟨some 67,some (66,false),.mov (.t 12)⟩,⟨some 68,some (66,false),.mov (.t 10)⟩,⟨some 69,some (66,false),.bin .sub (.t 68) (.c (.int .i64 1))⟩,⟨some 70,some (66,false),.ixa 1 (.t 67) (.t 69)⟩,⟨some 71,some (66,false),.ld 1 false (.t 70)⟩,⟨some 72,some (66,false),.mov (.t 10)⟩,⟨some 73,some (66,false),.bin .sub (.t 72) (.c (.int .i64 1))⟩,⟨some 74,some (66,false),.bin .neq (.t 71) (.t 73)⟩,⟨some 75,none,.pick (.t 66) (.c (.bool true)) (.t 74)⟩]) (
.cond (.t 75) (
 .seq (
 .reg [⟨some 4,none,.mov (.c (.nils))⟩,
   ⟨some 5,none,.mov (.c (.int .i64 14))⟩]) (
 .ret)) (
 .skip))) (
.seq (
.reg [⟨some 13,none,.mov (.c (.nils))⟩]) (
.seq (
.seq (
.reg [⟨some 76,none,.mov (.t 11)⟩,⟨some 77,none,.len 1 (.t 76)⟩,⟨some 78,none,.mov (.c (.int .i64 0))⟩]) (
.seq (
.blk 2 (
.loop [10,13,76,77,78] c201_1)) (
.kp [13]))) (
.seq (
.seq (
.fz [13]) (
.reg [⟨some 91,none,.mov (.t 13)⟩,⟨some 92,none,.mksl 1 1 [.nils] [(0,1,(.t 91))]⟩,⟨some 93,none,.call .pure (.c (.fn (.f 226) [] [])) [.t 92]⟩,⟨some 90,none,.mov (.t 93)⟩,⟨some 94,none,.ext 0 (.t 90)⟩,⟨some 95,none,.ext 1 (.t 90)⟩,⟨some 16,none,.mov (.t 94)⟩,⟨some 17,none,.mov (.t 95)⟩])) (
.seq (
.seq (
.reg [⟨some 96,none,.mov (.t 17)⟩,⟨some 97,none,.bin .neq (.t 96) (.c (.int .i64 0))⟩]) (
.cond (.t 97) (
 .seq (
 .reg [⟨some 98,none,.mov (.t 17)⟩,
   ⟨some 4,none,.mov (.c (.nils))⟩,
   ⟨some 5,none,.mov (.t 98)⟩]) (
 .ret)) (
 .skip))) (
.seq (
.reg [⟨some 99,none,.mov (.t 16)⟩,⟨some 100,none,.ixa 1 (.t 99) (.c (.int .i64 0))⟩,⟨some 101,none,.ld 1 false (.t 100)⟩,⟨some 4,none,.mov (.t 101)⟩,⟨some 5,none,.mov (.c (.int .i64 0))⟩]) (
.ret))))))))))))⟩
/- lenslet/number.Float -/
def c202_0 : VC :=
.seq (
.seq (
.reg [⟨some 34,none,.ld 4 true (.t 6)⟩,⟨some 35,none,.mov (.t 7)⟩,⟨some 36,none,.bin .add (.t 35) (.c (.int .i64 24))⟩,⟨some 37,none,.call .pure (.c (.fn (.f 228) [] [])) [.t 36]⟩,⟨some 38,none,.call .pure (.c (.fn (.f 71) [] [])) [.t 34,.t 37]⟩,⟨some 39,none,.bin .geq (.t 38) (.c (.int .i64 0))⟩]) (
.cond (.t 39) (
 .skip) (
 .exit 0))) (
.blk 1 (
.reg [⟨some 40,none,.mov (.t 7)⟩,⟨some 41,none,.bin .add (.t 40) (.c (.int .i64 1))⟩,⟨some 7,none,.mov (.t 41)⟩]))
def c202 : Fnc := ⟨[.t 2,.t 3],
.seq (
.reg [⟨some 2,none,.mov (.c (.flt .f32 0))⟩,⟨some 3,none,.mov (.c (.int .i64 0))⟩]) (
.seq (
.seq (
.reg [⟨some 10,none,.mov (.t 0)⟩,⟨some 11,none,.call .pure (.c (.fn (.f 86) [] [])) [.t 10]⟩,⟨some 4,none,.mov (.t 11)⟩]) (
.seq (
.reg [⟨some 12,none,.mov (.t 4)⟩,⟨some 13,none,.bin .neq (.t 12) (.c (.int .i64 0))⟩]) (
.cond (.t 13) (
 .seq (
 .reg [⟨some 14,none,.mov (.t 4)⟩,
   ⟨some 2,none,.mov (.c (.flt .f32 0))⟩,
   ⟨some 3,none,.mov (.t 14)⟩]) (
 .ret)) (
 .skip)))) (
.seq (
.reg [⟨some 15,none,.mov (.t 0)⟩,⟨some 16,none,.call .pure (.c (.fn (.f 62) [] [])) [.t 15]⟩,⟨some 5,none,.box 4 (.c (.agg [.int .i64 0,.nils,.int .i64 0,.nils]))⟩,⟨none,none,.st 4 (.t 5) (.t 16)⟩]) (
.seq (
.seq (
.reg [⟨some 17,none,.ld 4 true (.t 5)⟩,⟨some 18,none,.call .pure (.c (.fn (.f 108) [] [])) [.t 17]⟩,⟨some 19,none,.bin .eql (.t 18) (.c (.int .i64 0))⟩]) (
.cond (.t 19) (
 .seq (
 .reg [⟨some 2,none,.mov (.c (.flt .f32 0))⟩,
   ⟨some 3,none,.mov (.c (.int .i64 0))⟩]) (
 .ret)) (
 .skip))) (
.seq (
.reg [⟨some 20,none,.off 0 (.t 5)⟩,⟨some 21,none,.ld 2 true (.t 20)⟩,⟨some 22,none,.call .pure (.c (.fn (.f 163) [] [])) [.t 21]⟩,⟨some 23,none,.off 2 (.t 5)⟩,⟨some 24,none,.ld 2 true (.t 23)⟩,⟨some 25,none,.mkagg [.int .i64 0,.nils,.int .i64 0,.nils] [(0,2,(.t 22)),(2,2,(.t 24))]⟩,⟨some 6,none,.box 4 (.c (.agg [.int .i64 0,.nils,.int .i64 0,.nils]))⟩,⟨none,none,.st 4 (.t 6) (.t 25)⟩]) (
.seq (
.reg [⟨some 26,none,.off 0 (.t 6)⟩,⟨some 27,none,.ld 2 true (.t 26)⟩,⟨some 28,none,.call .pure (.c (.fn (.f 172) [] [])) [.t 27]⟩,⟨some 29,none,.off 2 (.t 6)⟩,⟨some 30,none,.ld 2 true (.t 29)⟩,⟨some 31,none,.call .pure (.c (.fn (.f 172) [] [])) [.t 30]⟩,⟨some 32,none,.bin .sub (.t 28) (.t 31)⟩,⟨some 33,none,.bin .sub (.t 32) (.c (.int .i64 24))⟩,⟨some 7,none,.mov (.t 33)⟩]) (
.seq (
.seq (
.blk 0 (
.loop [5,6,7] c202_0)) (
.kp [5,6,7])) (
.seq (
.reg [⟨some 42,none,.mov (.t 7)⟩,⟨some 43,none,.mx [.t 42,.c (.int .i64 (-149))]⟩,⟨some 7,none,.mov (.t 43)⟩]) (
.seq (
.seq (
.reg [⟨some 44,none,.mov (.t 7)⟩,⟨some 45,none,.bin .gtr (.t 44) (.c (.int .i64 104))⟩]) (
.cond (.t 45) (
 .seq (
 .reg [⟨some 2,none,.mov (.c (.flt .f32 0))⟩,
   ⟨some 3,none,.mov (.c (.int .i64 4))⟩]) (
 .ret)) (
 .skip))) (
.seq (
.reg [⟨some 46,none,.ld 4 true (.t 6)⟩,⟨some 47,none,.mov (.t 7)⟩,⟨some 48,none,.un .neg (.t 47)⟩,⟨some 49,none,.call .pure (.c (.fn (.f 228) [] [])) [.t 48]⟩,⟨some 50,none,.call .pure (.c (.fn (.f 49) [] [])) [.t 46,.t 49]⟩,⟨some 51,none,.call .pure (.c (.fn (.f 229) [] [])) [.t 50]⟩,⟨some 8,none,.mov (.t 51)⟩]) (
.seq (
.seq (
.reg [⟨some 52,none,.mov (.t 8)⟩,⟨some 53,none,.bin .eql (.t 52) (.c (.int .i64 16777216))⟩,⟨some 54,none,.mov (.t 53)⟩,⟨some 55,some (54,true),.mov (.t 7)⟩,⟨some 56,some (54,true),.bin .eql (.t 55) (.c (.int .i64 104))⟩,⟨some 57,none,.pick (.t 54) (.t 56) (.c (.bool false))⟩]) (
.cond (.t 57) (
 .seq (
 .reg [⟨some 2,none,.mov (.c (.flt .f32 0))⟩,
   ⟨some 3,none,.mov (.c (.int .i64 4))⟩]) (
 .ret)) (
 .skip))) (
.seq (
.reg [⟨some 58,none,.mov (.t 8)⟩,⟨some 59,none,.cv (.toFlt .f64) (.t 58)⟩,⟨some 60,none,.mov (.t 7)⟩,⟨some 61,none,.call .pure (.c (.fn (.f 230) [] [])) [.t 59,.t 60]⟩,⟨some 62,none,.cv (.toFlt .f32) (.t 61)⟩,⟨some 9,none,.mov (.t 62)⟩]) (
.seq (
.seq (
.reg [⟨some 63,none,.ld 4 true (.t 5)⟩,⟨some 64,none,.call .pure (.c (.fn (.f 108) [] [])) [.t 63]⟩,⟨some 65,none,.bin .lss (.t 64) (.c (.int .i64 0))⟩,⟨some 66,none,.mov (.t 65)⟩,⟨some 67,some (66,true),.mov (.t 8)⟩,⟨some 68,some (66,true),.bin .gtr (.t 67) (.c (.int .i64 0))⟩,⟨some 69,none,.pick (.t 66) (.t 68) (.c (.bool false))⟩]) (
.cond (.t 69) (
 .reg [⟨some 70,none,.mov (.t 9)⟩,
   ⟨some 71,none,.un .neg (.t 70)⟩,
   ⟨some 9,none,.mov (.t 71)⟩]) (
 .skip))) (
.seq (
.reg [⟨some 72,none,.mov (.t 9)⟩,⟨some 2,none,.mov (.t 72)⟩,⟨some 3,none,.mov (.c (.int .i64 0))⟩]) (
.ret))))))))))))))⟩
/- lenslet/number.Exact -/
def c203 : Fnc := ⟨[.t 2,.t 3],
.seq (
.reg [⟨some 2,none,.mov (.c (.str []))⟩,⟨some 3,none,.mov (.c (.int .i64 0))⟩]) (
.seq (
.seq (
.reg [⟨some 4,none,.mov (.t 0)⟩,⟨some 5,none,.call .pure (.c (.fn (.f 231) [] [])) [.t 4]⟩,⟨some 6,none,.un .not (.t 5)⟩]) (
.cond (.t 6) (
 .seq (
 .reg [⟨some 2,none,.mov (.c (.str []))⟩,
   ⟨some 3,none,.mov (.c (.int .i64 1))⟩]) (
 .ret)) (
 .skip))) (
.seq (
.reg [⟨some 7,none,.mov (.t 0)⟩,⟨some 8,none,.call .pure (.c (.fn (.f 232) [] [])) [.t 7]⟩,⟨some 9,none,.call .pure (.c (.fn (.f 46) [] [])) [.t 8]⟩,⟨some 2,none,.mov (.t 9)⟩,⟨some 3,none,.mov (.c (.int .i64 0))⟩]) (
.ret)))⟩
/- lenslet/number.Kernel -/
def c204_0 : VC :=
.seq (
.reg [⟨some 41,none,.bin .lss (.t 40) (.t 39)⟩]) (
.seq (
.cond (.t 41) (
 .skip) (
 .exit 2)) (
.seq (
.blk 3 (
.seq (
.reg [⟨some 42,none,.mov (.t 40)⟩,⟨some 11,none,.mov (.t 42)⟩]) (
.reg [⟨some 43,none,.mov (.t 10)⟩,⟨some 44,none,.mov (.t 11)⟩,⟨some 45,none,.call .pure (.c (.fn (.f 69) [] [])) [.c (.int .i64 0)]⟩,⟨some 46,none,.ixa 4 (.t 43) (.t 44)⟩,⟨none,none,.st 4 (.t 46) (.t 45)⟩]))) (
.reg [⟨some 47,none,.bin .add (.t 40) (.c (.int .i64 1))⟩,⟨some 40,none,.mov (.t 47)⟩])))
def c204_1 : VC :=
.seq (
.reg [⟨some 55,none,.bin .lss (.t 54) (.t 53)⟩]) (
.seq (
.cond (.t 55) (
 .skip) (
 .exit 4)) (
.seq (
.blk 5 (
.seq (
.reg [⟨some 56,none,.mov (.t 54)⟩,⟨some 57,none,.ixa 1 (.t 52) (.t 54)⟩,⟨some 58,none,.ld 1 false (.t 57)⟩,⟨some 13,none,.mov (.t 56)⟩,⟨some 14,none,.mov (.t 58)⟩]) (
.seq (
.reg [⟨some 59,none,.mov (.t 10)⟩,⟨some 60,none,.mov (.t 14)⟩,⟨some 61,none,.mov (.t 6)⟩,⟨some 62,none,.mov (.t 13)⟩,⟨some 63,none,.ixa 1 (.t 61) (.t 62)⟩,⟨some 64,none,.ld 1 false (.t 63)⟩,⟨some 65,none,.mov (.t 9)⟩,⟨some 66,none,.ixa 4 (.t 64) (.t 65)⟩,⟨some 67,none,.ld 4 true (.t 66)⟩,⟨some 68,none,.call .pure (.c (.fn (.f 102) [] [])) [.t 67]⟩,⟨some 69,none,.ixa 4 (.t 59) (.t 60)⟩,⟨none,none,.st 4 (.t 69) (.t 68)⟩]) (
.reg [⟨some 70,none,.mov (.t 12)⟩,⟨some 71,none,.mov (.t 70)⟩,⟨some 72,some (71,true),.mov (.t 14)⟩,⟨some 73,some (71,true),.mov (.t 9)⟩,⟨some 74,some (71,true),.bin .neq (.t 72) (.t 73)⟩,⟨some 75,none,.pick (.t 71) (.t 74) (.c (.bool false))⟩,⟨some 12,none,.mov (.t 75)⟩])))) (
.reg [⟨some 76,none,.bin .add (.t 54) (.c (.int .i64 1))⟩,⟨some 54,none,.mov (.t 76)⟩])))
def c204_2 : VC :=
.seq (
.reg [⟨some 34,none,.bin .lss (.t 33) (.t 32)⟩]) (
.seq (
.cond (.t 34) (
 .skip) (
 .exit 0)) (
.seq (
.blk 1 (
.seq (
.reg [⟨some 35,none,.mov (.t 33)⟩,⟨some 9,none,.mov (.t 35)⟩]) (
.seq (
.reg [⟨some 36,none,.mov (.t 5)⟩,⟨some 37,none,.mks 4 64 [.int .i64 0,.nils,.int .i64 0,.nils] (.t 36) (.t 36)⟩,⟨some 10,none,.mov (.t 37)⟩]) (
.seq (
.seq (
.reg [⟨some 38,none,.mov (.t 10)⟩,⟨some 39,none,.len 1 (.t 38)⟩,⟨some 40,none,.mov (.c (.int .i64 0))⟩]) (
.seq (
.blk 2 (
.loop [5,6,7,8,9,10,32,33,39,40] c204_0)) (
.kp [5,6,7,8,9,10,32,33]))) (
.seq (
.reg [⟨some 48,none,.mov (.t 10)⟩,⟨some 49,none,.mov (.t 9)⟩,⟨some 50,none,.call .pure (.c (.fn (.f 69) [] [])) [.c (.int .i64 1)]⟩,⟨some 51,none,.ixa 4 (.t 48) (.t 49)⟩,⟨none,none,.st 4 (.t 51) (.t 50)⟩]) (
.seq (
.reg [⟨some 12,none,.mov (.c (.bool true))⟩]) (
.seq (
.seq (
.reg [⟨some 52,none,.mov (.t 7)⟩,⟨some 53,none,.len 1 (.t 52)⟩,⟨some 54,none,.mov (.c (.int .i64 0))⟩]) (
.seq (
.blk 4 (
.loop [5,6,7,8,9,10,12,32,33,52,53,54] c204_1)) (
.kp [5,6,7,8,10,12,32,33]))) (
.seq (
.reg [⟨some 77,none,.mov (.t 12)⟩]) (
.cond (.t 77) (
 .seq (
 .fz [10]) (
 .reg [⟨some 78,none,.mov (.t 8)⟩,
   ⟨some 79,none,.mov (.t 10)⟩,
   ⟨some 80,none,.mksl 1 1 [.nils] [(0,1,(.t 79))]⟩,
   ⟨some 81,none,.app 1 24 (.t 78) (.t 80)⟩,
   ⟨some 8,none,.mov (.t 81)⟩])) (
 .skip)))))))))) (
.reg [⟨some 82,none,.bin .add (.t 33) (.c (.int .i64 1))⟩,⟨some 33,none,.mov (.t 82)⟩])))
def c204 : Fnc := ⟨[.t 2,.t 3],
.seq (
.reg [⟨some 2,none,.mov (.c (.nils))⟩,⟨some 3,none,.mov (.c (.int .i64 0))⟩]) (
.seq (
.seq (
.reg [⟨some 17,none,.mov (.t 0)⟩,⟨some 18,none,.call .pure (.c (.fn (.f 84) [] [])) [.t 17]⟩,⟨some 4,none,.mov (.t 18)⟩]) (
.seq (
.reg [⟨some 19,none,.mov (.t 4)⟩,⟨some 20,none,.bin .neq (.t 19) (.c (.int .i64 0))⟩]) (
.cond (.t 20) (
 .seq (
 .reg [⟨some 21,none,.mov (.t 4)⟩,
   ⟨some 2,none,.mov (.c (.nils))⟩,
   ⟨some 3,none,.mov (.t 21)⟩]) (
 .ret)) (
 .skip)))) (
.seq (
.reg [⟨some 22,none,.mov (.t 0)⟩,⟨some 23,none,.ixa 1 (.t 22) (.c (.int .i64 0))⟩,⟨some 24,none,.ld 1 false (.t 23)⟩,⟨some 25,none,.len 1 (.t 24)⟩,⟨some 5,none,.mov (.t 25)⟩]) (
.seq (
.reg [⟨some 27,none,.mov (.t 0)⟩,⟨some 28,none,.call .pure (.c (.fn (.f 225) [] [])) [.t 27]⟩,⟨some 29,none,.call .pure (.c (.fn (.f 227) [] [])) [.t 28]⟩,⟨some 26,none,.mov (.t 29)⟩,⟨some 30,none,.ext 0 (.t 26)⟩,⟨some 31,none,.ext 1 (.t 26)⟩,⟨some 6,none,.mov (.t 30)⟩,⟨some 7,none,.mov (.t 31)⟩]) (
.seq (
.reg [⟨some 8,none,.mov (.c (.nils))⟩]) (
.seq (
.seq (
.reg [⟨some 32,none,.mov (.t 5)⟩,⟨some 33,none,.mov (.c (.int .i64 0))⟩]) (
.seq (
.blk 0 (
.loop [5,6,7,8,32,33] c204_2)) (
.kp [8]))) (
.seq (
.seq (
.reg [⟨some 83,none,.mov (.t 8)⟩,⟨some 84,none,.len 1 (.t 83)⟩,⟨some 85,none,.bin .eql (.t 84) (.c (.int .i64 0))⟩]) (
.cond (.t 85) (
 .seq (
 .reg [⟨some 2,none,.mov (.c (.nils))⟩,
   ⟨some 3,none,.mov (.c (.int .i64 0))⟩]) (
 .ret)) (
 .skip))) (
.seq (
.reg [⟨some 87,none,.mov (.t 8)⟩,⟨some 88,none,.call .pure (.c (.fn (.f 227) [] [])) [.t 87]⟩,⟨some 86,none,.mov (.t 88)⟩,⟨some 89,none,.ext 0 (.t 86)⟩,⟨some 90,none,.ext 1 (.t 86)⟩,⟨some 15,none,.mov (.t 89)⟩,⟨some 16,none,.mov (.t 90)⟩]) (
.seq (
.reg [⟨some 91,none,.mov (.t 15)⟩,⟨some 92,none,.call .pure (.c (.fn (.f 226) [] [])) [.t 91]⟩,⟨some 93,none,.ext 0 (.t 92)⟩,⟨some 94,none,.ext 1 (.t 92)⟩,⟨some 2,none,.mov (.t 93)⟩,⟨some 3,none,.mov (.t 94)⟩]) (
.ret)))))))))⟩
/- lenslet/number.Rank -/
def c205 : Fnc := ⟨[.t 2,.t 3],
.seq (
.reg [⟨some 2,none,.mov (.c (.int .i64 0))⟩,⟨some 3,none,.mov (.c (.int .i64 0))⟩]) (
.seq (
.seq (
.reg [⟨some 7,none,.mov (.t 0)⟩,⟨some 8,none,.call .pure (.c (.fn (.f 84) [] [])) [.t 7]⟩,⟨some 4,none,.mov (.t 8)⟩]) (
.seq (
.reg [⟨some 9,none,.mov (.t 4)⟩,⟨some 10,none,.bin .neq (.t 9) (.c (.int .i64 0))⟩]) (
.cond (.t 10) (
 .seq (
 .reg [⟨some 11,none,.mov (.t 4)⟩,
   ⟨some 2,none,.mov (.c (.int .i64 0))⟩,
   ⟨some 3,none,.mov (.t 11)⟩]) (
 .ret)) (
 .skip)))) (
.seq (
.reg [⟨some 13,none,.mov (.t 0)⟩,⟨some 14,none,.call .pure (.c (.fn (.f 225) [] [])) [.t 13]⟩,⟨some 15,none,.call .pure (.c (.fn (.f 227) [] [])) [.t 14]⟩,⟨some 12,none,.mov (.t 15)⟩,⟨some 16,none,.ext 0 (.t 12)⟩,⟨some 17,none,.ext 1 (.t 12)⟩,⟨some 5,none,.mov (.t 16)⟩,⟨some 6,none,.mov (.t 17)⟩]) (
.seq (
.reg [⟨some 18,none,.mov (.t 6)⟩,⟨some 19,none,.len 1 (.t 18)⟩,⟨some 2,none,.mov (.t 19)⟩,⟨some 3,none,.mov (.c (.int .i64 0))⟩]) (
.ret))))⟩
/- lenslet/number.within -/
def c206 : Fnc := ⟨[.t 6],
.seq (
.reg [⟨some 6,none,.mov (.c (.int .i64 0))⟩]) (
.seq (
.reg [⟨some 7,none,.mov (.t 0)⟩,⟨some 8,none,.mov (.t 1)⟩,⟨some 9,none,.bin .lss (.t 7) (.t 8)⟩,⟨some 10,none,.mov (.t 9)⟩,⟨some 11,some (10,false),.mov (.t 0)⟩,⟨some 12,some (10,false),.mov (.t 2)⟩,⟨some 13,some (10,false),.bin .gtr (.t 11) (.t 12)⟩,⟨some 14,none,.pick (.t 10) (.c (.bool true)) (.t 13)⟩,⟨some 15,none,.call .pure (.c (.fn (.f 124) [] [])) [.t 14,.c (.int .i64 3)]⟩,⟨some 6,none,.mov (.t 15)⟩]) (
.ret))⟩
/- lenslet/lensletref01.Identity -/
def c207_0 : VC :=
.seq (
.seq (
.reg [⟨some 5,none,.mov (.t 4)⟩,⟨some 6,none,.mov (.t 0)⟩,⟨some 7,none,.bin .lss (.t 5) (.t 6)⟩]) (
.cond (.t 7) (
 .skip) (
 .exit 0))) (
.seq (
.blk 1 (
.reg [⟨some 10,none,.mov (.t 3)⟩,⟨some 11,none,.mov (.t 4)⟩,⟨some 12,none,.mksl 1 1 [.int .i64 0] [(0,1,(.t 11))]⟩,⟨some 13,none,.app 1 8 (.t 10) (.t 12)⟩,⟨some 3,none,.mov (.t 13)⟩])) (
.reg [⟨some 8,none,.mov (.t 4)⟩,⟨some 9,none,.bin .add (.t 8) (.c (.int .i64 1))⟩,⟨some 4,none,.mov (.t 9)⟩]))
def c207 : Fnc := ⟨[.t 2],
.seq (
.reg [⟨some 2,none,.mov (.c (.nils))⟩]) (
.seq (
.reg [⟨some 3,none,.mov (.c (.nils))⟩]) (
.seq (
.seq (
.reg [⟨some 4,none,.mov (.c (.int .i64 0))⟩]) (
.seq (
.blk 0 (
.loop [0,3,4] c207_0)) (
.kp [3]))) (
.seq (
.reg [⟨some 14,none,.mov (.t 3)⟩,⟨some 2,none,.mov (.t 14)⟩]) (
.ret))))⟩
/- lenslet/number.result -/
def c208 : Fnc := ⟨[.t 2,.t 3],
.seq (
.reg [⟨some 1,none,.box 4 (.t 0)⟩,⟨some 2,none,.mov (.c (.str []))⟩,⟨some 3,none,.mov (.c (.int .i64 0))⟩]) (
.seq (
.seq (
.reg [⟨some 4,none,.ld 4 true (.t 1)⟩,⟨some 5,none,.call .pure (.c (.fn (.f 107) [] [])) [.t 4]⟩]) (
.cond (.t 5) (
 .seq (
 .reg [⟨some 2,none,.mov (.c (.str []))⟩,
   ⟨some 3,none,.mov (.c (.int .i64 4))⟩]) (
 .ret)) (
 .skip))) (
.seq (
.reg [⟨some 6,none,.ld 4 true (.t 1)⟩,⟨some 7,none,.call .pure (.c (.fn (.f 46) [] [])) [.t 6]⟩,⟨some 2,none,.mov (.t 7)⟩,⟨some 3,none,.mov (.c (.int .i64 0))⟩]) (
.ret)))⟩
/- lenslet/number.operateSpans -/
def c209 : Fnc := ⟨[.cell 6 2 true,.t 7],
.seq (
.reg [⟨some 3,none,.box 2 (.t 0)⟩,⟨some 4,none,.box 2 (.t 1)⟩,⟨some 6,none,.box 2 (.c (.agg [.str [],.str []]))⟩,⟨some 7,none,.mov (.c (.int .i64 0))⟩]) (
.seq (
.seq (
.reg [⟨some 9,none,.ld 2 true (.t 3)⟩,⟨some 10,none,.call .pure (.c (.fn (.f 210) [] [])) [.t 9]⟩,⟨some 11,none,.ld 2 true (.t 4)⟩,⟨some 12,none,.call .pure (.c (.fn (.f 210) [] [])) [.t 11]⟩,⟨some 13,none,.mksl 2 1 [.int .i64 0,.int .i64 0] [(0,1,(.t 10)),(1,1,(.t 12))]⟩,⟨some 14,none,.call .pure (.c (.fn (.f 125) [] [])) [.t 13]⟩,⟨some 8,none,.mov (.t 14)⟩]) (
.seq (
.reg [⟨some 15,none,.mov (.t 8)⟩,⟨some 16,none,.bin .neq (.t 15) (.c (.int .i64 0))⟩]) (
.cond (.t 16) (
 .seq (
 .reg [⟨some 17,none,.mkagg [.str [],.str []] []⟩,
   ⟨some 18,none,.mov (.t 8)⟩,
   ⟨none,none,.st 2 (.t 6) (.t 17)⟩,
   ⟨some 7,none,.mov (.t 18)⟩]) (
 .ret)) (
 .skip)))) (
.seq (
.reg [⟨some 19,none,.ld 2 true (.t 3)⟩,⟨some 20,none,.ld 2 true (.t 4)⟩,⟨some 21,none,.mov (.t 2)⟩,⟨some 22,none,.call .pure (.c (.fn (.f 211) [] [])) [.t 19,.t 20,.t 21]⟩,⟨some 23,none,.ext 0 (.t 22)⟩,⟨some 24,none,.ext 1 (.t 22)⟩,⟨none,none,.st 2 (.t 6) (.t 23)⟩,⟨some 7,none,.mov (.t 24)⟩]) (
.ret)))⟩
/- lenslet/number.CheckSpan -/
def c210 : Fnc := ⟨[.t 2],
.seq (
.reg [⟨some 1,none,.box 2 (.t 0)⟩,⟨some 2,none,.mov (.c (.int .i64 0))⟩]) (
.seq (
.seq (
.reg [⟨some 4,none,.off 0 (.t 1)⟩,⟨some 5,none,.ld 1 false (.t 4)⟩,⟨some 6,none,.off 1 (.t 1)⟩,⟨some 7,none,.ld 1 false (.t 6)⟩,⟨some 8,none,.mksl 2 1 [.str [],.str []] [(0,1,(.t 5)),(1,1,(.t 7))]⟩,⟨some 9,none,.call .pure (.c (.fn (.f 161) [] [])) [.t 8]⟩,⟨some 3,none,.mov (.t 9)⟩]) (
.seq (
.reg [⟨some 10,none,.mov (.t 3)⟩,⟨some 11,none,.bin .neq (.t 10) (.c (.int .i64 0))⟩]) (
.cond (.t 11) (
 .seq (
 .reg [⟨some 12,none,.mov (.t 3)⟩,
   ⟨some 2,none,.mov (.t 12)⟩]) (
 .ret)) (
 .skip)))) (
.seq (
.reg [⟨some 13,none,.off 0 (.t 1)⟩,⟨some 14,none,.ld 1 false (.t 13)⟩,⟨some 15,none,.call .pure (.c (.fn (.f 62) [] [])) [.t 14]⟩,⟨some 16,none,.off 1 (.t 1)⟩,⟨some 17,none,.ld 1 false (.t 16)⟩,⟨some 18,none,.call .pure (.c (.fn (.f 62) [] [])) [.t 17]⟩,⟨some 19,none,.call .pure (.c (.fn (.f 71) [] [])) [.t 15,.t 18]⟩,⟨some 20,none,.bin .gtr (.t 19) (.c (.int .i64 0))⟩,⟨some 21,none,.call .pure (.c (.fn (.f 124) [] [])) [.t 20,.c (.int .i64 11)]⟩,⟨some 2,none,.mov (.t 21)⟩]) (
.ret)))⟩
/- lenslet/number.combine -/
def c211_0 : VC :=
.seq (
.reg [⟨some 32,none,.bin .lss (.t 31) (.t 30)⟩]) (
.seq (
.cond (.t 32) (
 .skip) (
 .exit 2)) (
.seq (
.blk 3 (
.seq (
.reg [⟨some 33,none,.ixa 4 (.t 29) (.t 31)⟩,⟨some 34,none,.ld 4 true (.t 33)⟩,⟨some 12,none,.box 4 (.c (.agg [.int .i64 0,.nils,.int .i64 0,.nils]))⟩,⟨none,none,.st 4 (.t 12) (.t 34)⟩]) (
.reg [⟨some 35,none,.mov (.t 8)⟩,⟨some 36,none,.mov (.t 2)⟩,⟨some 37,none,.ld 4 true (.t 10)⟩,⟨some 38,none,.ld 4 true (.t 12)⟩,⟨some 39,none,.call .pure (.t 36) [.t 37,.t 38]⟩,⟨some 40,none,.mksl 1 4 [.int .i64 0,.nils,.int .i64 0,.nils] [(0,4,(.t 39))]⟩,⟨some 41,none,.app 4 64 (.t 35) (.t 40)⟩,⟨some 8,none,.mov (.t 41)⟩]))) (
.reg [⟨some 42,none,.bin .add (.t 31) (.c (.int .i64 1))⟩,⟨some 31,none,.mov (.t 42)⟩])))
def c211_1 : VC :=
.seq (
.reg [⟨some 21,none,.bin .lss (.t 20) (.t 19)⟩]) (
.seq (
.cond (.t 21) (
 .skip) (
 .exit 0)) (
.seq (
.blk 1 (
.seq (
.reg [⟨some 22,none,.ixa 4 (.t 18) (.t 20)⟩,⟨some 23,none,.ld 4 true (.t 22)⟩,⟨some 10,none,.box 4 (.c (.agg [.int .i64 0,.nils,.int .i64 0,.nils]))⟩,⟨none,none,.st 4 (.t 10) (.t 23)⟩]) (
.seq (
.reg [⟨some 24,none,.off 0 (.t 4)⟩,⟨some 25,none,.ld 1 false (.t 24)⟩,⟨some 26,none,.off 1 (.t 4)⟩,⟨some 27,none,.ld 1 false (.t 26)⟩,⟨some 28,none,.mksl 2 1 [.str [],.str []] [(0,1,(.t 25)),(1,1,(.t 27))]⟩,⟨some 29,none,.call .pure (.c (.fn (.f 88) [] [])) [.t 28]⟩,⟨some 30,none,.len 1 (.t 29)⟩,⟨some 31,none,.mov (.c (.int .i64 0))⟩]) (
.seq (
.blk 2 (
.loop [2,4,6,8,10,18,19,20,29,30,31] c211_0)) (
.kp [2,4,6,8,18,19,20]))))) (
.reg [⟨some 43,none,.bin .add (.t 20) (.c (.int .i64 1))⟩,⟨some 20,none,.mov (.t 43)⟩])))
def c211 : Fnc := ⟨[.cell 6 2 true,.t 7],
.seq (
.reg [⟨some 3,none,.box 2 (.t 0)⟩,⟨some 4,none,.box 2 (.t 1)⟩,⟨some 6,none,.box 2 (.c (.agg [.str [],.str []]))⟩,⟨some 7,none,.mov (.c (.int .i64 0))⟩]) (
.seq (
.reg [⟨some 8,none,.mov (.c (.nils))⟩]) (
.seq (
.seq (
.reg [⟨some 13,none,.off 0 (.t 3)⟩,⟨some 14,none,.ld 1 false (.t 13)⟩,⟨some 15,none,.off 1 (.t 3)⟩,⟨some 16,none,.ld 1 false (.t 15)⟩,⟨some 17,none,.mksl 2 1 [.str [],.str []] [(0,1,(.t 14)),(1,1,(.t 16))]⟩,⟨some 18,none,.call .pure (.c (.fn (.f 88) [] [])) [.t 17]⟩,⟨some 19,none,.len 1 (.t 18)⟩,⟨some 20,none,.mov (.c (.int .i64 0))⟩]) (
.seq (
.blk 0 (
.loop [2,4,6,8,18,19,20] c211_1)) (
.kp [6,8]))) (
.seq (
.reg [⟨some 44,none,.mov (.t 8)⟩,⟨some 45,none,.call .pure (.c (.fn (.f 233) [] [])) [.t 44,.c (.fn (.f 71) [] [])]⟩,⟨some 46,none,.mov (.t 8)⟩,⟨some 47,none,.call .pure (.c (.fn (.f 234) [] [])) [.t 46,.c (.fn (.f 71) [] [])]⟩,⟨some 48,none,.call .pure (.c (.fn (.f 214) [] [])) [.t 45,.t 47]⟩,⟨some 49,none,.ext 0 (.t 48)⟩,⟨some 50,none,.ext 1 (.t 48)⟩,⟨none,none,.st 2 (.t 6) (.t 49)⟩,⟨some 7,none,.mov (.t 50)⟩]) (
.ret))))⟩
/- lenslet/number.numbers -/
def c212 : Fnc := ⟨[.cell 2 8 true],
.seq (
.reg [⟨some 1,none,.box 2 (.t 0)⟩,⟨some 2,none,.box 8 (.c (.agg [.int .i64 0,.nils,.int .i64 0,.nils,.int .i64 0,.nils,.int .i64 0,.nils]))⟩]) (
.seq (
.reg [⟨some 3,none,.off 0 (.t 1)⟩,⟨some 4,none,.ld 1 false (.t 3)⟩,⟨some 5,none,.call .pure (.c (.fn (.f 62) [] [])) [.t 4]⟩,⟨some 6,none,.off 1 (.t 1)⟩,⟨some 7,none,.ld 1 false (.t 6)⟩,⟨some 8,none,.call .pure (.c (.fn (.f 62) [] [])) [.t 7]⟩,⟨some 9,none,.mkagg [.int .i64 0,.nils,.int .i64 0,.nils,.int .i64 0,.nils,.int .i64 0,.nils] [(0,4,(.t 5)),(4,4,(.t 8))]⟩,⟨none,none,.st 8 (.t 2) (.t 9)⟩]) (
.ret))⟩
/- (lenslet/number.interval).square -/
def c213 : Fnc := ⟨[.cell 2 8 true],
.seq (
.reg [⟨some 1,none,.box 8 (.t 0)⟩,⟨some 2,none,.box 8 (.c (.agg [.int .i64 0,.nils,.int .i64 0,.nils,.int .i64 0,.nils,.int .i64 0,.nils]))⟩]) (
.seq (
.reg [⟨some 5,none,.ld 8 true (.t 1)⟩,⟨some 6,none,.ld 8 true (.t 1)⟩,⟨some 7,none,.call .pure (.c (.fn (.f 221) [] [])) [.t 5,.t 6]⟩,⟨some 3,none,.box 8 (.c (.agg [.int .i64 0,.nils,.int .i64 0,.nils,.int .i64 0,.nils,.int .i64 0,.nils]))⟩,⟨none,none,.st 8 (.t 3) (.t 7)⟩]) (
.seq (
.seq (
.reg [⟨some 8,none,.off 0 (.t 1)⟩,⟨some 9,none,.ld 4 true (.t 8)⟩,⟨some 10,none,.call .pure (.c (.fn (.f 108) [] [])) [.t 9]⟩,⟨some 11,none,.bin .leq (.t 10) (.c (.int .i64 0))⟩,⟨some 12,none,.mov (.t 11)⟩,⟨some 13,some (12,true),.off 4 (.t 1)⟩,⟨some 14,some (12,true),.ld 4 true (.t 13)⟩,⟨some 15,some (12,true),.call .pure (.c (.fn (.f 108) [] [])) [.t 14]⟩,⟨some 16,some (12,true),.bin .geq (.t 15) (.c (.int .i64 0))⟩,⟨some 17,none,.pick (.t 12) (.t 16) (.c (.bool false))⟩]) (
.cond (.t 17) (
 .reg [⟨some 18,none,.call .pure (.c (.fn (.f 69) [] [])) [.c (.int .i64 0)]⟩,
   ⟨some 19,none,.off 0 (.t 3)⟩,
   ⟨none,none,.st 4 (.t 19) (.t 18)⟩]) (
 .seq (
 .reg [⟨some 20,none,.off 0 (.t 1)⟩,
   ⟨some 21,none,.ld 4 true (.t 20)⟩,
   ⟨some 22,none,.off 0 (.t 1)⟩,
   ⟨some 23,none,.ld 4 true (.t 22)⟩,
   ⟨some 24,none,.call .pure (.c (.fn (.f 49) [] [])) [.t 21,.t 23]⟩,
   ⟨some 25,none,.off 4 (.t 1)⟩,
   ⟨some 26,none,.ld 4 true (.t 25)⟩,
   ⟨some 27,none,.off 4 (.t 1)⟩,
   ⟨some 28,none,.ld 4 true (.t 27)⟩,
   ⟨some 29,none,.call .pure (.c (.fn (.f 49) [] [])) [.t 26,.t 28]⟩,
   ⟨some 30,none,.mksl 2 4 [.int .i64 0,.nils,.int .i64 0,.nils,.int .i64 0,.nils,.int .i64 0,.nils] [(0,4,(.t 24)),(4,4,(.t 29))]⟩,
   ⟨some 4,none,.mov (.t 30)⟩]) (
 .reg [⟨some 31,none,.mov (.t 4)⟩,
   ⟨some 32,none,.call .pure (.c (.fn (.f 233) [] [])) [.t 31,.c (.fn (.f 71) [] [])]⟩,
   ⟨some 33,none,.off 0 (.t 3)⟩,
   ⟨none,none,.st 4 (.t 33) (.t 32)⟩])))) (
.seq (
.reg [⟨some 34,none,.ld 8 true (.t 3)⟩,⟨none,none,.st 8 (.t 2) (.t 34)⟩]) (
.ret))))⟩
/- lenslet/number.span -/
def c214 : Fnc := ⟨[.cell 4 2 true,.t 5],
.seq (
.reg [⟨some 2,none,.box 4 (.t 0)⟩,⟨some 3,none,.box 4 (.t 1)⟩,⟨some 4,none,.box 2 (.c (.agg [.str [],.str []]))⟩,⟨some 5,none,.mov (.c (.int .i64 0))⟩]) (
.seq (
.seq (
.reg [⟨some 6,none,.ld 4 true (.t 2)⟩,⟨some 7,none,.call .pure (.c (.fn (.f 107) [] [])) [.t 6]⟩,⟨some 8,none,.mov (.t 7)⟩,⟨some 9,some (8,false),.ld 4 true (.t 3)⟩,⟨some 10,some (8,false),.call .pure (.c (.fn (.f 107) [] [])) [.t 9]⟩,⟨some 11,none,.pick (.t 8) (.c (.bool true)) (.t 10)⟩]) (
.cond (.t 11) (
 .seq (
 .reg [⟨some 12,none,.mkagg [.str [],.str []] []⟩,
   ⟨none,none,.st 2 (.t 4) (.t 12)⟩,
   ⟨some 5,none,.mov (.c (.int .i64 4))⟩]) (
 .ret)) (
 .skip))) (
.seq (
.reg [⟨some 13,none,.ld 4 true (.t 2)⟩,⟨some 14,none,.call .pure (.c (.fn (.f 46) [] [])) [.t 13]⟩,⟨some 15,none,.ld 4 true (.t 3)⟩,⟨some 16,none,.call .pure (.c (.fn (.f 46) [] [])) [.t 15]⟩,⟨some 17,none,.mkagg [.str [],.str []] [(0,1,(.t 14)),(1,1,(.t 16))]⟩,⟨none,none,.st 2 (.t 4) (.t 17)⟩,⟨some 5,none,.mov (.c (.int .i64 0))⟩]) (
.ret)))⟩
/- lenslet/number.checkDecimals -/
def c215 : Fnc := ⟨[.t 2],
.seq (
.reg [⟨some 2,none,.mov (.c (.int .i64 0))⟩]) (
.seq (
.reg [⟨some 3,none,.mov (.t 0)⟩,⟨some 4,none,.call .pure (.c (.fn (.f 206) [] [])) [.t 3,.c (.int .i64 1),.c (.int .i64 12)]⟩,⟨some 2,none,.mov (.t 4)⟩]) (
.ret))⟩
/- lenslet/number.root -/
def c216 : Fnc := ⟨[.cell 4 2 true,.t 5],
.seq (
.reg [⟨some 2,none,.box 4 (.t 0)⟩,⟨some 4,none,.box 2 (.c (.agg [.str [],.str []]))⟩,⟨some 5,none,.mov (.c (.int .i64 0))⟩]) (
.seq (
.seq (
.reg [⟨some 11,none,.ld 4 true (.t 2)⟩,⟨some 12,none,.call .pure (.c (.fn (.f 235) [] [])) [.t 11]⟩,⟨some 10,none,.mov (.t 12)⟩,⟨some 13,none,.ext 0 (.t 10)⟩,⟨some 14,none,.ext 1 (.t 10)⟩,⟨some 6,none,.box 4 (.c (.agg [.int .i64 0,.nils,.int .i64 0,.nils]))⟩,⟨none,none,.st 4 (.t 6) (.t 13)⟩,⟨some 7,none,.mov (.t 14)⟩]) (
.seq (
.reg [⟨some 15,none,.mov (.t 7)⟩]) (
.cond (.t 15) (
 .seq (
 .reg [⟨some 16,none,.ld 4 true (.t 6)⟩,
   ⟨some 17,none,.ld 4 true (.t 6)⟩,
   ⟨some 18,none,.call .pure (.c (.fn (.f 214) [] [])) [.t 16,.t 17]⟩,
   ⟨some 19,none,.ext 0 (.t 18)⟩,
   ⟨some 20,none,.ext 1 (.t 18)⟩,
   ⟨none,none,.st 2 (.t 4) (.t 19)⟩,
   ⟨some 5,none,.mov (.t 20)⟩]) (
 .ret)) (
 .skip)))) (
.seq (
.reg [⟨some 21,none,.mov (.t 1)⟩,⟨some 22,none,.call .pure (.c (.fn (.f 236) [] [])) [.t 21]⟩,⟨some 8,none,.box 2 (.c (.agg [.int .i64 0,.nils]))⟩,⟨none,none,.st 2 (.t 8) (.t 22)⟩]) (
.seq (
.reg [⟨some 23,none,.ld 4 true (.t 2)⟩,⟨some 24,none,.ld 2 true (.t 8)⟩,⟨some 25,none,.ld 2 true (.t 8)⟩,⟨some 26,none,.call .pure (.c (.fn (.f 100) [] [])) [.t 24,.t 25]⟩,⟨some 27,none,.call .pure (.c (.fn (.f 111) [] [])) [.t 26]⟩,⟨some 28,none,.call .pure (.c (.fn (.f 49) [] [])) [.t 23,.t 27]⟩,⟨some 29,none,.call .pure (.c (.fn (.f 149) [] [])) [.t 28]⟩,⟨some 30,none,.call .pure (.c (.fn (.f 237) [] [])) [.t 29]⟩,⟨some 9,none,.box 2 (.c (.agg [.int .i64 0,.nils]))⟩,⟨none,none,.st 2 (.t 9) (.t 30)⟩]) (
.seq (
.reg [⟨some 31,none,.ld 2 true (.t 9)⟩,⟨some 32,none,.ld 2 true (.t 8)⟩,⟨some 33,none,.call .pure (.c (.fn (.f 101) [] [])) [.t 31,.t 32]⟩,⟨some 34,none,.ld 2 true (.t 9)⟩,⟨some 35,none,.call .pure (.c (.fn (.f 117) [] [])) [.c (.int .i64 1)]⟩,⟨some 36,none,.call .pure (.c (.fn (.f 119) [] [])) [.t 34,.t 35]⟩,⟨some 37,none,.ld 2 true (.t 8)⟩,⟨some 38,none,.call .pure (.c (.fn (.f 101) [] [])) [.t 36,.t 37]⟩,⟨some 39,none,.call .pure (.c (.fn (.f 214) [] [])) [.t 33,.t 38]⟩,⟨some 40,none,.ext 0 (.t 39)⟩,⟨some 41,none,.ext 1 (.t 39)⟩,⟨none,none,.st 2 (.t 4) (.t 40)⟩,⟨some 5,none,.mov (.t 41)⟩]) (
.ret)))))⟩
/- lenslet/number.checkTurn -/
def c217 : Fnc := ⟨[.t 4],
.seq (
.reg [⟨some 4,none,.mov (.c (.int .i64 0))⟩]) (
.seq (
.seq (
.reg [⟨some 6,none,.mov (.t 0)⟩,⟨some 7,none,.call .pure (.c (.fn (.f 86) [] [])) [.t 6]⟩,⟨some 5,none,.mov (.t 7)⟩]) (
.seq (
.reg [⟨some 8,none,.mov (.t 5)⟩,⟨some 9,none,.bin .neq (.t 8) (.c (.int .i64 0))⟩]) (
.cond (.t 9) (
 .seq (
 .reg [⟨some 10,none,.mov (.t 5)⟩,
   ⟨some 4,none,.mov (.t 10)⟩]) (
 .ret)) (
 .skip)))) (
.seq (
.reg [⟨some 11,none,.mov (.t 0)⟩,⟨some 12,none,.call .pure (.c (.fn (.f 62) [] [])) [.t 11]⟩,⟨some 13,none,.fld 2 2 true (.t 12)⟩,⟨some 14,none,.call .pure (.c (.fn (.f 117) [] [])) [.c (.int .i64 999999999)]⟩,⟨some 15,none,.call .pure (.c (.fn (.f 118) [] [])) [.t 13,.t 14]⟩,⟨some 16,none,.bin .gtr (.t 15) (.c (.int .i64 0))⟩,⟨some 17,none,.call .pure (.c (.fn (.f 124) [] [])) [.t 16,.c (.int .i64 4)]⟩,⟨some 18,none,.mov (.t 1)⟩,⟨some 19,none,.call .pure (.c (.fn (.f 206) [] [])) [.t 18,.c (.int .i64 1),.c (.int .i64 12)]⟩,⟨some 20,none,.mksl 2 1 [.int .i64 0,.int .i64 0] [(0,1,(.t 17)),(1,1,(.t 19))]⟩,⟨some 21,none,.call .pure (.c (.fn (.f 125) [] [])) [.t 20]⟩,⟨some 4,none,.mov (.t 21)⟩]) (
.ret)))⟩
/- lenslet/number.cosine -/
def c218 : Fnc := ⟨[.cell 4 2 true,.t 5],
.seq (
.reg [⟨some 2,none,.box 4 (.t 0)⟩,⟨some 4,none,.box 2 (.c (.agg [.str [],.str []]))⟩,⟨some 5,none,.mov (.c (.int .i64 0))⟩]) (
.seq (
.reg [⟨some 11,none,.ld 4 true (.t 2)⟩,⟨some 12,none,.ld 4 true (.t 2)⟩,⟨some 13,none,.call .pure (.c (.fn (.f 149) [] [])) [.t 12]⟩,⟨some 14,none,.call .pure (.c (.fn (.f 111) [] [])) [.t 13]⟩,⟨some 15,none,.call .pure (.c (.fn (.f 50) [] [])) [.t 11,.t 14]⟩,⟨none,none,.st 4 (.t 2) (.t 15)⟩]) (
.seq (
.seq (
.reg [⟨some 17,none,.call .pure (.c (.fn (.f 238) [] [])) []⟩,⟨some 18,none,.ld 4 true (.t 2)⟩,⟨some 19,none,.call .pure (.c (.fn (.f 46) [] [])) [.t 18]⟩,⟨some 20,none,.lkp 2 (.str []) true (.t 17) (.t 19)⟩,⟨some 16,none,.mov (.t 20)⟩,⟨some 21,none,.ext 0 (.t 16)⟩,⟨some 22,none,.ext 1 (.t 16)⟩,⟨some 6,none,.mov (.t 21)⟩,⟨some 7,none,.mov (.t 22)⟩]) (
.seq (
.reg [⟨some 23,none,.mov (.t 7)⟩]) (
.cond (.t 23) (
 .seq (
 .reg [⟨some 24,none,.mov (.t 6)⟩,
   ⟨some 25,none,.mov (.t 6)⟩,
   ⟨some 26,none,.mkagg [.str [],.str []] [(0,1,(.t 24)),(1,1,(.t 25))]⟩,
   ⟨none,none,.st 2 (.t 4) (.t 26)⟩,
   ⟨some 5,none,.mov (.c (.int .i64 0))⟩]) (
 .ret)) (
 .skip)))) (
.seq (
.reg [⟨some 27,none,.call .pure (.c (.fn (.f 117) [] [])) [.c (.int .i64 1)]⟩,⟨some 28,none,.call .pure (.c (.fn (.f 117) [] [])) [.c (.int .i64 2)]⟩,⟨some 29,none,.call .pure (.c (.fn (.f 101) [] [])) [.t 27,.t 28]⟩,⟨some 8,none,.box 4 (.c (.agg [.int .i64 0,.nils,.int .i64 0,.nils]))⟩,⟨none,none,.st 4 (.t 8) (.t 29)⟩]) (
.seq (
.seq (
.reg [⟨some 30,none,.ld 4 true (.t 2)⟩,⟨some 31,none,.ld 4 true (.t 8)⟩,⟨some 32,none,.call .pure (.c (.fn (.f 71) [] [])) [.t 30,.t 31]⟩,⟨some 33,none,.bin .gtr (.t 32) (.c (.int .i64 0))⟩]) (
.cond (.t 33) (
 .reg [⟨some 34,none,.call .pure (.c (.fn (.f 69) [] [])) [.c (.int .i64 1)]⟩,
   ⟨some 35,none,.ld 4 true (.t 2)⟩,
   ⟨some 36,none,.call .pure (.c (.fn (.f 50) [] [])) [.t 34,.t 35]⟩,
   ⟨none,none,.st 4 (.t 2) (.t 36)⟩]) (
 .skip))) (
.seq (
.reg [⟨some 37,none,.ld 4 true (.t 2)⟩,⟨some 38,none,.call .pure (.c (.fn (.f 117) [] [])) [.c (.int .i64 1)]⟩,⟨some 39,none,.call .pure (.c (.fn (.f 117) [] [])) [.c (.int .i64 4)]⟩,⟨some 40,none,.call .pure (.c (.fn (.f 101) [] [])) [.t 38,.t 39]⟩,⟨some 41,none,.call .pure (.c (.fn (.f 71) [] [])) [.t 37,.t 40]⟩,⟨some 42,none,.bin .gtr (.t 41) (.c (.int .i64 0))⟩,⟨some 9,none,.mov (.t 42)⟩]) (
.seq (
.seq (
.reg [⟨some 43,none,.mov (.t 9)⟩]) (
.cond (.t 43) (
 .reg [⟨some 44,none,.ld 4 true (.t 8)⟩,
   ⟨some 45,none,.ld 4 true (.t 2)⟩,
   ⟨some 46,none,.call .pure (.c (.fn (.f 50) [] [])) [.t 44,.t 45]⟩,
   ⟨none,none,.st 4 (.t 2) (.t 46)⟩]) (
 .skip))) (
.seq (
.reg [⟨some 47,none,.ld 4 true (.t 2)⟩,⟨some 48,none,.mov (.t 1)⟩,⟨some 49,none,.call .pure (.c (.fn (.f 239) [] [])) [.t 47,.t 48]⟩,⟨some 10,none,.box 2 (.c (.agg [.int .i64 0,.nils]))⟩,⟨none,none,.st 2 (.t 10) (.t 49)⟩]) (
.seq (
.seq (
.reg [⟨some 50,none,.mov (.t 9)⟩]) (
.cond (.t 50) (
 .reg [⟨some 51,none,.ld 2 true (.t 10)⟩,
   ⟨some 52,none,.call .pure (.c (.fn (.f 147) [] [])) [.t 51]⟩,
   ⟨some 53,none,.call .pure (.c (.fn (.f 117) [] [])) [.c (.int .i64 1)]⟩,
   ⟨some 54,none,.call .pure (.c (.fn (.f 156) [] [])) [.t 52,.t 53]⟩,
   ⟨none,none,.st 2 (.t 10) (.t 54)⟩]) (
 .skip))) (
.seq (
.reg [⟨some 55,none,.ld 2 true (.t 10)⟩,⟨some 56,none,.mov (.t 1)⟩,⟨some 57,none,.call .pure (.c (.fn (.f 236) [] [])) [.t 56]⟩,⟨some 58,none,.call .pure (.c (.fn (.f 101) [] [])) [.t 55,.t 57]⟩,⟨some 59,none,.ld 2 true (.t 10)⟩,⟨some 60,none,.call .pure (.c (.fn (.f 117) [] [])) [.c (.int .i64 1)]⟩,⟨some 61,none,.call .pure (.c (.fn (.f 119) [] [])) [.t 59,.t 60]⟩,⟨some 62,none,.mov (.t 1)⟩,⟨some 63,none,.call .pure (.c (.fn (.f 236) [] [])) [.t 62]⟩,⟨some 64,none,.call .pure (.c (.fn (.f 101) [] [])) [.t 61,.t 63]⟩,⟨some 65,none,.call .pure (.c (.fn (.f 214) [] [])) [.t 58,.t 64]⟩,⟨some 66,none,.ext 0 (.t 65)⟩,⟨some 67,none,.ext 1 (.t 65)⟩,⟨none,none,.st 2 (.t 4) (.t 66)⟩,⟨some 5,none,.mov (.t 67)⟩]) (
.ret))))))))))⟩
/- lenslet/lensletref01.Single -/
def c219 : Fnc := ⟨[.cell 2 2 true],
.seq (
.reg [⟨some 2,none,.box 2 (.c (.agg [.str [],.str []]))⟩]) (
.seq (
.reg [⟨some 3,none,.mov (.t 0)⟩,⟨some 4,none,.mov (.t 0)⟩,⟨some 5,none,.mkagg [.str [],.str []] [(0,1,(.t 3)),(1,1,(.t 4))]⟩,⟨none,none,.st 2 (.t 2) (.t 5)⟩]) (
.ret))⟩
/- lenslet/number.CheckBox -/
def c220 : Fnc := ⟨[.t 2],
.seq (
.reg [⟨some 1,none,.box 4 (.t 0)⟩,⟨some 2,none,.mov (.c (.int .i64 0))⟩]) (
.seq (
.reg [⟨some 3,none,.off 0 (.t 1)⟩,⟨some 4,none,.ld 2 true (.t 3)⟩,⟨some 5,none,.call .pure (.c (.fn (.f 210) [] [])) [.t 4]⟩,⟨some 6,none,.off 2 (.t 1)⟩,⟨some 7,none,.ld 2 true (.t 6)⟩,⟨some 8,none,.call .pure (.c (.fn (.f 210) [] [])) [.t 7]⟩,⟨some 9,none,.mksl 2 1 [.int .i64 0,.int .i64 0] [(0,1,(.t 5)),(1,1,(.t 8))]⟩,⟨some 10,none,.call .pure (.c (.fn (.f 125) [] [])) [.t 9]⟩,⟨some 2,none,.mov (.t 10)⟩]) (
.ret))⟩
/- (lenslet/number.interval).mul -/
def c221 : Fnc := ⟨[.cell 4 8 true],
.seq (
.reg [⟨some 2,none,.box 8 (.t 0)⟩,⟨some 3,none,.box 8 (.t 1)⟩,⟨some 4,none,.box 8 (.c (.agg [.int .i64 0,.nils,.int .i64 0,.nils,.int .i64 0,.nils,.int .i64 0,.nils]))⟩]) (
.seq (
.reg [⟨some 6,none,.off 0 (.t 2)⟩,⟨some 7,none,.ld 4 true (.t 6)⟩,⟨some 8,none,.off 0 (.t 3)⟩,⟨some 9,none,.ld 4 true (.t 8)⟩,⟨some 10,none,.call .pure (.c (.fn (.f 49) [] [])) [.t 7,.t 9]⟩,⟨some 11,none,.off 0 (.t 2)⟩,⟨some 12,none,.ld 4 true (.t 11)⟩,⟨some 13,none,.off 4 (.t 3)⟩,⟨some 14,none,.ld 4 true (.t 13)⟩,⟨some 15,none,.call .pure (.c (.fn (.f 49) [] [])) [.t 12,.t 14]⟩,⟨some 16,none,.off 4 (.t 2)⟩,⟨some 17,none,.ld 4 true (.t 16)⟩,⟨some 18,none,.off 0 (.t 3)⟩,⟨some 19,none,.ld 4 true (.t 18)⟩,⟨some 20,none,.call .pure (.c (.fn (.f 49) [] [])) [.t 17,.t 19]⟩,⟨some 21,none,.off 4 (.t 2)⟩,⟨some 22,none,.ld 4 true (.t 21)⟩,⟨some 23,none,.off 4 (.t 3)⟩,⟨some 24,none,.ld 4 true (.t 23)⟩,⟨some 25,none,.call .pure (.c (.fn (.f 49) [] [])) [.t 22,.t 24]⟩,⟨some 26,none,.mksl 4 4 [.int .i64 0,.nils,.int .i64 0,.nils,.int .i64 0,.nils,.int .i64 0,.nils,.int .i64 0,.nils,.int .i64 0,.nils,.int .i64 0,.nils,.int .i64 0,.nils] [(0,4,(.t 10)),(4,4,(.t 15)),(8,4,(.t 20)),(12,4,(.t 25))]⟩,⟨some 5,none,.mov (.t 26)⟩]) (
.seq (
.reg [⟨some 27,none,.mov (.t 5)⟩,⟨some 28,none,.call .pure (.c (.fn (.f 233) [] [])) [.t 27,.c (.fn (.f 71) [] [])]⟩,⟨some 29,none,.mov (.t 5)⟩,⟨some 30,none,.call .pure (.c (.fn (.f 234) [] [])) [.t 29,.c (.fn (.f 71) [] [])]⟩,⟨some 31,none,.mkagg [.int .i64 0,.nils,.int .i64 0,.nils,.int .i64 0,.nils,.int .i64 0,.nils] [(0,4,(.t 28)),(4,4,(.t 30))]⟩,⟨none,none,.st 8 (.t 4) (.t 31)⟩]) (
.ret)))⟩
/- (lenslet/number.interval).neg -/
def c222 : Fnc := ⟨[.cell 2 8 true],
.seq (
.reg [⟨some 1,none,.box 8 (.t 0)⟩,⟨some 2,none,.box 8 (.c (.agg [.int .i64 0,.nils,.int .i64 0,.nils,.int .i64 0,.nils,.int .i64 0,.nils]))⟩]) (
.seq (
.reg [⟨some 3,none,.off 4 (.t 1)⟩,⟨some 4,none,.ld 4 true (.t 3)⟩,⟨some 5,none,.call .pure (.c (.fn (.f 102) [] [])) [.t 4]⟩,⟨some 6,none,.off 0 (.t 1)⟩,⟨some 7,none,.ld 4 true (.t 6)⟩,⟨some 8,none,.call .pure (.c (.fn (.f 102) [] [])) [.t 7]⟩,⟨some 9,none,.mkagg [.int .i64 0,.nils,.int .i64 0,.nils,.int .i64 0,.nils,.int .i64 0,.nils] [(0,4,(.t 5)),(4,4,(.t 8))]⟩,⟨none,none,.st 8 (.t 2) (.t 9)⟩]) (
.ret))⟩
/- (lenslet/number.interval).add -/
def c223 : Fnc := ⟨[.cell 4 8 true],
.seq (
.reg [⟨some 2,none,.box 8 (.t 0)⟩,⟨some 3,none,.box 8 (.t 1)⟩,⟨some 4,none,.box 8 (.c (.agg [.int .i64 0,.nils,.int .i64 0,.nils,.int .i64 0,.nils,.int .i64 0,.nils]))⟩]) (
.seq (
.reg [⟨some 5,none,.off 0 (.t 2)⟩,⟨some 6,none,.ld 4 true (.t 5)⟩,⟨some 7,none,.off 0 (.t 3)⟩,⟨some 8,none,.ld 4 true (.t 7)⟩,⟨some 9,none,.call .pure (.c (.fn (.f 74) [] [])) [.t 6,.t 8]⟩,⟨some 10,none,.off 4 (.t 2)⟩,⟨some 11,none,.ld 4 true (.t 10)⟩,⟨some 12,none,.off 4 (.t 3)⟩,⟨some 13,none,.ld 4 true (.t 12)⟩,⟨some 14,none,.call .pure (.c (.fn (.f 74) [] [])) [.t 11,.t 13]⟩,⟨some 15,none,.mkagg [.int .i64 0,.nils,.int .i64 0,.nils,.int .i64 0,.nils,.int .i64 0,.nils] [(0,4,(.t 9)),(4,4,(.t 14))]⟩,⟨none,none,.st 8 (.t 4) (.t 15)⟩]) (
.ret))⟩
/- lenslet/number.box -/
def c224 : Fnc := ⟨[.cell 4 4 true,.t 5],
.seq (
.reg [⟨some 2,none,.box 8 (.t 0)⟩,⟨some 3,none,.box 8 (.t 1)⟩,⟨some 4,none,.box 4 (.c (.agg [.str [],.str [],.str [],.str []]))⟩,⟨some 5,none,.mov (.c (.int .i64 0))⟩]) (
.seq (
.reg [⟨some 12,none,.off 0 (.t 2)⟩,⟨some 13,none,.ld 4 true (.t 12)⟩,⟨some 14,none,.off 4 (.t 2)⟩,⟨some 15,none,.ld 4 true (.t 14)⟩,⟨some 16,none,.call .pure (.c (.fn (.f 214) [] [])) [.t 13,.t 15]⟩,⟨some 11,none,.mov (.t 16)⟩,⟨some 17,none,.ext 0 (.t 11)⟩,⟨some 18,none,.ext 1 (.t 11)⟩,⟨some 6,none,.box 2 (.c (.agg [.str [],.str []]))⟩,⟨none,none,.st 2 (.t 6) (.t 17)⟩,⟨some 7,none,.mov (.t 18)⟩]) (
.seq (
.reg [⟨some 20,none,.off 0 (.t 3)⟩,⟨some 21,none,.ld 4 true (.t 20)⟩,⟨some 22,none,.off 4 (.t 3)⟩,⟨some 23,none,.ld 4 true (.t 22)⟩,⟨some 24,none,.call .pure (.c (.fn (.f 214) [] [])) [.t 21,.t 23]⟩,⟨some 19,none,.mov (.t 24)⟩,⟨some 25,none,.ext 0 (.t 19)⟩,⟨some 26,none,.ext 1 (.t 19)⟩,⟨some 8,none,.box 2 (.c (.agg [.str [],.str []]))⟩,⟨none,none,.st 2 (.t 8) (.t 25)⟩,⟨some 9,none,.mov (.t 26)⟩]) (
.seq (
.seq (
.reg [⟨some 27,none,.mov (.t 7)⟩,⟨some 28,none,.mov (.t 9)⟩,⟨some 29,none,.mksl 2 1 [.int .i64 0,.int .i64 0] [(0,1,(.t 27)),(1,1,(.t 28))]⟩,⟨some 30,none,.call .pure (.c (.fn (.f 125) [] [])) [.t 29]⟩,⟨some 10,none,.mov (.t 30)⟩]) (
.seq (
.reg [⟨some 31,none,.mov (.t 10)⟩,⟨some 32,none,.bin .neq (.t 31) (.c (.int .i64 0))⟩]) (
.cond (.t 32) (
 .seq (
 .reg [⟨some 33,none,.mkagg [.str [],.str [],.str [],.str []] []⟩,
   ⟨some 34,none,.mov (.t 10)⟩,
   ⟨none,none,.st 4 (.t 4) (.t 33)⟩,
   ⟨some 5,none,.mov (.t 34)⟩]) (
 .ret)) (
 .skip)))) (
.seq (
.reg [⟨some 35,none,.ld 2 true (.t 6)⟩,⟨some 36,none,.ld 2 true (.t 8)⟩,⟨some 37,none,.mkagg [.str [],.str [],.str [],.str []] [(0,2,(.t 35)),(2,2,(.t 36))]⟩,⟨none,none,.st 4 (.t 4) (.t 37)⟩,⟨some 5,none,.mov (.c (.int .i64 0))⟩]) (
.ret)))))⟩
/- lenslet/number.read -/
def c225_0 : VC :=
.seq (
.reg [⟨some 9,none,.bin .lss (.t 8) (.t 7)⟩]) (
.seq (
.cond (.t 9) (
 .skip) (
 .exit 0)) (
.seq (
.blk 1 (
.seq (
.reg [⟨some 10,none,.ixa 1 (.t 6) (.t 8)⟩,⟨some 11,none,.ld 1 false (.t 10)⟩,⟨some 5,none,.mov (.t 11)⟩]) (
.reg [⟨some 12,none,.mov (.t 3)⟩,⟨some 13,none,.mov (.t 5)⟩,⟨some 14,none,.call .pure (.c (.fn (.f 88) [] [])) [.t 13]⟩,⟨some 15,none,.mksl 1 1 [.nils] [(0,1,(.t 14))]⟩,⟨some 16,none,.app 1 24 (.t 12) (.t 15)⟩,⟨some 3,none,.mov (.t 16)⟩]))) (
.reg [⟨some 17,none,.bin .add (.t 8) (.c (.int .i64 1))⟩,⟨some 8,none,.mov (.t 17)⟩])))
def c225 : Fnc := ⟨[.t 2],
.seq (
.reg [⟨some 2,none,.mov (.c (.nils))⟩]) (
.seq (
.reg [⟨some 3,none,.mov (.c (.nils))⟩]) (
.seq (
.seq (
.reg [⟨some 6,none,.mov (.t 0)⟩,⟨some 7,none,.len 1 (.t 6)⟩,⟨some 8,none,.mov (.c (.int .i64 0))⟩]) (
.seq (
.blk 0 (
.loop [3,6,7,8] c225_0)) (
.kp [3]))) (
.seq (
.reg [⟨some 18,none,.mov (.t 3)⟩,⟨some 2,none,.mov (.t 18)⟩]) (
.ret))))⟩
/- (lenslet/number.matrix).results -/
def c226_0 : VC :=
.seq (
.reg [⟨some 18,none,.bin .lss (.t 17) (.t 16)⟩]) (
.seq (
.cond (.t 18) (
 .skip) (
 .exit 2)) (
.seq (
.blk 3 (
.seq (
.reg [⟨some 19,none,.ixa 4 (.t 15) (.t 17)⟩,⟨some 20,none,.ld 4 true (.t 19)⟩,⟨some 8,none,.box 4 (.c (.agg [.int .i64 0,.nils,.int .i64 0,.nils]))⟩,⟨none,none,.st 4 (.t 8) (.t 20)⟩]) (
.seq (
.reg [⟨some 21,none,.ld 4 true (.t 8)⟩,⟨some 22,none,.call .pure (.c (.fn (.f 107) [] [])) [.t 21]⟩]) (
.cond (.t 22) (
 .seq (
 .reg [⟨some 2,none,.mov (.c (.nils))⟩,
   ⟨some 3,none,.mov (.c (.int .i64 4))⟩]) (
 .ret)) (
 .skip))))) (
.reg [⟨some 23,none,.bin .add (.t 17) (.c (.int .i64 1))⟩,⟨some 17,none,.mov (.t 23)⟩])))
def c226_1 : VC :=
.seq (
.reg [⟨some 12,none,.bin .lss (.t 11) (.t 10)⟩]) (
.seq (
.cond (.t 12) (
 .skip) (
 .exit 0)) (
.seq (
.blk 1 (
.seq (
.reg [⟨some 13,none,.ixa 1 (.t 9) (.t 11)⟩,⟨some 14,none,.ld 1 false (.t 13)⟩,⟨some 6,none,.mov (.t 14)⟩]) (
.seq (
.seq (
.reg [⟨some 15,none,.mov (.t 6)⟩,⟨some 16,none,.len 1 (.t 15)⟩,⟨some 17,none,.mov (.c (.int .i64 0))⟩]) (
.seq (
.blk 2 (
.loop [4,6,9,10,11,15,16,17] c226_0)) (
.kp [4,6,9,10,11]))) (
.reg [⟨some 24,none,.mov (.t 4)⟩,⟨some 25,none,.mov (.t 6)⟩,⟨some 26,none,.call .pure (.c (.fn (.f 123) [] [])) [.t 25]⟩,⟨some 27,none,.mksl 1 1 [.nils] [(0,1,(.t 26))]⟩,⟨some 28,none,.app 1 24 (.t 24) (.t 27)⟩,⟨some 4,none,.mov (.t 28)⟩])))) (
.reg [⟨some 29,none,.bin .add (.t 11) (.c (.int .i64 1))⟩,⟨some 11,none,.mov (.t 29)⟩])))
def c226 : Fnc := ⟨[.t 2,.t 3],
.seq (
.reg [⟨some 2,none,.mov (.c (.nils))⟩,⟨some 3,none,.mov (.c (.int .i64 0))⟩]) (
.seq (
.reg [⟨some 4,none,.mov (.c (.nils))⟩]) (
.seq (
.seq (
.reg [⟨some 9,none,.mov (.t 0)⟩,⟨some 10,none,.len 1 (.t 9)⟩,⟨some 11,none,.mov (.c (.int .i64 0))⟩]) (
.seq (
.blk 0 (
.loop [4,9,10,11] c226_1)) (
.kp [4]))) (
.seq (
.reg [⟨some 30,none,.mov (.t 4)⟩,⟨some 2,none,.mov (.t 30)⟩,⟨some 3,none,.mov (.c (.int .i64 0))⟩]) (
.ret))))⟩
/- (lenslet/number.matrix).reduced -/
def c227_0 : VC :=
.seq (
.seq (
.reg [⟨some 31,none,.mov (.t 11)⟩,⟨some 32,none,.mov (.t 4)⟩,⟨some 33,none,.len 1 (.t 32)⟩,⟨some 34,none,.bin .lss (.t 31) (.t 33)⟩,⟨some 35,none,.mov (.t 34)⟩,⟨some 36,some (35,true),.mov (.t 4)⟩,⟨some 37,some (35,true),.mov (.t 11)⟩,⟨some 38,some (35,true),.ixa 1 (.t 36) (.t 37)⟩,⟨some 39,some (35,true),.ld 1 false (.t 38)⟩,⟨some 40,some (35,true),.mov (.t 9)⟩,⟨some 41,some (35,true),.ixa 4 (.t 39) (.t 40)⟩,⟨some 42,some (35,true),.ld 4 true (.t 41)⟩,⟨some 43,some (35,true),.call .pure (.c (.fn (.f 108) [] [])) [.t 42]⟩,⟨some 44,some (35,true),.bin .eql (.t 43) (.c (.int .i64 0))⟩,⟨some 45,none,.pick (.t 35) (.t 44) (.c (.bool false))⟩]) (
.cond (.t 45) (
 .skip) (
 .exit 2))) (
.blk 3 (
.reg [⟨some 46,none,.mov (.t 11)⟩,⟨some 47,none,.bin .add (.t 46) (.c (.int .i64 1))⟩,⟨some 11,none,.mov (.t 47)⟩]))
def c227_1 : VC :=
.seq (
.reg [⟨some 91,none,.bin .lss (.t 90) (.t 89)⟩]) (
.seq (
.cond (.t 91) (
 .skip) (
 .exit 4)) (
.seq (
.blk 5 (
.seq (
.reg [⟨some 92,none,.mov (.t 90)⟩,⟨some 12,none,.mov (.t 92)⟩]) (
.seq (
.reg [⟨some 93,none,.mov (.t 12)⟩,⟨some 94,none,.mov (.t 10)⟩,⟨some 95,none,.bin .neq (.t 93) (.t 94)⟩,⟨some 96,none,.mov (.t 95)⟩,⟨some 97,some (96,true),.mov (.t 4)⟩,⟨some 98,some (96,true),.mov (.t 12)⟩,⟨some 99,some (96,true),.ixa 1 (.t 97) (.t 98)⟩,⟨some 100,some (96,true),.ld 1 false (.t 99)⟩,⟨some 101,some (96,true),.mov (.t 9)⟩,⟨some 102,some (96,true),.ixa 4 (.t 100) (.t 101)⟩,⟨some 103,some (96,true),.ld 4 true (.t 102)⟩,⟨some 104,some (96,true),.call .pure (.c (.fn (.f 108) [] [])) [.t 103]⟩,⟨some 105,some (96,true),.bin .neq (.t 104) (.c (.int .i64 0))⟩,⟨some 106,none,.pick (.t 96) (.t 105) (.c (.bool false))⟩]) (
.cond (.t 106) (
 .reg [⟨some 107,none,.mov (.t 4)⟩,
   ⟨some 108,none,.mov (.t 12)⟩,
   ⟨some 109,none,.mov (.t 5)⟩,
   ⟨some 110,none,.mov (.t 4)⟩,
   ⟨some 111,none,.mov (.t 12)⟩,
   ⟨some 112,none,.ixa 1 (.t 110) (.t 111)⟩,
   ⟨some 113,none,.ld 1 false (.t 112)⟩,
   ⟨some 114,none,.mov (.t 4)⟩,
   ⟨some 115,none,.mov (.t 10)⟩,
   ⟨some 116,none,.ixa 1 (.t 114) (.t 115)⟩,
   ⟨some 117,none,.ld 1 false (.t 116)⟩,
   ⟨some 118,none,.ld 4 true (.t 6)⟩,
   ⟨some 119,none,.mov (.t 4)⟩,
   ⟨some 120,none,.mov (.t 12)⟩,
   ⟨some 121,none,.ixa 1 (.t 119) (.t 120)⟩,
   ⟨some 122,none,.ld 1 false (.t 121)⟩,
   ⟨some 123,none,.mov (.t 9)⟩,
   ⟨some 124,none,.ixa 4 (.t 122) (.t 123)⟩,
   ⟨some 125,none,.ld 4 true (.t 124)⟩,
   ⟨some 126,none,.call .pure (.c (.fn (.f 102) [] [])) [.t 125]⟩,
   ⟨some 127,none,.call .pure (.t 109) [.t 113,.t 117,.t 118,.t 126]⟩,
   ⟨some 128,none,.ixa 1 (.t 107) (.t 108)⟩,
   ⟨none,none,.st 1 (.t 128) (.t 127)⟩]) (
 .skip))))) (
.reg [⟨some 129,none,.bin .add (.t 90) (.c (.int .i64 1))⟩,⟨some 90,none,.mov (.t 129)⟩])))
def c227_2 : VC :=
.seq (
.reg [⟨some 26,none,.bin .lss (.t 25) (.t 24)⟩]) (
.seq (
.cond (.t 26) (
 .skip) (
 .exit 0)) (
.seq (
.blk 1 (
.seq (
.reg [⟨some 27,none,.mov (.t 25)⟩,⟨some 9,none,.mov (.t 27)⟩]) (
.seq (
.reg [⟨some 28,none,.mov (.t 8)⟩,⟨some 29,none,.len 1 (.t 28)⟩,⟨some 10,none,.mov (.t 29)⟩]) (
.seq (
.reg [⟨some 30,none,.mov (.t 10)⟩,⟨some 11,none,.mov (.t 30)⟩]) (
.seq (
.seq (
.blk 2 (
.loop [4,5,6,7,8,9,10,11,24,25] c227_0)) (
.kp [4,5,6,7,8,9,10,11,24,25])) (
.seq (
.seq (
.reg [⟨some 48,none,.mov (.t 11)⟩,⟨some 49,none,.mov (.t 4)⟩,⟨some 50,none,.len 1 (.t 49)⟩,⟨some 51,none,.bin .geq (.t 48) (.t 50)⟩]) (
.cond (.t 51) (
 .exit 1) (
 .skip))) (
.seq (
.reg [⟨some 52,none,.mov (.t 4)⟩,⟨some 53,none,.mov (.t 10)⟩,⟨some 54,none,.mov (.t 4)⟩,⟨some 55,none,.mov (.t 11)⟩,⟨some 56,none,.mov (.t 4)⟩,⟨some 57,none,.mov (.t 11)⟩,⟨some 58,none,.ixa 1 (.t 56) (.t 57)⟩,⟨some 59,none,.ld 1 false (.t 58)⟩,⟨some 60,none,.mov (.t 4)⟩,⟨some 61,none,.mov (.t 10)⟩,⟨some 62,none,.ixa 1 (.t 60) (.t 61)⟩,⟨some 63,none,.ld 1 false (.t 62)⟩,⟨some 64,none,.ixa 1 (.t 52) (.t 53)⟩,⟨none,none,.st 1 (.t 64) (.t 59)⟩,⟨some 65,none,.ixa 1 (.t 54) (.t 55)⟩,⟨none,none,.st 1 (.t 65) (.t 63)⟩]) (
.seq (
.reg [⟨some 66,none,.mov (.t 4)⟩,⟨some 67,none,.mov (.t 10)⟩,⟨some 68,none,.mov (.t 5)⟩,⟨some 69,none,.mov (.t 4)⟩,⟨some 70,none,.mov (.t 10)⟩,⟨some 71,none,.ixa 1 (.t 69) (.t 70)⟩,⟨some 72,none,.ld 1 false (.t 71)⟩,⟨some 73,none,.mov (.t 4)⟩,⟨some 74,none,.mov (.t 10)⟩,⟨some 75,none,.ixa 1 (.t 73) (.t 74)⟩,⟨some 76,none,.ld 1 false (.t 75)⟩,⟨some 77,none,.mov (.t 4)⟩,⟨some 78,none,.mov (.t 10)⟩,⟨some 79,none,.ixa 1 (.t 77) (.t 78)⟩,⟨some 80,none,.ld 1 false (.t 79)⟩,⟨some 81,none,.mov (.t 9)⟩,⟨some 82,none,.ixa 4 (.t 80) (.t 81)⟩,⟨some 83,none,.ld 4 true (.t 82)⟩,⟨some 84,none,.call .pure (.c (.fn (.f 73) [] [])) [.t 83]⟩,⟨some 85,none,.ld 4 true (.t 7)⟩,⟨some 86,none,.call .pure (.t 68) [.t 72,.t 76,.t 84,.t 85]⟩,⟨some 87,none,.ixa 1 (.t 66) (.t 67)⟩,⟨none,none,.st 1 (.t 87) (.t 86)⟩]) (
.seq (
.seq (
.reg [⟨some 88,none,.mov (.t 4)⟩,⟨some 89,none,.len 1 (.t 88)⟩,⟨some 90,none,.mov (.c (.int .i64 0))⟩]) (
.seq (
.blk 4 (
.loop [4,5,6,7,8,9,10,24,25,89,90] c227_1)) (
.kp [4,5,6,7,8,9,24,25]))) (
.reg [⟨some 130,none,.mov (.t 8)⟩,⟨some 131,none,.mov (.t 9)⟩,⟨some 132,none,.mksl 1 1 [.int .i64 0] [(0,1,(.t 131))]⟩,⟨some 133,none,.app 1 8 (.t 130) (.t 132)⟩,⟨some 8,none,.mov (.t 133)⟩])))))))))) (
.reg [⟨some 134,none,.bin .add (.t 25) (.c (.int .i64 1))⟩,⟨some 25,none,.mov (.t 134)⟩])))
def c227 : Fnc := ⟨[.t 2,.t 3],
.seq (
.reg [⟨some 2,none,.mov (.c (.nils))⟩,⟨some 3,none,.mov (.c (.nils))⟩]) (
.seq (
.reg [⟨some 13,none,.mov (.t 0)⟩,⟨some 14,none,.len 1 (.t 13)⟩,⟨some 15,none,.mks 1 24 [.nils] (.t 14) (.t 14)⟩,⟨some 4,none,.mov (.t 15)⟩]) (
.seq (
.reg [⟨some 16,none,.mov (.t 4)⟩,⟨some 17,none,.mov (.t 0)⟩,⟨some 18,none,.cpy 1 (.t 16) (.t 17)⟩]) (
.seq (
.reg [⟨some 5,none,.mov (.c (.fn (.f 240) [] []))⟩]) (
.seq (
.reg [⟨some 19,none,.call .pure (.c (.fn (.f 69) [] [])) [.c (.int .i64 1)]⟩,⟨some 20,none,.call .pure (.c (.fn (.f 69) [] [])) [.c (.int .i64 0)]⟩,⟨some 6,none,.box 4 (.c (.agg [.int .i64 0,.nils,.int .i64 0,.nils]))⟩,⟨some 7,none,.box 4 (.c (.agg [.int .i64 0,.nils,.int .i64 0,.nils]))⟩,⟨none,none,.st 4 (.t 6) (.t 19)⟩,⟨none,none,.st 4 (.t 7) (.t 20)⟩]) (
.seq (
.reg [⟨some 8,none,.mov (.c (.nils))⟩]) (
.seq (
.seq (
.reg [⟨some 21,none,.mov (.t 0)⟩,⟨some 22,none,.ixa 1 (.t 21) (.c (.int .i64 0))⟩,⟨some 23,none,.ld 1 false (.t 22)⟩,⟨some 24,none,.len 1 (.t 23)⟩,⟨some 25,none,.mov (.c (.int .i64 0))⟩]) (
.seq (
.blk 0 (
.loop [4,5,6,7,8,24,25] c227_2)) (
.kp [4,8]))) (
.seq (
.reg [⟨some 135,none,.mov (.t 4)⟩,⟨some 136,none,.mov (.t 8)⟩,⟨some 137,none,.len 1 (.t 136)⟩,⟨some 138,none,.sli (.sl 1) (.t 135) none (some (.t 137))⟩,⟨some 139,none,.mov (.t 8)⟩,⟨some 2,none,.mov (.t 138)⟩,⟨some 3,none,.mov (.t 139)⟩]) (
.ret))))))))⟩
/- lenslet/number.power -/
def c228 : Fnc := ⟨[.cell 2 4 true],
.seq (
.reg [⟨some 2,none,.box 4 (.c (.agg [.int .i64 0,.nils,.int .i64 0,.nils]))⟩]) (
.seq (
.seq (
.reg [⟨some 3,none,.mov (.t 0)⟩,⟨some 4,none,.bin .lss (.t 3) (.c (.int .i64 0))⟩]) (
.cond (.t 4) (
 .seq (
 .reg [⟨some 5,none,.call .pure (.c (.fn (.f 69) [] [])) [.c (.int .i64 2)]⟩,
   ⟨some 6,none,.mov (.t 0)⟩,
   ⟨some 7,none,.un .neg (.t 6)⟩,
   ⟨some 8,none,.call .pure (.c (.fn (.f 241) [] [])) [.t 5,.t 7]⟩,
   ⟨some 9,none,.call .pure (.c (.fn (.f 73) [] [])) [.t 8]⟩,
   ⟨none,none,.st 4 (.t 2) (.t 9)⟩]) (
 .ret)) (
 .skip))) (
.seq (
.reg [⟨some 10,none,.call .pure (.c (.fn (.f 69) [] [])) [.c (.int .i64 2)]⟩,⟨some 11,none,.mov (.t 0)⟩,⟨some 12,none,.call .pure (.c (.fn (.f 241) [] [])) [.t 10,.t 11]⟩,⟨none,none,.st 4 (.t 2) (.t 12)⟩]) (
.ret)))⟩
/- lenslet/number.even -/
def c229 : Fnc := ⟨[.t 2],
.seq (
.reg [⟨some 1,none,.box 4 (.t 0)⟩,⟨some 2,none,.mov (.c (.int .i64 0))⟩]) (
.seq (
.reg [⟨some 6,none,.ld 4 true (.t 1)⟩,⟨some 7,none,.call .pure (.c (.fn (.f 149) [] [])) [.t 6]⟩,⟨some 3,none,.box 2 (.c (.agg [.int .i64 0,.nils]))⟩,⟨none,none,.st 2 (.t 3) (.t 7)⟩]) (
.seq (
.reg [⟨some 9,none,.ld 2 true (.t 3)⟩,⟨some 10,none,.call .pure (.c (.fn (.f 150) [] [])) [.t 9]⟩,⟨some 8,none,.mov (.t 10)⟩,⟨some 11,none,.ext 0 (.t 8)⟩,⟨some 12,none,.ext 1 (.t 8)⟩,⟨some 4,none,.mov (.t 11)⟩,⟨some 5,none,.mov (.t 12)⟩]) (
.seq (
.seq (
.reg [⟨some 13,none,.ld 4 true (.t 1)⟩,⟨some 14,none,.ld 2 true (.t 3)⟩,⟨some 15,none,.call .pure (.c (.fn (.f 111) [] [])) [.t 14]⟩,⟨some 16,none,.call .pure (.c (.fn (.f 50) [] [])) [.t 13,.t 15]⟩,⟨some 17,none,.call .pure (.c (.fn (.f 117) [] [])) [.c (.int .i64 1)]⟩,⟨some 18,none,.call .pure (.c (.fn (.f 117) [] [])) [.c (.int .i64 2)]⟩,⟨some 19,none,.call .pure (.c (.fn (.f 101) [] [])) [.t 17,.t 18]⟩,⟨some 20,none,.call .pure (.c (.fn (.f 71) [] [])) [.t 16,.t 19]⟩]) (
.blk 0 (
.seq (
.reg [⟨some 22,none,.bin .eql (.t 20) (.c (.int .i64 1))⟩,⟨some 21,none,.mov (.t 22)⟩]) (
.cond (.t 21) (
 .seq (
 .reg [⟨some 23,none,.mov (.t 4)⟩,
   ⟨some 24,none,.bin .add (.t 23) (.c (.int .i64 1))⟩,
   ⟨some 2,none,.mov (.t 24)⟩]) (
 .ret)) (
 .seq (
 .reg [⟨some 26,none,.bin .eql (.t 20) (.c (.int .i64 0))⟩,
   ⟨some 25,none,.mov (.t 26)⟩]) (
 .cond (.t 25) (
  .seq (
  .reg [⟨some 27,none,.mov (.t 4)⟩,
    ⟨some 28,none,.mov (.t 4)⟩,
    ⟨some 29,none,.bin .rem (.t 28) (.c (.int .i64 2))⟩,
    ⟨some 30,none,.bin .add (.t 27) (.t 29)⟩,
    ⟨some 2,none,.mov (.t 30)⟩]) (
  .ret)) (
  .skip))))))) (
.seq (
.reg [⟨some 31,none,.mov (.t 4)⟩,⟨some 2,none,.mov (.t 31)⟩]) (
.ret)))))⟩
/- math.Ldexp -/
def c230 : Fnc := ⟨[.t 4],
.seq (
.reg [⟨some 4,none,.mov (.c (.flt .f64 0))⟩]) (
.seq (
.cond (.c (.bool false)) (
 .seq (
 .reg [⟨some 5,none,.mov (.t 0)⟩,
   ⟨some 6,none,.mov (.t 1)⟩,
   ⟨some 7,none,.call .pure (.c (.fn (.f 242) [] [])) [.t 5,.t 6]⟩,
   ⟨some 4,none,.mov (.t 7)⟩]) (
 .ret)) (
 .skip)) (
.seq (
.reg [⟨some 8,none,.mov (.t 0)⟩,⟨some 9,none,.mov (.t 1)⟩,⟨some 10,none,.call .pure (.c (.fn (.f 243) [] [])) [.t 8,.t 9]⟩,⟨some 4,none,.mov (.t 10)⟩]) (
.ret)))⟩
/- lenslet/number.finite -/
def c231 : Fnc := ⟨[.t 2],
.seq (
.reg [⟨some 2,none,.mov (.c (.bool false))⟩]) (
.seq (
.reg [⟨some 3,none,.mov (.t 0)⟩,⟨some 4,none,.mov (.t 0)⟩,⟨some 5,none,.bin .sub (.t 3) (.t 4)⟩,⟨some 6,none,.bin .eql (.t 5) (.c (.flt .f32 0))⟩,⟨some 2,none,.mov (.t 6)⟩]) (
.ret))⟩
/- lenslet/number.exact -/
def c232_0 : VC :=
.seq (
.seq (
.reg [⟨some 4,none,.mov (.t 0)⟩,⟨some 5,none,.mov (.t 0)⟩,⟨some 6,none,.un .neg (.t 5)⟩,⟨some 7,none,.mx [.t 4,.t 6]⟩,⟨some 8,none,.bin .geq (.t 7) (.c (.flt .f32 1266679808))⟩]) (
.cond (.t 8) (
 .skip) (
 .exit 0))) (
.blk 1 (
.seq (
.reg [⟨some 9,none,.mov (.t 0)⟩,⟨some 10,none,.bin .quo (.t 9) (.c (.flt .f32 1073741824))⟩,⟨some 0,none,.mov (.t 10)⟩]) (
.reg [⟨some 11,none,.mov (.t 3)⟩,⟨some 12,none,.bin .add (.t 11) (.c (.int .i64 1))⟩,⟨some 3,none,.mov (.t 12)⟩])))
def c232_1 : VC :=
.seq (
.seq (
.reg [⟨some 13,none,.mov (.t 0)⟩,⟨some 14,none,.mov (.t 0)⟩,⟨some 15,none,.cv (.toInt .i64) (.t 14)⟩,⟨some 16,none,.cv (.toFlt .f32) (.t 15)⟩,⟨some 17,none,.bin .neq (.t 13) (.t 16)⟩]) (
.cond (.t 17) (
 .skip) (
 .exit 2))) (
.blk 3 (
.seq (
.reg [⟨some 18,none,.mov (.t 0)⟩,⟨some 19,none,.bin .mul (.t 18) (.c (.flt .f32 1073741824))⟩,⟨some 0,none,.mov (.t 19)⟩]) (
.reg [⟨some 20,none,.mov (.t 3)⟩,⟨some 21,none,.bin .sub (.t 20) (.c (.int .i64 1))⟩,⟨some 3,none,.mov (.t 21)⟩])))
def c232 : Fnc := ⟨[.cell 2 4 true],
.seq (
.reg [⟨some 2,none,.box 4 (.c (.agg [.int .i64 0,.nils,.int .i64 0,.nils]))⟩]) (
.seq (
.reg [⟨some 3,none,.mov (.c (.int .i64 0))⟩]) (
.seq (
.seq (
.blk 0 (
.loop [0,2,3] c232_0)) (
.kp [0,2,3])) (
.seq (
.seq (
.blk 2 (
.loop [0,2,3] c232_1)) (
.kp [0,2,3])) (
.seq (
.reg [⟨some 22,none,.mov (.t 0)⟩,⟨some 23,none,.cv (.toInt .i64) (.t 22)⟩,⟨some 24,none,.call .pure (.c (.fn (.f 69) [] [])) [.t 23]⟩,⟨some 25,none,.mov (.t 3)⟩,⟨some 26,none,.call .pure (.c (.fn (.f 228) [] [])) [.t 25]⟩,⟨some 27,none,.call .pure (.c (.fn (.f 49) [] [])) [.t 24,.t 26]⟩,⟨none,none,.st 4 (.t 2) (.t 27)⟩]) (
.ret)))))⟩
/- slices.MinFunc[[]lenslet/num.Frac,lenslet/num.Frac] -/
def c233_0 : VC :=
.seq (
.seq (
.reg [⟨some 14,none,.mov (.t 6)⟩,⟨some 15,none,.mov (.t 0)⟩,⟨some 16,none,.len 1 (.t 15)⟩,⟨some 17,none,.bin .lss (.t 14) (.t 16)⟩]) (
.cond (.t 17) (
 .skip) (
 .exit 0))) (
.seq (
.blk 1 (
.seq (
.reg [⟨some 20,none,.mov (.t 1)⟩,⟨some 21,none,.mov (.t 0)⟩,⟨some 22,none,.mov (.t 6)⟩,⟨some 23,none,.ixa 4 (.t 21) (.t 22)⟩,⟨some 24,none,.ld 4 true (.t 23)⟩,⟨some 25,none,.ld 4 true (.t 5)⟩,⟨some 26,none,.call .pure (.t 20) [.t 24,.t 25]⟩,⟨some 27,none,.bin .lss (.t 26) (.c (.int .i64 0))⟩]) (
.cond (.t 27) (
 .reg [⟨some 28,none,.mov (.t 0)⟩,
   ⟨some 29,none,.mov (.t 6)⟩,
   ⟨some 30,none,.ixa 4 (.t 28) (.t 29)⟩,
   ⟨some 31,none,.ld 4 true (.t 30)⟩,
   ⟨none,none,.st 4 (.t 5) (.t 31)⟩]) (
 .skip)))) (
.reg [⟨some 18,none,.mov (.t 6)⟩,⟨some 19,none,.bin .add (.t 18) (.c (.int .i64 1))⟩,⟨some 6,none,.mov (.t 19)⟩]))
def c233 : Fnc := ⟨[.cell 4 4 true],
.seq (
.reg [⟨some 4,none,.box 4 (.c (.agg [.int .i64 0,.nils,.int .i64 0,.nils]))⟩]) (
.seq (
.seq (
.reg [⟨some 7,none,.mov (.t 0)⟩,⟨some 8,none,.len 1 (.t 7)⟩,⟨some 9,none,.bin .lss (.t 8) (.c (.int .i64 1))⟩]) (
.cond (.t 9) (
 .reg [⟨some 10,none,.call .pure (.c (.undef)) []⟩,
   ⟨none,none,.call .pure (.c (.undef)) []⟩]) (
 .skip))) (
.seq (
.reg [⟨some 11,none,.mov (.t 0)⟩,⟨some 12,none,.ixa 4 (.t 11) (.c (.int .i64 0))⟩,⟨some 13,none,.ld 4 true (.t 12)⟩,⟨some 5,none,.box 4 (.c (.agg [.int .i64 0,.nils,.int .i64 0,.nils]))⟩,⟨none,none,.st 4 (.t 5) (.t 13)⟩]) (
.seq (
.seq (
.reg [⟨some 6,none,.mov (.c (.int .i64 1))⟩]) (
.seq (
.blk 0 (
.loop [0,1,4,5,6] c233_0)) (
.kp [4,5]))) (
.seq (
.reg [⟨some 32,none,.ld 4 true (.t 5)⟩,⟨none,none,.st 4 (.t 4) (.t 32)⟩]) (
.ret)))))⟩
/- slices.MaxFunc[[]lenslet/num.Frac,lenslet/num.Frac] -/
def c234_0 : VC :=
.seq (
.seq (
.reg [⟨some 14,none,.mov (.t 6)⟩,⟨some 15,none,.mov (.t 0)⟩,⟨some 16,none,.len 1 (.t 15)⟩,⟨some 17,none,.bin .lss (.t 14) (.t 16)⟩]) (
.cond (.t 17) (
 .skip) (
 .exit 0))) (
.seq (
.blk 1 (
.seq (
.reg [⟨some 20,none,.mov (.t 1)⟩,⟨some 21,none,.mov (.t 0)⟩,⟨some 22,none,.mov (.t 6)⟩,⟨some 23,none,.ixa 4 (.t 21) (.t 22)⟩,⟨some 24,none,.ld 4 true (.t 23)⟩,⟨some 25,none,.ld 4 true (.t 5)⟩,⟨some 26,none,.call .pure (.t 20) [.t 24,.t 25]⟩,⟨some 27,none,.bin .gtr (.t 26) (.c (.int .i64 0))⟩]) (
.cond (.t 27) (
 .reg [⟨some 28,none,.mov (.t 0)⟩,
   ⟨some 29,none,.mov (.t 6)⟩,
   ⟨some 30,none,.ixa 4 (.t 28) (.t 29)⟩,
   ⟨some 31,none,.ld 4 true (.t 30)⟩,
   ⟨none,none,.st 4 (.t 5) (.t 31)⟩]) (
 .skip)))) (
.reg [⟨some 18,none,.mov (.t 6)⟩,⟨some 19,none,.bin .add (.t 18) (.c (.int .i64 1))⟩,⟨some 6,none,.mov (.t 19)⟩]))
def c234 : Fnc := ⟨[.cell 4 4 true],
.seq (
.reg [⟨some 4,none,.box 4 (.c (.agg [.int .i64 0,.nils,.int .i64 0,.nils]))⟩]) (
.seq (
.seq (
.reg [⟨some 7,none,.mov (.t 0)⟩,⟨some 8,none,.len 1 (.t 7)⟩,⟨some 9,none,.bin .lss (.t 8) (.c (.int .i64 1))⟩]) (
.cond (.t 9) (
 .reg [⟨some 10,none,.call .pure (.c (.undef)) []⟩,
   ⟨none,none,.call .pure (.c (.undef)) []⟩]) (
 .skip))) (
.seq (
.reg [⟨some 11,none,.mov (.t 0)⟩,⟨some 12,none,.ixa 4 (.t 11) (.c (.int .i64 0))⟩,⟨some 13,none,.ld 4 true (.t 12)⟩,⟨some 5,none,.box 4 (.c (.agg [.int .i64 0,.nils,.int .i64 0,.nils]))⟩,⟨none,none,.st 4 (.t 5) (.t 13)⟩]) (
.seq (
.seq (
.reg [⟨some 6,none,.mov (.c (.int .i64 1))⟩]) (
.seq (
.blk 0 (
.loop [0,1,4,5,6] c234_0)) (
.kp [4,5]))) (
.seq (
.reg [⟨some 32,none,.ld 4 true (.t 5)⟩,⟨none,none,.st 4 (.t 4) (.t 32)⟩]) (
.ret)))))⟩
/- (lenslet/num.Frac).Sqrt -/
def c235 : Fnc := ⟨[.cell 2 4 true,.t 3],
.seq (
.reg [⟨some 1,none,.box 4 (.t 0)⟩,⟨some 2,none,.box 4 (.c (.agg [.int .i64 0,.nils,.int .i64 0,.nils]))⟩,⟨some 3,none,.mov (.c (.bool false))⟩]) (
.seq (
.seq (
.reg [⟨some 6,none,.ld 4 true (.t 1)⟩,⟨some 7,none,.call .pure (.c (.fn (.f 108) [] [])) [.t 6]⟩,⟨some 8,none,.bin .lss (.t 7) (.c (.int .i64 0))⟩]) (
.cond (.t 8) (
 .seq (
 .reg [⟨some 9,none,.mkagg [.int .i64 0,.nils,.int .i64 0,.nils] []⟩,
   ⟨none,none,.st 4 (.t 2) (.t 9)⟩,
   ⟨some 3,none,.mov (.c (.bool false))⟩]) (
 .ret)) (
 .skip))) (
.seq (
.reg [⟨some 10,none,.off 0 (.t 1)⟩,⟨some 11,none,.ld 2 true (.t 10)⟩,⟨some 12,none,.call .pure (.c (.fn (.f 237) [] [])) [.t 11]⟩,⟨some 13,none,.off 2 (.t 1)⟩,⟨some 14,none,.ld 2 true (.t 13)⟩,⟨some 15,none,.call .pure (.c (.fn (.f 237) [] [])) [.t 14]⟩,⟨some 4,none,.box 2 (.c (.agg [.int .i64 0,.nils]))⟩,⟨some 5,none,.box 2 (.c (.agg [.int .i64 0,.nils]))⟩,⟨none,none,.st 2 (.t 4) (.t 12)⟩,⟨none,none,.st 2 (.t 5) (.t 15)⟩]) (
.seq (
.reg [⟨some 16,none,.ld 2 true (.t 4)⟩,⟨some 17,none,.ld 2 true (.t 5)⟩,⟨some 18,none,.mkagg [.int .i64 0,.nils,.int .i64 0,.nils] [(0,2,(.t 16)),(2,2,(.t 17))]⟩,⟨some 19,none,.ld 2 true (.t 4)⟩,⟨some 20,none,.ld 2 true (.t 4)⟩,⟨some 21,none,.call .pure (.c (.fn (.f 100) [] [])) [.t 19,.t 20]⟩,⟨some 22,none,.off 0 (.t 1)⟩,⟨some 23,none,.ld 2 true (.t 22)⟩,⟨some 24,none,.call .pure (.c (.fn (.f 118) [] [])) [.t 21,.t 23]⟩,⟨some 25,none,.bin .eql (.t 24) (.c (.int .i64 0))⟩,⟨some 26,none,.mov (.t 25)⟩,⟨some 27,some (26,true),.ld 2 true (.t 5)⟩,⟨some 28,some (26,true),.ld 2 true (.t 5)⟩,⟨some 29,some (26,true),.call .pure (.c (.fn (.f 100) [] [])) [.t 27,.t 28]⟩,⟨some 30,some (26,true),.off 2 (.t 1)⟩,⟨some 31,some (26,true),.ld 2 true (.t 30)⟩,⟨some 32,some (26,true),.call .pure (.c (.fn (.f 118) [] [])) [.t 29,.t 31]⟩,⟨some 33,some (26,true),.bin .eql (.t 32) (.c (.int .i64 0))⟩,⟨some 34,none,.pick (.t 26) (.t 33) (.c (.bool false))⟩,⟨none,none,.st 4 (.t 2) (.t 18)⟩,⟨some 3,none,.mov (.t 34)⟩]) (
.ret))))⟩
/- lenslet/number.ten -/
def c236 : Fnc := ⟨[.cell 2 2 true],
.seq (
.reg [⟨some 2,none,.box 2 (.c (.agg [.int .i64 0,.nils]))⟩]) (
.seq (
.reg [⟨some 3,none,.call .pure (.c (.fn (.f 117) [] [])) [.c (.int .i64 10)]⟩,⟨some 4,none,.mov (.t 0)⟩,⟨some 5,none,.call .pure (.c (.fn (.f 155) [] [])) [.t 3,.t 4]⟩,⟨none,none,.st 2 (.t 2) (.t 5)⟩]) (
.ret))⟩
/- (lenslet/num.Int).Sqrt -/
def c237_0 : VC :=
.blk 1 (
.seq (
.reg [⟨some 19,none,.ld 2 true (.t 1)⟩,⟨some 20,none,.ld 2 true (.t 3)⟩,⟨some 21,none,.call .pure (.c (.fn (.f 164) [] [])) [.t 19,.t 20]⟩,⟨some 18,none,.mov (.t 21)⟩,⟨some 22,none,.ext 0 (.t 18)⟩,⟨some 23,none,.ext 1 (.t 18)⟩,⟨some 4,none,.box 2 (.c (.agg [.int .i64 0,.nils]))⟩,⟨some 5,none,.box 2 (.c (.agg [.int .i64 0,.nils]))⟩,⟨none,none,.st 2 (.t 4) (.t 22)⟩,⟨none,none,.st 2 (.t 5) (.t 23)⟩]) (
.seq (
.reg [⟨some 25,none,.ld 2 true (.t 3)⟩,⟨some 26,none,.ld 2 true (.t 4)⟩,⟨some 27,none,.call .pure (.c (.fn (.f 119) [] [])) [.t 25,.t 26]⟩,⟨some 28,none,.call .pure (.c (.fn (.f 117) [] [])) [.c (.int .i64 2)]⟩,⟨some 29,none,.call .pure (.c (.fn (.f 164) [] [])) [.t 27,.t 28]⟩,⟨some 24,none,.mov (.t 29)⟩,⟨some 30,none,.ext 0 (.t 24)⟩,⟨some 31,none,.ext 1 (.t 24)⟩,⟨some 6,none,.box 2 (.c (.agg [.int .i64 0,.nils]))⟩,⟨some 7,none,.box 2 (.c (.agg [.int .i64 0,.nils]))⟩,⟨none,none,.st 2 (.t 6) (.t 30)⟩,⟨none,none,.st 2 (.t 7) (.t 31)⟩]) (
.seq (
.seq (
.reg [⟨some 32,none,.ld 2 true (.t 6)⟩,⟨some 33,none,.ld 2 true (.t 3)⟩,⟨some 34,none,.call .pure (.c (.fn (.f 118) [] [])) [.t 32,.t 33]⟩,⟨some 35,none,.bin .geq (.t 34) (.c (.int .i64 0))⟩]) (
.cond (.t 35) (
 .seq (
 .reg [⟨some 36,none,.ld 2 true (.t 3)⟩,
   ⟨none,none,.st 2 (.t 2) (.t 36)⟩]) (
 .ret)) (
 .skip))) (
.reg [⟨some 37,none,.ld 2 true (.t 6)⟩,⟨none,none,.st 2 (.t 3) (.t 37)⟩]))))
def c237 : Fnc := ⟨[.cell 2 2 true],
.seq (
.reg [⟨some 1,none,.box 2 (.t 0)⟩,⟨some 2,none,.box 2 (.c (.agg [.int .i64 0,.nils]))⟩]) (
.seq (
.seq (
.reg [⟨some 8,none,.ld 2 true (.t 1)⟩,⟨some 9,none,.call .pure (.c (.fn (.f 146) [] [])) [.t 8]⟩,⟨some 10,none,.bin .eql (.t 9) (.c (.int .i64 0))⟩]) (
.cond (.t 10) (
 .seq (
 .reg [⟨some 11,none,.ld 2 true (.t 1)⟩,
   ⟨none,none,.st 2 (.t 2) (.t 11)⟩]) (
 .ret)) (
 .skip))) (
.seq (
.reg [⟨some 12,none,.call .pure (.c (.fn (.f 117) [] [])) [.c (.int .i64 2)]⟩,⟨some 13,none,.ld 2 true (.t 1)⟩,⟨some 14,none,.call .pure (.c (.fn (.f 172) [] [])) [.t 13]⟩,⟨some 15,none,.bin .add (.t 14) (.c (.int .i64 1))⟩,⟨some 16,none,.bin .quo (.t 15) (.c (.int .i64 2))⟩,⟨some 17,none,.call .pure (.c (.fn (.f 155) [] [])) [.t 12,.t 16]⟩,⟨some 3,none,.box 2 (.c (.agg [.int .i64 0,.nils]))⟩,⟨none,none,.st 2 (.t 3) (.t 17)⟩]) (
.seq (
.blk 0 (
.loop [1,2,3] c237_0)) (
.kp [2]))))⟩
/- lenslet/number.rational -/
def c238 : Fnc := ⟨[.t 0],
.seq (
.reg [⟨some 0,none,.mov (.c (.nilm))⟩]) (
.seq (
.reg [⟨some 1,none,.mkm⟩,⟨none,none,.mup 2 (.t 1) (.c (.str [48])) (.c (.str [49]))⟩,⟨none,none,.mup 2 (.t 1) (.c (.str [49,47,54])) (.c (.str [49,47,50]))⟩,⟨none,none,.mup 2 (.t 1) (.c (.str [49,47,52])) (.c (.str [48]))⟩,⟨none,none,.mup 2 (.t 1) (.c (.str [49,47,51])) (.c (.str [45,49,47,50]))⟩,⟨none,none,.mup 2 (.t 1) (.c (.str [49,47,50])) (.c (.str [45,49]))⟩,⟨none,none,.mup 2 (.t 1) (.c (.str [50,47,51])) (.c (.str [45,49,47,50]))⟩,⟨none,none,.mup 2 (.t 1) (.c (.str [51,47,52])) (.c (.str [48]))⟩,⟨none,none,.mup 2 (.t 1) (.c (.str [53,47,54])) (.c (.str [49,47,50]))⟩,⟨some 2,none,.mov (.t 1)⟩,⟨some 0,none,.mov (.t 2)⟩]) (
.ret))⟩
/- lenslet/number.below -/
def c239_0 : VC :=
.seq (
.reg [⟨some 13,none,.bin .lss (.t 12) (.c (.int .i64 2))⟩]) (
.seq (
.cond (.t 13) (
 .skip) (
 .exit 0)) (
.seq (
.blk 1 (
.seq (
.reg [⟨some 14,none,.ixv 2 1 false (.t 11) (.t 12)⟩,⟨some 7,none,.mov (.t 14)⟩]) (
.seq (
.reg [⟨some 15,none,.ld 4 true (.t 2)⟩,⟨some 16,none,.mov (.t 7)⟩,⟨some 17,none,.call .pure (.c (.fn (.f 244) [] [])) [.t 15,.t 16]⟩,⟨some 8,none,.box 2 (.c (.agg [.int .i64 0,.nils]))⟩,⟨none,none,.st 2 (.t 8) (.t 17)⟩]) (
.seq (
.reg [⟨some 18,none,.mov (.t 7)⟩,⟨some 19,none,.mov (.t 1)⟩,⟨some 20,none,.bin .sub (.t 18) (.t 19)⟩,⟨some 21,none,.call .pure (.c (.fn (.f 236) [] [])) [.t 20]⟩,⟨some 9,none,.box 2 (.c (.agg [.int .i64 0,.nils]))⟩,⟨none,none,.st 2 (.t 9) (.t 21)⟩]) (
.seq (
.reg [⟨some 22,none,.ld 2 true (.t 8)⟩,⟨some 23,none,.call .pure (.c (.fn (.f 117) [] [])) [.c (.int .i64 1000000)]⟩,⟨some 24,none,.call .pure (.c (.fn (.f 156) [] [])) [.t 22,.t 23]⟩,⟨some 25,none,.ld 2 true (.t 9)⟩,⟨some 26,none,.call .pure (.c (.fn (.f 101) [] [])) [.t 24,.t 25]⟩,⟨some 27,none,.call .pure (.c (.fn (.f 149) [] [])) [.t 26]⟩,⟨none,none,.st 2 (.t 5) (.t 27)⟩]) (
.seq (
.reg [⟨some 28,none,.ld 2 true (.t 8)⟩,⟨some 29,none,.call .pure (.c (.fn (.f 117) [] [])) [.c (.int .i64 1000000)]⟩,⟨some 30,none,.call .pure (.c (.fn (.f 119) [] [])) [.t 28,.t 29]⟩,⟨some 31,none,.ld 2 true (.t 9)⟩,⟨some 32,none,.call .pure (.c (.fn (.f 101) [] [])) [.t 30,.t 31]⟩,⟨some 33,none,.call .pure (.c (.fn (.f 149) [] [])) [.t 32]⟩,⟨some 10,none,.box 2 (.c (.agg [.int .i64 0,.nils]))⟩,⟨none,none,.st 2 (.t 10) (.t 33)⟩]) (
.seq (
.reg [⟨some 34,none,.ld 2 true (.t 5)⟩,⟨some 35,none,.ld 2 true (.t 10)⟩,⟨some 36,none,.call .pure (.c (.fn (.f 118) [] [])) [.t 34,.t 35]⟩,⟨some 37,none,.bin .eql (.t 36) (.c (.int .i64 0))⟩]) (
.cond (.t 37) (
 .exit 0) (
 .skip))))))))) (
.reg [⟨some 38,none,.bin .add (.t 12) (.c (.int .i64 1))⟩,⟨some 12,none,.mov (.t 38)⟩])))
def c239 : Fnc := ⟨[.cell 4 2 true],
.seq (
.reg [⟨some 2,none,.box 4 (.t 0)⟩,⟨some 4,none,.box 2 (.c (.agg [.int .i64 0,.nils]))⟩]) (
.seq (
.reg [⟨some 5,none,.box 2 (.c (.agg [.int .i64 0,.nils]))⟩]) (
.seq (
.skip) (
.seq (
.seq (
.reg [⟨some 11,none,.mkagg [.int .i64 0,.int .i64 0] [(0,1,(.c (.int .i64 50))),(1,1,(.c (.int .i64 100)))]⟩,⟨some 12,none,.mov (.c (.int .i64 0))⟩]) (
.seq (
.blk 0 (
.loop [1,2,4,5,11,12] c239_0)) (
.kp [4,5]))) (
.seq (
.reg [⟨some 39,none,.ld 2 true (.t 5)⟩,⟨none,none,.st 2 (.t 4) (.t 39)⟩]) (
.ret)))))⟩
/- (lenslet/number.matrix).reduced.1 -/
def c240_0 : VC :=
.seq (
.reg [⟨some 14,none,.bin .lss (.t 13) (.t 12)⟩]) (
.seq (
.cond (.t 14) (
 .skip) (
 .exit 0)) (
.seq (
.blk 1 (
.seq (
.reg [⟨some 15,none,.mov (.t 13)⟩,⟨some 10,none,.mov (.t 15)⟩]) (
.reg [⟨some 16,none,.mov (.t 9)⟩,⟨some 17,none,.mov (.t 0)⟩,⟨some 18,none,.mov (.t 10)⟩,⟨some 19,none,.ixa 4 (.t 17) (.t 18)⟩,⟨some 20,none,.ld 4 true (.t 19)⟩,⟨some 21,none,.ld 4 true (.t 6)⟩,⟨some 22,none,.call .pure (.c (.fn (.f 49) [] [])) [.t 20,.t 21]⟩,⟨some 23,none,.mov (.t 1)⟩,⟨some 24,none,.mov (.t 10)⟩,⟨some 25,none,.ixa 4 (.t 23) (.t 24)⟩,⟨some 26,none,.ld 4 true (.t 25)⟩,⟨some 27,none,.ld 4 true (.t 7)⟩,⟨some 28,none,.call .pure (.c (.fn (.f 49) [] [])) [.t 26,.t 27]⟩,⟨some 29,none,.call .pure (.c (.fn (.f 74) [] [])) [.t 22,.t 28]⟩,⟨some 30,none,.mksl 1 4 [.int .i64 0,.nils,.int .i64 0,.nils] [(0,4,(.t 29))]⟩,⟨some 31,none,.app 4 64 (.t 16) (.t 30)⟩,⟨some 9,none,.mov (.t 31)⟩]))) (
.reg [⟨some 32,none,.bin .add (.t 13) (.c (.int .i64 1))⟩,⟨some 13,none,.mov (.t 32)⟩])))
def c240 : Fnc := ⟨[.t 8],
.seq (
.reg [⟨some 6,none,.box 4 (.t 2)⟩,⟨some 7,none,.box 4 (.t 3)⟩,⟨some 8,none,.mov (.c (.nils))⟩]) (
.seq (
.reg [⟨some 9,none,.mov (.c (.nils))⟩]) (
.seq (
.seq (
.reg [⟨some 11,none,.mov (.t 0)⟩,⟨some 12,none,.len 1 (.t 11)⟩,⟨some 13,none,.mov (.c (.int .i64 0))⟩]) (
.seq (
.blk 0 (
.loop [0,1,6,7,9,12,13] c240_0)) (
.kp [9]))) (
.seq (
.reg [⟨some 33,none,.mov (.t 9)⟩,⟨some 8,none,.mov (.t 33)⟩]) (
.ret))))⟩
/- (lenslet/num.Frac).Pow -/
def c241 : Fnc := ⟨[.cell 4 4 true],
.seq (
.reg [⟨some 2,none,.box 4 (.t 0)⟩,⟨some 4,none,.box 4 (.c (.agg [.int .i64 0,.nils,.int .i64 0,.nils]))⟩]) (
.seq (
.reg [⟨some 5,none,.off 0 (.t 2)⟩,⟨some 6,none,.ld 2 true (.t 5)⟩,⟨some 7,none,.mov (.t 1)⟩,⟨some 8,none,.call .pure (.c (.fn (.f 155) [] [])) [.t 6,.t 7]⟩,⟨some 9,none,.off 2 (.t 2)⟩,⟨some 10,none,.ld 2 true (.t 9)⟩,⟨some 11,none,.mov (.t 1)⟩,⟨some 12,none,.call .pure (.c (.fn (.f 155) [] [])) [.t 10,.t 11]⟩,⟨some 13,none,.mkagg [.int .i64 0,.nils,.int .i64 0,.nils] [(0,2,(.t 8)),(2,2,(.t 12))]⟩,⟨none,none,.st 4 (.t 4) (.t 13)⟩]) (
.ret))⟩
/- math.archLdexp -/
def c242 : Fnc := ⟨[.t 4],
.seq (
.reg [⟨some 4,none,.mov (.c (.flt .f64 0))⟩]) (
.reg [⟨some 5,none,.call .pure (.c (.undef)) []⟩,⟨none,none,.call .pure (.c (.undef)) []⟩])⟩
/- math.ldexp -/
def c243 : Fnc := ⟨[.t 4],
.seq (
.reg [⟨some 4,none,.mov (.c (.flt .f64 0))⟩]) (
.seq (
.blk 0 (
.seq (
.reg [⟨some 9,none,.mov (.t 0)⟩,⟨some 10,none,.bin .eql (.t 9) (.c (.flt .f64 0))⟩,⟨some 8,none,.mov (.t 10)⟩]) (
.cond (.t 8) (
 .seq (
 .reg [⟨some 11,none,.mov (.t 0)⟩,
   ⟨some 4,none,.mov (.t 11)⟩]) (
 .ret)) (
 .seq (
 .reg [⟨some 13,none,.mov (.t 0)⟩,
   ⟨some 14,none,.call .pure (.c (.fn (.f 245) [] [])) [.t 13,.c (.int .i64 0)]⟩,
   ⟨some 15,none,.mov (.t 14)⟩,
   ⟨some 16,some (15,false),.mov (.t 0)⟩,
   ⟨some 17,some (15,false),.call .pure (.c (.fn (.f 246) [] [])) [.t 16]⟩,
   ⟨some 18,none,.pick (.t 15) (.c (.bool true)) (.t 17)⟩,
   ⟨some 12,none,.mov (.t 18)⟩]) (
 .cond (.t 12) (
  .seq (
  .reg [⟨some 19,none,.mov (.t 0)⟩,
    ⟨some 4,none,.mov (.t 19)⟩]) (
  .ret)) (
  .skip)))))) (
.seq (
.reg [⟨some 21,none,.mov (.t 0)⟩,⟨some 22,none,.call .pure (.c (.fn (.f 247) [] [])) [.t 21]⟩,⟨some 20,none,.mov (.t 22)⟩,⟨some 23,none,.ext 0 (.t 20)⟩,⟨some 24,none,.ext 1 (.t 20)⟩,⟨some 0,none,.mov (.t 23)⟩,⟨some 5,none,.mov (.t 24)⟩]) (
.seq (
.reg [⟨some 25,none,.mov (.t 1)⟩,⟨some 26,none,.mov (.t 5)⟩,⟨some 27,none,.bin .add (.t 25) (.t 26)⟩,⟨some 1,none,.mov (.t 27)⟩]) (
.seq (
.reg [⟨some 28,none,.mov (.t 0)⟩,⟨some 29,none,.call .pure (.c (.fn (.f 248) [] [])) [.t 28]⟩,⟨some 6,none,.mov (.t 29)⟩]) (
.seq (
.reg [⟨some 30,none,.mov (.t 1)⟩,⟨some 31,none,.mov (.t 6)⟩,⟨some 32,none,.bin .shr (.t 31) (.c (.int .u64 52))⟩,⟨some 33,none,.cv (.toInt .i64) (.t 32)⟩,⟨some 34,none,.bin .and (.t 33) (.c (.int .i64 2047))⟩,⟨some 35,none,.bin .sub (.t 34) (.c (.int .i64 1023))⟩,⟨some 36,none,.bin .add (.t 30) (.t 35)⟩,⟨some 1,none,.mov (.t 36)⟩]) (
.seq (
.seq (
.reg [⟨some 37,none,.mov (.t 1)⟩,⟨some 38,none,.bin .lss (.t 37) (.c (.int .i64 (-1075)))⟩]) (
.cond (.t 38) (
 .seq (
 .reg [⟨some 39,none,.mov (.t 0)⟩,
   ⟨some 40,none,.call .pure (.c (.fn (.f 249) [] [])) [.c (.flt .f64 0),.t 39]⟩,
   ⟨some 4,none,.mov (.t 40)⟩]) (
 .ret)) (
 .skip))) (
.seq (
.seq (
.reg [⟨some 41,none,.mov (.t 1)⟩,⟨some 42,none,.bin .gtr (.t 41) (.c (.int .i64 1023))⟩]) (
.cond (.t 42) (
 .seq (
 .seq (
 .reg [⟨some 43,none,.mov (.t 0)⟩,
   ⟨some 44,none,.bin .lss (.t 43) (.c (.flt .f64 0))⟩]) (
 .cond (.t 44) (
  .seq (
  .reg [⟨some 45,none,.call .pure (.c (.fn (.f 250) [] [])) [.c (.int .i64 (-1))]⟩,
    ⟨some 4,none,.mov (.t 45)⟩]) (
  .ret)) (
  .skip))) (
 .seq (
 .reg [⟨some 46,none,.call .pure (.c (.fn (.f 250) [] [])) [.c (.int .i64 1)]⟩,
   ⟨some 4,none,.mov (.t 46)⟩]) (
 .ret))) (
 .skip))) (
.seq (
.reg [⟨some 7,none,.mov (.c (.flt .f64 4607182418800017408))⟩]) (
.seq (
.seq (
.reg [⟨some 47,none,.mov (.t 1)⟩,⟨some 48,none,.bin .lss (.t 47) (.c (.int .i64 (-1022)))⟩]) (
.cond (.t 48) (
 .seq (
 .reg [⟨some 49,none,.mov (.t 1)⟩,
   ⟨some 50,none,.bin .add (.t 49) (.c (.int .i64 53))⟩,
   ⟨some 1,none,.mov (.t 50)⟩]) (
 .reg [⟨some 7,none,.mov (.c (.flt .f64 4368491638549381120))⟩])) (
 .skip))) (
.seq (
.reg [⟨some 51,none,.mov (.t 6)⟩,⟨some 52,none,.bin .andNot (.t 51) (.c (.int .u64 9218868437227405312))⟩,⟨some 6,none,.mov (.t 52)⟩]) (
.seq (
.reg [⟨some 53,none,.mov (.t 6)⟩,⟨some 54,none,.mov (.t 1)⟩,⟨some 55,none,.bin .add (.t 54) (.c (.int .i64 1023))⟩,⟨some 56,none,.cv (.toInt .u64) (.t 55)⟩,⟨some 57,none,.bin .shl (.t 56) (.c (.int .u64 52))⟩,⟨some 58,none,.bin .or (.t 53) (.t 57)⟩,⟨some 6,none,.mov (.t 58)⟩]) (
.seq (
.reg [⟨some 59,none,.mov (.t 7)⟩,⟨some 60,none,.mov (.t 6)⟩,⟨some 61,none,.call .pure (.c (.fn (.f 251) [] [])) [.t 60]⟩,⟨some 62,none,.bin .mul (.t 59) (.t 61)⟩,⟨some 4,none,.mov (.t 62)⟩]) (
.ret)))))))))))))⟩
/- lenslet/number.series -/
def c244_0 : VC :=
.seq (
.seq (
.reg [⟨some 24,none,.ld 2 true (.t 8)⟩,⟨some 25,none,.call .pure (.c (.fn (.f 146) [] [])) [.t 24]⟩,⟨some 26,none,.bin .gtr (.t 25) (.c (.int .i64 0))⟩]) (
.cond (.t 26) (
 .skip) (
 .exit 0))) (
.seq (
.blk 1 (
.seq (
.reg [⟨some 29,none,.ld 2 true (.t 8)⟩,⟨some 30,none,.ld 2 true (.t 6)⟩,⟨some 31,none,.call .pure (.c (.fn (.f 100) [] [])) [.t 29,.t 30]⟩,⟨some 32,none,.ld 2 true (.t 5)⟩,⟨some 33,none,.call .pure (.c (.fn (.f 148) [] [])) [.t 31,.t 32]⟩,⟨some 34,none,.ld 2 true (.t 6)⟩,⟨some 35,none,.call .pure (.c (.fn (.f 100) [] [])) [.t 33,.t 34]⟩,⟨some 36,none,.ld 2 true (.t 5)⟩,⟨some 37,none,.call .pure (.c (.fn (.f 148) [] [])) [.t 35,.t 36]⟩,⟨some 38,none,.mov (.t 9)⟩,⟨some 39,none,.bin .mul (.c (.int .i64 2)) (.t 38)⟩,⟨some 40,none,.bin .sub (.t 39) (.c (.int .i64 1))⟩,⟨some 41,none,.bin .mul (.t 40) (.c (.int .i64 2))⟩,⟨some 42,none,.mov (.t 9)⟩,⟨some 43,none,.bin .mul (.t 41) (.t 42)⟩,⟨some 44,none,.call .pure (.c (.fn (.f 117) [] [])) [.t 43]⟩,⟨some 45,none,.call .pure (.c (.fn (.f 148) [] [])) [.t 37,.t 44]⟩,⟨none,none,.st 2 (.t 8) (.t 45)⟩]) (
.seq (
.reg [⟨some 46,none,.mov (.t 9)⟩,⟨some 47,none,.bin .rem (.t 46) (.c (.int .i64 2))⟩,⟨some 48,none,.bin .eql (.t 47) (.c (.int .i64 1))⟩]) (
.cond (.t 48) (
 .reg [⟨some 49,none,.ld 2 true (.t 7)⟩,
   ⟨some 50,none,.ld 2 true (.t 8)⟩,
   ⟨some 51,none,.call .pure (.c (.fn (.f 156) [] [])) [.t 49,.t 50]⟩,
   ⟨none,none,.st 2 (.t 7) (.t 51)⟩]) (
 .reg [⟨some 52,none,.ld 2 true (.t 7)⟩,
   ⟨some 53,none,.ld 2 true (.t 8)⟩,
   ⟨some 54,none,.call .pure (.c (.fn (.f 119) [] [])) [.t 52,.t 53]⟩,
   ⟨none,none,.st 2 (.t 7) (.t 54)⟩]))))) (
.reg [⟨some 27,none,.mov (.t 9)⟩,⟨some 28,none,.bin .add (.t 27) (.c (.int .i64 1))⟩,⟨some 9,none,.mov (.t 28)⟩]))
def c244 : Fnc := ⟨[.cell 4 2 true],
.seq (
.reg [⟨some 2,none,.box 4 (.t 0)⟩,⟨some 4,none,.box 2 (.c (.agg [.int .i64 0,.nils]))⟩]) (
.seq (
.reg [⟨some 10,none,.mov (.t 1)⟩,⟨some 11,none,.call .pure (.c (.fn (.f 236) [] [])) [.t 10]⟩,⟨some 5,none,.box 2 (.c (.agg [.int .i64 0,.nils]))⟩,⟨none,none,.st 2 (.t 5) (.t 11)⟩]) (
.seq (
.reg [⟨some 12,none,.mov (.t 1)⟩,⟨some 13,none,.bin .add (.t 12) (.c (.int .i64 1))⟩,⟨some 14,none,.sli .str (.c (.str [51,49,52,49,53,57,50,54,53,51,53,56,57,55,57,51,50,51,56,52,54,50,54,52,51,51,56,51,50,55,57,53,48,50,56,56,52,49,57,55,49,54,57,51,57,57,51,55,53,49,48,53,56,50,48,57,55,52,57,52,52,53,57,50,51,48,55,56,49,54,52,48,54,50,56,54,50,48,56,57,57,56,54,50,56,48,51,52,56,50,53,51,52,50,49,49,55,48,54,55,57])) none (some (.t 13))⟩,⟨some 15,none,.call .pure (.c (.fn (.f 110) [] [])) [.t 14]⟩,⟨some 16,none,.call .pure (.c (.fn (.f 117) [] [])) [.c (.int .i64 2)]⟩,⟨some 17,none,.call .pure (.c (.fn (.f 100) [] [])) [.t 15,.t 16]⟩,⟨some 18,none,.call .pure (.c (.fn (.f 111) [] [])) [.t 17]⟩,⟨some 19,none,.ld 4 true (.t 2)⟩,⟨some 20,none,.call .pure (.c (.fn (.f 49) [] [])) [.t 18,.t 19]⟩,⟨some 21,none,.call .pure (.c (.fn (.f 149) [] [])) [.t 20]⟩,⟨some 6,none,.box 2 (.c (.agg [.int .i64 0,.nils]))⟩,⟨none,none,.st 2 (.t 6) (.t 21)⟩]) (
.seq (
.reg [⟨some 22,none,.ld 2 true (.t 5)⟩,⟨some 23,none,.ld 2 true (.t 5)⟩,⟨some 7,none,.box 2 (.c (.agg [.int .i64 0,.nils]))⟩,⟨some 8,none,.box 2 (.c (.agg [.int .i64 0,.nils]))⟩,⟨none,none,.std [(2,true,5)] 2 (.t 7) (.t 22)⟩,⟨none,none,.st 2 (.t 8) (.t 23)⟩]) (
.seq (
.seq (
.reg [⟨some 9,none,.mov (.c (.int .i64 1))⟩]) (
.seq (
.blk 0 (
.loop [4,5,6,7,8,9] c244_0)) (
.kp [4,7]))) (
.seq (
.reg [⟨some 55,none,.ld 2 true (.t 7)⟩,⟨none,none,.st 2 (.t 4) (.t 55)⟩]) (
.ret))))))⟩
/- math.IsInf -/
def c245 : Fnc := ⟨[.t 4],
.seq (
.reg [⟨some 4,none,.mov (.c (.bool false))⟩]) (
.seq (
.seq (
.reg [⟨some 5,none,.mov (.t 1)⟩,⟨some 6,none,.bin .eql (.t 5) (.c (.int .i64 0))⟩]) (
.cond (.t 6) (
 .reg [⟨some 7,none,.mov (.t 0)⟩,
   ⟨some 8,none,.call .pure (.c (.fn (.f 252) [] [])) [.t 7]⟩,
   ⟨some 0,none,.mov (.t 8)⟩]) (
 .seq (
 .reg [⟨some 9,none,.mov (.t 1)⟩,
   ⟨some 10,none,.bin .lss (.t 9) (.c (.int .i64 0))⟩]) (
 .cond (.t 10) (
  .reg [⟨some 11,none,.mov (.t 0)⟩,
    ⟨some 12,none,.un .neg (.t 11)⟩,
    ⟨some 0,none,.mov (.t 12)⟩]) (
  .skip))))) (
.seq (
.reg [⟨some 13,none,.mov (.t 0)⟩,⟨some 14,none,.bin .gtr (.t 13) (.c (.flt .f64 9218868437227405311))⟩,⟨some 4,none,.mov (.t 14)⟩]) (
.ret)))⟩
/- math.IsNaN -/
def c246 : Fnc := ⟨[.t 2],
.seq (
.reg [⟨some 2,none,.mov (.c (.bool false))⟩]) (
.seq (
.reg [⟨some 3,none,.mov (.t 0)⟩,⟨some 4,none,.mov (.t 0)⟩,⟨some 5,none,.bin .neq (.t 3) (.t 4)⟩,⟨some 2,none,.mov (.t 5)⟩]) (
.ret))⟩
/- math.normalize -/
def c247 : Fnc := ⟨[.t 2,.t 3],
.seq (
.reg [⟨some 2,none,.mov (.c (.flt .f64 0))⟩,⟨some 3,none,.mov (.c (.int .i64 0))⟩]) (
.seq (
.seq (
.reg [⟨some 4,none,.mov (.t 0)⟩,⟨some 5,none,.call .pure (.c (.fn (.f 252) [] [])) [.t 4]⟩,⟨some 6,none,.bin .lss (.t 5) (.c (.flt .f64 4503599627370496))⟩]) (
.cond (.t 6) (
 .seq (
 .reg [⟨some 7,none,.mov (.t 0)⟩,
   ⟨some 8,none,.bin .mul (.t 7) (.c (.flt .f64 4841369599423283200))⟩,
   ⟨some 2,none,.mov (.t 8)⟩,
   ⟨some 3,none,.mov (.c (.int .i64 (-52)))⟩]) (
 .ret)) (
 .skip))) (
.seq (
.reg [⟨some 9,none,.mov (.t 0)⟩,⟨some 2,none,.mov (.t 9)⟩,⟨some 3,none,.mov (.c (.int .i64 0))⟩]) (
.ret)))⟩
/- math.Copysign -/
def c249 : Fnc := ⟨[.t 4],
.seq (
.reg [⟨some 4,none,.mov (.c (.flt .f64 0))⟩]) (
.seq (
.reg [⟨some 5,none,.mov (.t 0)⟩,⟨some 6,none,.call .pure (.c (.fn (.f 248) [] [])) [.t 5]⟩,⟨some 7,none,.bin .andNot (.t 6) (.c (.int .u64 9223372036854775808))⟩,⟨some 8,none,.mov (.t 1)⟩,⟨some 9,none,.call .pure (.c (.fn (.f 248) [] [])) [.t 8]⟩,⟨some 10,none,.bin .and (.t 9) (.c (.int .u64 9223372036854775808))⟩,⟨some 11,none,.bin .or (.t 7) (.t 10)⟩,⟨some 12,none,.call .pure (.c (.fn (.f 251) [] [])) [.t 11]⟩,⟨some 4,none,.mov (.t 12)⟩]) (
.ret))⟩
/- math.Inf -/
def c250 : Fnc := ⟨[.t 2],
.seq (
.reg [⟨some 2,none,.mov (.c (.flt .f64 0))⟩]) (
.seq (
.reg [⟨some 3,none,.mov (.c (.int .u64 0))⟩]) (
.seq (
.seq (
.reg [⟨some 4,none,.mov (.t 0)⟩,⟨some 5,none,.bin .geq (.t 4) (.c (.int .i64 0))⟩]) (
.cond (.t 5) (
 .reg [⟨some 3,none,.mov (.c (.int .u64 9218868437227405312))⟩]) (
 .reg [⟨some 3,none,.mov (.c (.int .u64 18442240474082181120))⟩]))) (
.seq (
.reg [⟨some 6,none,.mov (.t 3)⟩,⟨some 7,none,.call .pure (.c (.fn (.f 251) [] [])) [.t 6]⟩,⟨some 2,none,.mov (.t 7)⟩]) (
.ret))))⟩
/- math.Abs -/
def c252 : Fnc := ⟨[.t 2],
.seq (
.reg [⟨some 2,none,.mov (.c (.flt .f64 0))⟩]) (
.seq (
.reg [⟨some 3,none,.mov (.t 0)⟩,⟨some 4,none,.call .pure (.c (.fn (.f 248) [] [])) [.t 3]⟩,⟨some 5,none,.bin .andNot (.t 4) (.c (.int .u64 9223372036854775808))⟩,⟨some 6,none,.call .pure (.c (.fn (.f 251) [] [])) [.t 5]⟩,⟨some 2,none,.mov (.t 6)⟩]) (
.ret))⟩
end VE
