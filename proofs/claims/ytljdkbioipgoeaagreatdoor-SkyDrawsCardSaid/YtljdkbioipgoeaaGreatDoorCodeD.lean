import Derived.Test.YtljdkbioipgoeaaGreatDoorCode
set_option linter.all false
/- SkyDraws, as the small machine has it (made by Tool gen). -/
set_option maxRecDepth 100000
namespace VE
open Go
/- lenslet/lensletlaw07.SkyDraws -/
def c176_0 : VC :=
.seq (
.reg [⟨some 86, none, .bin .lss (.t 85) (.t 84)⟩]) (
.seq (
.cond (.t 86) (
 .skip) (
 .exit 0)) (
.seq (
.blk 1 (
.seq (
.reg [⟨some 87, none, .ixa 1 (.t 83) (.t 85)⟩,
  ⟨some 88, none, .ld 1 false (.t 87)⟩,
  ⟨some 12, none, .mov (.t 88)⟩]) (
.reg [⟨some 89, none, .mov (.t 10)⟩,
  ⟨some 90, none, .mov (.t 12)⟩,
  ⟨some 91, none, .bin .add (.t 89) (.t 90)⟩,
  ⟨some 10, none, .mov (.t 91)⟩]))) (
.reg [⟨some 92, none, .bin .add (.t 85) (.c (.int .i64 1))⟩,
  ⟨some 85, none, .mov (.t 92)⟩])))
def c176_1 : VC :=
.seq (
.reg [⟨some 112, none, .bin .lss (.t 111) (.t 110)⟩]) (
.seq (
.cond (.t 112) (
 .skip) (
 .exit 4)) (
.seq (
.blk 5 (
.seq (
.reg [⟨some 113, none, .ixa 1 (.t 109) (.t 111)⟩,
  ⟨some 114, none, .ld 1 false (.t 113)⟩,
  ⟨some 15, none, .mov (.t 114)⟩]) (
.seq (
.reg [⟨some 115, none, .mov (.t 15)⟩,
  ⟨some 116, none, .mov (.t 9)⟩,
  ⟨some 117, none, .un .neg (.t 116)⟩,
  ⟨some 118, none, .bin .lss (.t 115) (.t 117)⟩,
  ⟨some 119, none, .mov (.t 118)⟩,
  ⟨some 120, some (119, false), .mov (.t 15)⟩,
  ⟨some 121, some (119, false), .mov (.t 9)⟩,
  ⟨some 122, some (119, false), .bin .gtr (.t 120) (.t 121)⟩,
  ⟨some 123, none, .pick (.t 119) (.c (.bool true)) (.t 122)⟩,
  ⟨some 124, none, .mov (.t 123)⟩,
  ⟨some 125, some (124, false), .off 2 (.t 3)⟩,
  ⟨some 126, some (124, false), .ld 1 false (.t 125)⟩,
  ⟨some 127, some (124, false), .mov (.t 15)⟩,
  ⟨some 128, some (124, false), .mov (.t 9)⟩,
  ⟨some 129, some (124, false), .bin .add (.t 127) (.t 128)⟩,
  ⟨some 130, some (124, false), .ixa 1 (.t 126) (.t 129)⟩,
  ⟨some 131, some (124, false), .ld 1 false (.t 130)⟩,
  ⟨some 132, some (124, false), .bin .eql (.t 131) (.c (.int .i64 0))⟩,
  ⟨some 133, none, .pick (.t 124) (.c (.bool true)) (.t 132)⟩]) (
.cond (.t 133) (
 .seq (
 .reg [⟨some 6, none, .mov (.c (.bool false))⟩]) (
 .ret)) (
 .skip))))) (
.reg [⟨some 134, none, .bin .add (.t 111) (.c (.int .i64 1))⟩,
  ⟨some 111, none, .mov (.t 134)⟩])))
def c176_2 : VC :=
.seq (
.reg [⟨some 96, none, .bin .lss (.t 95) (.t 94)⟩]) (
.seq (
.cond (.t 96) (
 .skip) (
 .exit 2)) (
.seq (
.blk 3 (
.seq (
.reg [⟨some 97, none, .mov (.t 95)⟩,
  ⟨some 13, none, .mov (.t 97)⟩]) (
.seq (
.seq (
.reg [⟨some 98, none, .mov (.t 7)⟩,
  ⟨some 99, none, .mov (.t 13)⟩,
  ⟨some 100, none, .ixa 1 (.t 98) (.t 99)⟩,
  ⟨some 101, none, .ld 1 false (.t 100)⟩,
  ⟨some 102, none, .len 1 (.t 101)⟩,
  ⟨some 103, none, .off 1 (.t 3)⟩,
  ⟨some 104, none, .ld 1 false (.t 103)⟩,
  ⟨some 105, none, .bin .neq (.t 102) (.t 104)⟩]) (
.cond (.t 105) (
 .seq (
 .reg [⟨some 6, none, .mov (.c (.bool false))⟩]) (
 .ret)) (
 .skip))) (
.seq (
.reg [⟨some 106, none, .mov (.t 7)⟩,
  ⟨some 107, none, .mov (.t 13)⟩,
  ⟨some 108, none, .ixa 1 (.t 106) (.t 107)⟩,
  ⟨some 109, none, .ld 1 false (.t 108)⟩,
  ⟨some 110, none, .len 1 (.t 109)⟩,
  ⟨some 111, none, .mov (.c (.int .i64 0))⟩]) (
.seq (
.blk 4 (
.loop [1, 3, 5, 7, 9, 10, 94, 95, 109, 110, 111] c176_1)) (
.kp [1, 3, 5, 7, 9, 10, 94, 95])))))) (
.reg [⟨some 135, none, .bin .add (.t 95) (.c (.int .i64 1))⟩,
  ⟨some 95, none, .mov (.t 135)⟩])))
def c176_3 : VC :=
.seq (
.seq (
.reg [⟨some 144, none, .mov (.t 17)⟩,
  ⟨some 145, none, .mov (.t 7)⟩,
  ⟨some 146, none, .ixa 1 (.t 145) (.c (.int .i64 0))⟩,
  ⟨some 147, none, .ld 1 false (.t 146)⟩,
  ⟨some 148, none, .ixa 1 (.t 147) (.c (.int .i64 0))⟩,
  ⟨some 149, none, .ld 1 false (.t 148)⟩,
  ⟨some 150, none, .bin .lss (.t 144) (.t 149)⟩]) (
.cond (.t 150) (
 .skip) (
 .exit 6))) (
.seq (
.blk 7 (
.reg [⟨some 153, none, .mov (.t 16)⟩,
  ⟨some 154, none, .off 2 (.t 3)⟩,
  ⟨some 155, none, .ld 1 false (.t 154)⟩,
  ⟨some 156, none, .mov (.t 17)⟩,
  ⟨some 157, none, .mov (.t 9)⟩,
  ⟨some 158, none, .bin .add (.t 156) (.t 157)⟩,
  ⟨some 159, none, .ixa 1 (.t 155) (.t 158)⟩,
  ⟨some 160, none, .ld 1 false (.t 159)⟩,
  ⟨some 161, none, .bin .sub (.t 153) (.t 160)⟩,
  ⟨some 16, none, .mov (.t 161)⟩])) (
.reg [⟨some 151, none, .mov (.t 17)⟩,
  ⟨some 152, none, .bin .add (.t 151) (.c (.int .i64 1))⟩,
  ⟨some 17, none, .mov (.t 152)⟩]))
def c176 : Fnc := ⟨[.t 6],
.seq (
.reg [⟨some 3, none, .box 3 (.t 0)⟩,
  ⟨some 5, none, .box 2 (.t 2)⟩,
  ⟨some 6, none, .mov (.c (.bool false))⟩]) (
.seq (
.seq (
.reg [⟨some 25, none, .call .pure (.c (.fn (.f 1) [] [])) []⟩,
  ⟨some 26, none, .un .not (.t 25)⟩,
  ⟨some 27, none, .mov (.t 26)⟩,
  ⟨some 28, some (27, false), .off 0 (.t 3)⟩,
  ⟨some 29, some (27, false), .ld 1 false (.t 28)⟩,
  ⟨some 30, some (27, false), .off 1 (.t 3)⟩,
  ⟨some 31, some (27, false), .ld 1 false (.t 30)⟩,
  ⟨some 32, some (27, false), .off 2 (.t 3)⟩,
  ⟨some 33, some (27, false), .ld 1 false (.t 32)⟩,
  ⟨some 34, some (27, false), .call .pure (.c (.fn (.f 6) [] [])) [(.t 29), (.t 31), (.t 33)]⟩,
  ⟨some 35, some (27, false), .bin .neq (.t 34) (.c (.int .i64 0))⟩,
  ⟨some 36, none, .pick (.t 27) (.c (.bool true)) (.t 35)⟩,
  ⟨some 37, none, .mov (.t 36)⟩,
  ⟨some 38, some (37, false), .off 1 (.t 3)⟩,
  ⟨some 39, some (37, false), .ld 1 false (.t 38)⟩,
  ⟨some 40, some (37, false), .bin .gtr (.t 39) (.c (.int .i64 6))⟩,
  ⟨some 41, none, .pick (.t 37) (.c (.bool true)) (.t 40)⟩,
  ⟨some 42, none, .mov (.t 41)⟩,
  ⟨some 43, some (42, false), .off 2 (.t 3)⟩,
  ⟨some 44, some (42, false), .ld 1 false (.t 43)⟩,
  ⟨some 45, some (42, false), .len 1 (.t 44)⟩,
  ⟨some 46, some (42, false), .bin .gtr (.t 45) (.c (.int .i64 9))⟩,
  ⟨some 47, none, .pick (.t 42) (.c (.bool true)) (.t 46)⟩,
  ⟨some 48, none, .mov (.t 47)⟩,
  ⟨some 49, some (48, false), .mov (.t 1)⟩,
  ⟨some 50, some (48, false), .len 1 (.t 49)⟩,
  ⟨some 51, some (48, false), .bin .gtr (.t 50) (.c (.int .i64 6))⟩,
  ⟨some 52, none, .pick (.t 48) (.c (.bool true)) (.t 51)⟩,
  ⟨some 53, none, .mov (.t 52)⟩,
  ⟨some 54, some (53, false), .mov (.t 1)⟩,
  ⟨some 55, some (53, false), .call .pure (.c (.fn (.f 3) [] [])) [(.t 54)]⟩,
  ⟨some 56, some (53, false), .bin .neq (.t 55) (.c (.int .i64 0))⟩,
  ⟨some 57, none, .pick (.t 53) (.c (.bool true)) (.t 56)⟩]) (
.cond (.t 57) (
 .seq (
 .reg [⟨some 58, none, .call .pure (.c (.fn (.f 1) [] [])) []⟩,
   ⟨some 6, none, .mov (.t 58)⟩]) (
 .ret)) (
 .skip))) (
.seq (
.reg [⟨some 60, none, .off 0 (.t 3)⟩,
  ⟨some 61, none, .ld 1 false (.t 60)⟩,
  ⟨some 62, none, .off 1 (.t 3)⟩,
  ⟨some 63, none, .ld 1 false (.t 62)⟩,
  ⟨some 64, none, .off 2 (.t 3)⟩,
  ⟨some 65, none, .ld 1 false (.t 64)⟩,
  ⟨some 66, none, .call .pure (.c (.fn (.f 5) [] [])) [(.t 61), (.t 63), (.t 65)]⟩,
  ⟨some 59, none, .mov (.t 66)⟩,
  ⟨some 67, none, .ext 0 (.t 59)⟩,
  ⟨some 68, none, .ext 1 (.t 59)⟩,
  ⟨some 7, none, .mov (.t 67)⟩,
  ⟨some 8, none, .mov (.t 68)⟩]) (
.seq (
.seq (
.reg [⟨some 69, none, .mov (.t 8)⟩,
  ⟨some 70, none, .bin .neq (.t 69) (.c (.int .i64 0))⟩,
  ⟨some 71, none, .mov (.t 70)⟩,
  ⟨some 72, some (71, false), .mov (.t 7)⟩,
  ⟨some 73, some (71, false), .len 1 (.t 72)⟩,
  ⟨some 74, some (71, false), .off 1 (.t 3)⟩,
  ⟨some 75, some (71, false), .ld 1 false (.t 74)⟩,
  ⟨some 76, some (71, false), .bin .neq (.t 73) (.t 75)⟩,
  ⟨some 77, none, .pick (.t 71) (.c (.bool true)) (.t 76)⟩]) (
.cond (.t 77) (
 .seq (
 .reg [⟨some 6, none, .mov (.c (.bool false))⟩]) (
 .ret)) (
 .skip))) (
.seq (
.reg [⟨some 78, none, .off 2 (.t 3)⟩,
  ⟨some 79, none, .ld 1 false (.t 78)⟩,
  ⟨some 80, none, .len 1 (.t 79)⟩,
  ⟨some 81, none, .bin .quo (.t 80) (.c (.int .i64 2))⟩,
  ⟨some 9, none, .mov (.t 81)⟩,
  ⟨some 10, none, .mov (.c (.int .i64 0))⟩]) (
.seq (
.seq (
.reg [⟨some 82, none, .off 2 (.t 3)⟩,
  ⟨some 83, none, .ld 1 false (.t 82)⟩,
  ⟨some 84, none, .len 1 (.t 83)⟩,
  ⟨some 85, none, .mov (.c (.int .i64 0))⟩]) (
.seq (
.blk 0 (
.loop [1, 3, 5, 7, 9, 10, 83, 84, 85] c176_0)) (
.kp [1, 3, 5, 7, 9, 10]))) (
.seq (
.seq (
.reg [⟨some 93, none, .mov (.t 7)⟩,
  ⟨some 94, none, .len 1 (.t 93)⟩,
  ⟨some 95, none, .mov (.c (.int .i64 0))⟩]) (
.seq (
.blk 2 (
.loop [1, 3, 5, 7, 9, 10, 94, 95] c176_2)) (
.kp [1, 3, 5, 7, 9, 10]))) (
.seq (
.reg [⟨some 136, none, .off 0 (.t 3)⟩,
  ⟨some 137, none, .ld 1 false (.t 136)⟩,
  ⟨some 138, none, .bin .mul (.c (.int .i64 39373)) (.t 137)⟩,
  ⟨some 139, none, .bin .rem (.t 138) (.c (.int .i64 2147483647))⟩,
  ⟨some 140, none, .mov (.t 10)⟩,
  ⟨some 141, none, .bin .rem (.t 139) (.t 140)⟩,
  ⟨some 16, none, .mov (.t 141)⟩]) (
.seq (
.seq (
.reg [⟨some 142, none, .mov (.t 9)⟩,
  ⟨some 143, none, .un .neg (.t 142)⟩,
  ⟨some 17, none, .mov (.t 143)⟩]) (
.seq (
.blk 6 (
.loop [1, 3, 5, 7, 9, 16, 17] c176_3)) (
.kp [1, 3, 5, 7, 9, 16]))) (
.seq (
.seq (
.reg [⟨some 162, none, .mov (.t 16)⟩,
  ⟨some 163, none, .bin .lss (.t 162) (.c (.int .i64 0))⟩,
  ⟨some 164, none, .mov (.t 163)⟩,
  ⟨some 165, some (164, false), .mov (.t 16)⟩,
  ⟨some 166, some (164, false), .off 2 (.t 3)⟩,
  ⟨some 167, some (164, false), .ld 1 false (.t 166)⟩,
  ⟨some 168, some (164, false), .mov (.t 7)⟩,
  ⟨some 169, some (164, false), .ixa 1 (.t 168) (.c (.int .i64 0))⟩,
  ⟨some 170, some (164, false), .ld 1 false (.t 169)⟩,
  ⟨some 171, some (164, false), .ixa 1 (.t 170) (.c (.int .i64 0))⟩,
  ⟨some 172, some (164, false), .ld 1 false (.t 171)⟩,
  ⟨some 173, some (164, false), .mov (.t 9)⟩,
  ⟨some 174, some (164, false), .bin .add (.t 172) (.t 173)⟩,
  ⟨some 175, some (164, false), .ixa 1 (.t 167) (.t 174)⟩,
  ⟨some 176, some (164, false), .ld 1 false (.t 175)⟩,
  ⟨some 177, some (164, false), .bin .geq (.t 165) (.t 176)⟩,
  ⟨some 178, none, .pick (.t 164) (.c (.bool true)) (.t 177)⟩]) (
.cond (.t 178) (
 .seq (
 .reg [⟨some 6, none, .mov (.c (.bool false))⟩]) (
 .ret)) (
 .skip))) (
.seq (
.reg [⟨some 179, none, .mksl 3 1 [.int .i64 0, .int .i64 0, .int .i64 0] [(0, 1, (.c (.int .i64 0))), (1, 1, (.c (.int .i64 0))), (2, 1, (.c (.int .i64 0)))]⟩,
  ⟨some 180, none, .mksl 3 1 [.int .i64 0, .int .i64 0, .int .i64 0] [(0, 1, (.c (.int .i64 0))), (1, 1, (.c (.int .i64 0))), (2, 1, (.c (.int .i64 0)))]⟩,
  ⟨some 181, none, .mksl 3 1 [.int .i64 0, .int .i64 0, .int .i64 0] [(0, 1, (.c (.int .i64 0))), (1, 1, (.c (.int .i64 0))), (2, 1, (.c (.int .i64 0)))]⟩,
  ⟨some 182, none, .mksl 3 1 [.nils, .nils, .nils] [(0, 1, (.t 179)), (1, 1, (.t 180)), (2, 1, (.t 181))]⟩,
  ⟨some 18, none, .mov (.t 182)⟩]) (
.seq (
.reg [⟨some 183, none, .ixp 2 1 (.t 5) (.c (.int .i64 0))⟩,
  ⟨some 184, none, .ld 1 false (.t 183)⟩,
  ⟨some 185, none, .cv (.toInt .i64) (.t 184)⟩,
  ⟨some 186, none, .bin .rem (.t 185) (.c (.int .i64 3))⟩,
  ⟨some 187, none, .ixp 2 1 (.t 5) (.c (.int .i64 1))⟩,
  ⟨some 188, none, .ld 1 false (.t 187)⟩,
  ⟨some 189, none, .cv (.toInt .i64) (.t 188)⟩,
  ⟨some 190, none, .bin .rem (.t 189) (.c (.int .i64 3))⟩,
  ⟨some 19, none, .mov (.t 186)⟩,
  ⟨some 20, none, .mov (.t 190)⟩]) (
.seq (
.reg [⟨some 191, none, .mov (.t 18)⟩,
  ⟨some 192, none, .mov (.t 20)⟩,
  ⟨some 193, none, .ixa 1 (.t 191) (.t 192)⟩,
  ⟨some 194, none, .ld 1 false (.t 193)⟩,
  ⟨some 195, none, .mov (.t 19)⟩,
  ⟨some 196, none, .ixa 1 (.t 194) (.t 195)⟩,
  ⟨none, none, .st 1 (.t 196) (.c (.int .i64 1))⟩]) (
.seq (
.reg [⟨some 198, none, .mov (.t 1)⟩,
  ⟨some 199, none, .mov (.t 18)⟩,
  ⟨some 200, none, .call .pure (.c (.fn (.f 9) [] [])) [(.t 198), (.t 199)]⟩,
  ⟨some 197, none, .mov (.t 200)⟩,
  ⟨some 201, none, .ext 0 (.t 197)⟩,
  ⟨some 202, none, .ext 1 (.t 197)⟩,
  ⟨some 21, none, .mov (.t 201)⟩,
  ⟨some 22, none, .mov (.t 202)⟩]) (
.seq (
.reg [⟨some 204, none, .mov (.t 1)⟩,
  ⟨some 205, none, .mov (.t 19)⟩,
  ⟨some 206, none, .bin .sub (.c (.int .i64 1)) (.t 205)⟩,
  ⟨some 207, none, .mov (.t 20)⟩,
  ⟨some 208, none, .bin .sub (.c (.int .i64 1)) (.t 207)⟩,
  ⟨some 209, none, .call .pure (.c (.fn (.f 20) [] [])) [(.t 204), (.t 206), (.t 208)]⟩,
  ⟨some 203, none, .mov (.t 209)⟩,
  ⟨some 210, none, .ext 0 (.t 203)⟩,
  ⟨some 211, none, .ext 1 (.t 203)⟩,
  ⟨some 23, none, .mov (.t 210)⟩,
  ⟨some 24, none, .mov (.t 211)⟩]) (
.seq (
.reg [⟨some 212, none, .mov (.t 22)⟩,
  ⟨some 213, none, .mov (.t 24)⟩,
  ⟨some 214, none, .bin .add (.t 212) (.t 213)⟩,
  ⟨some 215, none, .bin .eql (.t 214) (.c (.int .i64 0))⟩,
  ⟨some 216, none, .mov (.t 215)⟩,
  ⟨some 217, some (216, true), .mov (.t 21)⟩,
  ⟨some 218, some (216, true), .mov (.t 23)⟩,
  ⟨some 219, some (216, true), .call .pure (.c (.fn (.f 21) [] [])) [(.t 217), (.t 218)]⟩,
  ⟨some 220, none, .pick (.t 216) (.t 219) (.c (.bool false))⟩,
  ⟨some 6, none, .mov (.t 220)⟩]) (
.ret))))))))))))))))⟩
end VE
