import Derived.Test.YteioemjpepbdgaaGreatDoorModel
set_option linter.all false
set_option maxRecDepth 100000
namespace VE
abbrev Rq (d : Nat) (o : Op) : ROp := ⟨some d, none, o⟩
def c0 : Fnc := ⟨[.t 6],
.seq (
.reg [Rq 3 (.box 3 (.t 0)),Rq 6 (.mov (.c (.bool false)))]) (
.seq (
.seq (
.reg [Rq 15 (.call .pure (.c (.fn (.f 1) [] [])) []),Rq 16 (.un .not (.t 15)),Rq 17 (.mov (.t 16)),⟨some 18,some (17,false),.mov (.t 1)⟩,⟨some 19,some (17,false),.call .pure (.c (.fn (.f 2) [] [])) [.t 18,.c (.int .i64 8)]⟩,⟨some 20,some (17,false),.un .not (.t 19)⟩,Rq 21 (.pick (.t 17) (.c (.bool true)) (.t 20)),Rq 22 (.mov (.t 21)),⟨some 23,some (22,false),.off 2 (.t 3)⟩,⟨some 24,some (22,false),.ld 1 false (.t 23)⟩,⟨some 25,some (22,false),.len 1 (.t 24)⟩,⟨some 26,some (22,false),.bin .gtr (.t 25) (.c (.int .i64 40))⟩,Rq 27 (.pick (.t 22) (.c (.bool true)) (.t 26)),Rq 28 (.mov (.t 27)),⟨some 29,some (28,false),.mov (.t 2)⟩,⟨some 30,some (28,false),.len 1 (.t 29)⟩,⟨some 31,some (28,false),.bin .gtr (.t 30) (.c (.int .i64 7))⟩,Rq 32 (.pick (.t 28) (.c (.bool true)) (.t 31)),Rq 33 (.mov (.t 32)),⟨some 34,some (33,false),.mov (.t 2)⟩,⟨some 35,some (33,false),.call .pure (.c (.fn (.f 2) [] [])) [.t 34,.c (.int .i64 7)]⟩,⟨some 36,some (33,false),.un .not (.t 35)⟩,Rq 37 (.pick (.t 33) (.c (.bool true)) (.t 36)),Rq 38 (.mov (.t 37)),⟨some 39,some (38,false),.off 1 (.t 3)⟩,⟨some 40,some (38,false),.ld 1 false (.t 39)⟩,⟨some 41,some (38,false),.bin .gtr (.t 40) (.c (.int .i64 8))⟩,⟨some 42,some (38,false),.mov (.t 41)⟩,⟨some 43,some (42,true),.off 1 (.t 3)⟩,⟨some 44,some (42,true),.ld 1 false (.t 43)⟩,⟨some 45,some (42,true),.bin .leq (.t 44) (.c (.int .i64 16))⟩,⟨some 46,some (38,false),.pick (.t 42) (.t 45) (.c (.bool false))⟩,Rq 47 (.pick (.t 38) (.c (.bool true)) (.t 46))]) (
.cond (.t 47) (
 .seq (
 .reg [Rq 48 (.call .pure (.c (.fn (.f 1) [] [])) []),
   Rq 6 (.mov (.t 48))]) (
 .ret)) (
 .skip))) (
.seq (
.reg [Rq 49 (.mov (.t 1)),Rq 50 (.call .pure (.c (.fn (.f 3) [] [])) [.t 49]),Rq 7 (.mov (.t 50))]) (
.seq (
.seq (
.reg [Rq 51 (.mov (.t 1)),Rq 52 (.call .pure (.c (.fn (.f 4) [] [])) [.t 51]),Rq 53 (.mov (.t 7)),Rq 54 (.bin .neq (.t 52) (.t 53))]) (
.cond (.t 54) (
 .seq (
 .reg [Rq 6 (.mov (.c (.bool false)))]) (
 .ret)) (
 .skip))) (
.seq (
.reg [Rq 56 (.off 0 (.t 3)),Rq 57 (.ld 1 false (.t 56)),Rq 58 (.off 1 (.t 3)),Rq 59 (.ld 1 false (.t 58)),Rq 60 (.off 2 (.t 3)),Rq 61 (.ld 1 false (.t 60)),Rq 62 (.call .pure (.c (.fn (.f 5) [] [])) [.t 57,.t 59,.t 61]),Rq 55 (.mov (.t 62)),Rq 63 (.ext 0 (.t 55)),Rq 64 (.ext 1 (.t 55)),Rq 8 (.mov (.t 63)),Rq 9 (.mov (.t 64))]) (
.seq (
.reg [Rq 65 (.off 0 (.t 3)),Rq 66 (.ld 1 false (.t 65)),Rq 67 (.off 1 (.t 3)),Rq 68 (.ld 1 false (.t 67)),Rq 69 (.off 2 (.t 3)),Rq 70 (.ld 1 false (.t 69)),Rq 71 (.call .pure (.c (.fn (.f 6) [] [])) [.t 66,.t 68,.t 70]),Rq 10 (.mov (.t 71))]) (
.seq (
.seq (
.reg [Rq 72 (.mov (.t 10)),Rq 73 (.bin .neq (.t 72) (.c (.int .i64 0))),Rq 74 (.mov (.t 73)),⟨some 75,some (74,true),.mov (.t 8)⟩,⟨some 76,some (74,true),.mov (.t 9)⟩,⟨some 77,some (74,true),.mov (.t 10)⟩,⟨some 78,some (74,true),.call .pure (.c (.fn (.f 7) [] [])) [.t 75,.t 76,.t 77,.c (.nils)]⟩,⟨some 79,some (74,true),.un .not (.t 78)⟩,Rq 80 (.pick (.t 74) (.t 79) (.c (.bool false))),Rq 81 (.mov (.t 80)),⟨some 82,some (81,false),.mov (.t 10)⟩,⟨some 83,some (81,false),.bin .eql (.t 82) (.c (.int .i64 0))⟩,⟨some 84,some (81,false),.mov (.t 83)⟩,⟨some 85,some (84,true),.mov (.t 8)⟩,⟨some 86,some (84,true),.mov (.t 9)⟩,⟨some 87,some (84,true),.off 0 (.t 3)⟩,⟨some 88,some (84,true),.ld 1 false (.t 87)⟩,⟨some 89,some (84,true),.off 1 (.t 3)⟩,⟨some 90,some (84,true),.ld 1 false (.t 89)⟩,⟨some 91,some (84,true),.off 2 (.t 3)⟩,⟨some 92,some (84,true),.ld 1 false (.t 91)⟩,⟨some 93,some (84,true),.call .pure (.c (.fn (.f 8) [] [])) [.t 88,.t 90,.t 92]⟩,⟨some 94,some (84,true),.call .pure (.c (.fn (.f 7) [] [])) [.t 85,.t 86,.c (.int .i64 0),.t 93]⟩,⟨some 95,some (84,true),.un .not (.t 94)⟩,⟨some 96,some (81,false),.pick (.t 84) (.t 95) (.c (.bool false))⟩,Rq 97 (.pick (.t 81) (.c (.bool true)) (.t 96))]) (
.cond (.t 97) (
 .seq (
 .reg [Rq 6 (.mov (.c (.bool false)))]) (
 .ret)) (
 .skip))) (
.seq (
.reg [Rq 99 (.mov (.t 1)),Rq 100 (.mov (.t 2)),Rq 101 (.call .pure (.c (.fn (.f 9) [] [])) [.t 99,.t 100]),Rq 98 (.mov (.t 101)),Rq 102 (.ext 0 (.t 98)),Rq 103 (.ext 1 (.t 98)),Rq 11 (.mov (.t 102)),Rq 12 (.mov (.t 103))]) (
.seq (
.reg [Rq 104 (.mov (.t 7)),Rq 105 (.mov (.t 2)),Rq 106 (.call .pure (.c (.fn (.f 10) [] [])) [.t 105]),Rq 107 (.mksl 2 1 [.int .i64 0,.int .i64 0] [(0,1,(.t 104)),(1,1,(.t 106))]),Rq 108 (.call .pure (.c (.fn (.f 11) [] [])) [.t 107]),Rq 7 (.mov (.t 108))]) (
.seq (
.seq (
.reg [Rq 109 (.mov (.t 7)),Rq 110 (.bin .neq (.t 109) (.c (.int .i64 0)))]) (
.cond (.t 110) (
 .seq (
 .reg [Rq 111 (.mov (.t 11)),
   Rq 112 (.mov (.t 12)),
   Rq 113 (.mov (.t 7)),
   Rq 114 (.call .pure (.c (.fn (.f 7) [] [])) [.t 111,.t 112,.t 113,.c (.nils)]),
   Rq 6 (.mov (.t 114))]) (
 .ret)) (
 .skip))) (
.seq (
.reg [Rq 116 (.mov (.t 1)),Rq 117 (.mov (.t 2)),Rq 118 (.call .pure (.c (.fn (.f 12) [] [])) [.t 116,.t 117]),Rq 115 (.mov (.t 118)),Rq 119 (.ext 0 (.t 115)),Rq 120 (.ext 1 (.t 115)),Rq 13 (.mov (.t 119)),Rq 14 (.mov (.t 120))]) (
.seq (
.reg [Rq 121 (.mov (.t 11)),Rq 122 (.mov (.t 12)),Rq 123 (.mov (.t 14)),Rq 124 (.un .not (.t 123)),Rq 125 (.call .pure (.c (.fn (.f 13) [] [])) [.t 124,.c (.int .i64 4)]),Rq 126 (.mov (.t 13)),Rq 127 (.call .pure (.c (.fn (.f 7) [] [])) [.t 121,.t 122,.t 125,.t 126]),Rq 6 (.mov (.t 127))]) (
.ret))))))))))))⟩
def c1 : Fnc := ⟨[.t 0],
.seq (
.reg [Rq 0 (.mov (.c (.bool false)))]) (
.seq (
.reg [Rq 33 (.call .pure (.c (.fn (.f 14) [] [])) [.c (.str [49,47,49,48]),.c (.str [48])]),Rq 34 (.mkagg [.str [],.str [],.str []] [(0,2,(.t 33)),(2,1,(.c (.str [48])))]),Rq 35 (.call .pure (.c (.fn (.f 14) [] [])) [.c (.str [48]),.c (.str [48])]),Rq 36 (.mkagg [.str [],.str [],.str []] [(0,2,(.t 35)),(2,1,(.c (.str [49,48])))]),Rq 1 (.box 3 (.c (.agg [.str [],.str [],.str []]))),Rq 2 (.box 3 (.c (.agg [.str [],.str [],.str []]))),⟨none,none,.st 3 (.t 1) (.t 34)⟩,⟨none,none,.st 3 (.t 2) (.t 36)⟩]) (
.seq (
.reg [Rq 38 (.call .pure (.c (.fn (.f 15) [] [])) []),Rq 39 (.call .pure (.c (.fn (.f 16) [] [])) [.t 38]),Rq 37 (.mov (.t 39)),Rq 40 (.ext 0 (.t 37)),Rq 41 (.ext 1 (.t 37)),Rq 3 (.mov (.t 40)),Rq 4 (.mov (.t 41))]) (
.seq (
.reg [Rq 43 (.call .pure (.c (.fn (.f 15) [] [])) []),Rq 44 (.call .pure (.c (.fn (.f 17) [] [])) [.t 43]),Rq 42 (.mov (.t 44)),Rq 45 (.ext 0 (.t 42)),Rq 46 (.ext 1 (.t 42)),Rq 5 (.mov (.t 45)),Rq 6 (.mov (.t 46))]) (
.seq (
.reg [Rq 48 (.call .pure (.c (.fn (.f 15) [] [])) []),Rq 49 (.call .pure (.c (.fn (.f 18) [] [])) [.t 48,.c (.int .i64 1),.c (.int .i64 0)]),Rq 47 (.mov (.t 49)),Rq 50 (.ext 0 (.t 47)),Rq 51 (.ext 1 (.t 47)),Rq 7 (.mov (.t 50)),Rq 8 (.mov (.t 51))]) (
.seq (
.reg [Rq 53 (.call .pure (.c (.fn (.f 15) [] [])) []),Rq 54 (.call .pure (.c (.fn (.f 14) [] [])) [.c (.str [49,47,50]),.c (.str [49,47,50])]),Rq 55 (.call .pure (.c (.fn (.f 19) [] [])) [.t 53,.t 54]),Rq 52 (.mov (.t 55)),Rq 56 (.ext 0 (.t 52)),Rq 57 (.ext 1 (.t 52)),Rq 9 (.mov (.t 56)),Rq 10 (.mov (.t 57))]) (
.seq (
.reg [Rq 59 (.call .pure (.c (.fn (.f 15) [] [])) []),Rq 60 (.call .pure (.c (.fn (.f 14) [] [])) [.c (.str [51,47,50]),.c (.str [48])]),Rq 61 (.call .pure (.c (.fn (.f 19) [] [])) [.t 59,.t 60]),Rq 58 (.mov (.t 61)),Rq 62 (.ext 0 (.t 58)),Rq 63 (.ext 1 (.t 58)),Rq 11 (.mov (.t 62)),Rq 12 (.mov (.t 63))]) (
.seq (
.reg [Rq 65 (.call .pure (.c (.fn (.f 15) [] [])) []),Rq 66 (.call .pure (.c (.fn (.f 20) [] [])) [.t 65,.c (.int .i64 1),.c (.int .i64 0)]),Rq 64 (.mov (.t 66)),Rq 67 (.ext 0 (.t 64)),Rq 68 (.ext 1 (.t 64)),Rq 13 (.mov (.t 67)),Rq 14 (.mov (.t 68))]) (
.seq (
.reg [Rq 70 (.mksl 5 1 [.int .i64 0,.int .i64 0,.int .i64 0,.int .i64 0,.int .i64 0] [(0,1,(.c (.int .i64 1))),(1,1,(.c (.int .i64 1))),(2,1,(.c (.int .i64 1))),(3,1,(.c (.int .i64 1))),(4,1,(.c (.int .i64 1)))]),Rq 71 (.call .pure (.c (.fn (.f 5) [] [])) [.c (.int .i64 1),.c (.int .i64 2),.t 70]),Rq 69 (.mov (.t 71)),Rq 72 (.ext 0 (.t 69)),Rq 73 (.ext 1 (.t 69)),Rq 15 (.mov (.t 72)),Rq 16 (.mov (.t 73))]) (
.seq (
.reg [Rq 75 (.call .pure (.c (.fn (.f 15) [] [])) []),Rq 76 (.mksl 3 1 [.int .i64 0,.int .i64 0,.int .i64 0] [(0,1,(.c (.int .i64 0))),(1,1,(.c (.int .i64 1))),(2,1,(.c (.int .i64 0)))]),Rq 77 (.mksl 3 1 [.int .i64 0,.int .i64 0,.int .i64 0] [(0,1,(.c (.int .i64 0))),(1,1,(.c (.int .i64 1))),(2,1,(.c (.int .i64 0)))]),Rq 78 (.mksl 3 1 [.int .i64 0,.int .i64 0,.int .i64 0] [(0,1,(.c (.int .i64 0))),(1,1,(.c (.int .i64 0))),(2,1,(.c (.int .i64 0)))]),Rq 79 (.mksl 3 1 [.nils,.nils,.nils] [(0,1,(.t 76)),(1,1,(.t 77)),(2,1,(.t 78))]),Rq 80 (.call .pure (.c (.fn (.f 9) [] [])) [.t 75,.t 79]),Rq 74 (.mov (.t 80)),Rq 81 (.ext 0 (.t 74)),Rq 82 (.ext 1 (.t 74)),Rq 17 (.mov (.t 81)),Rq 18 (.mov (.t 82))]) (
.seq (
.seq (
.reg [Rq 83 (.mov (.t 4)),Rq 84 (.mov (.t 6)),Rq 85 (.bin .add (.t 83) (.t 84)),Rq 86 (.mov (.t 8)),Rq 87 (.bin .add (.t 85) (.t 86)),Rq 88 (.mov (.t 10)),Rq 89 (.bin .add (.t 87) (.t 88)),Rq 90 (.mov (.t 12)),Rq 91 (.bin .add (.t 89) (.t 90)),Rq 92 (.mov (.t 14)),Rq 93 (.bin .add (.t 91) (.t 92)),Rq 94 (.mov (.t 16)),Rq 95 (.bin .add (.t 93) (.t 94)),Rq 96 (.mov (.t 18)),Rq 97 (.bin .add (.t 95) (.t 96)),Rq 98 (.bin .neq (.t 97) (.c (.int .i64 0))),Rq 99 (.mov (.t 98)),⟨some 100,some (99,false),.mov (.t 3)⟩,⟨some 101,some (99,false),.bin .neq (.t 100) (.c (.str [51,47,50]))⟩,Rq 102 (.pick (.t 99) (.c (.bool true)) (.t 101)),Rq 103 (.mov (.t 102)),⟨some 104,some (103,false),.mov (.t 5)⟩,⟨some 105,some (103,false),.bin .neq (.t 104) (.c (.str [53,47,52]))⟩,Rq 106 (.pick (.t 103) (.c (.bool true)) (.t 105)),Rq 107 (.mov (.t 106)),⟨some 108,some (107,false),.mov (.t 7)⟩,⟨some 109,some (107,false),.bin .neq (.t 108) (.c (.str [49]))⟩,Rq 110 (.pick (.t 107) (.c (.bool true)) (.t 109)),Rq 111 (.mov (.t 110)),⟨some 112,some (111,false),.mov (.t 9)⟩,⟨some 113,some (111,false),.bin .neq (.t 112) (.c (.str [51,47,50]))⟩,Rq 114 (.pick (.t 111) (.c (.bool true)) (.t 113)),Rq 115 (.mov (.t 114)),⟨some 116,some (115,false),.mov (.t 11)⟩,⟨some 117,some (115,false),.bin .neq (.t 116) (.c (.str [49,47,50]))⟩,Rq 118 (.pick (.t 115) (.c (.bool true)) (.t 117)),Rq 119 (.mov (.t 118)),⟨some 120,some (119,false),.mov (.t 13)⟩,⟨some 121,some (119,false),.mksl 2 1 [.int .i64 0,.int .i64 0] [(0,1,(.c (.int .i64 1))),(1,1,(.c (.int .i64 0)))]⟩,⟨some 122,some (119,false),.mksl 2 1 [.int .i64 0,.int .i64 0] [(0,1,(.c (.int .i64 3))),(1,1,(.c (.int .i64 2)))]⟩,⟨some 123,some (119,false),.mksl 2 1 [.nils,.nils] [(0,1,(.t 121)),(1,1,(.t 122))]⟩,⟨some 124,some (119,false),.call .pure (.c (.fn (.f 21) [] [])) [.t 120,.t 123]⟩,⟨some 125,some (119,false),.un .not (.t 124)⟩,Rq 126 (.pick (.t 119) (.c (.bool true)) (.t 125)),Rq 127 (.mov (.t 126)),⟨some 128,some (127,false),.mov (.t 15)⟩,⟨some 129,some (127,false),.mksl 2 1 [.int .i64 0,.int .i64 0] [(0,1,(.c (.int .i64 1))),(1,1,(.c (.int .i64 2)))]⟩,⟨some 130,some (127,false),.mksl 2 1 [.int .i64 0,.int .i64 0] [(0,1,(.c (.int .i64 1))),(1,1,(.c (.int .i64 2)))]⟩,⟨some 131,some (127,false),.mksl 2 1 [.nils,.nils] [(0,1,(.t 129)),(1,1,(.t 130))]⟩,⟨some 132,some (127,false),.call .pure (.c (.fn (.f 21) [] [])) [.t 128,.t 131]⟩,⟨some 133,some (127,false),.un .not (.t 132)⟩,Rq 134 (.pick (.t 127) (.c (.bool true)) (.t 133)),Rq 135 (.mov (.t 134)),⟨some 136,some (135,false),.mov (.t 17)⟩,⟨some 137,some (135,false),.mksl 2 1 [.int .i64 0,.int .i64 0] [(0,1,(.c (.int .i64 2))),(1,1,(.c (.int .i64 4)))]⟩,⟨some 138,some (135,false),.mksl 2 1 [.int .i64 0,.int .i64 0] [(0,1,(.c (.int .i64 2))),(1,1,(.c (.int .i64 4)))]⟩,⟨some 139,some (135,false),.mksl 2 1 [.nils,.nils] [(0,1,(.t 137)),(1,1,(.t 138))]⟩,⟨some 140,some (135,false),.call .pure (.c (.fn (.f 21) [] [])) [.t 136,.t 139]⟩,⟨some 141,some (135,false),.un .not (.t 140)⟩,Rq 142 (.pick (.t 135) (.c (.bool true)) (.t 141))]) (
.cond (.t 142) (
 .seq (
 .reg [Rq 0 (.mov (.c (.bool false)))]) (
 .ret)) (
 .skip))) (
.seq (
.reg [Rq 144 (.ld 3 true (.t 1)),Rq 145 (.call .pure (.c (.fn (.f 14) [] [])) [.c (.str [48]),.c (.str [49])]),Rq 146 (.call .pure (.c (.fn (.f 22) [] [])) [.t 144,.c (.str [53]),.t 145]),Rq 143 (.mov (.t 146)),Rq 147 (.ext 0 (.t 143)),Rq 148 (.ext 1 (.t 143)),Rq 19 (.box 2 (.c (.agg [.str [],.str []]))),⟨none,none,.st 2 (.t 19) (.t 147)⟩,Rq 20 (.mov (.t 148))]) (
.seq (
.reg [Rq 150 (.ld 3 true (.t 2)),Rq 151 (.call .pure (.c (.fn (.f 14) [] [])) [.c (.str [48]),.c (.str [49])]),Rq 152 (.call .pure (.c (.fn (.f 22) [] [])) [.t 150,.c (.str [53]),.t 151]),Rq 149 (.mov (.t 152)),Rq 153 (.ext 0 (.t 149)),Rq 154 (.ext 1 (.t 149)),Rq 21 (.box 2 (.c (.agg [.str [],.str []]))),⟨none,none,.st 2 (.t 21) (.t 153)⟩,Rq 22 (.mov (.t 154))]) (
.seq (
.reg [Rq 156 (.call .pure (.c (.fn (.f 23) [] [])) []),Rq 157 (.ld 3 true (.t 1)),Rq 158 (.call .pure (.c (.fn (.f 14) [] [])) [.c (.str [48]),.c (.str [49])]),Rq 159 (.call .pure (.c (.fn (.f 24) [] [])) [.t 156,.t 157,.t 158,.c (.int .i64 1)]),Rq 155 (.mov (.t 159)),Rq 160 (.ext 0 (.t 155)),Rq 161 (.ext 1 (.t 155)),Rq 23 (.mov (.t 160)),Rq 24 (.mov (.t 161))]) (
.seq (
.reg [Rq 163 (.call .pure (.c (.fn (.f 23) [] [])) []),Rq 164 (.ld 3 true (.t 2)),Rq 165 (.call .pure (.c (.fn (.f 14) [] [])) [.c (.str [48]),.c (.str [49])]),Rq 166 (.call .pure (.c (.fn (.f 24) [] [])) [.t 163,.t 164,.t 165,.c (.int .i64 0)]),Rq 162 (.mov (.t 166)),Rq 167 (.ext 0 (.t 162)),Rq 168 (.ext 1 (.t 162)),Rq 25 (.mov (.t 167)),Rq 26 (.mov (.t 168))]) (
.seq (
.reg [Rq 170 (.ld 3 true (.t 2)),Rq 171 (.call .pure (.c (.fn (.f 14) [] [])) [.c (.str [48]),.c (.str [48])]),Rq 172 (.call .pure (.c (.fn (.f 14) [] [])) [.c (.str [49]),.c (.str [48])]),Rq 173 (.call .pure (.c (.fn (.f 25) [] [])) [.t 170,.c (.str [52]),.t 171,.t 172]),Rq 169 (.mov (.t 173)),Rq 174 (.ext 0 (.t 169)),Rq 175 (.ext 1 (.t 169)),Rq 27 (.box 2 (.c (.agg [.str [],.str []]))),⟨none,none,.st 2 (.t 27) (.t 174)⟩,Rq 28 (.mov (.t 175))]) (
.seq (
.reg [Rq 177 (.call .pure (.c (.fn (.f 23) [] [])) []),Rq 178 (.mksl 1 8 [.nils,.str [],.str [],.str [],.str [],.str [],.str [],.str []] [(0,8,(.t 177))]),Rq 179 (.call .pure (.c (.fn (.f 14) [] [])) [.c (.str [48]),.c (.str [48])]),Rq 180 (.mkagg [.str [],.str [],.str []] [(0,2,(.t 179)),(2,1,(.c (.str [48])))]),Rq 181 (.mksl 1 3 [.str [],.str [],.str []] [(0,3,(.t 180))]),Rq 182 (.call .pure (.c (.fn (.f 14) [] [])) [.c (.str [48]),.c (.str [48])]),Rq 183 (.mksl 1 2 [.str [],.str []] [(0,2,(.t 182))]),Rq 184 (.call .pure (.c (.fn (.f 26) [] [])) [.t 178,.t 181,.t 183,.c (.int .i64 0)]),Rq 176 (.mov (.t 184)),Rq 185 (.ext 0 (.t 176)),Rq 186 (.ext 1 (.t 176)),Rq 29 (.mov (.t 185)),Rq 30 (.mov (.t 186))]) (
.seq (
.reg [Rq 188 (.mksl 2 1 [.str [],.str []] [(0,1,(.c (.str [49]))),(1,1,(.c (.str [49])))]),Rq 189 (.mksl 1 1 [.nils] [(0,1,(.t 188))]),Rq 190 (.mksl 1 1 [.str []] [(0,1,(.c (.str [51])))]),Rq 191 (.call .pure (.c (.fn (.f 27) [] [])) [.t 189,.t 190,.c (.str [49])]),Rq 187 (.mov (.t 191)),Rq 192 (.ext 0 (.t 187)),Rq 193 (.ext 1 (.t 187)),Rq 31 (.mov (.t 192)),Rq 32 (.mov (.t 193))]) (
.seq (
.seq (
.reg [Rq 194 (.mov (.t 20)),Rq 195 (.mov (.t 22)),Rq 196 (.bin .add (.t 194) (.t 195)),Rq 197 (.mov (.t 24)),Rq 198 (.bin .add (.t 196) (.t 197)),Rq 199 (.mov (.t 26)),Rq 200 (.bin .add (.t 198) (.t 199)),Rq 201 (.mov (.t 28)),Rq 202 (.bin .add (.t 200) (.t 201)),Rq 203 (.mov (.t 30)),Rq 204 (.bin .add (.t 202) (.t 203)),Rq 205 (.mov (.t 32)),Rq 206 (.bin .add (.t 204) (.t 205)),Rq 207 (.bin .neq (.t 206) (.c (.int .i64 0))),Rq 208 (.mov (.t 207)),⟨some 209,some (208,false),.ld 2 true (.t 19)⟩,⟨some 210,some (208,false),.call .pure (.c (.fn (.f 14) [] [])) [.c (.str [49,47,50]),.c (.str [49])]⟩,⟨some 211,some (208,false),.eq true (.ag [2,2]) (.t 209) (.t 210)⟩,Rq 212 (.pick (.t 208) (.c (.bool true)) (.t 211)),Rq 213 (.mov (.t 212)),⟨some 214,some (213,false),.ld 2 true (.t 21)⟩,⟨some 215,some (213,false),.call .pure (.c (.fn (.f 14) [] [])) [.c (.str [48]),.c (.str [49,47,50])]⟩,⟨some 216,some (213,false),.eq true (.ag [2,2]) (.t 214) (.t 215)⟩,Rq 217 (.pick (.t 213) (.c (.bool true)) (.t 216)),Rq 218 (.mov (.t 217)),⟨some 219,some (218,false),.mov (.t 23)⟩,⟨some 220,some (218,false),.bin .neq (.t 219) (.c (.str [51,47,50]))⟩,Rq 221 (.pick (.t 218) (.c (.bool true)) (.t 220)),Rq 222 (.mov (.t 221)),⟨some 223,some (222,false),.mov (.t 25)⟩,⟨some 224,some (222,false),.bin .neq (.t 223) (.c (.str [49,47,50]))⟩,Rq 225 (.pick (.t 222) (.c (.bool true)) (.t 224))]) (
.cond (.t 225) (
 .seq (
 .reg [Rq 0 (.mov (.c (.bool false)))]) (
 .ret)) (
 .skip))) (
.seq (
.reg [Rq 226 (.ld 2 true (.t 27)),Rq 227 (.call .pure (.c (.fn (.f 14) [] [])) [.c (.str [49,47,50,52]),.c (.str [48])]),Rq 228 (.eq false (.ag [2,2]) (.t 226) (.t 227)),Rq 229 (.mov (.t 228)),⟨some 230,some (229,true),.mov (.t 29)⟩,⟨some 231,some (229,true),.mksl 4 1 [.str [],.str [],.str [],.str []] [(0,1,(.c (.str [49,47,50]))),(1,1,(.c (.str [48]))),(2,1,(.c (.str [48]))),(3,1,(.c (.str [48])))]⟩,⟨some 232,some (229,true),.mksl 1 1 [.nils] [(0,1,(.t 231))]⟩,⟨some 233,some (229,true),.call .pure (.c (.fn (.f 28) [] [])) [.t 230,.t 232]⟩,Rq 234 (.pick (.t 229) (.t 233) (.c (.bool false))),Rq 235 (.mov (.t 234)),⟨some 236,some (235,true),.mov (.t 31)⟩,⟨some 237,some (235,true),.mksl 2 1 [.str [],.str []] [(0,1,(.c (.str [49]))),(1,1,(.c (.str [49])))]⟩,⟨some 238,some (235,true),.call .pure (.c (.fn (.f 29) [] [])) [.t 236,.t 237]⟩,Rq 239 (.pick (.t 235) (.t 238) (.c (.bool false))),Rq 0 (.mov (.t 239))]) (
.ret))))))))))))))))))))⟩
def c2_0 : VC :=
.seq (
.seq (
.reg [Rq 20 (.mov (.t 5)),Rq 21 (.mov (.t 0)),Rq 22 (.len 1 (.t 21)),Rq 23 (.bin .lss (.t 20) (.t 22))]) (
.cond (.t 23) (
 .skip) (
 .exit 0))) (
.seq (
.blk 1 (
.seq (
.reg [Rq 26 (.mov (.t 0)),Rq 27 (.mov (.t 5)),Rq 28 (.ixa 1 (.t 26) (.t 27)),Rq 29 (.ld 1 false (.t 28)),Rq 30 (.len 1 (.t 29)),Rq 31 (.bin .gtr (.t 30) (.c (.int .i64 18)))]) (
.cond (.t 31) (
 .seq (
 .reg [Rq 4 (.mov (.c (.bool false)))]) (
 .ret)) (
 .skip)))) (
.reg [Rq 24 (.mov (.t 5)),Rq 25 (.bin .add (.t 24) (.c (.int .i64 1))),Rq 5 (.mov (.t 25))]))
def c2 : Fnc := ⟨[.t 4],
.seq (
.reg [Rq 4 (.mov (.c (.bool false)))]) (
.seq (
.seq (
.reg [Rq 6 (.mov (.t 0)),Rq 7 (.len 1 (.t 6)),Rq 8 (.mov (.t 1)),Rq 9 (.bin .gtr (.t 7) (.t 8)),Rq 10 (.mov (.t 9)),⟨some 11,some (10,true),.mov (.t 0)⟩,⟨some 12,some (10,true),.len 1 (.t 11)⟩,⟨some 13,some (10,true),.bin .leq (.t 12) (.c (.int .i64 16))⟩,Rq 14 (.pick (.t 10) (.t 13) (.c (.bool false))),Rq 15 (.mov (.t 14)),⟨some 16,some (15,false),.mov (.t 0)⟩,⟨some 17,some (15,false),.len 1 (.t 16)⟩,⟨some 18,some (15,false),.bin .gtr (.t 17) (.c (.int .i64 18))⟩,Rq 19 (.pick (.t 15) (.c (.bool true)) (.t 18))]) (
.cond (.t 19) (
 .seq (
 .reg [Rq 4 (.mov (.c (.bool false)))]) (
 .ret)) (
 .skip))) (
.seq (
.seq (
.reg [Rq 5 (.mov (.c (.int .i64 0)))]) (
.seq (
.blk 0 (
.loop [0,5] c2_0)) (
.kp []))) (
.seq (
.reg [Rq 4 (.mov (.c (.bool true)))]) (
.ret))))⟩
def c3_0 : VC :=
.seq (
.seq (
.reg [Rq 25 (.mov (.t 4)),Rq 26 (.mov (.t 0)),Rq 27 (.len 1 (.t 26)),Rq 28 (.bin .lss (.t 25) (.t 27))]) (
.cond (.t 28) (
 .skip) (
 .exit 2))) (
.seq (
.blk 3 (
.seq (
.reg [Rq 31 (.mov (.t 0)),Rq 32 (.mov (.t 3)),Rq 33 (.ixa 1 (.t 31) (.t 32)),Rq 34 (.ld 1 false (.t 33)),Rq 35 (.mov (.t 4)),Rq 36 (.ixa 1 (.t 34) (.t 35)),Rq 37 (.ld 1 false (.t 36)),Rq 38 (.call .pure (.c (.fn (.f 30) [] [])) [.t 37,.c (.int .i64 (-1000)),.c (.int .i64 1000)]),Rq 39 (.bin .neq (.t 38) (.c (.int .i64 0)))]) (
.cond (.t 39) (
 .seq (
 .reg [Rq 2 (.mov (.c (.int .i64 3)))]) (
 .ret)) (
 .skip)))) (
.reg [Rq 29 (.mov (.t 4)),Rq 30 (.bin .add (.t 29) (.c (.int .i64 1))),Rq 4 (.mov (.t 30))]))
def c3_1 : VC :=
.seq (
.seq (
.reg [Rq 11 (.mov (.t 3)),Rq 12 (.mov (.t 0)),Rq 13 (.len 1 (.t 12)),Rq 14 (.bin .lss (.t 11) (.t 13))]) (
.cond (.t 14) (
 .skip) (
 .exit 0))) (
.seq (
.blk 1 (
.seq (
.seq (
.reg [Rq 17 (.mov (.t 0)),Rq 18 (.mov (.t 3)),Rq 19 (.ixa 1 (.t 17) (.t 18)),Rq 20 (.ld 1 false (.t 19)),Rq 21 (.len 1 (.t 20)),Rq 22 (.mov (.t 0)),Rq 23 (.len 1 (.t 22)),Rq 24 (.bin .neq (.t 21) (.t 23))]) (
.cond (.t 24) (
 .seq (
 .reg [Rq 2 (.mov (.c (.int .i64 2)))]) (
 .ret)) (
 .skip))) (
.seq (
.reg [Rq 4 (.mov (.c (.int .i64 0)))]) (
.seq (
.blk 2 (
.loop [0,3,4] c3_0)) (
.kp [0,3]))))) (
.reg [Rq 15 (.mov (.t 3)),Rq 16 (.bin .add (.t 15) (.c (.int .i64 1))),Rq 3 (.mov (.t 16))]))
def c3 : Fnc := ⟨[.t 2],
.seq (
.reg [Rq 2 (.mov (.c (.int .i64 0)))]) (
.seq (
.seq (
.reg [Rq 5 (.mov (.t 0)),Rq 6 (.len 1 (.t 5)),Rq 7 (.bin .eql (.t 6) (.c (.int .i64 0)))]) (
.cond (.t 7) (
 .seq (
 .reg [Rq 2 (.mov (.c (.int .i64 12)))]) (
 .ret)) (
 .skip))) (
.seq (
.seq (
.reg [Rq 8 (.mov (.t 0)),Rq 9 (.len 1 (.t 8)),Rq 10 (.bin .gtr (.t 9) (.c (.int .i64 16)))]) (
.cond (.t 10) (
 .seq (
 .reg [Rq 2 (.mov (.c (.int .i64 5)))]) (
 .ret)) (
 .skip))) (
.seq (
.seq (
.reg [Rq 3 (.mov (.c (.int .i64 0)))]) (
.seq (
.blk 0 (
.loop [0,3] c3_1)) (
.kp []))) (
.seq (
.reg [Rq 2 (.mov (.c (.int .i64 0)))]) (
.ret)))))⟩
def c4 : Fnc := ⟨[.t 2],
.seq (
.reg [Rq 2 (.mov (.c (.int .i64 0)))]) (
.seq (
.reg [Rq 3 (.mov (.t 0)),Rq 4 (.len 1 (.t 3)),Rq 5 (.bin .eql (.t 4) (.c (.int .i64 0))),Rq 6 (.call .pure (.c (.fn (.f 31) [] [])) [.t 5,.c (.int .i64 12)]),Rq 7 (.mov (.t 0)),Rq 8 (.len 1 (.t 7)),Rq 9 (.bin .gtr (.t 8) (.c (.int .i64 16))),Rq 10 (.call .pure (.c (.fn (.f 31) [] [])) [.t 9,.c (.int .i64 5)]),Rq 11 (.mov (.t 0)),Rq 12 (.call .pure (.c (.fn (.f 32) [] [])) [.t 11,.c (.int .i64 1000)]),Rq 13 (.mksl 3 1 [.int .i64 0,.int .i64 0,.int .i64 0] [(0,1,(.t 6)),(1,1,(.t 10)),(2,1,(.t 12))]),Rq 14 (.call .pure (.c (.fn (.f 33) [] [])) [.t 13]),Rq 2 (.mov (.t 14))]) (
.ret))⟩
def c5 : Fnc := ⟨[.t 6,.t 7],
.seq (
.reg [Rq 5 (.box 1 (.t 2)),Rq 6 (.mov (.c (.nils))),Rq 7 (.mov (.c (.int .i64 0)))]) (
.seq (
.seq (
.reg [Rq 12 (.mov (.t 0)),Rq 13 (.call .pure (.c (.fn (.f 34) [] [])) [.t 12,.c (.int .i64 1),.c (.int .i64 2147483646)]),Rq 14 (.mov (.t 1)),Rq 15 (.call .pure (.c (.fn (.f 34) [] [])) [.t 14,.c (.int .i64 1),.c (.int .i64 16)]),Rq 16 (.ld 1 false (.t 5)),Rq 17 (.len 1 (.t 16)),Rq 18 (.bin .eql (.t 17) (.c (.int .i64 0))),Rq 19 (.call .pure (.c (.fn (.f 31) [] [])) [.t 18,.c (.int .i64 12)]),Rq 20 (.ld 1 false (.t 5)),Rq 21 (.len 1 (.t 20)),Rq 22 (.bin .gtr (.t 21) (.c (.int .i64 33))),Rq 23 (.call .pure (.c (.fn (.f 31) [] [])) [.t 22,.c (.int .i64 5)]),Rq 24 (.ld 1 false (.t 5)),Rq 25 (.len 1 (.t 24)),Rq 26 (.bin .rem (.t 25) (.c (.int .i64 2))),Rq 27 (.bin .eql (.t 26) (.c (.int .i64 0))),Rq 28 (.call .pure (.c (.fn (.f 31) [] [])) [.t 27,.c (.int .i64 2)]),Rq 29 (.mksl 5 1 [.int .i64 0,.int .i64 0,.int .i64 0,.int .i64 0,.int .i64 0] [(0,1,(.t 13)),(1,1,(.t 15)),(2,1,(.t 19)),(3,1,(.t 23)),(4,1,(.t 28))]),Rq 30 (.call .pure (.c (.fn (.f 33) [] [])) [.t 29]),Rq 8 (.mov (.t 30))]) (
.seq (
.reg [Rq 31 (.mov (.t 8)),Rq 32 (.bin .neq (.t 31) (.c (.int .i64 0)))]) (
.cond (.t 32) (
 .seq (
 .reg [Rq 33 (.mov (.t 8)),
   Rq 6 (.mov (.c (.nils))),
   Rq 7 (.mov (.t 33))]) (
 .ret)) (
 .skip)))) (
.seq (
.seq (
.reg [Rq 34 (.ld 1 false (.t 5)),Rq 35 (.call .pure (.c (.fn (.f 35) [] [])) [.t 34,.c (.fn (.f 36) [] [])]),Rq 36 (.call .pure (.c (.fn (.f 33) [] [])) [.t 35]),Rq 9 (.mov (.t 36))]) (
.seq (
.reg [Rq 37 (.mov (.t 9)),Rq 38 (.bin .neq (.t 37) (.c (.int .i64 0)))]) (
.cond (.t 38) (
 .seq (
 .reg [Rq 39 (.mov (.t 9)),
   Rq 6 (.mov (.c (.nils))),
   Rq 7 (.mov (.t 39))]) (
 .ret)) (
 .skip)))) (
.seq (
.reg [Rq 40 (.ld 1 false (.t 5)),Rq 41 (.call .pure (.c (.fn (.f 37) [] [])) [.c (.int .i64 0),.t 40,.c (.fn (.f 38) [] [])]),Rq 10 (.box 1 (.c (.int .i64 0))),⟨none,none,.st 1 (.t 10) (.t 41)⟩]) (
.seq (
.seq (
.reg [Rq 42 (.ld 1 false (.t 10)),Rq 43 (.bin .eql (.t 42) (.c (.int .i64 0)))]) (
.cond (.t 43) (
 .seq (
 .reg [Rq 6 (.mov (.c (.nils))),
   Rq 7 (.mov (.c (.int .i64 6)))]) (
 .ret)) (
 .skip))) (
.seq (
.reg [Rq 44 (.mov (.t 0)),Rq 11 (.box 1 (.c (.int .i64 0))),⟨none,none,.st 1 (.t 11) (.t 44)⟩]) (
.seq (
.reg [Rq 45 (.mov (.t 1)),Rq 46 (.mkf (.f 39) [] [.t 11,.t 10,.t 5]),Rq 47 (.call .heap (.c (.fn (.f 40) [] [])) [.t 45,.t 46]),Rq 6 (.mov (.t 47)),Rq 7 (.mov (.c (.int .i64 0)))]) (
.ret)))))))⟩
def c6_0 : VC :=
.seq (
.seq (
.reg [Rq 27 (.mov (.t 8)),Rq 28 (.mov (.t 2)),Rq 29 (.len 1 (.t 28)),Rq 30 (.bin .lss (.t 27) (.t 29))]) (
.cond (.t 30) (
 .skip) (
 .exit 0))) (
.seq (
.blk 1 (
.seq (
.seq (
.reg [Rq 33 (.mov (.t 2)),Rq 34 (.mov (.t 8)),Rq 35 (.ixa 1 (.t 33) (.t 34)),Rq 36 (.ld 1 false (.t 35)),Rq 37 (.call .pure (.c (.fn (.f 30) [] [])) [.t 36,.c (.int .i64 0),.c (.int .i64 1000)]),Rq 38 (.bin .neq (.t 37) (.c (.int .i64 0)))]) (
.cond (.t 38) (
 .seq (
 .reg [Rq 6 (.mov (.c (.int .i64 3)))]) (
 .ret)) (
 .skip))) (
.reg [Rq 39 (.mov (.t 7)),Rq 40 (.mov (.t 2)),Rq 41 (.mov (.t 8)),Rq 42 (.ixa 1 (.t 40) (.t 41)),Rq 43 (.ld 1 false (.t 42)),Rq 44 (.bin .add (.t 39) (.t 43)),Rq 7 (.mov (.t 44))]))) (
.reg [Rq 31 (.mov (.t 8)),Rq 32 (.bin .add (.t 31) (.c (.int .i64 1))),Rq 8 (.mov (.t 32))]))
def c6 : Fnc := ⟨[.t 6],
.seq (
.reg [Rq 6 (.mov (.c (.int .i64 0)))]) (
.seq (
.seq (
.reg [Rq 9 (.mov (.t 0)),Rq 10 (.call .pure (.c (.fn (.f 30) [] [])) [.t 9,.c (.int .i64 1),.c (.int .i64 2147483646)]),Rq 11 (.bin .neq (.t 10) (.c (.int .i64 0))),Rq 12 (.mov (.t 11)),⟨some 13,some (12,false),.mov (.t 1)⟩,⟨some 14,some (12,false),.call .pure (.c (.fn (.f 30) [] [])) [.t 13,.c (.int .i64 1),.c (.int .i64 16)]⟩,⟨some 15,some (12,false),.bin .neq (.t 14) (.c (.int .i64 0))⟩,Rq 16 (.pick (.t 12) (.c (.bool true)) (.t 15))]) (
.cond (.t 16) (
 .seq (
 .reg [Rq 6 (.mov (.c (.int .i64 3)))]) (
 .ret)) (
 .skip))) (
.seq (
.seq (
.reg [Rq 17 (.mov (.t 2)),Rq 18 (.len 1 (.t 17)),Rq 19 (.bin .eql (.t 18) (.c (.int .i64 0)))]) (
.cond (.t 19) (
 .seq (
 .reg [Rq 6 (.mov (.c (.int .i64 12)))]) (
 .ret)) (
 .skip))) (
.seq (
.seq (
.reg [Rq 20 (.mov (.t 2)),Rq 21 (.len 1 (.t 20)),Rq 22 (.bin .gtr (.t 21) (.c (.int .i64 33)))]) (
.cond (.t 22) (
 .seq (
 .reg [Rq 6 (.mov (.c (.int .i64 5)))]) (
 .ret)) (
 .skip))) (
.seq (
.seq (
.reg [Rq 23 (.mov (.t 2)),Rq 24 (.len 1 (.t 23)),Rq 25 (.bin .rem (.t 24) (.c (.int .i64 2))),Rq 26 (.bin .eql (.t 25) (.c (.int .i64 0)))]) (
.cond (.t 26) (
 .seq (
 .reg [Rq 6 (.mov (.c (.int .i64 2)))]) (
 .ret)) (
 .skip))) (
.seq (
.reg [Rq 7 (.mov (.c (.int .i64 0)))]) (
.seq (
.seq (
.reg [Rq 8 (.mov (.c (.int .i64 0)))]) (
.seq (
.blk 0 (
.loop [2,7,8] c6_0)) (
.kp [7]))) (
.seq (
.seq (
.reg [Rq 45 (.mov (.t 7)),Rq 46 (.bin .eql (.t 45) (.c (.int .i64 0)))]) (
.cond (.t 46) (
 .seq (
 .reg [Rq 6 (.mov (.c (.int .i64 6)))]) (
 .ret)) (
 .skip))) (
.seq (
.reg [Rq 6 (.mov (.c (.int .i64 0)))]) (
.ret)))))))))⟩
def c7 : Fnc := ⟨[.t 8],
.seq (
.reg [Rq 8 (.mov (.c (.bool false)))]) (
.seq (
.seq (
.reg [Rq 9 (.mov (.t 2)),Rq 10 (.bin .neq (.t 9) (.c (.int .i64 0)))]) (
.cond (.t 10) (
 .seq (
 .reg [Rq 11 (.mov (.t 0)),
   Rq 12 (.len 1 (.t 11)),
   Rq 13 (.bin .eql (.t 12) (.c (.int .i64 0))),
   Rq 14 (.mov (.t 13)),
   ⟨some 15,some (14,true),.mov (.t 1)⟩,
   ⟨some 16,some (14,true),.mov (.t 2)⟩,
   ⟨some 17,some (14,true),.bin .eql (.t 15) (.t 16)⟩,
   Rq 18 (.pick (.t 14) (.t 17) (.c (.bool false))),
   Rq 8 (.mov (.t 18))]) (
 .ret)) (
 .skip))) (
.seq (
.reg [Rq 19 (.mov (.t 1)),Rq 20 (.bin .eql (.t 19) (.c (.int .i64 0))),Rq 21 (.mov (.t 20)),⟨some 22,some (21,true),.mov (.t 0)⟩,⟨some 23,some (21,true),.mov (.t 3)⟩,⟨some 24,some (21,true),.call .pure (.c (.fn (.f 21) [] [])) [.t 22,.t 23]⟩,Rq 25 (.pick (.t 21) (.t 24) (.c (.bool false))),Rq 8 (.mov (.t 25))]) (
.ret)))⟩
def c8_0 : VC :=
.seq (
.seq (
.reg [Rq 17 (.mov (.t 8)),Rq 18 (.mov (.t 2)),Rq 19 (.len 1 (.t 18)),Rq 20 (.bin .lss (.t 17) (.t 19))]) (
.cond (.t 20) (
 .skip) (
 .exit 0))) (
.seq (
.blk 1 (
.reg [Rq 23 (.mov (.t 7)),Rq 24 (.mov (.t 2)),Rq 25 (.mov (.t 8)),Rq 26 (.ixa 1 (.t 24) (.t 25)),Rq 27 (.ld 1 false (.t 26)),Rq 28 (.bin .add (.t 23) (.t 27)),Rq 7 (.mov (.t 28))])) (
.reg [Rq 21 (.mov (.t 8)),Rq 22 (.bin .add (.t 21) (.c (.int .i64 1))),Rq 8 (.mov (.t 22))]))
def c8_1 : VC :=
.seq (
.seq (
.reg [Rq 49 (.mov (.t 16)),Rq 50 (.mov (.t 14)),Rq 51 (.bin .leq (.t 49) (.t 50))]) (
.cond (.t 51) (
 .skip) (
 .exit 6))) (
.blk 7 (
.seq (
.reg [Rq 52 (.mov (.t 15)),Rq 53 (.bin .add (.t 52) (.c (.int .i64 1))),Rq 15 (.mov (.t 53))]) (
.reg [Rq 54 (.mov (.t 16)),Rq 55 (.mov (.t 2)),Rq 56 (.mov (.t 15)),Rq 57 (.ixa 1 (.t 55) (.t 56)),Rq 58 (.ld 1 false (.t 57)),Rq 59 (.bin .add (.t 54) (.t 58)),Rq 16 (.mov (.t 59))])))
def c8_2 : VC :=
.seq (
.seq (
.reg [Rq 35 (.mov (.t 13)),Rq 36 (.mov (.t 1)),Rq 37 (.bin .lss (.t 35) (.t 36))]) (
.cond (.t 37) (
 .skip) (
 .exit 4))) (
.seq (
.blk 5 (
.seq (
.reg [Rq 40 (.mov (.t 9)),Rq 41 (.bin .mul (.c (.int .i64 39373)) (.t 40)),Rq 42 (.bin .rem (.t 41) (.c (.int .i64 2147483647))),Rq 9 (.mov (.t 42))]) (
.seq (
.reg [Rq 43 (.mov (.t 9)),Rq 44 (.mov (.t 7)),Rq 45 (.bin .rem (.t 43) (.t 44)),Rq 14 (.mov (.t 45))]) (
.seq (
.reg [Rq 46 (.mov (.t 2)),Rq 47 (.ixa 1 (.t 46) (.c (.int .i64 0))),Rq 48 (.ld 1 false (.t 47)),Rq 15 (.mov (.c (.int .i64 0))),Rq 16 (.mov (.t 48))]) (
.seq (
.seq (
.blk 6 (
.loop [1,2,7,9,10,11,12,13,14,15,16] c8_1)) (
.kp [1,2,7,9,10,11,12,13,15])) (
.reg [Rq 60 (.mov (.t 12)),Rq 61 (.mov (.t 15)),Rq 62 (.mov (.t 2)),Rq 63 (.len 1 (.t 62)),Rq 64 (.bin .quo (.t 63) (.c (.int .i64 2))),Rq 65 (.bin .sub (.t 61) (.t 64)),Rq 66 (.mksl 1 1 [.int .i64 0] [(0,1,(.t 65))]),Rq 67 (.app 1 8 (.t 60) (.t 66)),Rq 12 (.mov (.t 67))])))))) (
.reg [Rq 38 (.mov (.t 13)),Rq 39 (.bin .add (.t 38) (.c (.int .i64 1))),Rq 13 (.mov (.t 39))]))
def c8_3 : VC :=
.seq (
.seq (
.reg [Rq 30 (.mov (.t 11)),Rq 31 (.mov (.t 1)),Rq 32 (.bin .lss (.t 30) (.t 31))]) (
.cond (.t 32) (
 .skip) (
 .exit 2))) (
.seq (
.blk 3 (
.seq (
.reg [Rq 12 (.mov (.c (.nils)))]) (
.seq (
.seq (
.reg [Rq 13 (.mov (.c (.int .i64 0)))]) (
.seq (
.blk 4 (
.loop [1,2,7,9,10,11,12,13] c8_2)) (
.kp [1,2,7,9,10,11,12]))) (
.seq (
.fz [12]) (
.reg [Rq 68 (.mov (.t 10)),Rq 69 (.mov (.t 12)),Rq 70 (.mksl 1 1 [.nils] [(0,1,(.t 69))]),Rq 71 (.app 1 24 (.t 68) (.t 70)),Rq 10 (.mov (.t 71))]))))) (
.reg [Rq 33 (.mov (.t 11)),Rq 34 (.bin .add (.t 33) (.c (.int .i64 1))),Rq 11 (.mov (.t 34))]))
def c8 : Fnc := ⟨[.t 6],
.seq (
.reg [Rq 6 (.mov (.c (.nils)))]) (
.seq (
.reg [Rq 7 (.mov (.c (.int .i64 0)))]) (
.seq (
.seq (
.reg [Rq 8 (.mov (.c (.int .i64 0)))]) (
.seq (
.blk 0 (
.loop [0,1,2,7,8] c8_0)) (
.kp [0,1,2,7]))) (
.seq (
.reg [Rq 29 (.mov (.t 0)),Rq 9 (.mov (.t 29))]) (
.seq (
.reg [Rq 10 (.mov (.c (.nils)))]) (
.seq (
.seq (
.reg [Rq 11 (.mov (.c (.int .i64 0)))]) (
.seq (
.blk 2 (
.loop [1,2,7,9,10,11] c8_3)) (
.kp [10]))) (
.seq (
.reg [Rq 72 (.mov (.t 10)),Rq 6 (.mov (.t 72))]) (
.ret)))))))⟩
def c9 : Fnc := ⟨[.t 4,.t 5],
.seq (
.reg [Rq 2 (.box 1 (.t 0)),Rq 3 (.box 1 (.t 1)),Rq 4 (.mov (.c (.nils))),Rq 5 (.mov (.c (.int .i64 0)))]) (
.seq (
.seq (
.reg [Rq 9 (.ld 1 false (.t 2)),Rq 10 (.call .pure (.c (.fn (.f 4) [] [])) [.t 9]),Rq 11 (.ld 1 false (.t 3)),Rq 12 (.len 1 (.t 11)),Rq 13 (.bin .eql (.t 12) (.c (.int .i64 0))),Rq 14 (.call .pure (.c (.fn (.f 31) [] [])) [.t 13,.c (.int .i64 12)]),Rq 15 (.ld 1 false (.t 3)),Rq 16 (.len 1 (.t 15)),Rq 17 (.bin .gtr (.t 16) (.c (.int .i64 5))),Rq 18 (.call .pure (.c (.fn (.f 31) [] [])) [.t 17,.c (.int .i64 5)]),Rq 19 (.ld 1 false (.t 3)),Rq 20 (.len 1 (.t 19)),Rq 21 (.bin .rem (.t 20) (.c (.int .i64 2))),Rq 22 (.bin .eql (.t 21) (.c (.int .i64 0))),Rq 23 (.call .pure (.c (.fn (.f 31) [] [])) [.t 22,.c (.int .i64 2)]),Rq 24 (.ld 1 false (.t 3)),Rq 25 (.call .pure (.c (.fn (.f 32) [] [])) [.t 24,.c (.int .i64 100)]),Rq 26 (.mksl 5 1 [.int .i64 0,.int .i64 0,.int .i64 0,.int .i64 0,.int .i64 0] [(0,1,(.t 10)),(1,1,(.t 14)),(2,1,(.t 18)),(3,1,(.t 23)),(4,1,(.t 25))]),Rq 27 (.call .pure (.c (.fn (.f 33) [] [])) [.t 26]),Rq 6 (.mov (.t 27))]) (
.seq (
.reg [Rq 28 (.mov (.t 6)),Rq 29 (.bin .neq (.t 28) (.c (.int .i64 0)))]) (
.cond (.t 29) (
 .seq (
 .reg [Rq 30 (.mov (.t 6)),
   Rq 4 (.mov (.c (.nils))),
   Rq 5 (.mov (.t 30))]) (
 .ret)) (
 .skip)))) (
.seq (
.reg [Rq 31 (.ld 1 false (.t 3)),Rq 32 (.len 1 (.t 31)),Rq 33 (.bin .quo (.t 32) (.c (.int .i64 2))),Rq 7 (.box 1 (.c (.int .i64 0))),⟨none,none,.st 1 (.t 7) (.t 33)⟩]) (
.seq (
.reg [Rq 34 (.ld 1 false (.t 2)),Rq 35 (.len 1 (.t 34)),Rq 36 (.mkf (.f 41) [] [.t 3,.t 2,.t 7]),Rq 37 (.call .pure (.c (.fn (.f 40) [] [])) [.t 35,.t 36]),Rq 8 (.mov (.t 37))]) (
.seq (
.seq (
.reg [Rq 38 (.mov (.t 8)),Rq 39 (.call .pure (.c (.fn (.f 32) [] [])) [.t 38,.c (.int .i64 1000)]),Rq 40 (.bin .neq (.t 39) (.c (.int .i64 0)))]) (
.cond (.t 40) (
 .seq (
 .reg [Rq 4 (.mov (.c (.nils))),
   Rq 5 (.mov (.c (.int .i64 4)))]) (
 .ret)) (
 .skip))) (
.seq (
.reg [Rq 41 (.mov (.t 8)),Rq 4 (.mov (.t 41)),Rq 5 (.mov (.c (.int .i64 0)))]) (
.ret))))))⟩
def c10_0 : VC :=
.seq (
.seq (
.reg [Rq 29 (.mov (.t 4)),Rq 30 (.mov (.t 0)),Rq 31 (.len 1 (.t 30)),Rq 32 (.bin .lss (.t 29) (.t 31))]) (
.cond (.t 32) (
 .skip) (
 .exit 2))) (
.seq (
.blk 3 (
.seq (
.reg [Rq 35 (.mov (.t 0)),Rq 36 (.mov (.t 3)),Rq 37 (.ixa 1 (.t 35) (.t 36)),Rq 38 (.ld 1 false (.t 37)),Rq 39 (.mov (.t 4)),Rq 40 (.ixa 1 (.t 38) (.t 39)),Rq 41 (.ld 1 false (.t 40)),Rq 42 (.call .pure (.c (.fn (.f 30) [] [])) [.t 41,.c (.int .i64 (-100)),.c (.int .i64 100)]),Rq 43 (.bin .neq (.t 42) (.c (.int .i64 0)))]) (
.cond (.t 43) (
 .seq (
 .reg [Rq 2 (.mov (.c (.int .i64 3)))]) (
 .ret)) (
 .skip)))) (
.reg [Rq 33 (.mov (.t 4)),Rq 34 (.bin .add (.t 33) (.c (.int .i64 1))),Rq 4 (.mov (.t 34))]))
def c10_1 : VC :=
.seq (
.seq (
.reg [Rq 15 (.mov (.t 3)),Rq 16 (.mov (.t 0)),Rq 17 (.len 1 (.t 16)),Rq 18 (.bin .lss (.t 15) (.t 17))]) (
.cond (.t 18) (
 .skip) (
 .exit 0))) (
.seq (
.blk 1 (
.seq (
.seq (
.reg [Rq 21 (.mov (.t 0)),Rq 22 (.mov (.t 3)),Rq 23 (.ixa 1 (.t 21) (.t 22)),Rq 24 (.ld 1 false (.t 23)),Rq 25 (.len 1 (.t 24)),Rq 26 (.mov (.t 0)),Rq 27 (.len 1 (.t 26)),Rq 28 (.bin .neq (.t 25) (.t 27))]) (
.cond (.t 28) (
 .seq (
 .reg [Rq 2 (.mov (.c (.int .i64 2)))]) (
 .ret)) (
 .skip))) (
.seq (
.reg [Rq 4 (.mov (.c (.int .i64 0)))]) (
.seq (
.blk 2 (
.loop [0,3,4] c10_0)) (
.kp [0,3]))))) (
.reg [Rq 19 (.mov (.t 3)),Rq 20 (.bin .add (.t 19) (.c (.int .i64 1))),Rq 3 (.mov (.t 20))]))
def c10 : Fnc := ⟨[.t 2],
.seq (
.reg [Rq 2 (.mov (.c (.int .i64 0)))]) (
.seq (
.seq (
.reg [Rq 5 (.mov (.t 0)),Rq 6 (.len 1 (.t 5)),Rq 7 (.bin .eql (.t 6) (.c (.int .i64 0)))]) (
.cond (.t 7) (
 .seq (
 .reg [Rq 2 (.mov (.c (.int .i64 12)))]) (
 .ret)) (
 .skip))) (
.seq (
.seq (
.reg [Rq 8 (.mov (.t 0)),Rq 9 (.len 1 (.t 8)),Rq 10 (.bin .gtr (.t 9) (.c (.int .i64 5)))]) (
.cond (.t 10) (
 .seq (
 .reg [Rq 2 (.mov (.c (.int .i64 5)))]) (
 .ret)) (
 .skip))) (
.seq (
.seq (
.reg [Rq 11 (.mov (.t 0)),Rq 12 (.len 1 (.t 11)),Rq 13 (.bin .rem (.t 12) (.c (.int .i64 2))),Rq 14 (.bin .eql (.t 13) (.c (.int .i64 0)))]) (
.cond (.t 14) (
 .seq (
 .reg [Rq 2 (.mov (.c (.int .i64 2)))]) (
 .ret)) (
 .skip))) (
.seq (
.seq (
.reg [Rq 3 (.mov (.c (.int .i64 0)))]) (
.seq (
.blk 0 (
.loop [0,3] c10_1)) (
.kp []))) (
.seq (
.reg [Rq 2 (.mov (.c (.int .i64 0)))]) (
.ret))))))⟩
def c11 : Fnc := ⟨[.t 2],
.seq (
.reg [Rq 2 (.mov (.c (.int .i64 0)))]) (
.seq (
.reg [Rq 3 (.mov (.t 0)),Rq 4 (.call .pure (.c (.fn (.f 42) [] [])) [.t 3]),Rq 2 (.mov (.t 4))]) (
.ret))⟩
def c12_0 : VC :=
.seq (
.seq (
.reg [Rq 35 (.mov (.t 13)),Rq 36 (.mov (.t 1)),Rq 37 (.len 1 (.t 36)),Rq 38 (.bin .lss (.t 35) (.t 37))]) (
.cond (.t 38) (
 .skip) (
 .exit 6))) (
.seq (
.blk 7 (
.reg [Rq 41 (.mov (.t 11)),Rq 42 (.mov (.t 1)),Rq 43 (.mov (.t 12)),Rq 44 (.ixa 1 (.t 42) (.t 43)),Rq 45 (.ld 1 false (.t 44)),Rq 46 (.mov (.t 13)),Rq 47 (.ixa 1 (.t 45) (.t 46)),Rq 48 (.ld 1 false (.t 47)),Rq 49 (.mov (.t 0)),Rq 50 (.mov (.t 10)),Rq 51 (.mov (.t 13)),Rq 52 (.bin .add (.t 50) (.t 51)),Rq 53 (.mov (.t 6)),Rq 54 (.bin .sub (.t 52) (.t 53)),Rq 55 (.mov (.t 8)),Rq 56 (.mov (.t 12)),Rq 57 (.bin .add (.t 55) (.t 56)),Rq 58 (.mov (.t 6)),Rq 59 (.bin .sub (.t 57) (.t 58)),Rq 60 (.call .pure (.c (.fn (.f 43) [] [])) [.t 49,.t 54,.t 59]),Rq 61 (.bin .mul (.t 48) (.t 60)),Rq 62 (.bin .add (.t 41) (.t 61)),Rq 11 (.mov (.t 62))])) (
.reg [Rq 39 (.mov (.t 13)),Rq 40 (.bin .add (.t 39) (.c (.int .i64 1))),Rq 13 (.mov (.t 40))]))
def c12_1 : VC :=
.seq (
.seq (
.reg [Rq 29 (.mov (.t 12)),Rq 30 (.mov (.t 1)),Rq 31 (.len 1 (.t 30)),Rq 32 (.bin .lss (.t 29) (.t 31))]) (
.cond (.t 32) (
 .skip) (
 .exit 4))) (
.seq (
.blk 5 (
.seq (
.reg [Rq 13 (.mov (.c (.int .i64 0)))]) (
.seq (
.blk 6 (
.loop [0,1,6,7,8,9,10,11,12,13] c12_0)) (
.kp [0,1,6,7,8,9,10,11,12])))) (
.reg [Rq 33 (.mov (.t 12)),Rq 34 (.bin .add (.t 33) (.c (.int .i64 1))),Rq 12 (.mov (.t 34))]))
def c12_2 : VC :=
.seq (
.seq (
.reg [Rq 23 (.mov (.t 10)),Rq 24 (.mov (.t 0)),Rq 25 (.len 1 (.t 24)),Rq 26 (.bin .lss (.t 23) (.t 25))]) (
.cond (.t 26) (
 .skip) (
 .exit 2))) (
.seq (
.blk 3 (
.seq (
.reg [Rq 11 (.mov (.c (.int .i64 0)))]) (
.seq (
.seq (
.reg [Rq 12 (.mov (.c (.int .i64 0)))]) (
.seq (
.blk 4 (
.loop [0,1,6,7,8,9,10,11,12] c12_1)) (
.kp [0,1,6,7,8,9,10,11]))) (
.seq (
.seq (
.reg [Rq 63 (.mov (.t 11)),Rq 64 (.call .pure (.c (.fn (.f 30) [] [])) [.t 63,.c (.int .i64 (-1000)),.c (.int .i64 1000)]),Rq 65 (.bin .neq (.t 64) (.c (.int .i64 0)))]) (
.cond (.t 65) (
 .seq (
 .reg [Rq 4 (.mov (.c (.nils))),
   Rq 5 (.mov (.c (.bool false)))]) (
 .ret)) (
 .skip))) (
.reg [Rq 66 (.mov (.t 9)),Rq 67 (.mov (.t 11)),Rq 68 (.mksl 1 1 [.int .i64 0] [(0,1,(.t 67))]),Rq 69 (.app 1 8 (.t 66) (.t 68)),Rq 9 (.mov (.t 69))]))))) (
.reg [Rq 27 (.mov (.t 10)),Rq 28 (.bin .add (.t 27) (.c (.int .i64 1))),Rq 10 (.mov (.t 28))]))
def c12_3 : VC :=
.seq (
.seq (
.reg [Rq 17 (.mov (.t 8)),Rq 18 (.mov (.t 0)),Rq 19 (.len 1 (.t 18)),Rq 20 (.bin .lss (.t 17) (.t 19))]) (
.cond (.t 20) (
 .skip) (
 .exit 0))) (
.seq (
.blk 1 (
.seq (
.reg [Rq 9 (.mov (.c (.nils)))]) (
.seq (
.seq (
.reg [Rq 10 (.mov (.c (.int .i64 0)))]) (
.seq (
.blk 2 (
.loop [0,1,6,7,8,9,10] c12_2)) (
.kp [0,1,6,7,8,9]))) (
.seq (
.fz [9]) (
.reg [Rq 70 (.mov (.t 7)),Rq 71 (.mov (.t 9)),Rq 72 (.mksl 1 1 [.nils] [(0,1,(.t 71))]),Rq 73 (.app 1 24 (.t 70) (.t 72)),Rq 7 (.mov (.t 73))]))))) (
.reg [Rq 21 (.mov (.t 8)),Rq 22 (.bin .add (.t 21) (.c (.int .i64 1))),Rq 8 (.mov (.t 22))]))
def c12 : Fnc := ⟨[.t 4,.t 5],
.seq (
.reg [Rq 4 (.mov (.c (.nils))),Rq 5 (.mov (.c (.bool false)))]) (
.seq (
.reg [Rq 14 (.mov (.t 1)),Rq 15 (.len 1 (.t 14)),Rq 16 (.bin .quo (.t 15) (.c (.int .i64 2))),Rq 6 (.mov (.t 16))]) (
.seq (
.reg [Rq 7 (.mov (.c (.nils)))]) (
.seq (
.seq (
.reg [Rq 8 (.mov (.c (.int .i64 0)))]) (
.seq (
.blk 0 (
.loop [0,1,6,7,8] c12_3)) (
.kp [7]))) (
.seq (
.reg [Rq 74 (.mov (.t 7)),Rq 4 (.mov (.t 74)),Rq 5 (.mov (.c (.bool true)))]) (
.ret)))))⟩
def c13 : Fnc := ⟨[.t 4],
.seq (
.reg [Rq 4 (.mov (.c (.int .i64 0)))]) (
.seq (
.seq (
.reg [Rq 5 (.mov (.t 0))]) (
.cond (.t 5) (
 .seq (
 .reg [Rq 6 (.mov (.t 1)),
   Rq 4 (.mov (.t 6))]) (
 .ret)) (
 .skip))) (
.seq (
.reg [Rq 4 (.mov (.c (.int .i64 0)))]) (
.ret)))⟩
def c14 : Fnc := ⟨[.cell 4 2 true],
.seq (
.reg [Rq 4 (.box 2 (.c (.agg [.str [],.str []])))]) (
.seq (
.reg [Rq 5 (.mov (.t 0)),Rq 6 (.mov (.t 1)),Rq 7 (.mkagg [.str [],.str []] [(0,1,(.t 5)),(1,1,(.t 6))]),⟨none,none,.st 2 (.t 4) (.t 7)⟩]) (
.ret))⟩
def c15 : Fnc := ⟨[.t 0],
.seq (
.reg [Rq 0 (.mov (.c (.nils)))]) (
.seq (
.reg [Rq 1 (.mksl 2 1 [.int .i64 0,.int .i64 0] [(0,1,(.c (.int .i64 0))),(1,1,(.c (.int .i64 1)))]),Rq 2 (.mksl 2 1 [.int .i64 0,.int .i64 0] [(0,1,(.c (.int .i64 2))),(1,1,(.c (.int .i64 3)))]),Rq 3 (.mksl 2 1 [.nils,.nils] [(0,1,(.t 1)),(1,1,(.t 2))]),Rq 0 (.mov (.t 3))]) (
.ret))⟩
def c16 : Fnc := ⟨[.t 2,.t 3],
.seq (
.reg [Rq 1 (.box 1 (.t 0)),Rq 2 (.mov (.c (.str []))),Rq 3 (.mov (.c (.int .i64 0)))]) (
.seq (
.seq (
.reg [Rq 5 (.ld 1 false (.t 1)),Rq 6 (.call .pure (.c (.fn (.f 4) [] [])) [.t 5]),Rq 4 (.mov (.t 6))]) (
.seq (
.reg [Rq 7 (.mov (.t 4)),Rq 8 (.bin .neq (.t 7) (.c (.int .i64 0)))]) (
.cond (.t 8) (
 .seq (
 .reg [Rq 9 (.mov (.t 4)),
   Rq 2 (.mov (.c (.str []))),
   Rq 3 (.mov (.t 9))]) (
 .ret)) (
 .skip)))) (
.seq (
.reg [Rq 10 (.ld 1 false (.t 1)),Rq 11 (.len 1 (.t 10)),Rq 12 (.mkf (.f 44) [] [.t 1]),Rq 13 (.call .pure (.c (.fn (.f 45) [] [])) [.t 11,.t 12]),Rq 14 (.call .pure (.c (.fn (.f 46) [] [])) [.t 13]),Rq 2 (.mov (.t 14)),Rq 3 (.mov (.c (.int .i64 0)))]) (
.ret)))⟩
def c17 : Fnc := ⟨[.t 2,.t 3],
.seq (
.reg [Rq 1 (.box 1 (.t 0)),Rq 2 (.mov (.c (.str []))),Rq 3 (.mov (.c (.int .i64 0)))]) (
.seq (
.seq (
.reg [Rq 7 (.ld 1 false (.t 1)),Rq 8 (.call .pure (.c (.fn (.f 4) [] [])) [.t 7]),Rq 4 (.mov (.t 8))]) (
.seq (
.reg [Rq 9 (.mov (.t 4)),Rq 10 (.bin .neq (.t 9) (.c (.int .i64 0)))]) (
.cond (.t 10) (
 .seq (
 .reg [Rq 11 (.mov (.t 4)),
   Rq 2 (.mov (.c (.str []))),
   Rq 3 (.mov (.t 11))]) (
 .ret)) (
 .skip)))) (
.seq (
.reg [Rq 12 (.ld 1 false (.t 1)),Rq 13 (.len 1 (.t 12)),Rq 14 (.mkf (.f 47) [] [.t 1]),Rq 15 (.call .pure (.c (.fn (.f 45) [] [])) [.t 13,.t 14]),Rq 5 (.box 4 (.c (.agg [.int .i64 0,.nils,.int .i64 0,.nils]))),⟨none,none,.st 4 (.t 5) (.t 15)⟩]) (
.seq (
.reg [Rq 16 (.ld 1 false (.t 1)),Rq 17 (.len 1 (.t 16)),Rq 18 (.mkf (.f 48) [] [.t 1]),Rq 19 (.call .pure (.c (.fn (.f 45) [] [])) [.t 17,.t 18]),Rq 6 (.box 4 (.c (.agg [.int .i64 0,.nils,.int .i64 0,.nils]))),⟨none,none,.st 4 (.t 6) (.t 19)⟩]) (
.seq (
.reg [Rq 20 (.ld 4 true (.t 6)),Rq 21 (.ld 4 true (.t 5)),Rq 22 (.ld 4 true (.t 5)),Rq 23 (.call .pure (.c (.fn (.f 49) [] [])) [.t 21,.t 22]),Rq 24 (.call .pure (.c (.fn (.f 50) [] [])) [.t 20,.t 23]),Rq 25 (.call .pure (.c (.fn (.f 46) [] [])) [.t 24]),Rq 2 (.mov (.t 25)),Rq 3 (.mov (.c (.int .i64 0)))]) (
.ret)))))⟩
def c18 : Fnc := ⟨[.t 6,.t 7],
.seq (
.reg [Rq 3 (.box 1 (.t 0)),Rq 4 (.box 1 (.t 1)),Rq 5 (.box 1 (.t 2)),Rq 6 (.mov (.c (.str []))),Rq 7 (.mov (.c (.int .i64 0)))]) (
.seq (
.seq (
.reg [Rq 9 (.ld 1 false (.t 3)),Rq 10 (.call .pure (.c (.fn (.f 4) [] [])) [.t 9]),Rq 11 (.ld 1 false (.t 4)),Rq 12 (.call .pure (.c (.fn (.f 51) [] [])) [.t 11]),Rq 13 (.ld 1 false (.t 5)),Rq 14 (.call .pure (.c (.fn (.f 51) [] [])) [.t 13]),Rq 15 (.mksl 3 1 [.int .i64 0,.int .i64 0,.int .i64 0] [(0,1,(.t 10)),(1,1,(.t 12)),(2,1,(.t 14))]),Rq 16 (.call .pure (.c (.fn (.f 33) [] [])) [.t 15]),Rq 8 (.mov (.t 16))]) (
.seq (
.reg [Rq 17 (.mov (.t 8)),Rq 18 (.bin .neq (.t 17) (.c (.int .i64 0)))]) (
.cond (.t 18) (
 .seq (
 .reg [Rq 19 (.mov (.t 8)),
   Rq 6 (.mov (.c (.str []))),
   Rq 7 (.mov (.t 19))]) (
 .ret)) (
 .skip)))) (
.seq (
.reg [Rq 20 (.ld 1 false (.t 3)),Rq 21 (.len 1 (.t 20)),Rq 22 (.mkf (.f 52) [] [.t 3,.t 4,.t 5]),Rq 23 (.call .pure (.c (.fn (.f 45) [] [])) [.t 21,.t 22]),Rq 24 (.call .pure (.c (.fn (.f 46) [] [])) [.t 23]),Rq 6 (.mov (.t 24)),Rq 7 (.mov (.c (.int .i64 0)))]) (
.ret)))⟩
def c19 : Fnc := ⟨[.t 4,.t 5],
.seq (
.reg [Rq 3 (.box 2 (.t 1)),Rq 4 (.mov (.c (.str []))),Rq 5 (.mov (.c (.int .i64 0)))]) (
.seq (
.seq (
.reg [Rq 7 (.mov (.t 0)),Rq 8 (.call .pure (.c (.fn (.f 4) [] [])) [.t 7]),Rq 9 (.ld 2 true (.t 3)),Rq 10 (.call .pure (.c (.fn (.f 53) [] [])) [.t 9]),Rq 11 (.mksl 2 1 [.int .i64 0,.int .i64 0] [(0,1,(.t 8)),(1,1,(.t 10))]),Rq 12 (.call .pure (.c (.fn (.f 33) [] [])) [.t 11]),Rq 6 (.mov (.t 12))]) (
.seq (
.reg [Rq 13 (.mov (.t 6)),Rq 14 (.bin .neq (.t 13) (.c (.int .i64 0)))]) (
.cond (.t 14) (
 .seq (
 .reg [Rq 15 (.mov (.t 6)),
   Rq 4 (.mov (.c (.str []))),
   Rq 5 (.mov (.t 15))]) (
 .ret)) (
 .skip)))) (
.seq (
.reg [Rq 16 (.ld 2 true (.t 3)),Rq 17 (.call .pure (.c (.fn (.f 54) [] [])) [.t 16]),Rq 18 (.mov (.t 0)),Rq 19 (.len 1 (.t 18)),Rq 20 (.call .pure (.c (.fn (.f 55) [] [])) [.t 17,.t 19]),Rq 21 (.mov (.t 0)),Rq 22 (.call .pure (.c (.fn (.f 56) [] [])) [.t 20,.t 21]),Rq 23 (.call .pure (.c (.fn (.f 57) [] [])) [.t 22]),Rq 24 (.ext 0 (.t 23)),Rq 25 (.ext 1 (.t 23)),Rq 4 (.mov (.t 24)),Rq 5 (.mov (.t 25))]) (
.ret)))⟩
def c20 : Fnc := ⟨[.t 6,.t 7],
.seq (
.reg [Rq 3 (.box 1 (.t 0)),Rq 4 (.box 1 (.t 1)),Rq 5 (.box 1 (.t 2)),Rq 6 (.mov (.c (.nils))),Rq 7 (.mov (.c (.int .i64 0)))]) (
.seq (
.seq (
.reg [Rq 9 (.ld 1 false (.t 3)),Rq 10 (.call .pure (.c (.fn (.f 4) [] [])) [.t 9]),Rq 11 (.ld 1 false (.t 4)),Rq 12 (.call .pure (.c (.fn (.f 51) [] [])) [.t 11]),Rq 13 (.ld 1 false (.t 5)),Rq 14 (.call .pure (.c (.fn (.f 51) [] [])) [.t 13]),Rq 15 (.mksl 3 1 [.int .i64 0,.int .i64 0,.int .i64 0] [(0,1,(.t 10)),(1,1,(.t 12)),(2,1,(.t 14))]),Rq 16 (.call .pure (.c (.fn (.f 33) [] [])) [.t 15]),Rq 8 (.mov (.t 16))]) (
.seq (
.reg [Rq 17 (.mov (.t 8)),Rq 18 (.bin .neq (.t 17) (.c (.int .i64 0)))]) (
.cond (.t 18) (
 .seq (
 .reg [Rq 19 (.mov (.t 8)),
   Rq 6 (.mov (.c (.nils))),
   Rq 7 (.mov (.t 19))]) (
 .ret)) (
 .skip)))) (
.seq (
.reg [Rq 20 (.ld 1 false (.t 3)),Rq 21 (.len 1 (.t 20)),Rq 22 (.mkf (.f 58) [] [.t 3,.t 4,.t 5]),Rq 23 (.call .pure (.c (.fn (.f 40) [] [])) [.t 21,.t 22]),Rq 6 (.mov (.t 23)),Rq 7 (.mov (.c (.int .i64 0)))]) (
.ret)))⟩
def c21_0 : VC :=
.seq (
.seq (
.reg [Rq 11 (.mov (.t 5)),Rq 12 (.mov (.t 0)),Rq 13 (.len 1 (.t 12)),Rq 14 (.bin .lss (.t 11) (.t 13))]) (
.cond (.t 14) (
 .skip) (
 .exit 0))) (
.seq (
.blk 1 (
.seq (
.reg [Rq 17 (.mov (.t 0)),Rq 18 (.mov (.t 5)),Rq 19 (.ixa 1 (.t 17) (.t 18)),Rq 20 (.ld 1 false (.t 19)),Rq 21 (.mov (.t 1)),Rq 22 (.mov (.t 5)),Rq 23 (.ixa 1 (.t 21) (.t 22)),Rq 24 (.ld 1 false (.t 23)),Rq 25 (.call .pure (.c (.fn (.f 59) [] [])) [.t 20,.t 24]),Rq 26 (.un .not (.t 25))]) (
.cond (.t 26) (
 .seq (
 .reg [Rq 4 (.mov (.c (.bool false)))]) (
 .ret)) (
 .skip)))) (
.reg [Rq 15 (.mov (.t 5)),Rq 16 (.bin .add (.t 15) (.c (.int .i64 1))),Rq 5 (.mov (.t 16))]))
def c21 : Fnc := ⟨[.t 4],
.seq (
.reg [Rq 4 (.mov (.c (.bool false)))]) (
.seq (
.seq (
.reg [Rq 6 (.mov (.t 0)),Rq 7 (.len 1 (.t 6)),Rq 8 (.mov (.t 1)),Rq 9 (.len 1 (.t 8)),Rq 10 (.bin .neq (.t 7) (.t 9))]) (
.cond (.t 10) (
 .seq (
 .reg [Rq 4 (.mov (.c (.bool false)))]) (
 .ret)) (
 .skip))) (
.seq (
.seq (
.reg [Rq 5 (.mov (.c (.int .i64 0)))]) (
.seq (
.blk 0 (
.loop [0,1,5] c21_0)) (
.kp []))) (
.seq (
.reg [Rq 4 (.mov (.c (.bool true)))]) (
.ret))))⟩
def c22 : Fnc := ⟨[.cell 6 2 true,.t 7],
.seq (
.reg [Rq 3 (.box 3 (.t 0)),Rq 5 (.box 2 (.t 2)),Rq 6 (.box 2 (.c (.agg [.str [],.str []]))),Rq 7 (.mov (.c (.int .i64 0)))]) (
.seq (
.seq (
.reg [Rq 10 (.ld 3 true (.t 3)),Rq 11 (.call .pure (.c (.fn (.f 60) [] [])) [.t 10]),Rq 12 (.mov (.t 1)),Rq 13 (.call .pure (.c (.fn (.f 61) [] [])) [.t 12,.c (.int .i64 0)]),Rq 14 (.ld 2 true (.t 5)),Rq 15 (.call .pure (.c (.fn (.f 53) [] [])) [.t 14]),Rq 16 (.mksl 3 1 [.int .i64 0,.int .i64 0,.int .i64 0] [(0,1,(.t 11)),(1,1,(.t 13)),(2,1,(.t 15))]),Rq 17 (.call .pure (.c (.fn (.f 33) [] [])) [.t 16]),Rq 8 (.mov (.t 17))]) (
.seq (
.reg [Rq 18 (.mov (.t 8)),Rq 19 (.bin .neq (.t 18) (.c (.int .i64 0)))]) (
.cond (.t 19) (
 .seq (
 .reg [Rq 20 (.mkagg [.str [],.str []] []),
   Rq 21 (.mov (.t 8)),
   ⟨none,none,.st 2 (.t 6) (.t 20)⟩,
   Rq 7 (.mov (.t 21))]) (
 .ret)) (
 .skip)))) (
.seq (
.reg [Rq 22 (.mov (.t 1)),Rq 23 (.call .pure (.c (.fn (.f 62) [] [])) [.t 22]),Rq 9 (.box 4 (.c (.agg [.int .i64 0,.nils,.int .i64 0,.nils]))),⟨none,none,.st 4 (.t 9) (.t 23)⟩]) (
.seq (
.seq (
.reg [Rq 24 (.ld 3 true (.t 3)),Rq 25 (.ld 4 true (.t 9)),Rq 26 (.call .pure (.c (.fn (.f 63) [] [])) [.t 24,.t 25]),Rq 27 (.un .not (.t 26))]) (
.cond (.t 27) (
 .seq (
 .reg [Rq 28 (.mkagg [.str [],.str []] []),
   ⟨none,none,.st 2 (.t 6) (.t 28)⟩,
   Rq 7 (.mov (.c (.int .i64 31)))]) (
 .ret)) (
 .skip))) (
.seq (
.reg [Rq 29 (.ld 3 true (.t 3)),Rq 30 (.ld 4 true (.t 9)),Rq 31 (.ld 2 true (.t 5)),Rq 32 (.call .pure (.c (.fn (.f 64) [] [])) [.t 29,.t 30,.t 31]),Rq 33 (.call .pure (.c (.fn (.f 65) [] [])) [.t 32]),Rq 34 (.ext 0 (.t 33)),Rq 35 (.ext 1 (.t 33)),⟨none,none,.st 2 (.t 6) (.t 34)⟩,Rq 7 (.mov (.t 35))]) (
.ret)))))⟩
def c23 : Fnc := ⟨[.cell 0 8 true],
.seq (
.reg [Rq 0 (.box 8 (.c (.agg [.nils,.str [],.str [],.str [],.str [],.str [],.str [],.str []])))]) (
.seq (
.reg [Rq 1 (.call .pure (.c (.fn (.f 15) [] [])) []),Rq 2 (.call .pure (.c (.fn (.f 14) [] [])) [.c (.str [48]),.c (.str [48])]),Rq 3 (.call .pure (.c (.fn (.f 14) [] [])) [.c (.str [49,47,50]),.c (.str [48])]),Rq 4 (.mkagg [.nils,.str [],.str [],.str [],.str [],.str [],.str [],.str []] [(0,1,(.t 1)),(1,1,(.c (.str [53]))),(2,1,(.c (.str [49]))),(3,1,(.c (.str [49,47,50]))),(4,2,(.t 2)),(6,2,(.t 3))]),⟨none,none,.st 8 (.t 0) (.t 4)⟩]) (
.ret))⟩
def c24 : Fnc := ⟨[.t 8,.t 9],
.seq (
.reg [Rq 4 (.box 8 (.t 0)),Rq 5 (.box 3 (.t 1)),Rq 6 (.box 2 (.t 2)),Rq 8 (.mov (.c (.str []))),Rq 9 (.mov (.c (.int .i64 0)))]) (
.seq (
.seq (
.reg [Rq 11 (.ld 8 true (.t 4)),Rq 12 (.ld 3 true (.t 5)),Rq 13 (.ld 2 true (.t 6)),Rq 14 (.mov (.t 3)),Rq 15 (.call .pure (.c (.fn (.f 66) [] [])) [.t 11,.t 12,.t 13,.t 14]),Rq 10 (.mov (.t 15))]) (
.seq (
.reg [Rq 16 (.mov (.t 10)),Rq 17 (.bin .neq (.t 16) (.c (.int .i64 0)))]) (
.cond (.t 17) (
 .seq (
 .reg [Rq 18 (.mov (.t 10)),
   Rq 8 (.mov (.c (.str []))),
   Rq 9 (.mov (.t 18))]) (
 .ret)) (
 .skip)))) (
.seq (
.reg [Rq 19 (.ld 8 true (.t 4)),Rq 20 (.ld 3 true (.t 5)),Rq 21 (.ld 2 true (.t 6)),Rq 22 (.mov (.t 3)),Rq 23 (.call .pure (.c (.fn (.f 67) [] [])) [.t 19,.t 20,.t 21,.t 22]),Rq 24 (.call .pure (.c (.fn (.f 57) [] [])) [.t 23]),Rq 25 (.ext 0 (.t 24)),Rq 26 (.ext 1 (.t 24)),Rq 8 (.mov (.t 25)),Rq 9 (.mov (.t 26))]) (
.ret)))⟩
def c25 : Fnc := ⟨[.cell 8 2 true,.t 9],
.seq (
.reg [Rq 4 (.box 3 (.t 0)),Rq 6 (.box 2 (.t 2)),Rq 7 (.box 2 (.t 3)),Rq 8 (.box 2 (.c (.agg [.str [],.str []]))),Rq 9 (.mov (.c (.int .i64 0)))]) (
.seq (
.seq (
.reg [Rq 14 (.ld 3 true (.t 4)),Rq 15 (.call .pure (.c (.fn (.f 60) [] [])) [.t 14]),Rq 16 (.ld 3 true (.t 4)),Rq 17 (.call .pure (.c (.fn (.f 68) [] [])) [.t 16]),Rq 18 (.call .pure (.c (.fn (.f 31) [] [])) [.t 17,.c (.int .i64 13)]),Rq 19 (.mov (.t 1)),Rq 20 (.call .pure (.c (.fn (.f 61) [] [])) [.t 19,.c (.int .i64 0)]),Rq 21 (.mksl 3 1 [.int .i64 0,.int .i64 0,.int .i64 0] [(0,1,(.t 15)),(1,1,(.t 18)),(2,1,(.t 20))]),Rq 22 (.call .pure (.c (.fn (.f 33) [] [])) [.t 21]),Rq 10 (.mov (.t 22))]) (
.seq (
.reg [Rq 23 (.mov (.t 10)),Rq 24 (.bin .neq (.t 23) (.c (.int .i64 0)))]) (
.cond (.t 24) (
 .seq (
 .reg [Rq 25 (.mkagg [.str [],.str []] []),
   Rq 26 (.mov (.t 10)),
   ⟨none,none,.st 2 (.t 8) (.t 25)⟩,
   Rq 9 (.mov (.t 26))]) (
 .ret)) (
 .skip)))) (
.seq (
.reg [Rq 27 (.mov (.t 1)),Rq 28 (.call .pure (.c (.fn (.f 62) [] [])) [.t 27]),Rq 29 (.call .pure (.c (.fn (.f 69) [] [])) [.c (.int .i64 2)]),Rq 30 (.call .pure (.c (.fn (.f 70) [] [])) [.t 28,.t 29]),Rq 31 (.off 2 (.t 4)),Rq 32 (.ld 1 false (.t 31)),Rq 33 (.call .pure (.c (.fn (.f 62) [] [])) [.t 32]),Rq 11 (.box 4 (.c (.agg [.int .i64 0,.nils,.int .i64 0,.nils]))),Rq 12 (.box 4 (.c (.agg [.int .i64 0,.nils,.int .i64 0,.nils]))),⟨none,none,.st 4 (.t 11) (.t 30)⟩,⟨none,none,.st 4 (.t 12) (.t 33)⟩]) (
.seq (
.seq (
.reg [Rq 34 (.ld 4 true (.t 11)),Rq 35 (.ld 4 true (.t 12)),Rq 36 (.call .pure (.c (.fn (.f 71) [] [])) [.t 34,.t 35]),Rq 37 (.bin .geq (.t 36) (.c (.int .i64 0))),Rq 38 (.call .pure (.c (.fn (.f 31) [] [])) [.t 37,.c (.int .i64 3)]),Rq 39 (.ld 2 true (.t 6)),Rq 40 (.call .pure (.c (.fn (.f 53) [] [])) [.t 39]),Rq 41 (.ld 2 true (.t 7)),Rq 42 (.call .pure (.c (.fn (.f 53) [] [])) [.t 41]),Rq 43 (.mksl 3 1 [.int .i64 0,.int .i64 0,.int .i64 0] [(0,1,(.t 38)),(1,1,(.t 40)),(2,1,(.t 42))]),Rq 44 (.call .pure (.c (.fn (.f 33) [] [])) [.t 43]),Rq 13 (.mov (.t 44))]) (
.seq (
.reg [Rq 45 (.mov (.t 13)),Rq 46 (.bin .neq (.t 45) (.c (.int .i64 0)))]) (
.cond (.t 46) (
 .seq (
 .reg [Rq 47 (.mkagg [.str [],.str []] []),
   Rq 48 (.mov (.t 13)),
   ⟨none,none,.st 2 (.t 8) (.t 47)⟩,
   Rq 9 (.mov (.t 48))]) (
 .ret)) (
 .skip)))) (
.seq (
.reg [Rq 49 (.ld 2 true (.t 7)),Rq 50 (.call .pure (.c (.fn (.f 54) [] [])) [.t 49]),Rq 51 (.ld 2 true (.t 6)),Rq 52 (.call .pure (.c (.fn (.f 54) [] [])) [.t 51]),Rq 53 (.call .pure (.c (.fn (.f 72) [] [])) [.t 50,.t 52]),Rq 54 (.ld 4 true (.t 12)),Rq 55 (.ld 4 true (.t 11)),Rq 56 (.call .pure (.c (.fn (.f 50) [] [])) [.t 54,.t 55]),Rq 57 (.call .pure (.c (.fn (.f 73) [] [])) [.t 56]),Rq 58 (.ld 4 true (.t 12)),Rq 59 (.ld 4 true (.t 11)),Rq 60 (.call .pure (.c (.fn (.f 74) [] [])) [.t 58,.t 59]),Rq 61 (.call .pure (.c (.fn (.f 73) [] [])) [.t 60]),Rq 62 (.call .pure (.c (.fn (.f 50) [] [])) [.t 57,.t 61]),Rq 63 (.call .pure (.c (.fn (.f 75) [] [])) [.t 53,.t 62]),Rq 64 (.call .pure (.c (.fn (.f 65) [] [])) [.t 63]),Rq 65 (.ext 0 (.t 64)),Rq 66 (.ext 1 (.t 64)),⟨none,none,.st 2 (.t 8) (.t 65)⟩,Rq 9 (.mov (.t 66))]) (
.ret)))))⟩
def c26_0 : VC :=
.seq (
.reg [Rq 78 (.bin .lss (.t 77) (.t 76))]) (
.seq (
.cond (.t 78) (
 .skip) (
 .exit 2)) (
.seq (
.blk 3 (
.seq (
.reg [Rq 79 (.ixa 2 (.t 75) (.t 77)),Rq 80 (.ld 2 true (.t 79)),Rq 16 (.box 2 (.c (.agg [.str [],.str []]))),⟨none,none,.st 2 (.t 16) (.t 80)⟩]) (
.seq (
.reg [Rq 82 (.mov (.t 0)),Rq 83 (.ld 3 true (.t 14)),Rq 84 (.ld 2 true (.t 16)),Rq 85 (.mov (.t 3)),Rq 86 (.mov (.t 11)),Rq 87 (.call .pure (.c (.fn (.f 82) [] [])) [.t 82,.t 83,.t 84,.t 85,.t 86]),Rq 88 (.call .pure (.c (.fn (.f 83) [] [])) [.t 87]),Rq 81 (.mov (.t 88)),Rq 89 (.ext 0 (.t 81)),Rq 90 (.ext 1 (.t 81)),Rq 17 (.mov (.t 89)),Rq 18 (.mov (.t 90))]) (
.seq (
.seq (
.reg [Rq 91 (.mov (.t 18)),Rq 92 (.bin .neq (.t 91) (.c (.int .i64 0)))]) (
.cond (.t 92) (
 .seq (
 .reg [Rq 93 (.mov (.t 18)),
   Rq 8 (.mov (.c (.nils))),
   Rq 9 (.mov (.t 93))]) (
 .ret)) (
 .skip))) (
.seq (
.fz [17]) (
.reg [Rq 94 (.mov (.t 12)),Rq 95 (.mov (.t 17)),Rq 96 (.mksl 1 1 [.nils] [(0,1,(.t 95))]),Rq 97 (.app 1 24 (.t 94) (.t 96)),Rq 12 (.mov (.t 97))])))))) (
.reg [Rq 98 (.bin .add (.t 77) (.c (.int .i64 1))),Rq 77 (.mov (.t 98))])))
def c26_1 : VC :=
.seq (
.reg [Rq 72 (.bin .lss (.t 71) (.t 70))]) (
.seq (
.cond (.t 72) (
 .skip) (
 .exit 0)) (
.seq (
.blk 1 (
.seq (
.reg [Rq 73 (.ixa 3 (.t 69) (.t 71)),Rq 74 (.ld 3 true (.t 73)),Rq 14 (.box 3 (.c (.agg [.str [],.str [],.str []]))),⟨none,none,.st 3 (.t 14) (.t 74)⟩]) (
.seq (
.reg [Rq 75 (.mov (.t 2)),Rq 76 (.len 1 (.t 75)),Rq 77 (.mov (.c (.int .i64 0)))]) (
.seq (
.blk 2 (
.loop [0,2,3,11,12,14,69,70,71,75,76,77] c26_0)) (
.kp [0,2,3,11,12,69,70,71]))))) (
.reg [Rq 99 (.bin .add (.t 71) (.c (.int .i64 1))),Rq 71 (.mov (.t 99))])))
def c26 : Fnc := ⟨[.t 8,.t 9],
.seq (
.reg [Rq 8 (.mov (.c (.nils))),Rq 9 (.mov (.c (.int .i64 0)))]) (
.seq (
.reg [Rq 19 (.mov (.t 0)),Rq 20 (.len 1 (.t 19)),Rq 21 (.bin .eql (.t 20) (.c (.int .i64 0))),Rq 22 (.call .pure (.c (.fn (.f 31) [] [])) [.t 21,.c (.int .i64 12)]),Rq 23 (.mov (.t 0)),Rq 24 (.call .pure (.c (.fn (.f 76) [] [])) [.t 23]),Rq 25 (.mov (.t 1)),Rq 26 (.len 1 (.t 25)),Rq 27 (.bin .eql (.t 26) (.c (.int .i64 0))),Rq 28 (.call .pure (.c (.fn (.f 31) [] [])) [.t 27,.c (.int .i64 12)]),Rq 29 (.mov (.t 1)),Rq 30 (.len 1 (.t 29)),Rq 31 (.bin .gtr (.t 30) (.c (.int .i64 6))),Rq 32 (.call .pure (.c (.fn (.f 31) [] [])) [.t 31,.c (.int .i64 5)]),Rq 33 (.mksl 4 1 [.int .i64 0,.int .i64 0,.int .i64 0,.int .i64 0] [(0,1,(.t 22)),(1,1,(.t 24)),(2,1,(.t 28)),(3,1,(.t 32))]),Rq 34 (.call .pure (.c (.fn (.f 33) [] [])) [.t 33]),Rq 10 (.mov (.t 34))]) (
.seq (
.seq (
.reg [Rq 35 (.mov (.t 10)),Rq 36 (.mov (.t 1)),Rq 37 (.mov (.t 1)),Rq 38 (.len 1 (.t 37)),Rq 39 (.mn [.t 38,.c (.int .i64 6)]),Rq 40 (.sli (.sl 3) (.t 36) none (some (.t 39))),Rq 41 (.call .pure (.c (.fn (.f 77) [] [])) [.t 40,.c (.fn (.f 60) [] [])]),Rq 42 (.call .pure (.c (.fn (.f 33) [] [])) [.t 41]),Rq 43 (.mov (.t 2)),Rq 44 (.len 1 (.t 43)),Rq 45 (.bin .eql (.t 44) (.c (.int .i64 0))),Rq 46 (.call .pure (.c (.fn (.f 31) [] [])) [.t 45,.c (.int .i64 12)]),Rq 47 (.mov (.t 2)),Rq 48 (.call .pure (.c (.fn (.f 78) [] [])) [.t 47]),Rq 49 (.mov (.t 3)),Rq 50 (.call .pure (.c (.fn (.f 51) [] [])) [.t 49]),Rq 51 (.mksl 5 1 [.int .i64 0,.int .i64 0,.int .i64 0,.int .i64 0,.int .i64 0] [(0,1,(.t 35)),(1,1,(.t 42)),(2,1,(.t 46)),(3,1,(.t 48)),(4,1,(.t 50))]),Rq 52 (.call .pure (.c (.fn (.f 33) [] [])) [.t 51]),Rq 10 (.mov (.t 52))]) (
.seq (
.reg [Rq 53 (.mov (.t 10)),Rq 54 (.bin .neq (.t 53) (.c (.int .i64 0)))]) (
.cond (.t 54) (
 .seq (
 .reg [Rq 55 (.mov (.t 10)),
   Rq 8 (.mov (.c (.nils))),
   Rq 9 (.mov (.t 55))]) (
 .ret)) (
 .skip)))) (
.seq (
.reg [Rq 56 (.mov (.t 0)),Rq 57 (.call .pure (.c (.fn (.f 79) [] [])) [.t 56,.c (.fn (.f 80) [] [])]),Rq 58 (.call .pure (.c (.fn (.f 37) [] [])) [.c (.int .i64 0),.t 57,.c (.fn (.f 81) [] [])]),Rq 11 (.mov (.t 58))]) (
.seq (
.seq (
.reg [Rq 59 (.mov (.t 11)),Rq 60 (.bin .gtr (.t 59) (.c (.int .i64 64))),Rq 61 (.mov (.t 60)),⟨some 62,some (61,false),.mov (.t 1)⟩,⟨some 63,some (61,false),.len 1 (.t 62)⟩,⟨some 64,some (61,false),.mov (.t 2)⟩,⟨some 65,some (61,false),.len 1 (.t 64)⟩,⟨some 66,some (61,false),.bin .mul (.t 63) (.t 65)⟩,⟨some 67,some (61,false),.bin .gtr (.t 66) (.c (.int .i64 64))⟩,Rq 68 (.pick (.t 61) (.c (.bool true)) (.t 67))]) (
.cond (.t 68) (
 .seq (
 .reg [Rq 8 (.mov (.c (.nils))),
   Rq 9 (.mov (.c (.int .i64 22)))]) (
 .ret)) (
 .skip))) (
.seq (
.reg [Rq 12 (.mov (.c (.nils)))]) (
.seq (
.seq (
.reg [Rq 69 (.mov (.t 1)),Rq 70 (.len 1 (.t 69)),Rq 71 (.mov (.c (.int .i64 0)))]) (
.seq (
.blk 0 (
.loop [0,2,3,11,12,69,70,71] c26_1)) (
.kp [12]))) (
.seq (
.reg [Rq 100 (.mov (.t 12)),Rq 8 (.mov (.t 100)),Rq 9 (.mov (.c (.int .i64 0)))]) (
.ret))))))))⟩
def c27_0 : VC :=
.seq (
.reg [Rq 53 (.bin .lss (.t 52) (.t 51))]) (
.seq (
.cond (.t 53) (
 .skip) (
 .exit 2)) (
.seq (
.blk 3 (
.seq (
.reg [Rq 54 (.ixa 1 (.t 50) (.t 52)),Rq 55 (.ld 1 false (.t 54)),Rq 13 (.mov (.t 55))]) (
.reg [Rq 56 (.mov (.t 10)),Rq 57 (.mov (.t 11)),Rq 58 (.mov (.t 10)),Rq 59 (.mov (.t 11)),Rq 60 (.ixa 1 (.t 58) (.t 59)),Rq 61 (.ld 1 false (.t 60)),Rq 62 (.mov (.t 13)),Rq 63 (.mov (.t 11)),Rq 64 (.ixa 4 (.t 62) (.t 63)),Rq 65 (.ld 4 true (.t 64)),Rq 66 (.mksl 1 4 [.int .i64 0,.nils,.int .i64 0,.nils] [(0,4,(.t 65))]),Rq 67 (.app 4 64 (.t 61) (.t 66)),Rq 68 (.ixa 1 (.t 56) (.t 57)),⟨none,none,.st 1 (.t 68) (.t 67)⟩]))) (
.reg [Rq 69 (.bin .add (.t 52) (.c (.int .i64 1))),Rq 52 (.mov (.t 69))])))
def c27_1 : VC :=
.seq (
.reg [Rq 48 (.bin .lss (.t 47) (.t 46))]) (
.seq (
.cond (.t 48) (
 .skip) (
 .exit 0)) (
.seq (
.blk 1 (
.seq (
.reg [Rq 49 (.mov (.t 47)),Rq 11 (.mov (.t 49))]) (
.seq (
.reg [Rq 50 (.mov (.t 9)),Rq 51 (.len 1 (.t 50)),Rq 52 (.mov (.c (.int .i64 0)))]) (
.seq (
.blk 2 (
.loop [1,5,9,10,11,46,47,50,51,52] c27_0)) (
.kp [1,5,9,10,46,47]))))) (
.reg [Rq 70 (.bin .add (.t 47) (.c (.int .i64 1))),Rq 47 (.mov (.t 70))])))
def c27 : Fnc := ⟨[.t 6,.t 7],
.seq (
.reg [Rq 5 (.box 1 (.t 2)),Rq 6 (.mov (.c (.nils))),Rq 7 (.mov (.c (.int .i64 0)))]) (
.seq (
.seq (
.reg [Rq 17 (.mov (.t 0)),Rq 18 (.call .pure (.c (.fn (.f 84) [] [])) [.t 17]),Rq 19 (.mov (.t 1)),Rq 20 (.call .pure (.c (.fn (.f 85) [] [])) [.t 19,.c (.fn (.f 86) [] [])]),Rq 21 (.call .pure (.c (.fn (.f 33) [] [])) [.t 20]),Rq 22 (.ld 1 false (.t 5)),Rq 23 (.call .pure (.c (.fn (.f 61) [] [])) [.t 22,.c (.int .i64 1)]),Rq 24 (.mov (.t 1)),Rq 25 (.len 1 (.t 24)),Rq 26 (.mov (.t 0)),Rq 27 (.len 1 (.t 26)),Rq 28 (.bin .neq (.t 25) (.t 27)),Rq 29 (.call .pure (.c (.fn (.f 31) [] [])) [.t 28,.c (.int .i64 2)]),Rq 30 (.mksl 4 1 [.int .i64 0,.int .i64 0,.int .i64 0,.int .i64 0] [(0,1,(.t 18)),(1,1,(.t 21)),(2,1,(.t 23)),(3,1,(.t 29))]),Rq 31 (.call .pure (.c (.fn (.f 33) [] [])) [.t 30]),Rq 8 (.mov (.t 31))]) (
.seq (
.reg [Rq 32 (.mov (.t 8)),Rq 33 (.bin .neq (.t 32) (.c (.int .i64 0)))]) (
.cond (.t 33) (
 .seq (
 .reg [Rq 34 (.mov (.t 8)),
   Rq 6 (.mov (.c (.nils))),
   Rq 7 (.mov (.t 34))]) (
 .ret)) (
 .skip)))) (
.seq (
.seq (
.reg [Rq 35 (.mov (.t 0)),Rq 36 (.len 1 (.t 35)),Rq 37 (.bin .eql (.t 36) (.c (.int .i64 0)))]) (
.cond (.t 37) (
 .seq (
 .reg [Rq 6 (.mov (.c (.nils))),
   Rq 7 (.mov (.c (.int .i64 0)))]) (
 .ret)) (
 .skip))) (
.seq (
.reg [Rq 38 (.mov (.t 0)),Rq 39 (.call .pure (.c (.fn (.f 87) [] [])) [.t 38,.c (.fn (.f 88) [] [])]),Rq 9 (.mov (.t 39))]) (
.seq (
.reg [Rq 40 (.mov (.t 9)),Rq 41 (.ixa 1 (.t 40) (.c (.int .i64 0))),Rq 42 (.ld 1 false (.t 41)),Rq 43 (.len 1 (.t 42)),Rq 44 (.mks 1 24 [.nils] (.t 43) (.t 43)),Rq 10 (.mov (.t 44))]) (
.seq (
.seq (
.reg [Rq 45 (.mov (.t 10)),Rq 46 (.len 1 (.t 45)),Rq 47 (.mov (.c (.int .i64 0)))]) (
.seq (
.blk 0 (
.loop [1,5,9,10,46,47] c27_1)) (
.kp [1,5,9,10]))) (
.seq (
.reg [Rq 71 (.mov (.t 1)),Rq 72 (.call .pure (.c (.fn (.f 88) [] [])) [.t 71]),Rq 14 (.box 1 (.c (.nils))),⟨none,none,.st 1 (.t 14) (.t 72)⟩]) (
.seq (
.reg [Rq 73 (.mkf (.f 89) [] [.t 5]),Rq 15 (.mov (.t 73))]) (
.seq (
.seq (
.reg [Rq 74 (.mov (.t 9)),Rq 75 (.len 1 (.t 74)),Rq 76 (.mov (.t 10)),Rq 77 (.len 1 (.t 76)),Rq 78 (.bin .lss (.t 75) (.t 77))]) (
.cond (.t 78) (
 .seq (
 .reg [Rq 79 (.mov (.t 15)),
   Rq 80 (.mov (.t 9)),
   Rq 81 (.call .pure (.t 79) [.t 80]),
   Rq 82 (.ld 1 false (.t 14)),
   Rq 83 (.call .pure (.c (.fn (.f 90) [] [])) [.t 81,.t 82]),
   Rq 16 (.box 1 (.c (.nils))),
   ⟨none,none,.st 1 (.t 16) (.t 83)⟩]) (
 .seq (
 .reg [Rq 84 (.mov (.t 10)),
   Rq 85 (.mkf (.f 91) [] [.t 16]),
   Rq 86 (.call .pure (.c (.fn (.f 92) [] [])) [.t 84,.t 85]),
   Rq 87 (.call .pure (.c (.fn (.f 83) [] [])) [.t 86]),
   Rq 88 (.ext 0 (.t 87)),
   Rq 89 (.ext 1 (.t 87)),
   Rq 6 (.mov (.t 88)),
   Rq 7 (.mov (.t 89))]) (
 .ret))) (
 .skip))) (
.seq (
.reg [Rq 90 (.mov (.t 15)),Rq 91 (.mov (.t 10)),Rq 92 (.call .pure (.t 90) [.t 91]),Rq 93 (.mov (.t 10)),Rq 94 (.mkf (.f 93) [] [.t 14]),Rq 95 (.call .pure (.c (.fn (.f 92) [] [])) [.t 93,.t 94]),Rq 96 (.call .pure (.c (.fn (.f 90) [] [])) [.t 92,.t 95]),Rq 97 (.call .pure (.c (.fn (.f 83) [] [])) [.t 96]),Rq 98 (.ext 0 (.t 97)),Rq 99 (.ext 1 (.t 97)),Rq 6 (.mov (.t 98)),Rq 7 (.mov (.t 99))]) (
.ret))))))))))⟩
def c28_0 : VC :=
.seq (
.seq (
.reg [Rq 11 (.mov (.t 5)),Rq 12 (.mov (.t 0)),Rq 13 (.len 1 (.t 12)),Rq 14 (.bin .lss (.t 11) (.t 13))]) (
.cond (.t 14) (
 .skip) (
 .exit 0))) (
.seq (
.blk 1 (
.seq (
.reg [Rq 17 (.mov (.t 0)),Rq 18 (.mov (.t 5)),Rq 19 (.ixa 1 (.t 17) (.t 18)),Rq 20 (.ld 1 false (.t 19)),Rq 21 (.mov (.t 1)),Rq 22 (.mov (.t 5)),Rq 23 (.ixa 1 (.t 21) (.t 22)),Rq 24 (.ld 1 false (.t 23)),Rq 25 (.call .pure (.c (.fn (.f 29) [] [])) [.t 20,.t 24]),Rq 26 (.un .not (.t 25))]) (
.cond (.t 26) (
 .seq (
 .reg [Rq 4 (.mov (.c (.bool false)))]) (
 .ret)) (
 .skip)))) (
.reg [Rq 15 (.mov (.t 5)),Rq 16 (.bin .add (.t 15) (.c (.int .i64 1))),Rq 5 (.mov (.t 16))]))
def c28 : Fnc := ⟨[.t 4],
.seq (
.reg [Rq 4 (.mov (.c (.bool false)))]) (
.seq (
.seq (
.reg [Rq 6 (.mov (.t 0)),Rq 7 (.len 1 (.t 6)),Rq 8 (.mov (.t 1)),Rq 9 (.len 1 (.t 8)),Rq 10 (.bin .neq (.t 7) (.t 9))]) (
.cond (.t 10) (
 .seq (
 .reg [Rq 4 (.mov (.c (.bool false)))]) (
 .ret)) (
 .skip))) (
.seq (
.seq (
.reg [Rq 5 (.mov (.c (.int .i64 0)))]) (
.seq (
.blk 0 (
.loop [0,1,5] c28_0)) (
.kp []))) (
.seq (
.reg [Rq 4 (.mov (.c (.bool true)))]) (
.ret))))⟩
def c29_0 : VC :=
.seq (
.seq (
.reg [Rq 11 (.mov (.t 5)),Rq 12 (.mov (.t 0)),Rq 13 (.len 1 (.t 12)),Rq 14 (.bin .lss (.t 11) (.t 13))]) (
.cond (.t 14) (
 .skip) (
 .exit 0))) (
.seq (
.blk 1 (
.seq (
.reg [Rq 17 (.mov (.t 0)),Rq 18 (.mov (.t 5)),Rq 19 (.ixa 1 (.t 17) (.t 18)),Rq 20 (.ld 1 false (.t 19)),Rq 21 (.mov (.t 1)),Rq 22 (.mov (.t 5)),Rq 23 (.ixa 1 (.t 21) (.t 22)),Rq 24 (.ld 1 false (.t 23)),Rq 25 (.bin .neq (.t 20) (.t 24))]) (
.cond (.t 25) (
 .seq (
 .reg [Rq 4 (.mov (.c (.bool false)))]) (
 .ret)) (
 .skip)))) (
.reg [Rq 15 (.mov (.t 5)),Rq 16 (.bin .add (.t 15) (.c (.int .i64 1))),Rq 5 (.mov (.t 16))]))
def c29 : Fnc := ⟨[.t 4],
.seq (
.reg [Rq 4 (.mov (.c (.bool false)))]) (
.seq (
.seq (
.reg [Rq 6 (.mov (.t 0)),Rq 7 (.len 1 (.t 6)),Rq 8 (.mov (.t 1)),Rq 9 (.len 1 (.t 8)),Rq 10 (.bin .neq (.t 7) (.t 9))]) (
.cond (.t 10) (
 .seq (
 .reg [Rq 4 (.mov (.c (.bool false)))]) (
 .ret)) (
 .skip))) (
.seq (
.seq (
.reg [Rq 5 (.mov (.c (.int .i64 0)))]) (
.seq (
.blk 0 (
.loop [0,1,5] c29_0)) (
.kp []))) (
.seq (
.reg [Rq 4 (.mov (.c (.bool true)))]) (
.ret))))⟩
def c30 : Fnc := ⟨[.t 6],
.seq (
.reg [Rq 6 (.mov (.c (.int .i64 0)))]) (
.seq (
.seq (
.reg [Rq 7 (.mov (.t 0)),Rq 8 (.mov (.t 1)),Rq 9 (.bin .lss (.t 7) (.t 8)),Rq 10 (.mov (.t 9)),⟨some 11,some (10,false),.mov (.t 0)⟩,⟨some 12,some (10,false),.mov (.t 2)⟩,⟨some 13,some (10,false),.bin .gtr (.t 11) (.t 12)⟩,Rq 14 (.pick (.t 10) (.c (.bool true)) (.t 13))]) (
.cond (.t 14) (
 .seq (
 .reg [Rq 6 (.mov (.c (.int .i64 3)))]) (
 .ret)) (
 .skip))) (
.seq (
.reg [Rq 6 (.mov (.c (.int .i64 0)))]) (
.ret)))⟩
def c31 : Fnc := ⟨[.t 4],
.seq (
.reg [Rq 4 (.mov (.c (.int .i64 0)))]) (
.seq (
.seq (
.reg [Rq 5 (.mov (.t 0))]) (
.cond (.t 5) (
 .seq (
 .reg [Rq 6 (.mov (.t 1)),
   Rq 4 (.mov (.t 6))]) (
 .ret)) (
 .skip))) (
.seq (
.reg [Rq 4 (.mov (.c (.int .i64 0)))]) (
.ret)))⟩
def c32_0 : VC :=
.seq (
.reg [Rq 12 (.bin .lss (.t 11) (.t 10))]) (
.seq (
.cond (.t 12) (
 .skip) (
 .exit 0)) (
.seq (
.blk 1 (
.seq (
.reg [Rq 13 (.ixa 1 (.t 9) (.t 11)),Rq 14 (.ld 1 false (.t 13)),Rq 6 (.mov (.t 14))]) (
.seq (
.reg [Rq 15 (.mov (.t 6)),Rq 16 (.mkf (.f 94) [] [.t 3]),Rq 17 (.call .pure (.c (.fn (.f 95) [] [])) [.t 15,.t 16]),Rq 7 (.mov (.t 17))]) (
.seq (
.reg [Rq 18 (.mov (.t 6)),Rq 19 (.len 1 (.t 18)),Rq 20 (.mov (.t 0)),Rq 21 (.len 1 (.t 20)),Rq 22 (.bin .neq (.t 19) (.t 21)),Rq 23 (.call .pure (.c (.fn (.f 31) [] [])) [.t 22,.c (.int .i64 2)]),Rq 24 (.mov (.t 7)),Rq 25 (.call .pure (.c (.fn (.f 31) [] [])) [.t 24,.c (.int .i64 3)]),Rq 26 (.mksl 2 1 [.int .i64 0,.int .i64 0] [(0,1,(.t 23)),(1,1,(.t 25))]),Rq 27 (.call .pure (.c (.fn (.f 33) [] [])) [.t 26]),Rq 8 (.mov (.t 27))]) (
.seq (
.reg [Rq 28 (.mov (.t 8)),Rq 29 (.bin .neq (.t 28) (.c (.int .i64 0)))]) (
.cond (.t 29) (
 .seq (
 .reg [Rq 30 (.mov (.t 8)),
   Rq 4 (.mov (.t 30))]) (
 .ret)) (
 .skip))))))) (
.reg [Rq 31 (.bin .add (.t 11) (.c (.int .i64 1))),Rq 11 (.mov (.t 31))])))
def c32 : Fnc := ⟨[.t 4],
.seq (
.reg [Rq 3 (.box 1 (.t 1)),Rq 4 (.mov (.c (.int .i64 0)))]) (
.seq (
.seq (
.reg [Rq 9 (.mov (.t 0)),Rq 10 (.len 1 (.t 9)),Rq 11 (.mov (.c (.int .i64 0)))]) (
.seq (
.blk 0 (
.loop [0,3,9,10,11] c32_0)) (
.kp []))) (
.seq (
.reg [Rq 4 (.mov (.c (.int .i64 0)))]) (
.ret)))⟩
def c33_0 : VC :=
.seq (
.reg [Rq 8 (.bin .lss (.t 7) (.t 6))]) (
.seq (
.cond (.t 8) (
 .skip) (
 .exit 0)) (
.seq (
.blk 1 (
.seq (
.reg [Rq 9 (.ixa 1 (.t 5) (.t 7)),Rq 10 (.ld 1 false (.t 9)),Rq 4 (.mov (.t 10))]) (
.seq (
.reg [Rq 11 (.mov (.t 4)),Rq 12 (.bin .neq (.t 11) (.c (.int .i64 0)))]) (
.cond (.t 12) (
 .seq (
 .reg [Rq 13 (.mov (.t 4)),
   Rq 2 (.mov (.t 13))]) (
 .ret)) (
 .skip))))) (
.reg [Rq 14 (.bin .add (.t 7) (.c (.int .i64 1))),Rq 7 (.mov (.t 14))])))
def c33 : Fnc := ⟨[.t 2],
.seq (
.reg [Rq 2 (.mov (.c (.int .i64 0)))]) (
.seq (
.seq (
.reg [Rq 5 (.mov (.t 0)),Rq 6 (.len 1 (.t 5)),Rq 7 (.mov (.c (.int .i64 0)))]) (
.seq (
.blk 0 (
.loop [5,6,7] c33_0)) (
.kp []))) (
.seq (
.reg [Rq 2 (.mov (.c (.int .i64 0)))]) (
.ret)))⟩
def c34 : Fnc := ⟨[.t 6],
.seq (
.reg [Rq 6 (.mov (.c (.int .i64 0)))]) (
.seq (
.reg [Rq 7 (.mov (.t 0)),Rq 8 (.mov (.t 1)),Rq 9 (.bin .lss (.t 7) (.t 8)),Rq 10 (.mov (.t 9)),⟨some 11,some (10,false),.mov (.t 0)⟩,⟨some 12,some (10,false),.mov (.t 2)⟩,⟨some 13,some (10,false),.bin .gtr (.t 11) (.t 12)⟩,Rq 14 (.pick (.t 10) (.c (.bool true)) (.t 13)),Rq 15 (.call .pure (.c (.fn (.f 31) [] [])) [.t 14,.c (.int .i64 3)]),Rq 6 (.mov (.t 15))]) (
.ret))⟩
def c35_0 : VC :=
.seq (
.reg [Rq 11 (.bin .lss (.t 10) (.t 9))]) (
.seq (
.cond (.t 11) (
 .skip) (
 .exit 0)) (
.seq (
.blk 1 (
.seq (
.reg [Rq 12 (.ixa 1 (.t 8) (.t 10)),Rq 13 (.ld 1 false (.t 12)),Rq 7 (.mov (.t 13))]) (
.reg [Rq 14 (.mov (.t 5)),Rq 15 (.mov (.t 1)),Rq 16 (.mov (.t 7)),Rq 17 (.call .pure (.t 15) [.t 16]),Rq 18 (.mksl 1 1 [.int .i64 0] [(0,1,(.t 17))]),Rq 19 (.app 1 8 (.t 14) (.t 18)),Rq 5 (.mov (.t 19))]))) (
.reg [Rq 20 (.bin .add (.t 10) (.c (.int .i64 1))),Rq 10 (.mov (.t 20))])))
def c35 : Fnc := ⟨[.t 4],
.seq (
.reg [Rq 4 (.mov (.c (.nils)))]) (
.seq (
.reg [Rq 5 (.mov (.c (.nils)))]) (
.seq (
.seq (
.reg [Rq 8 (.mov (.t 0)),Rq 9 (.len 1 (.t 8)),Rq 10 (.mov (.c (.int .i64 0)))]) (
.seq (
.blk 0 (
.loop [1,5,8,9,10] c35_0)) (
.kp [5]))) (
.seq (
.reg [Rq 21 (.mov (.t 5)),Rq 4 (.mov (.t 21))]) (
.ret))))⟩
def c36 : Fnc := ⟨[.t 2],
.seq (
.reg [Rq 2 (.mov (.c (.int .i64 0)))]) (
.seq (
.reg [Rq 3 (.mov (.t 0)),Rq 4 (.call .pure (.c (.fn (.f 34) [] [])) [.t 3,.c (.int .i64 0),.c (.int .i64 1000)]),Rq 2 (.mov (.t 4))]) (
.ret))⟩
def c37_0 : VC :=
.seq (
.reg [Rq 12 (.bin .lss (.t 11) (.t 10))]) (
.seq (
.cond (.t 12) (
 .skip) (
 .exit 0)) (
.seq (
.blk 1 (
.seq (
.reg [Rq 13 (.ixa 1 (.t 9) (.t 11)),Rq 14 (.ld 1 false (.t 13)),Rq 8 (.mov (.t 14))]) (
.reg [Rq 15 (.mov (.t 2)),Rq 16 (.mov (.t 0)),Rq 17 (.mov (.t 8)),Rq 18 (.call .pure (.t 15) [.t 16,.t 17]),Rq 0 (.mov (.t 18))]))) (
.reg [Rq 19 (.bin .add (.t 11) (.c (.int .i64 1))),Rq 11 (.mov (.t 19))])))
def c37 : Fnc := ⟨[.t 6],
.seq (
.reg [Rq 6 (.mov (.c (.int .i64 0)))]) (
.seq (
.seq (
.reg [Rq 9 (.mov (.t 1)),Rq 10 (.len 1 (.t 9)),Rq 11 (.mov (.c (.int .i64 0)))]) (
.seq (
.blk 0 (
.loop [0,2,9,10,11] c37_0)) (
.kp [0]))) (
.seq (
.reg [Rq 20 (.mov (.t 0)),Rq 6 (.mov (.t 20))]) (
.ret)))⟩
def c38 : Fnc := ⟨[.t 4],
.seq (
.reg [Rq 4 (.mov (.c (.int .i64 0)))]) (
.seq (
.reg [Rq 5 (.mov (.t 0)),Rq 6 (.mov (.t 1)),Rq 7 (.bin .add (.t 5) (.t 6)),Rq 4 (.mov (.t 7))]) (
.ret))⟩
def c39_0 : VC :=
.seq (
.reg [Rq 21 (.bin .lss (.t 20) (.t 19))]) (
.seq (
.cond (.t 21) (
 .skip) (
 .exit 0)) (
.seq (
.blk 1 (
.seq (
.reg [Rq 22 (.mov (.t 20)),Rq 23 (.ixa 1 (.t 18) (.t 20)),Rq 24 (.ld 1 false (.t 23)),Rq 10 (.mov (.t 22)),Rq 11 (.mov (.t 24))]) (
.seq (
.seq (
.reg [Rq 25 (.mov (.t 8)),Rq 26 (.mov (.t 11)),Rq 27 (.bin .lss (.t 25) (.t 26))]) (
.cond (.t 27) (
 .seq (
 .reg [Rq 28 (.mov (.t 10)),
   Rq 29 (.ld 1 false (.t 4)),
   Rq 30 (.len 1 (.t 29)),
   Rq 31 (.bin .quo (.t 30) (.c (.int .i64 2))),
   Rq 32 (.bin .sub (.t 28) (.t 31)),
   Rq 9 (.mov (.t 32))]) (
 .exit 0)) (
 .skip))) (
.reg [Rq 33 (.mov (.t 8)),Rq 34 (.mov (.t 11)),Rq 35 (.bin .sub (.t 33) (.t 34)),Rq 8 (.mov (.t 35))])))) (
.reg [Rq 36 (.bin .add (.t 20) (.c (.int .i64 1))),Rq 20 (.mov (.t 36))])))
def c39 : Fnc := ⟨[.t 7],
.seq (
.reg [Rq 7 (.mov (.c (.int .i64 0)))]) (
.seq (
.reg [Rq 12 (.ld 1 false (.t 2)),Rq 13 (.bin .mul (.c (.int .i64 39373)) (.t 12)),Rq 14 (.bin .rem (.t 13) (.c (.int .i64 2147483647))),⟨none,none,.st 1 (.t 2) (.t 14)⟩]) (
.seq (
.reg [Rq 15 (.ld 1 false (.t 2)),Rq 16 (.ld 1 false (.t 3)),Rq 17 (.bin .rem (.t 15) (.t 16)),Rq 8 (.mov (.t 17)),Rq 9 (.mov (.c (.int .i64 0)))]) (
.seq (
.skip) (
.seq (
.seq (
.reg [Rq 18 (.ld 1 false (.t 4)),Rq 19 (.len 1 (.t 18)),Rq 20 (.mov (.c (.int .i64 0)))]) (
.seq (
.blk 0 (
.loop [4,8,9,18,19,20] c39_0)) (
.kp [9]))) (
.seq (
.reg [Rq 37 (.mov (.t 9)),Rq 7 (.mov (.t 37))]) (
.ret))))))⟩
def c40_0 : VC :=
.seq (
.reg [Rq 6 (.mov (.t 12))]) (
.reg [Rq 7 (.mov (.t 13))])
def c40_1 : VC :=
.blk 1 (
.seq (
.seq (
.reg [Rq 14 (.mov (.t 6)),Rq 15 (.bin .eql (.t 14) (.c (.int .i64 0)))]) (
.cond (.t 15) (
 .reg [Rq 16 (.ld 1 false (.t 5)),
   Rq 17 (.mov (.t 7)),
   Rq 18 (.ld 1 false (.t 2)),
   Rq 19 (.mks 1 8 [.int .i64 0] (.t 18) (.t 18)),
   Rq 20 (.ixa 1 (.t 16) (.t 17)),
   ⟨none,none,.st 1 (.t 20) (.t 19)⟩]) (
 .skip))) (
.reg [Rq 21 (.ld 1 false (.t 5)),Rq 22 (.mov (.t 7)),Rq 23 (.ixa 1 (.t 21) (.t 22)),Rq 24 (.ld 1 false (.t 23)),Rq 25 (.mov (.t 6)),Rq 26 (.ld 1 false (.t 3)),Rq 27 (.mov (.t 6)),Rq 28 (.mov (.t 7)),Rq 29 (.calld [(1,false,5),(1,false,23)] (.t 26) [.t 27,.t 28]),Rq 30 (.ixa 1 (.t 24) (.t 25)),⟨none,none,.st 1 (.t 30) (.t 29)⟩]))
def c40 : Fnc := ⟨[.t 4],
.seq (
.reg [Rq 2 (.box 1 (.t 0)),Rq 3 (.box 1 (.t 1)),Rq 4 (.mov (.c (.nils)))]) (
.seq (
.reg [Rq 8 (.ld 1 false (.t 2)),Rq 9 (.mks 1 24 [.nils] (.t 8) (.t 8)),Rq 5 (.box 1 (.c (.nils))),⟨none,none,.st 1 (.t 5) (.t 9)⟩]) (
.seq (
.seq (
.reg [Rq 10 (.ld 1 false (.t 2)),Rq 11 (.call .pure (.c (.fn (.f 96) [] [])) [.t 10])]) (
.blk 0 (
.rf (.t 11) [12,13] c40_0 c40_1))) (
.seq (
.reg [Rq 31 (.ld 1 false (.t 5)),Rq 4 (.mov (.t 31))]) (
.ret))))⟩
def c41_0 : VC :=
.seq (
.reg [Rq 9 (.mov (.t 14))]) (
.reg [Rq 10 (.mov (.t 15))])
def c41_1 : VC :=
.blk 1 (
.reg [Rq 16 (.ld 1 false (.t 8)),Rq 17 (.ld 1 false (.t 2)),Rq 18 (.mov (.t 10)),Rq 19 (.ixa 1 (.t 17) (.t 18)),Rq 20 (.ld 1 false (.t 19)),Rq 21 (.mov (.t 9)),Rq 22 (.ixa 1 (.t 20) (.t 21)),Rq 23 (.ld 1 false (.t 22)),Rq 24 (.ld 1 false (.t 3)),Rq 25 (.ld 1 false (.t 5)),Rq 26 (.mov (.t 9)),Rq 27 (.bin .add (.t 25) (.t 26)),Rq 28 (.ld 1 false (.t 4)),Rq 29 (.bin .sub (.t 27) (.t 28)),Rq 30 (.ld 1 false (.t 6)),Rq 31 (.mov (.t 10)),Rq 32 (.bin .add (.t 30) (.t 31)),Rq 33 (.ld 1 false (.t 4)),Rq 34 (.bin .sub (.t 32) (.t 33)),Rq 35 (.call .pure (.c (.fn (.f 97) [] [])) [.t 24,.t 29,.t 34]),Rq 36 (.bin .mul (.t 23) (.t 35)),Rq 37 (.bin .add (.t 16) (.t 36)),⟨none,none,.st 1 (.t 8) (.t 37)⟩])
def c41 : Fnc := ⟨[.t 7],
.seq (
.reg [Rq 5 (.box 1 (.t 0)),Rq 6 (.box 1 (.t 1)),Rq 7 (.mov (.c (.int .i64 0)))]) (
.seq (
.reg [Rq 8 (.box 1 (.c (.int .i64 0))),⟨none,none,.st 1 (.t 8) (.c (.int .i64 0))⟩]) (
.seq (
.seq (
.reg [Rq 11 (.ld 1 false (.t 2)),Rq 12 (.len 1 (.t 11)),Rq 13 (.call .pure (.c (.fn (.f 96) [] [])) [.t 12])]) (
.blk 0 (
.rf (.t 13) [14,15] c41_0 c41_1))) (
.seq (
.reg [Rq 38 (.ld 1 false (.t 8)),Rq 7 (.mov (.t 38))]) (
.ret))))⟩
def c42_0 : VC :=
.seq (
.seq (
.reg [Rq 4 (.mov (.t 3)),Rq 5 (.mov (.t 0)),Rq 6 (.len 1 (.t 5)),Rq 7 (.bin .lss (.t 4) (.t 6))]) (
.cond (.t 7) (
 .skip) (
 .exit 0))) (
.seq (
.blk 1 (
.seq (
.reg [Rq 10 (.mov (.t 0)),Rq 11 (.mov (.t 3)),Rq 12 (.ixa 1 (.t 10) (.t 11)),Rq 13 (.ld 1 false (.t 12)),Rq 14 (.bin .neq (.t 13) (.c (.int .i64 0)))]) (
.cond (.t 14) (
 .seq (
 .reg [Rq 15 (.mov (.t 0)),
   Rq 16 (.mov (.t 3)),
   Rq 17 (.ixa 1 (.t 15) (.t 16)),
   Rq 18 (.ld 1 false (.t 17)),
   Rq 2 (.mov (.t 18))]) (
 .ret)) (
 .skip)))) (
.reg [Rq 8 (.mov (.t 3)),Rq 9 (.bin .add (.t 8) (.c (.int .i64 1))),Rq 3 (.mov (.t 9))]))
def c42 : Fnc := ⟨[.t 2],
.seq (
.reg [Rq 2 (.mov (.c (.int .i64 0)))]) (
.seq (
.seq (
.reg [Rq 3 (.mov (.c (.int .i64 0)))]) (
.seq (
.blk 0 (
.loop [0,3] c42_0)) (
.kp []))) (
.seq (
.reg [Rq 2 (.mov (.c (.int .i64 0)))]) (
.ret)))⟩
def c43 : Fnc := ⟨[.t 6],
.seq (
.reg [Rq 6 (.mov (.c (.int .i64 0)))]) (
.seq (
.reg [Rq 8 (.mov (.t 0)),Rq 9 (.len 1 (.t 8)),Rq 7 (.mov (.t 9))]) (
.seq (
.reg [Rq 10 (.mov (.t 0)),Rq 11 (.mov (.t 2)),Rq 12 (.mov (.t 7)),Rq 13 (.bin .rem (.t 11) (.t 12)),Rq 14 (.mov (.t 7)),Rq 15 (.bin .add (.t 13) (.t 14)),Rq 16 (.mov (.t 7)),Rq 17 (.bin .rem (.t 15) (.t 16)),Rq 18 (.ixa 1 (.t 10) (.t 17)),Rq 19 (.ld 1 false (.t 18)),Rq 20 (.mov (.t 1)),Rq 21 (.mov (.t 7)),Rq 22 (.bin .rem (.t 20) (.t 21)),Rq 23 (.mov (.t 7)),Rq 24 (.bin .add (.t 22) (.t 23)),Rq 25 (.mov (.t 7)),Rq 26 (.bin .rem (.t 24) (.t 25)),Rq 27 (.ixa 1 (.t 19) (.t 26)),Rq 28 (.ld 1 false (.t 27)),Rq 6 (.mov (.t 28))]) (
.ret)))⟩
def c44 : Fnc := ⟨[.t 5],
.seq (
.reg [Rq 5 (.mov (.c (.int .i64 0)))]) (
.seq (
.reg [Rq 6 (.ld 1 false (.t 2)),Rq 7 (.mov (.t 1)),Rq 8 (.ixa 1 (.t 6) (.t 7)),Rq 9 (.ld 1 false (.t 8)),Rq 10 (.mov (.t 0)),Rq 11 (.ixa 1 (.t 9) (.t 10)),Rq 12 (.ld 1 false (.t 11)),Rq 5 (.mov (.t 12))]) (
.ret))⟩
def c45_0 : VC :=
.seq (
.reg [Rq 6 (.mov (.t 10))]) (
.reg [Rq 7 (.mov (.t 11))])
def c45_1 : VC :=
.blk 1 (
.reg [Rq 12 (.ld 1 false (.t 5)),Rq 13 (.ld 1 false (.t 3)),Rq 14 (.mov (.t 6)),Rq 15 (.mov (.t 7)),Rq 16 (.call .pure (.t 13) [.t 14,.t 15]),Rq 17 (.bin .add (.t 12) (.t 16)),⟨none,none,.st 1 (.t 5) (.t 17)⟩])
def c45 : Fnc := ⟨[.cell 4 4 true],
.seq (
.reg [Rq 3 (.box 1 (.t 1)),Rq 4 (.box 4 (.c (.agg [.int .i64 0,.nils,.int .i64 0,.nils])))]) (
.seq (
.reg [Rq 5 (.box 1 (.c (.int .i64 0))),⟨none,none,.st 1 (.t 5) (.c (.int .i64 0))⟩]) (
.seq (
.seq (
.reg [Rq 8 (.mov (.t 0)),Rq 9 (.call .pure (.c (.fn (.f 96) [] [])) [.t 8])]) (
.blk 0 (
.rf (.t 9) [10,11] c45_0 c45_1))) (
.seq (
.reg [Rq 18 (.ld 1 false (.t 5)),Rq 19 (.call .pure (.c (.fn (.f 69) [] [])) [.t 18]),Rq 20 (.mov (.t 0)),Rq 21 (.mov (.t 0)),Rq 22 (.bin .mul (.t 20) (.t 21)),Rq 23 (.call .pure (.c (.fn (.f 69) [] [])) [.t 22]),Rq 24 (.call .pure (.c (.fn (.f 70) [] [])) [.t 19,.t 23]),⟨none,none,.st 4 (.t 4) (.t 24)⟩]) (
.ret))))⟩
def c46 : Fnc := ⟨[.t 2],
.seq (
.reg [Rq 1 (.box 4 (.t 0)),Rq 2 (.mov (.c (.str [])))]) (
.seq (
.seq (
.reg [Rq 3 (.ld 4 true (.t 1)),Rq 4 (.call .pure (.c (.fn (.f 98) [] [])) [.t 3])]) (
.cond (.t 4) (
 .seq (
 .reg [Rq 5 (.off 0 (.t 1)),
   Rq 6 (.ld 2 true (.t 5)),
   Rq 7 (.call .pure (.c (.fn (.f 99) [] [])) [.t 6]),
   Rq 2 (.mov (.t 7))]) (
 .ret)) (
 .skip))) (
.seq (
.reg [Rq 8 (.off 0 (.t 1)),Rq 9 (.ld 2 true (.t 8)),Rq 10 (.call .pure (.c (.fn (.f 99) [] [])) [.t 9]),Rq 11 (.bin .add (.t 10) (.c (.str [47]))),Rq 12 (.off 2 (.t 1)),Rq 13 (.ld 2 true (.t 12)),Rq 14 (.call .pure (.c (.fn (.f 99) [] [])) [.t 13]),Rq 15 (.bin .add (.t 11) (.t 14)),Rq 2 (.mov (.t 15))]) (
.ret)))⟩
def c47 : Fnc := ⟨[.t 5],
.seq (
.reg [Rq 5 (.mov (.c (.int .i64 0)))]) (
.seq (
.reg [Rq 6 (.ld 1 false (.t 2)),Rq 7 (.mov (.t 1)),Rq 8 (.ixa 1 (.t 6) (.t 7)),Rq 9 (.ld 1 false (.t 8)),Rq 10 (.mov (.t 0)),Rq 11 (.ixa 1 (.t 9) (.t 10)),Rq 12 (.ld 1 false (.t 11)),Rq 5 (.mov (.t 12))]) (
.ret))⟩
def c48 : Fnc := ⟨[.t 5],
.seq (
.reg [Rq 5 (.mov (.c (.int .i64 0)))]) (
.seq (
.reg [Rq 6 (.ld 1 false (.t 2)),Rq 7 (.mov (.t 1)),Rq 8 (.ixa 1 (.t 6) (.t 7)),Rq 9 (.ld 1 false (.t 8)),Rq 10 (.mov (.t 0)),Rq 11 (.ixa 1 (.t 9) (.t 10)),Rq 12 (.ld 1 false (.t 11)),Rq 13 (.ld 1 false (.t 2)),Rq 14 (.mov (.t 1)),Rq 15 (.ixa 1 (.t 13) (.t 14)),Rq 16 (.ld 1 false (.t 15)),Rq 17 (.mov (.t 0)),Rq 18 (.ixa 1 (.t 16) (.t 17)),Rq 19 (.ld 1 false (.t 18)),Rq 20 (.bin .mul (.t 12) (.t 19)),Rq 5 (.mov (.t 20))]) (
.ret))⟩
def c49 : Fnc := ⟨[.cell 4 4 true],
.seq (
.reg [Rq 2 (.box 4 (.t 0)),Rq 3 (.box 4 (.t 1)),Rq 4 (.box 4 (.c (.agg [.int .i64 0,.nils,.int .i64 0,.nils])))]) (
.seq (
.reg [Rq 5 (.off 0 (.t 2)),Rq 6 (.ld 2 true (.t 5)),Rq 7 (.off 0 (.t 3)),Rq 8 (.ld 2 true (.t 7)),Rq 9 (.call .pure (.c (.fn (.f 100) [] [])) [.t 6,.t 8]),Rq 10 (.off 2 (.t 2)),Rq 11 (.ld 2 true (.t 10)),Rq 12 (.off 2 (.t 3)),Rq 13 (.ld 2 true (.t 12)),Rq 14 (.call .pure (.c (.fn (.f 100) [] [])) [.t 11,.t 13]),Rq 15 (.call .pure (.c (.fn (.f 101) [] [])) [.t 9,.t 14]),⟨none,none,.st 4 (.t 4) (.t 15)⟩]) (
.ret))⟩
def c50 : Fnc := ⟨[.cell 4 4 true],
.seq (
.reg [Rq 2 (.box 4 (.t 0)),Rq 3 (.box 4 (.t 1)),Rq 4 (.box 4 (.c (.agg [.int .i64 0,.nils,.int .i64 0,.nils])))]) (
.seq (
.reg [Rq 5 (.ld 4 true (.t 2)),Rq 6 (.ld 4 true (.t 3)),Rq 7 (.call .pure (.c (.fn (.f 102) [] [])) [.t 6]),Rq 8 (.call .pure (.c (.fn (.f 74) [] [])) [.t 5,.t 7]),⟨none,none,.st 4 (.t 4) (.t 8)⟩]) (
.ret))⟩
def c51 : Fnc := ⟨[.t 2],
.seq (
.reg [Rq 2 (.mov (.c (.int .i64 0)))]) (
.seq (
.reg [Rq 3 (.mov (.t 0)),Rq 4 (.call .pure (.c (.fn (.f 34) [] [])) [.t 3,.c (.int .i64 (-999999999)),.c (.int .i64 999999999)]),Rq 2 (.mov (.t 4))]) (
.ret))⟩
def c52 : Fnc := ⟨[.t 7],
.seq (
.reg [Rq 7 (.mov (.c (.int .i64 0)))]) (
.seq (
.reg [Rq 9 (.ld 1 false (.t 2)),Rq 10 (.mov (.t 0)),Rq 11 (.ld 1 false (.t 3)),Rq 12 (.bin .add (.t 10) (.t 11)),Rq 13 (.mov (.t 1)),Rq 14 (.ld 1 false (.t 4)),Rq 15 (.bin .add (.t 13) (.t 14)),Rq 16 (.call .pure (.c (.fn (.f 97) [] [])) [.t 9,.t 12,.t 15]),Rq 17 (.ld 1 false (.t 2)),Rq 18 (.mov (.t 1)),Rq 19 (.ixa 1 (.t 17) (.t 18)),Rq 20 (.ld 1 false (.t 19)),Rq 21 (.mov (.t 0)),Rq 22 (.ixa 1 (.t 20) (.t 21)),Rq 23 (.ld 1 false (.t 22)),Rq 24 (.bin .sub (.t 16) (.t 23)),Rq 8 (.mov (.t 24))]) (
.seq (
.reg [Rq 25 (.mov (.t 8)),Rq 26 (.mov (.t 8)),Rq 27 (.bin .mul (.t 25) (.t 26)),Rq 7 (.mov (.t 27))]) (
.ret)))⟩
def c53 : Fnc := ⟨[.t 2],
.seq (
.reg [Rq 1 (.box 2 (.t 0)),Rq 2 (.mov (.c (.int .i64 0)))]) (
.seq (
.reg [Rq 3 (.off 0 (.t 1)),Rq 4 (.ld 1 false (.t 3)),Rq 5 (.call .pure (.c (.fn (.f 86) [] [])) [.t 4]),Rq 6 (.off 1 (.t 1)),Rq 7 (.ld 1 false (.t 6)),Rq 8 (.call .pure (.c (.fn (.f 86) [] [])) [.t 7]),Rq 9 (.mksl 2 1 [.int .i64 0,.int .i64 0] [(0,1,(.t 5)),(1,1,(.t 8))]),Rq 10 (.call .pure (.c (.fn (.f 33) [] [])) [.t 9]),Rq 2 (.mov (.t 10))]) (
.ret))⟩
def c54 : Fnc := ⟨[.cell 2 8 true],
.seq (
.reg [Rq 1 (.box 2 (.t 0)),Rq 2 (.box 8 (.c (.agg [.int .i64 0,.nils,.int .i64 0,.nils,.int .i64 0,.nils,.int .i64 0,.nils])))]) (
.seq (
.reg [Rq 3 (.off 0 (.t 1)),Rq 4 (.ld 1 false (.t 3)),Rq 5 (.call .pure (.c (.fn (.f 62) [] [])) [.t 4]),Rq 6 (.off 1 (.t 1)),Rq 7 (.ld 1 false (.t 6)),Rq 8 (.call .pure (.c (.fn (.f 62) [] [])) [.t 7]),Rq 9 (.mkagg [.int .i64 0,.nils,.int .i64 0,.nils,.int .i64 0,.nils,.int .i64 0,.nils] [(0,4,(.t 5)),(4,4,(.t 8))]),⟨none,none,.st 8 (.t 2) (.t 9)⟩]) (
.ret))⟩
def c55 : Fnc := ⟨[.cell 4 10 true],
.seq (
.reg [Rq 2 (.box 8 (.t 0)),Rq 4 (.box 10 (.c (.agg [.int .i64 0,.int .i64 0,.int .i64 0,.nils,.int .i64 0,.nils,.int .i64 0,.nils,.int .i64 0,.nils])))]) (
.seq (
.reg [Rq 10 (.off 0 (.t 2)),Rq 11 (.ld 4 true (.t 10)),Rq 12 (.mov (.t 1)),Rq 13 (.call .pure (.c (.fn (.f 103) [] [])) [.t 11,.t 12]),Rq 9 (.mov (.t 13)),Rq 14 (.ext 0 (.t 9)),Rq 15 (.ext 1 (.t 9)),Rq 6 (.box 4 (.c (.agg [.int .i64 0,.nils,.int .i64 0,.nils]))),Rq 5 (.mov (.t 14)),⟨none,none,.st 4 (.t 6) (.t 15)⟩]) (
.seq (
.reg [Rq 17 (.off 4 (.t 2)),Rq 18 (.ld 4 true (.t 17)),Rq 19 (.mov (.t 1)),Rq 20 (.call .pure (.c (.fn (.f 103) [] [])) [.t 18,.t 19]),Rq 16 (.mov (.t 20)),Rq 21 (.ext 0 (.t 16)),Rq 22 (.ext 1 (.t 16)),Rq 8 (.box 4 (.c (.agg [.int .i64 0,.nils,.int .i64 0,.nils]))),Rq 7 (.mov (.t 21)),⟨none,none,.st 4 (.t 8) (.t 22)⟩]) (
.seq (
.reg [Rq 23 (.mov (.t 5)),Rq 24 (.mov (.t 7)),Rq 25 (.ld 4 true (.t 6)),Rq 26 (.ld 4 true (.t 8)),Rq 27 (.mkagg [.int .i64 0,.int .i64 0,.int .i64 0,.nils,.int .i64 0,.nils,.int .i64 0,.nils,.int .i64 0,.nils] [(0,1,(.t 23)),(1,1,(.t 24)),(2,4,(.t 25)),(6,4,(.t 26))]),⟨none,none,.st 10 (.t 4) (.t 27)⟩]) (
.ret))))⟩
def c56_0 : VC :=
.seq (
.reg [Rq 13 (.bin .lss (.t 12) (.c (.int .i64 4)))]) (
.seq (
.cond (.t 13) (
 .skip) (
 .exit 0)) (
.seq (
.blk 1 (
.seq (
.reg [Rq 14 (.mov (.t 12)),Rq 15 (.ixv 4 4 true (.t 11) (.t 12)),Rq 7 (.box 4 (.c (.agg [.int .i64 0,.nils,.int .i64 0,.nils]))),Rq 6 (.mov (.t 14)),⟨none,none,.st 4 (.t 7) (.t 15)⟩]) (
.seq (
.reg [Rq 17 (.ld 10 true (.t 2)),Rq 18 (.mov (.t 6)),Rq 19 (.mov (.t 1)),Rq 20 (.len 1 (.t 19)),Rq 21 (.call .pure (.c (.fn (.f 105) [] [])) [.t 17,.t 18,.t 20]),Rq 16 (.mov (.t 21)),Rq 22 (.ext 0 (.t 16)),Rq 23 (.ext 1 (.t 16)),Rq 8 (.mov (.t 22)),Rq 9 (.mov (.t 23))]) (
.reg [Rq 24 (.mov (.t 5)),Rq 25 (.ld 4 true (.t 7)),Rq 26 (.mov (.t 1)),Rq 27 (.mov (.t 9)),Rq 28 (.ixa 1 (.t 26) (.t 27)),Rq 29 (.ld 1 false (.t 28)),Rq 30 (.mov (.t 8)),Rq 31 (.ixa 1 (.t 29) (.t 30)),Rq 32 (.ld 1 false (.t 31)),Rq 33 (.call .pure (.c (.fn (.f 69) [] [])) [.t 32]),Rq 34 (.call .pure (.c (.fn (.f 49) [] [])) [.t 25,.t 33]),Rq 35 (.mksl 1 4 [.int .i64 0,.nils,.int .i64 0,.nils] [(0,4,(.t 34))]),Rq 36 (.app 4 64 (.t 24) (.t 35)),Rq 5 (.mov (.t 36))])))) (
.reg [Rq 37 (.bin .add (.t 12) (.c (.int .i64 1))),Rq 12 (.mov (.t 37))])))
def c56 : Fnc := ⟨[.cell 4 4 true],
.seq (
.reg [Rq 2 (.box 10 (.t 0)),Rq 4 (.box 4 (.c (.agg [.int .i64 0,.nils,.int .i64 0,.nils])))]) (
.seq (
.reg [Rq 5 (.mov (.c (.nils)))]) (
.seq (
.seq (
.reg [Rq 10 (.ld 10 true (.t 2)),Rq 11 (.call .pure (.c (.fn (.f 104) [] [])) [.t 10]),Rq 12 (.mov (.c (.int .i64 0)))]) (
.seq (
.blk 0 (
.loop [1,2,4,5,11,12] c56_0)) (
.kp [4,5]))) (
.seq (
.reg [Rq 38 (.call .pure (.c (.fn (.f 69) [] [])) [.c (.int .i64 0)]),Rq 39 (.mov (.t 5)),Rq 40 (.call .pure (.c (.fn (.f 106) [] [])) [.t 38,.t 39,.c (.fn (.f 74) [] [])]),⟨none,none,.st 4 (.t 4) (.t 40)⟩]) (
.ret))))⟩
def c57 : Fnc := ⟨[.t 2,.t 3],
.seq (
.reg [Rq 1 (.box 4 (.t 0)),Rq 2 (.mov (.c (.str []))),Rq 3 (.mov (.c (.int .i64 0)))]) (
.seq (
.seq (
.reg [Rq 4 (.ld 4 true (.t 1)),Rq 5 (.call .pure (.c (.fn (.f 107) [] [])) [.t 4])]) (
.cond (.t 5) (
 .seq (
 .reg [Rq 2 (.mov (.c (.str []))),
   Rq 3 (.mov (.c (.int .i64 4)))]) (
 .ret)) (
 .skip))) (
.seq (
.reg [Rq 6 (.ld 4 true (.t 1)),Rq 7 (.call .pure (.c (.fn (.f 46) [] [])) [.t 6]),Rq 2 (.mov (.t 7)),Rq 3 (.mov (.c (.int .i64 0)))]) (
.ret)))⟩
def c58 : Fnc := ⟨[.t 7],
.seq (
.reg [Rq 7 (.mov (.c (.int .i64 0)))]) (
.seq (
.reg [Rq 8 (.ld 1 false (.t 2)),Rq 9 (.mov (.t 0)),Rq 10 (.ld 1 false (.t 3)),Rq 11 (.bin .sub (.t 9) (.t 10)),Rq 12 (.mov (.t 1)),Rq 13 (.ld 1 false (.t 4)),Rq 14 (.bin .sub (.t 12) (.t 13)),Rq 15 (.call .pure (.c (.fn (.f 97) [] [])) [.t 8,.t 11,.t 14]),Rq 7 (.mov (.t 15))]) (
.ret))⟩
def c59_0 : VC :=
.seq (
.seq (
.reg [Rq 11 (.mov (.t 5)),Rq 12 (.mov (.t 0)),Rq 13 (.len 1 (.t 12)),Rq 14 (.bin .lss (.t 11) (.t 13))]) (
.cond (.t 14) (
 .skip) (
 .exit 0))) (
.seq (
.blk 1 (
.seq (
.reg [Rq 17 (.mov (.t 0)),Rq 18 (.mov (.t 5)),Rq 19 (.ixa 1 (.t 17) (.t 18)),Rq 20 (.ld 1 false (.t 19)),Rq 21 (.mov (.t 1)),Rq 22 (.mov (.t 5)),Rq 23 (.ixa 1 (.t 21) (.t 22)),Rq 24 (.ld 1 false (.t 23)),Rq 25 (.bin .neq (.t 20) (.t 24))]) (
.cond (.t 25) (
 .seq (
 .reg [Rq 4 (.mov (.c (.bool false)))]) (
 .ret)) (
 .skip)))) (
.reg [Rq 15 (.mov (.t 5)),Rq 16 (.bin .add (.t 15) (.c (.int .i64 1))),Rq 5 (.mov (.t 16))]))
def c59 : Fnc := ⟨[.t 4],
.seq (
.reg [Rq 4 (.mov (.c (.bool false)))]) (
.seq (
.seq (
.reg [Rq 6 (.mov (.t 0)),Rq 7 (.len 1 (.t 6)),Rq 8 (.mov (.t 1)),Rq 9 (.len 1 (.t 8)),Rq 10 (.bin .neq (.t 7) (.t 9))]) (
.cond (.t 10) (
 .seq (
 .reg [Rq 4 (.mov (.c (.bool false)))]) (
 .ret)) (
 .skip))) (
.seq (
.seq (
.reg [Rq 5 (.mov (.c (.int .i64 0)))]) (
.seq (
.blk 0 (
.loop [0,1,5] c59_0)) (
.kp []))) (
.seq (
.reg [Rq 4 (.mov (.c (.bool true)))]) (
.ret))))⟩
def c60 : Fnc := ⟨[.t 2],
.seq (
.reg [Rq 1 (.box 3 (.t 0)),Rq 2 (.mov (.c (.int .i64 0)))]) (
.seq (
.reg [Rq 3 (.off 0 (.t 1)),Rq 4 (.ld 2 true (.t 3)),Rq 5 (.call .pure (.c (.fn (.f 53) [] [])) [.t 4]),Rq 6 (.off 2 (.t 1)),Rq 7 (.ld 1 false (.t 6)),Rq 8 (.call .pure (.c (.fn (.f 61) [] [])) [.t 7,.c (.int .i64 0)]),Rq 9 (.mksl 2 1 [.int .i64 0,.int .i64 0] [(0,1,(.t 5)),(1,1,(.t 8))]),Rq 10 (.call .pure (.c (.fn (.f 33) [] [])) [.t 9]),Rq 2 (.mov (.t 10))]) (
.ret))⟩
def c61 : Fnc := ⟨[.t 4],
.seq (
.reg [Rq 4 (.mov (.c (.int .i64 0)))]) (
.seq (
.seq (
.reg [Rq 6 (.mov (.t 0)),Rq 7 (.call .pure (.c (.fn (.f 86) [] [])) [.t 6]),Rq 5 (.mov (.t 7))]) (
.seq (
.reg [Rq 8 (.mov (.t 5)),Rq 9 (.bin .neq (.t 8) (.c (.int .i64 0)))]) (
.cond (.t 9) (
 .seq (
 .reg [Rq 10 (.mov (.t 5)),
   Rq 4 (.mov (.t 10))]) (
 .ret)) (
 .skip)))) (
.seq (
.reg [Rq 11 (.mov (.t 0)),Rq 12 (.call .pure (.c (.fn (.f 62) [] [])) [.t 11]),Rq 13 (.call .pure (.c (.fn (.f 108) [] [])) [.t 12]),Rq 14 (.mov (.t 1)),Rq 15 (.bin .lss (.t 13) (.t 14)),Rq 16 (.call .pure (.c (.fn (.f 31) [] [])) [.t 15,.c (.int .i64 3)]),Rq 4 (.mov (.t 16))]) (
.ret)))⟩
def c62 : Fnc := ⟨[.cell 2 4 true],
.seq (
.reg [Rq 2 (.box 4 (.c (.agg [.int .i64 0,.nils,.int .i64 0,.nils])))]) (
.seq (
.reg [Rq 7 (.mov (.t 0)),Rq 8 (.call .pure (.c (.fn (.f 109) [] [])) [.t 7,.c (.str [47])]),Rq 6 (.mov (.t 8)),Rq 9 (.ext 0 (.t 6)),Rq 10 (.ext 1 (.t 6)),Rq 11 (.ext 2 (.t 6)),Rq 3 (.mov (.t 9)),Rq 4 (.mov (.t 10)),Rq 5 (.mov (.t 11))]) (
.seq (
.seq (
.reg [Rq 12 (.mov (.t 5)),Rq 13 (.un .not (.t 12))]) (
.cond (.t 13) (
 .seq (
 .reg [Rq 14 (.mov (.t 3)),
   Rq 15 (.call .pure (.c (.fn (.f 110) [] [])) [.t 14]),
   Rq 16 (.call .pure (.c (.fn (.f 111) [] [])) [.t 15]),
   ⟨none,none,.st 4 (.t 2) (.t 16)⟩]) (
 .ret)) (
 .skip))) (
.seq (
.reg [Rq 17 (.mov (.t 3)),Rq 18 (.call .pure (.c (.fn (.f 110) [] [])) [.t 17]),Rq 19 (.mov (.t 4)),Rq 20 (.call .pure (.c (.fn (.f 110) [] [])) [.t 19]),Rq 21 (.mkagg [.int .i64 0,.nils,.int .i64 0,.nils] [(0,2,(.t 18)),(2,2,(.t 20))]),⟨none,none,.st 4 (.t 2) (.t 21)⟩]) (
.ret))))⟩
def c63 : Fnc := ⟨[.t 4],
.seq (
.reg [Rq 2 (.box 3 (.t 0)),Rq 3 (.box 4 (.t 1)),Rq 4 (.mov (.c (.bool false)))]) (
.seq (
.reg [Rq 5 (.ld 3 true (.t 2)),Rq 6 (.call .pure (.c (.fn (.f 68) [] [])) [.t 5]),Rq 7 (.mov (.t 6)),⟨some 8,some (7,false),.ld 4 true (.t 3)⟩,⟨some 9,some (7,false),.off 2 (.t 2)⟩,⟨some 10,some (7,false),.ld 1 false (.t 9)⟩,⟨some 11,some (7,false),.call .pure (.c (.fn (.f 62) [] [])) [.t 10]⟩,⟨some 12,some (7,false),.call .pure (.c (.fn (.f 71) [] [])) [.t 8,.t 11]⟩,⟨some 13,some (7,false),.bin .lss (.t 12) (.c (.int .i64 0))⟩,Rq 14 (.pick (.t 7) (.c (.bool true)) (.t 13)),Rq 4 (.mov (.t 14))]) (
.ret))⟩
def c64 : Fnc := ⟨[.cell 6 8 true],
.seq (
.reg [Rq 3 (.box 3 (.t 0)),Rq 4 (.box 4 (.t 1)),Rq 5 (.box 2 (.t 2)),Rq 6 (.box 8 (.c (.agg [.int .i64 0,.nils,.int .i64 0,.nils,.int .i64 0,.nils,.int .i64 0,.nils])))]) (
.seq (
.reg [Rq 8 (.ld 2 true (.t 5)),Rq 9 (.call .pure (.c (.fn (.f 54) [] [])) [.t 8]),Rq 7 (.box 8 (.c (.agg [.int .i64 0,.nils,.int .i64 0,.nils,.int .i64 0,.nils,.int .i64 0,.nils]))),⟨none,none,.st 8 (.t 7) (.t 9)⟩]) (
.seq (
.seq (
.reg [Rq 10 (.ld 3 true (.t 3)),Rq 11 (.call .pure (.c (.fn (.f 68) [] [])) [.t 10]),Rq 12 (.un .not (.t 11))]) (
.cond (.t 12) (
 .reg [Rq 13 (.ld 8 true (.t 7)),
   Rq 14 (.call .pure (.c (.fn (.f 69) [] [])) [.c (.int .i64 1)]),
   Rq 15 (.ld 4 true (.t 4)),
   Rq 16 (.off 2 (.t 3)),
   Rq 17 (.ld 1 false (.t 16)),
   Rq 18 (.call .pure (.c (.fn (.f 62) [] [])) [.t 17]),
   Rq 19 (.call .pure (.c (.fn (.f 70) [] [])) [.t 15,.t 18]),
   Rq 20 (.call .pure (.c (.fn (.f 50) [] [])) [.t 14,.t 19]),
   Rq 21 (.call .pure (.c (.fn (.f 75) [] [])) [.t 13,.t 20]),
   ⟨none,none,.st 8 (.t 7) (.t 21)⟩]) (
 .skip))) (
.seq (
.reg [Rq 22 (.ld 8 true (.t 7)),Rq 23 (.off 0 (.t 3)),Rq 24 (.ld 2 true (.t 23)),Rq 25 (.call .pure (.c (.fn (.f 54) [] [])) [.t 24]),Rq 26 (.ld 4 true (.t 4)),Rq 27 (.call .pure (.c (.fn (.f 75) [] [])) [.t 25,.t 26]),Rq 28 (.call .pure (.c (.fn (.f 112) [] [])) [.t 22,.t 27]),⟨none,none,.st 8 (.t 6) (.t 28)⟩]) (
.ret))))⟩
def c65 : Fnc := ⟨[.cell 2 2 true,.t 3],
.seq (
.reg [Rq 1 (.box 8 (.t 0)),Rq 2 (.box 2 (.c (.agg [.str [],.str []]))),Rq 3 (.mov (.c (.int .i64 0)))]) (
.seq (
.seq (
.reg [Rq 4 (.ld 8 true (.t 1)),Rq 5 (.call .pure (.c (.fn (.f 113) [] [])) [.t 4])]) (
.cond (.t 5) (
 .seq (
 .reg [Rq 6 (.mkagg [.str [],.str []] []),
   ⟨none,none,.st 2 (.t 2) (.t 6)⟩,
   Rq 3 (.mov (.c (.int .i64 4)))]) (
 .ret)) (
 .skip))) (
.seq (
.reg [Rq 7 (.ld 8 true (.t 1)),Rq 8 (.call .pure (.c (.fn (.f 114) [] [])) [.t 7]),⟨none,none,.st 2 (.t 2) (.t 8)⟩,Rq 3 (.mov (.c (.int .i64 0)))]) (
.ret)))⟩
def c66 : Fnc := ⟨[.t 8],
.seq (
.reg [Rq 4 (.box 8 (.t 0)),Rq 5 (.box 3 (.t 1)),Rq 6 (.box 2 (.t 2)),Rq 8 (.mov (.c (.int .i64 0)))]) (
.seq (
.seq (
.reg [Rq 10 (.ld 8 true (.t 4)),Rq 11 (.call .pure (.c (.fn (.f 115) [] [])) [.t 10]),Rq 12 (.ld 3 true (.t 5)),Rq 13 (.call .pure (.c (.fn (.f 60) [] [])) [.t 12]),Rq 14 (.ld 2 true (.t 6)),Rq 15 (.call .pure (.c (.fn (.f 53) [] [])) [.t 14]),Rq 16 (.mov (.t 3)),Rq 17 (.call .pure (.c (.fn (.f 51) [] [])) [.t 16]),Rq 18 (.mksl 4 1 [.int .i64 0,.int .i64 0,.int .i64 0,.int .i64 0] [(0,1,(.t 11)),(1,1,(.t 13)),(2,1,(.t 15)),(3,1,(.t 17))]),Rq 19 (.call .pure (.c (.fn (.f 33) [] [])) [.t 18]),Rq 9 (.mov (.t 19))]) (
.seq (
.reg [Rq 20 (.mov (.t 9)),Rq 21 (.bin .neq (.t 20) (.c (.int .i64 0)))]) (
.cond (.t 21) (
 .seq (
 .reg [Rq 22 (.mov (.t 9)),
   Rq 8 (.mov (.t 22))]) (
 .ret)) (
 .skip)))) (
.seq (
.reg [Rq 23 (.ld 3 true (.t 5)),Rq 24 (.off 1 (.t 4)),Rq 25 (.ld 1 false (.t 24)),Rq 26 (.call .pure (.c (.fn (.f 62) [] [])) [.t 25]),Rq 27 (.call .pure (.c (.fn (.f 63) [] [])) [.t 23,.t 26]),Rq 28 (.un .not (.t 27)),Rq 29 (.call .pure (.c (.fn (.f 31) [] [])) [.t 28,.c (.int .i64 31)]),Rq 8 (.mov (.t 29))]) (
.ret)))⟩
def c67 : Fnc := ⟨[.cell 8 4 true],
.seq (
.reg [Rq 4 (.box 8 (.t 0)),Rq 5 (.box 3 (.t 1)),Rq 6 (.box 2 (.t 2)),Rq 8 (.box 4 (.c (.agg [.int .i64 0,.nils,.int .i64 0,.nils])))]) (
.seq (
.reg [Rq 9 (.off 3 (.t 4)),Rq 10 (.ld 1 false (.t 9)),Rq 11 (.call .pure (.c (.fn (.f 62) [] [])) [.t 10]),Rq 12 (.ld 8 true (.t 4)),Rq 13 (.ld 3 true (.t 5)),Rq 14 (.ld 2 true (.t 6)),Rq 15 (.mov (.t 3)),Rq 16 (.call .pure (.c (.fn (.f 116) [] [])) [.t 12,.t 13,.t 14,.t 15]),Rq 17 (.off 0 (.t 4)),Rq 18 (.ld 1 false (.t 17)),Rq 19 (.len 1 (.t 18)),Rq 20 (.call .pure (.c (.fn (.f 55) [] [])) [.t 16,.t 19]),Rq 21 (.off 0 (.t 4)),Rq 22 (.ld 1 false (.t 21)),Rq 23 (.call .pure (.c (.fn (.f 56) [] [])) [.t 20,.t 22]),Rq 24 (.call .pure (.c (.fn (.f 49) [] [])) [.t 11,.t 23]),⟨none,none,.st 4 (.t 8) (.t 24)⟩]) (
.ret))⟩
def c68 : Fnc := ⟨[.t 2],
.seq (
.reg [Rq 1 (.box 3 (.t 0)),Rq 2 (.mov (.c (.bool false)))]) (
.seq (
.reg [Rq 3 (.ld 3 true (.t 1)),Rq 4 (.off 0 (.t 1)),Rq 5 (.ld 2 true (.t 4)),Rq 6 (.mkagg [.str [],.str [],.str []] [(0,2,(.t 5)),(2,1,(.c (.str [48])))]),Rq 7 (.eq false (.ag [2,2,2]) (.t 3) (.t 6)),Rq 2 (.mov (.t 7))]) (
.ret))⟩
def c69 : Fnc := ⟨[.cell 2 4 true],
.seq (
.reg [Rq 2 (.box 4 (.c (.agg [.int .i64 0,.nils,.int .i64 0,.nils])))]) (
.seq (
.reg [Rq 3 (.mov (.t 0)),Rq 4 (.call .pure (.c (.fn (.f 117) [] [])) [.t 3]),Rq 5 (.call .pure (.c (.fn (.f 111) [] [])) [.t 4]),⟨none,none,.st 4 (.t 2) (.t 5)⟩]) (
.ret))⟩
def c70 : Fnc := ⟨[.cell 4 4 true],
.seq (
.reg [Rq 2 (.box 4 (.t 0)),Rq 3 (.box 4 (.t 1)),Rq 4 (.box 4 (.c (.agg [.int .i64 0,.nils,.int .i64 0,.nils])))]) (
.seq (
.reg [Rq 5 (.ld 4 true (.t 2)),Rq 6 (.ld 4 true (.t 3)),Rq 7 (.call .pure (.c (.fn (.f 73) [] [])) [.t 6]),Rq 8 (.call .pure (.c (.fn (.f 49) [] [])) [.t 5,.t 7]),⟨none,none,.st 4 (.t 4) (.t 8)⟩]) (
.ret))⟩
def c71 : Fnc := ⟨[.t 4],
.seq (
.reg [Rq 2 (.box 4 (.t 0)),Rq 3 (.box 4 (.t 1)),Rq 4 (.mov (.c (.int .i64 0)))]) (
.seq (
.reg [Rq 5 (.off 0 (.t 2)),Rq 6 (.ld 2 true (.t 5)),Rq 7 (.off 2 (.t 3)),Rq 8 (.ld 2 true (.t 7)),Rq 9 (.call .pure (.c (.fn (.f 100) [] [])) [.t 6,.t 8]),Rq 10 (.off 0 (.t 3)),Rq 11 (.ld 2 true (.t 10)),Rq 12 (.off 2 (.t 2)),Rq 13 (.ld 2 true (.t 12)),Rq 14 (.call .pure (.c (.fn (.f 100) [] [])) [.t 11,.t 13]),Rq 15 (.call .pure (.c (.fn (.f 118) [] [])) [.t 9,.t 14]),Rq 4 (.mov (.t 15))]) (
.ret))⟩
def c72 : Fnc := ⟨[.cell 4 8 true],
.seq (
.reg [Rq 2 (.box 8 (.t 0)),Rq 3 (.box 8 (.t 1)),Rq 4 (.box 8 (.c (.agg [.int .i64 0,.nils,.int .i64 0,.nils,.int .i64 0,.nils,.int .i64 0,.nils])))]) (
.seq (
.reg [Rq 5 (.off 0 (.t 2)),Rq 6 (.ld 4 true (.t 5)),Rq 7 (.off 0 (.t 3)),Rq 8 (.ld 4 true (.t 7)),Rq 9 (.call .pure (.c (.fn (.f 50) [] [])) [.t 6,.t 8]),Rq 10 (.off 4 (.t 2)),Rq 11 (.ld 4 true (.t 10)),Rq 12 (.off 4 (.t 3)),Rq 13 (.ld 4 true (.t 12)),Rq 14 (.call .pure (.c (.fn (.f 50) [] [])) [.t 11,.t 13]),Rq 15 (.mkagg [.int .i64 0,.nils,.int .i64 0,.nils,.int .i64 0,.nils,.int .i64 0,.nils] [(0,4,(.t 9)),(4,4,(.t 14))]),⟨none,none,.st 8 (.t 4) (.t 15)⟩]) (
.ret))⟩
def c73 : Fnc := ⟨[.cell 2 4 true],
.seq (
.reg [Rq 1 (.box 4 (.t 0)),Rq 2 (.box 4 (.c (.agg [.int .i64 0,.nils,.int .i64 0,.nils])))]) (
.seq (
.reg [Rq 3 (.off 2 (.t 1)),Rq 4 (.ld 2 true (.t 3)),Rq 5 (.off 0 (.t 1)),Rq 6 (.ld 2 true (.t 5)),Rq 7 (.call .pure (.c (.fn (.f 101) [] [])) [.t 4,.t 6]),⟨none,none,.st 4 (.t 2) (.t 7)⟩]) (
.ret))⟩
def c74 : Fnc := ⟨[.cell 4 4 true],
.seq (
.reg [Rq 2 (.box 4 (.t 0)),Rq 3 (.box 4 (.t 1)),Rq 4 (.box 4 (.c (.agg [.int .i64 0,.nils,.int .i64 0,.nils])))]) (
.seq (
.seq (
.reg [Rq 5 (.ld 4 true (.t 2)),Rq 6 (.call .pure (.c (.fn (.f 98) [] [])) [.t 5]),Rq 7 (.mov (.t 6)),⟨some 8,some (7,true),.ld 4 true (.t 3)⟩,⟨some 9,some (7,true),.call .pure (.c (.fn (.f 98) [] [])) [.t 8]⟩,Rq 10 (.pick (.t 7) (.t 9) (.c (.bool false)))]) (
.cond (.t 10) (
 .seq (
 .reg [Rq 11 (.off 0 (.t 2)),
   Rq 12 (.ld 2 true (.t 11)),
   Rq 13 (.off 0 (.t 3)),
   Rq 14 (.ld 2 true (.t 13)),
   Rq 15 (.call .pure (.c (.fn (.f 119) [] [])) [.t 12,.t 14]),
   Rq 16 (.call .pure (.c (.fn (.f 111) [] [])) [.t 15]),
   ⟨none,none,.st 4 (.t 4) (.t 16)⟩]) (
 .ret)) (
 .skip))) (
.seq (
.reg [Rq 17 (.off 0 (.t 2)),Rq 18 (.ld 2 true (.t 17)),Rq 19 (.off 2 (.t 3)),Rq 20 (.ld 2 true (.t 19)),Rq 21 (.call .pure (.c (.fn (.f 100) [] [])) [.t 18,.t 20]),Rq 22 (.off 0 (.t 3)),Rq 23 (.ld 2 true (.t 22)),Rq 24 (.off 2 (.t 2)),Rq 25 (.ld 2 true (.t 24)),Rq 26 (.call .pure (.c (.fn (.f 100) [] [])) [.t 23,.t 25]),Rq 27 (.call .pure (.c (.fn (.f 119) [] [])) [.t 21,.t 26]),Rq 28 (.off 2 (.t 2)),Rq 29 (.ld 2 true (.t 28)),Rq 30 (.off 2 (.t 3)),Rq 31 (.ld 2 true (.t 30)),Rq 32 (.call .pure (.c (.fn (.f 100) [] [])) [.t 29,.t 31]),Rq 33 (.call .pure (.c (.fn (.f 101) [] [])) [.t 27,.t 32]),⟨none,none,.st 4 (.t 4) (.t 33)⟩]) (
.ret)))⟩
def c75 : Fnc := ⟨[.cell 4 8 true],
.seq (
.reg [Rq 2 (.box 8 (.t 0)),Rq 3 (.box 4 (.t 1)),Rq 4 (.box 8 (.c (.agg [.int .i64 0,.nils,.int .i64 0,.nils,.int .i64 0,.nils,.int .i64 0,.nils])))]) (
.seq (
.reg [Rq 5 (.off 0 (.t 2)),Rq 6 (.ld 4 true (.t 5)),Rq 7 (.ld 4 true (.t 3)),Rq 8 (.call .pure (.c (.fn (.f 49) [] [])) [.t 6,.t 7]),Rq 9 (.off 4 (.t 2)),Rq 10 (.ld 4 true (.t 9)),Rq 11 (.ld 4 true (.t 3)),Rq 12 (.call .pure (.c (.fn (.f 49) [] [])) [.t 10,.t 11]),Rq 13 (.mkagg [.int .i64 0,.nils,.int .i64 0,.nils,.int .i64 0,.nils,.int .i64 0,.nils] [(0,4,(.t 8)),(4,4,(.t 12))]),⟨none,none,.st 8 (.t 4) (.t 13)⟩]) (
.ret))⟩
def c76 : Fnc := ⟨[.t 2],
.seq (
.reg [Rq 2 (.mov (.c (.int .i64 0)))]) (
.seq (
.seq (
.reg [Rq 3 (.mov (.t 0)),Rq 4 (.len 1 (.t 3)),Rq 5 (.bin .gtr (.t 4) (.c (.int .i64 4)))]) (
.cond (.t 5) (
 .seq (
 .reg [Rq 2 (.mov (.c (.int .i64 5)))]) (
 .ret)) (
 .skip))) (
.seq (
.reg [Rq 6 (.mov (.t 0)),Rq 7 (.call .pure (.c (.fn (.f 120) [] [])) [.t 6,.c (.fn (.f 115) [] [])]),Rq 8 (.call .pure (.c (.fn (.f 33) [] [])) [.t 7]),Rq 2 (.mov (.t 8))]) (
.ret)))⟩
def c77_0 : VC :=
.seq (
.reg [Rq 11 (.bin .lss (.t 10) (.t 9))]) (
.seq (
.cond (.t 11) (
 .skip) (
 .exit 0)) (
.seq (
.blk 1 (
.seq (
.reg [Rq 12 (.ixa 3 (.t 8) (.t 10)),Rq 13 (.ld 3 true (.t 12)),Rq 7 (.box 3 (.c (.agg [.str [],.str [],.str []]))),⟨none,none,.st 3 (.t 7) (.t 13)⟩]) (
.reg [Rq 14 (.mov (.t 5)),Rq 15 (.mov (.t 1)),Rq 16 (.ld 3 true (.t 7)),Rq 17 (.call .pure (.t 15) [.t 16]),Rq 18 (.mksl 1 1 [.int .i64 0] [(0,1,(.t 17))]),Rq 19 (.app 1 8 (.t 14) (.t 18)),Rq 5 (.mov (.t 19))]))) (
.reg [Rq 20 (.bin .add (.t 10) (.c (.int .i64 1))),Rq 10 (.mov (.t 20))])))
def c77 : Fnc := ⟨[.t 4],
.seq (
.reg [Rq 4 (.mov (.c (.nils)))]) (
.seq (
.reg [Rq 5 (.mov (.c (.nils)))]) (
.seq (
.seq (
.reg [Rq 8 (.mov (.t 0)),Rq 9 (.len 1 (.t 8)),Rq 10 (.mov (.c (.int .i64 0)))]) (
.seq (
.blk 0 (
.loop [1,5,8,9,10] c77_0)) (
.kp [5]))) (
.seq (
.reg [Rq 21 (.mov (.t 5)),Rq 4 (.mov (.t 21))]) (
.ret))))⟩
def c78 : Fnc := ⟨[.t 2],
.seq (
.reg [Rq 2 (.mov (.c (.int .i64 0)))]) (
.seq (
.seq (
.reg [Rq 3 (.mov (.t 0)),Rq 4 (.len 1 (.t 3)),Rq 5 (.bin .gtr (.t 4) (.c (.int .i64 256)))]) (
.cond (.t 5) (
 .seq (
 .reg [Rq 2 (.mov (.c (.int .i64 5)))]) (
 .ret)) (
 .skip))) (
.seq (
.reg [Rq 6 (.mov (.t 0)),Rq 7 (.call .pure (.c (.fn (.f 121) [] [])) [.t 6,.c (.fn (.f 53) [] [])]),Rq 8 (.call .pure (.c (.fn (.f 33) [] [])) [.t 7]),Rq 2 (.mov (.t 8))]) (
.ret)))⟩
def c79_0 : VC :=
.seq (
.reg [Rq 11 (.bin .lss (.t 10) (.t 9))]) (
.seq (
.cond (.t 11) (
 .skip) (
 .exit 0)) (
.seq (
.blk 1 (
.seq (
.reg [Rq 12 (.ixa 8 (.t 8) (.t 10)),Rq 13 (.ld 8 true (.t 12)),Rq 7 (.box 8 (.c (.agg [.nils,.str [],.str [],.str [],.str [],.str [],.str [],.str []]))),⟨none,none,.st 8 (.t 7) (.t 13)⟩]) (
.reg [Rq 14 (.mov (.t 5)),Rq 15 (.mov (.t 1)),Rq 16 (.ld 8 true (.t 7)),Rq 17 (.call .pure (.t 15) [.t 16]),Rq 18 (.mksl 1 1 [.int .i64 0] [(0,1,(.t 17))]),Rq 19 (.app 1 8 (.t 14) (.t 18)),Rq 5 (.mov (.t 19))]))) (
.reg [Rq 20 (.bin .add (.t 10) (.c (.int .i64 1))),Rq 10 (.mov (.t 20))])))
def c79 : Fnc := ⟨[.t 4],
.seq (
.reg [Rq 4 (.mov (.c (.nils)))]) (
.seq (
.reg [Rq 5 (.mov (.c (.nils)))]) (
.seq (
.seq (
.reg [Rq 8 (.mov (.t 0)),Rq 9 (.len 1 (.t 8)),Rq 10 (.mov (.c (.int .i64 0)))]) (
.seq (
.blk 0 (
.loop [1,5,8,9,10] c79_0)) (
.kp [5]))) (
.seq (
.reg [Rq 21 (.mov (.t 5)),Rq 4 (.mov (.t 21))]) (
.ret))))⟩
def c80 : Fnc := ⟨[.t 2],
.seq (
.reg [Rq 1 (.box 8 (.t 0)),Rq 2 (.mov (.c (.int .i64 0)))]) (
.seq (
.reg [Rq 3 (.off 0 (.t 1)),Rq 4 (.ld 1 false (.t 3)),Rq 5 (.len 1 (.t 4)),Rq 6 (.off 0 (.t 1)),Rq 7 (.ld 1 false (.t 6)),Rq 8 (.len 1 (.t 7)),Rq 9 (.bin .mul (.t 5) (.t 8)),Rq 2 (.mov (.t 9))]) (
.ret))⟩
def c81 : Fnc := ⟨[.t 4],
.seq (
.reg [Rq 4 (.mov (.c (.int .i64 0)))]) (
.seq (
.reg [Rq 5 (.mov (.t 0)),Rq 6 (.mov (.t 1)),Rq 7 (.bin .add (.t 5) (.t 6)),Rq 4 (.mov (.t 7))]) (
.ret))⟩
def c82_0 : VC :=
.seq (
.reg [Rq 56 (.bin .lss (.t 55) (.c (.int .i64 4)))]) (
.seq (
.cond (.t 56) (
 .skip) (
 .exit 2)) (
.seq (
.blk 3 (
.seq (
.reg [Rq 57 (.mov (.t 55)),Rq 58 (.ixv 4 4 true (.t 54) (.t 55)),Rq 18 (.box 4 (.c (.agg [.int .i64 0,.nils,.int .i64 0,.nils]))),Rq 17 (.mov (.t 57)),⟨none,none,.st 4 (.t 18) (.t 58)⟩]) (
.seq (
.reg [Rq 60 (.ld 10 true (.t 16)),Rq 61 (.mov (.t 17)),Rq 62 (.mov (.t 15)),Rq 63 (.call .pure (.c (.fn (.f 105) [] [])) [.t 60,.t 61,.t 62]),Rq 59 (.mov (.t 63)),Rq 64 (.ext 0 (.t 59)),Rq 65 (.ext 1 (.t 59)),Rq 19 (.mov (.t 64)),Rq 20 (.mov (.t 65))]) (
.seq (
.reg [Rq 66 (.mov (.t 12)),Rq 67 (.mov (.t 20)),Rq 68 (.mov (.t 15)),Rq 69 (.bin .mul (.t 67) (.t 68)),Rq 70 (.bin .add (.t 66) (.t 69)),Rq 71 (.mov (.t 19)),Rq 72 (.bin .add (.t 70) (.t 71)),Rq 21 (.mov (.t 72))]) (
.seq (
.seq (
.reg [Rq 74 (.mov (.t 11)),Rq 75 (.mov (.t 21)),Rq 76 (.lkp 1 (.agg [.int .i64 0,.nils,.int .i64 0,.nils]) true (.t 74) (.t 75)),Rq 73 (.mov (.t 76)),Rq 77 (.ext 0 (.t 73)),Rq 78 (.ext 1 (.t 73)),Rq 22 (.box 4 (.c (.agg [.int .i64 0,.nils,.int .i64 0,.nils]))),⟨none,none,.st 4 (.t 22) (.t 77)⟩,Rq 23 (.mov (.t 78))]) (
.seq (
.reg [Rq 79 (.mov (.t 23))]) (
.cond (.t 79) (
 .reg [Rq 80 (.ld 4 true (.t 18)),
   Rq 81 (.ld 4 true (.t 22)),
   Rq 82 (.call .pure (.c (.fn (.f 74) [] [])) [.t 80,.t 81]),
   ⟨none,none,.st 4 (.t 18) (.t 82)⟩]) (
 .skip)))) (
.reg [Rq 83 (.mov (.t 11)),Rq 84 (.mov (.t 21)),Rq 85 (.ld 4 true (.t 18)),⟨none,none,.mup 1 (.t 83) (.t 84) (.t 85)⟩])))))) (
.reg [Rq 86 (.bin .add (.t 55) (.c (.int .i64 1))),Rq 55 (.mov (.t 86))])))
def c82_1 : VC :=
.seq (
.reg [Rq 91 (.bin .lss (.t 90) (.t 89))]) (
.seq (
.cond (.t 91) (
 .skip) (
 .exit 4)) (
.seq (
.blk 5 (
.seq (
.reg [Rq 92 (.mov (.t 90)),Rq 24 (.mov (.t 92))]) (
.seq (
.reg [Rq 94 (.mov (.t 11)),Rq 95 (.mov (.t 12)),Rq 96 (.mov (.t 24)),Rq 97 (.bin .add (.t 95) (.t 96)),Rq 98 (.lkp 1 (.agg [.int .i64 0,.nils,.int .i64 0,.nils]) true (.t 94) (.t 97)),Rq 93 (.mov (.t 98)),Rq 99 (.ext 0 (.t 93)),Rq 100 (.ext 1 (.t 93)),Rq 25 (.box 4 (.c (.agg [.int .i64 0,.nils,.int .i64 0,.nils]))),⟨none,none,.st 4 (.t 25) (.t 99)⟩,Rq 26 (.mov (.t 100))]) (
.seq (
.reg [Rq 101 (.mov (.t 26))]) (
.cond (.t 101) (
 .reg [Rq 102 (.mov (.t 11)),
   Rq 103 (.mov (.t 12)),
   Rq 104 (.mov (.t 24)),
   Rq 105 (.bin .add (.t 103) (.t 104)),
   Rq 106 (.ld 4 true (.t 25)),
   Rq 107 (.off 3 (.t 14)),
   Rq 108 (.ld 1 false (.t 107)),
   Rq 109 (.call .pure (.c (.fn (.f 62) [] [])) [.t 108]),
   Rq 110 (.call .pure (.c (.fn (.f 49) [] [])) [.t 106,.t 109]),
   ⟨none,none,.mup 1 (.t 102) (.t 105) (.t 110)⟩]) (
 .skip)))))) (
.reg [Rq 111 (.bin .add (.t 90) (.c (.int .i64 1))),Rq 90 (.mov (.t 111))])))
def c82_2 : VC :=
.seq (
.reg [Rq 35 (.bin .lss (.t 34) (.t 33))]) (
.seq (
.cond (.t 35) (
 .skip) (
 .exit 0)) (
.seq (
.blk 1 (
.seq (
.reg [Rq 36 (.ixa 8 (.t 32) (.t 34)),Rq 37 (.ld 8 true (.t 36)),Rq 14 (.box 8 (.c (.agg [.nils,.str [],.str [],.str [],.str [],.str [],.str [],.str []]))),⟨none,none,.st 8 (.t 14) (.t 37)⟩]) (
.seq (
.reg [Rq 38 (.off 0 (.t 14)),Rq 39 (.ld 1 false (.t 38)),Rq 40 (.len 1 (.t 39)),Rq 15 (.mov (.t 40))]) (
.seq (
.seq (
.reg [Rq 41 (.ld 3 true (.t 6)),Rq 42 (.off 1 (.t 14)),Rq 43 (.ld 1 false (.t 42)),Rq 44 (.call .pure (.c (.fn (.f 62) [] [])) [.t 43]),Rq 45 (.call .pure (.c (.fn (.f 63) [] [])) [.t 41,.t 44])]) (
.cond (.t 45) (
 .seq (
 .reg [Rq 46 (.ld 8 true (.t 14)),
   Rq 47 (.ld 3 true (.t 6)),
   Rq 48 (.ld 2 true (.t 7)),
   Rq 49 (.mov (.t 3)),
   Rq 50 (.call .pure (.c (.fn (.f 116) [] [])) [.t 46,.t 47,.t 48,.t 49]),
   Rq 51 (.mov (.t 15)),
   Rq 52 (.call .pure (.c (.fn (.f 55) [] [])) [.t 50,.t 51]),
   Rq 16 (.box 10 (.c (.agg [.int .i64 0,.int .i64 0,.int .i64 0,.nils,.int .i64 0,.nils,.int .i64 0,.nils,.int .i64 0,.nils]))),
   ⟨none,none,.st 10 (.t 16) (.t 52)⟩]) (
 .seq (
 .reg [Rq 53 (.ld 10 true (.t 16)),
   Rq 54 (.call .pure (.c (.fn (.f 104) [] [])) [.t 53]),
   Rq 55 (.mov (.c (.int .i64 0)))]) (
 .seq (
 .blk 2 (
 .loop [3,4,6,7,11,12,14,15,16,32,33,34,54,55] c82_0)) (
 .kp [3,4,6,7,11,12,14,15,32,33,34])))) (
 .skip))) (
.seq (
.seq (
.reg [Rq 87 (.mov (.t 15)),Rq 88 (.mov (.t 15)),Rq 89 (.bin .mul (.t 87) (.t 88)),Rq 90 (.mov (.c (.int .i64 0)))]) (
.seq (
.blk 4 (
.loop [3,4,6,7,11,12,14,15,32,33,34,89,90] c82_1)) (
.kp [3,4,6,7,11,12,15,32,33,34]))) (
.reg [Rq 112 (.mov (.t 12)),Rq 113 (.mov (.t 15)),Rq 114 (.mov (.t 15)),Rq 115 (.bin .mul (.t 113) (.t 114)),Rq 116 (.bin .add (.t 112) (.t 115)),Rq 12 (.mov (.t 116))])))))) (
.reg [Rq 117 (.bin .add (.t 34) (.c (.int .i64 1))),Rq 34 (.mov (.t 117))])))
def c82_3 : VC :=
.seq (
.reg [Rq 120 (.bin .lss (.t 119) (.t 118))]) (
.seq (
.cond (.t 120) (
 .skip) (
 .exit 6)) (
.seq (
.blk 7 (
.seq (
.reg [Rq 121 (.mov (.t 119)),Rq 28 (.mov (.t 121))]) (
.seq (
.reg [Rq 123 (.mov (.t 11)),Rq 124 (.mov (.t 28)),Rq 125 (.lkp 1 (.agg [.int .i64 0,.nils,.int .i64 0,.nils]) true (.t 123) (.t 124)),Rq 122 (.mov (.t 125)),Rq 126 (.ext 0 (.t 122)),Rq 127 (.ext 1 (.t 122)),Rq 29 (.box 4 (.c (.agg [.int .i64 0,.nils,.int .i64 0,.nils]))),⟨none,none,.st 4 (.t 29) (.t 126)⟩,Rq 30 (.mov (.t 127))]) (
.seq (
.seq (
.reg [Rq 128 (.mov (.t 30)),Rq 129 (.un .not (.t 128))]) (
.cond (.t 129) (
 .reg [Rq 130 (.call .pure (.c (.fn (.f 69) [] [])) [.c (.int .i64 0)]),
   ⟨none,none,.st 4 (.t 29) (.t 130)⟩]) (
 .skip))) (
.reg [Rq 131 (.mov (.t 27)),Rq 132 (.ld 4 true (.t 29)),Rq 133 (.mksl 1 4 [.int .i64 0,.nils,.int .i64 0,.nils] [(0,4,(.t 132))]),Rq 134 (.app 4 64 (.t 131) (.t 133)),Rq 27 (.mov (.t 134))]))))) (
.reg [Rq 135 (.bin .add (.t 119) (.c (.int .i64 1))),Rq 119 (.mov (.t 135))])))
def c82 : Fnc := ⟨[.t 10],
.seq (
.reg [Rq 6 (.box 3 (.t 1)),Rq 7 (.box 2 (.t 2)),Rq 10 (.mov (.c (.nils)))]) (
.seq (
.reg [Rq 31 (.mkm),Rq 11 (.mov (.t 31))]) (
.seq (
.reg [Rq 12 (.mov (.c (.int .i64 0)))]) (
.seq (
.seq (
.reg [Rq 32 (.mov (.t 0)),Rq 33 (.len 1 (.t 32)),Rq 34 (.mov (.c (.int .i64 0)))]) (
.seq (
.blk 0 (
.loop [3,4,6,7,11,12,32,33,34] c82_2)) (
.kp [4,11]))) (
.seq (
.reg [Rq 27 (.mov (.c (.nils)))]) (
.seq (
.seq (
.reg [Rq 118 (.mov (.t 4)),Rq 119 (.mov (.c (.int .i64 0)))]) (
.seq (
.blk 6 (
.loop [11,27,118,119] c82_3)) (
.kp [27]))) (
.seq (
.reg [Rq 136 (.mov (.t 27)),Rq 10 (.mov (.t 136))]) (
.ret)))))))⟩
def c83 : Fnc := ⟨[.t 2,.t 3],
.seq (
.reg [Rq 2 (.mov (.c (.nils))),Rq 3 (.mov (.c (.int .i64 0)))]) (
.seq (
.seq (
.reg [Rq 4 (.mov (.t 0)),Rq 5 (.call .pure (.c (.fn (.f 122) [] [])) [.t 4,.c (.fn (.f 107) [] [])])]) (
.cond (.t 5) (
 .seq (
 .reg [Rq 2 (.mov (.c (.nils))),
   Rq 3 (.mov (.c (.int .i64 4)))]) (
 .ret)) (
 .skip))) (
.seq (
.reg [Rq 6 (.mov (.t 0)),Rq 7 (.call .pure (.c (.fn (.f 123) [] [])) [.t 6]),Rq 2 (.mov (.t 7)),Rq 3 (.mov (.c (.int .i64 0)))]) (
.ret)))⟩
def c84 : Fnc := ⟨[.t 2],
.seq (
.reg [Rq 1 (.box 1 (.t 0)),Rq 2 (.mov (.c (.int .i64 0)))]) (
.seq (
.seq (
.reg [Rq 4 (.ld 1 false (.t 1)),Rq 5 (.len 1 (.t 4)),Rq 6 (.bin .eql (.t 5) (.c (.int .i64 0))),Rq 7 (.call .pure (.c (.fn (.f 124) [] [])) [.t 6,.c (.int .i64 12)]),Rq 8 (.ld 1 false (.t 1)),Rq 9 (.len 1 (.t 8)),Rq 10 (.bin .gtr (.t 9) (.c (.int .i64 64))),Rq 11 (.call .pure (.c (.fn (.f 124) [] [])) [.t 10,.c (.int .i64 5)]),Rq 12 (.mksl 2 1 [.int .i64 0,.int .i64 0] [(0,1,(.t 7)),(1,1,(.t 11))]),Rq 13 (.call .pure (.c (.fn (.f 125) [] [])) [.t 12]),Rq 3 (.mov (.t 13))]) (
.seq (
.reg [Rq 14 (.mov (.t 3)),Rq 15 (.bin .neq (.t 14) (.c (.int .i64 0)))]) (
.cond (.t 15) (
 .seq (
 .reg [Rq 16 (.mov (.t 3)),
   Rq 2 (.mov (.t 16))]) (
 .ret)) (
 .skip)))) (
.seq (
.reg [Rq 17 (.ld 1 false (.t 1)),Rq 18 (.mkf (.f 126) [] [.t 1]),Rq 19 (.call .pure (.c (.fn (.f 127) [] [])) [.t 17,.t 18]),Rq 2 (.mov (.t 19))]) (
.ret)))⟩
def c85_0 : VC :=
.seq (
.reg [Rq 11 (.bin .lss (.t 10) (.t 9))]) (
.seq (
.cond (.t 11) (
 .skip) (
 .exit 0)) (
.seq (
.blk 1 (
.seq (
.reg [Rq 12 (.ixa 1 (.t 8) (.t 10)),Rq 13 (.ld 1 false (.t 12)),Rq 7 (.mov (.t 13))]) (
.reg [Rq 14 (.mov (.t 5)),Rq 15 (.mov (.t 1)),Rq 16 (.mov (.t 7)),Rq 17 (.call .pure (.t 15) [.t 16]),Rq 18 (.mksl 1 1 [.int .i64 0] [(0,1,(.t 17))]),Rq 19 (.app 1 8 (.t 14) (.t 18)),Rq 5 (.mov (.t 19))]))) (
.reg [Rq 20 (.bin .add (.t 10) (.c (.int .i64 1))),Rq 10 (.mov (.t 20))])))
def c85 : Fnc := ⟨[.t 4],
.seq (
.reg [Rq 4 (.mov (.c (.nils)))]) (
.seq (
.reg [Rq 5 (.mov (.c (.nils)))]) (
.seq (
.seq (
.reg [Rq 8 (.mov (.t 0)),Rq 9 (.len 1 (.t 8)),Rq 10 (.mov (.c (.int .i64 0)))]) (
.seq (
.blk 0 (
.loop [1,5,8,9,10] c85_0)) (
.kp [5]))) (
.seq (
.reg [Rq 21 (.mov (.t 5)),Rq 4 (.mov (.t 21))]) (
.ret))))⟩
def c86 : Fnc := ⟨[.t 2],
.seq (
.reg [Rq 2 (.mov (.c (.int .i64 0)))]) (
.seq (
.reg [Rq 12 (.mov (.t 0)),Rq 13 (.call .pure (.c (.fn (.f 128) [] [])) [.t 12,.c (.str [45])]),Rq 11 (.mov (.t 13)),Rq 14 (.ext 0 (.t 11)),Rq 15 (.ext 1 (.t 11)),Rq 3 (.mov (.t 14)),Rq 4 (.mov (.t 15))]) (
.seq (
.reg [Rq 17 (.mov (.t 3)),Rq 18 (.call .pure (.c (.fn (.f 109) [] [])) [.t 17,.c (.str [47])]),Rq 16 (.mov (.t 18)),Rq 19 (.ext 0 (.t 16)),Rq 20 (.ext 1 (.t 16)),Rq 21 (.ext 2 (.t 16)),Rq 5 (.mov (.t 19)),Rq 6 (.mov (.t 20)),Rq 7 (.mov (.t 21))]) (
.seq (
.reg [Rq 22 (.mov (.t 5)),Rq 23 (.call .pure (.c (.fn (.f 129) [] [])) [.t 22]),Rq 24 (.mov (.t 23)),⟨some 25,some (24,true),.mov (.t 4)⟩,⟨some 26,some (24,true),.un .not (.t 25)⟩,⟨some 27,some (24,true),.mov (.t 26)⟩,⟨some 28,some (27,false),.mov (.t 5)⟩,⟨some 29,some (27,false),.bin .neq (.t 28) (.c (.str [48]))⟩,⟨some 30,some (24,true),.pick (.t 27) (.c (.bool true)) (.t 29)⟩,Rq 31 (.pick (.t 24) (.t 30) (.c (.bool false))),Rq 8 (.mov (.t 31))]) (
.seq (
.seq (
.reg [Rq 32 (.mov (.t 7))]) (
.cond (.t 32) (
 .reg [Rq 33 (.mov (.t 8)),
   Rq 34 (.mov (.t 33)),
   ⟨some 35,some (34,true),.mov (.t 6)⟩,
   ⟨some 36,some (34,true),.call .pure (.c (.fn (.f 129) [] [])) [.t 35]⟩,
   Rq 37 (.pick (.t 34) (.t 36) (.c (.bool false))),
   Rq 38 (.mov (.t 37)),
   ⟨some 39,some (38,true),.mov (.t 6)⟩,
   ⟨some 40,some (38,true),.bin .neq (.t 39) (.c (.str [48]))⟩,
   Rq 41 (.pick (.t 38) (.t 40) (.c (.bool false))),
   Rq 42 (.mov (.t 41)),
   ⟨some 43,some (42,true),.mov (.t 6)⟩,
   ⟨some 44,some (42,true),.bin .neq (.t 43) (.c (.str [49]))⟩,
   Rq 45 (.pick (.t 42) (.t 44) (.c (.bool false))),
   Rq 8 (.mov (.t 45))]) (
 .skip))) (
.seq (
.seq (
.reg [Rq 46 (.mov (.t 8)),Rq 47 (.un .not (.t 46)),Rq 48 (.call .pure (.c (.fn (.f 124) [] [])) [.t 47,.c (.int .i64 1)]),Rq 49 (.mov (.t 5)),Rq 50 (.len 0 (.t 49)),Rq 51 (.bin .gtr (.t 50) (.c (.int .i64 600))),Rq 52 (.mov (.t 51)),⟨some 53,some (52,false),.mov (.t 6)⟩,⟨some 54,some (52,false),.len 0 (.t 53)⟩,⟨some 55,some (52,false),.bin .gtr (.t 54) (.c (.int .i64 600))⟩,Rq 56 (.pick (.t 52) (.c (.bool true)) (.t 55)),Rq 57 (.call .pure (.c (.fn (.f 124) [] [])) [.t 56,.c (.int .i64 4)]),Rq 58 (.mksl 2 1 [.int .i64 0,.int .i64 0] [(0,1,(.t 48)),(1,1,(.t 57))]),Rq 59 (.call .pure (.c (.fn (.f 125) [] [])) [.t 58]),Rq 9 (.mov (.t 59))]) (
.seq (
.reg [Rq 60 (.mov (.t 9)),Rq 61 (.bin .neq (.t 60) (.c (.int .i64 0)))]) (
.cond (.t 61) (
 .seq (
 .reg [Rq 62 (.mov (.t 9)),
   Rq 2 (.mov (.t 62))]) (
 .ret)) (
 .skip)))) (
.seq (
.reg [Rq 63 (.mov (.t 7)),Rq 64 (.mov (.t 63)),⟨some 65,some (64,true),.mov (.t 5)⟩,⟨some 66,some (64,true),.call .pure (.c (.fn (.f 110) [] [])) [.t 65]⟩,⟨some 67,some (64,true),.mov (.t 6)⟩,⟨some 68,some (64,true),.call .pure (.c (.fn (.f 110) [] [])) [.t 67]⟩,⟨some 69,some (64,true),.call .pure (.c (.fn (.f 130) [] [])) [.t 66,.t 68]⟩,⟨some 70,some (64,true),.call .pure (.c (.fn (.f 117) [] [])) [.c (.int .i64 1)]⟩,⟨some 71,some (64,true),.call .pure (.c (.fn (.f 118) [] [])) [.t 69,.t 70]⟩,⟨some 72,some (64,true),.bin .neq (.t 71) (.c (.int .i64 0))⟩,Rq 73 (.pick (.t 64) (.t 72) (.c (.bool false))),Rq 10 (.mov (.t 73))]) (
.seq (
.reg [Rq 74 (.mov (.t 10)),Rq 75 (.call .pure (.c (.fn (.f 124) [] [])) [.t 74,.c (.int .i64 1)]),Rq 2 (.mov (.t 75))]) (
.ret))))))))⟩
def c87_0 : VC :=
.seq (
.reg [Rq 11 (.bin .lss (.t 10) (.t 9))]) (
.seq (
.cond (.t 11) (
 .skip) (
 .exit 0)) (
.seq (
.blk 1 (
.seq (
.reg [Rq 12 (.ixa 1 (.t 8) (.t 10)),Rq 13 (.ld 1 false (.t 12)),Rq 7 (.mov (.t 13))]) (
.reg [Rq 14 (.mov (.t 5)),Rq 15 (.mov (.t 1)),Rq 16 (.mov (.t 7)),Rq 17 (.call .pure (.t 15) [.t 16]),Rq 18 (.mksl 1 1 [.nils] [(0,1,(.t 17))]),Rq 19 (.app 1 24 (.t 14) (.t 18)),Rq 5 (.mov (.t 19))]))) (
.reg [Rq 20 (.bin .add (.t 10) (.c (.int .i64 1))),Rq 10 (.mov (.t 20))])))
def c87 : Fnc := ⟨[.t 4],
.seq (
.reg [Rq 4 (.mov (.c (.nils)))]) (
.seq (
.reg [Rq 5 (.mov (.c (.nils)))]) (
.seq (
.seq (
.reg [Rq 8 (.mov (.t 0)),Rq 9 (.len 1 (.t 8)),Rq 10 (.mov (.c (.int .i64 0)))]) (
.seq (
.blk 0 (
.loop [1,5,8,9,10] c87_0)) (
.kp [5]))) (
.seq (
.reg [Rq 21 (.mov (.t 5)),Rq 4 (.mov (.t 21))]) (
.ret))))⟩
def c88_0 : VC :=
.seq (
.reg [Rq 12 (.bin .lss (.t 11) (.t 10))]) (
.seq (
.cond (.t 12) (
 .skip) (
 .exit 0)) (
.seq (
.blk 1 (
.seq (
.reg [Rq 13 (.mov (.t 11)),Rq 14 (.ixa 1 (.t 9) (.t 11)),Rq 15 (.ld 1 false (.t 14)),Rq 4 (.mov (.t 13)),Rq 5 (.mov (.t 15))]) (
.reg [Rq 16 (.mov (.t 3)),Rq 17 (.mov (.t 4)),Rq 18 (.mov (.t 5)),Rq 19 (.call .pure (.c (.fn (.f 62) [] [])) [.t 18]),Rq 20 (.ixa 4 (.t 16) (.t 17)),⟨none,none,.st 4 (.t 20) (.t 19)⟩]))) (
.reg [Rq 21 (.bin .add (.t 11) (.c (.int .i64 1))),Rq 11 (.mov (.t 21))])))
def c88 : Fnc := ⟨[.t 2],
.seq (
.reg [Rq 2 (.mov (.c (.nils)))]) (
.seq (
.reg [Rq 6 (.mov (.t 0)),Rq 7 (.len 1 (.t 6)),Rq 8 (.mks 4 64 [.int .i64 0,.nils,.int .i64 0,.nils] (.t 7) (.t 7)),Rq 3 (.mov (.t 8))]) (
.seq (
.seq (
.reg [Rq 9 (.mov (.t 0)),Rq 10 (.len 1 (.t 9)),Rq 11 (.mov (.c (.int .i64 0)))]) (
.seq (
.blk 0 (
.loop [3,9,10,11] c88_0)) (
.kp [3]))) (
.seq (
.reg [Rq 22 (.mov (.t 3)),Rq 2 (.mov (.t 22))]) (
.ret))))⟩
def c89_0 : VC :=
.seq (
.reg [Rq 21 (.bin .lss (.t 20) (.t 19))]) (
.seq (
.cond (.t 21) (
 .skip) (
 .exit 2)) (
.seq (
.blk 3 (
.seq (
.reg [Rq 22 (.mov (.t 20)),Rq 23 (.ixa 1 (.t 18) (.t 20)),Rq 24 (.ld 1 false (.t 23)),Rq 8 (.mov (.t 22)),Rq 9 (.mov (.t 24))]) (
.seq (
.reg [Rq 25 (.mov (.t 6)),Rq 26 (.mov (.t 9)),Rq 27 (.call .pure (.c (.fn (.f 131) [] [])) [.t 25,.t 26]),Rq 10 (.box 4 (.c (.agg [.int .i64 0,.nils,.int .i64 0,.nils]))),⟨none,none,.st 4 (.t 10) (.t 27)⟩]) (
.seq (
.seq (
.reg [Rq 28 (.mov (.t 5)),Rq 29 (.mov (.t 8)),Rq 30 (.bin .eql (.t 28) (.t 29))]) (
.cond (.t 30) (
 .reg [Rq 31 (.ld 4 true (.t 10)),
   Rq 32 (.ld 1 false (.t 1)),
   Rq 33 (.call .pure (.c (.fn (.f 62) [] [])) [.t 32]),
   Rq 34 (.call .pure (.c (.fn (.f 74) [] [])) [.t 31,.t 33]),
   ⟨none,none,.st 4 (.t 10) (.t 34)⟩]) (
 .skip))) (
.reg [Rq 35 (.mov (.t 7)),Rq 36 (.ld 4 true (.t 10)),Rq 37 (.mksl 1 4 [.int .i64 0,.nils,.int .i64 0,.nils] [(0,4,(.t 36))]),Rq 38 (.app 4 64 (.t 35) (.t 37)),Rq 7 (.mov (.t 38))]))))) (
.reg [Rq 39 (.bin .add (.t 20) (.c (.int .i64 1))),Rq 20 (.mov (.t 39))])))
def c89_1 : VC :=
.seq (
.reg [Rq 14 (.bin .lss (.t 13) (.t 12))]) (
.seq (
.cond (.t 14) (
 .skip) (
 .exit 0)) (
.seq (
.blk 1 (
.seq (
.reg [Rq 15 (.mov (.t 13)),Rq 16 (.ixa 1 (.t 11) (.t 13)),Rq 17 (.ld 1 false (.t 16)),Rq 5 (.mov (.t 15)),Rq 6 (.mov (.t 17))]) (
.seq (
.reg [Rq 7 (.mov (.c (.nils)))]) (
.seq (
.seq (
.reg [Rq 18 (.mov (.t 0)),Rq 19 (.len 1 (.t 18)),Rq 20 (.mov (.c (.int .i64 0)))]) (
.seq (
.blk 2 (
.loop [0,1,4,5,6,7,11,12,13,18,19,20] c89_0)) (
.kp [0,1,4,7,11,12,13]))) (
.seq (
.fz [7]) (
.reg [Rq 40 (.mov (.t 4)),Rq 41 (.mov (.t 7)),Rq 42 (.mksl 1 1 [.nils] [(0,1,(.t 41))]),Rq 43 (.app 1 24 (.t 40) (.t 42)),Rq 4 (.mov (.t 43))])))))) (
.reg [Rq 44 (.bin .add (.t 13) (.c (.int .i64 1))),Rq 13 (.mov (.t 44))])))
def c89 : Fnc := ⟨[.t 3],
.seq (
.reg [Rq 3 (.mov (.c (.nils)))]) (
.seq (
.reg [Rq 4 (.mov (.c (.nils)))]) (
.seq (
.seq (
.reg [Rq 11 (.mov (.t 0)),Rq 12 (.len 1 (.t 11)),Rq 13 (.mov (.c (.int .i64 0)))]) (
.seq (
.blk 0 (
.loop [0,1,4,11,12,13] c89_1)) (
.kp [4]))) (
.seq (
.reg [Rq 45 (.mov (.t 4)),Rq 3 (.mov (.t 45))]) (
.ret))))⟩
def c90_0 : VC :=
.seq (
.reg [Rq 21 (.bin .lss (.t 20) (.t 19))]) (
.seq (
.cond (.t 21) (
 .skip) (
 .exit 0)) (
.seq (
.blk 1 (
.seq (
.reg [Rq 22 (.mov (.t 20)),Rq 7 (.mov (.t 22))]) (
.seq (
.reg [Rq 23 (.mov (.t 6)),Rq 24 (.mov (.t 7)),Rq 25 (.mov (.t 5)),Rq 26 (.bin .add (.t 25) (.c (.int .i64 1))),Rq 27 (.mks 4 64 [.int .i64 0,.nils,.int .i64 0,.nils] (.t 26) (.t 26)),Rq 28 (.ixa 1 (.t 23) (.t 24)),⟨none,none,.st 1 (.t 28) (.t 27)⟩]) (
.seq (
.reg [Rq 29 (.mov (.t 6)),Rq 30 (.mov (.t 7)),Rq 31 (.ixa 1 (.t 29) (.t 30)),Rq 32 (.ld 1 false (.t 31)),Rq 33 (.mov (.t 0)),Rq 34 (.mov (.t 7)),Rq 35 (.ixa 1 (.t 33) (.t 34)),Rq 36 (.ld 1 false (.t 35)),Rq 37 (.cpy 4 (.t 32) (.t 36))]) (
.reg [Rq 38 (.mov (.t 6)),Rq 39 (.mov (.t 7)),Rq 40 (.ixa 1 (.t 38) (.t 39)),Rq 41 (.ld 1 false (.t 40)),Rq 42 (.mov (.t 5)),Rq 43 (.mov (.t 1)),Rq 44 (.mov (.t 7)),Rq 45 (.ixa 4 (.t 43) (.t 44)),Rq 46 (.ld 4 true (.t 45)),Rq 47 (.ixa 4 (.t 41) (.t 42)),⟨none,none,.st 4 (.t 47) (.t 46)⟩]))))) (
.reg [Rq 48 (.bin .add (.t 20) (.c (.int .i64 1))),Rq 20 (.mov (.t 48))])))
def c90_1 : VC :=
.seq (
.seq (
.reg [Rq 87 (.mov (.t 11)),Rq 88 (.mov (.t 5)),Rq 89 (.bin .leq (.t 87) (.t 88))]) (
.cond (.t 89) (
 .skip) (
 .exit 6))) (
.seq (
.blk 7 (
.reg [Rq 92 (.mov (.t 6)),Rq 93 (.mov (.t 9)),Rq 94 (.ixa 1 (.t 92) (.t 93)),Rq 95 (.ld 1 false (.t 94)),Rq 96 (.mov (.t 11)),Rq 97 (.mov (.t 6)),Rq 98 (.mov (.t 9)),Rq 99 (.ixa 1 (.t 97) (.t 98)),Rq 100 (.ld 1 false (.t 99)),Rq 101 (.mov (.t 11)),Rq 102 (.ixa 4 (.t 100) (.t 101)),Rq 103 (.ld 4 true (.t 102)),Rq 104 (.ld 4 true (.t 10)),Rq 105 (.mov (.t 6)),Rq 106 (.mov (.t 8)),Rq 107 (.ixa 1 (.t 105) (.t 106)),Rq 108 (.ld 1 false (.t 107)),Rq 109 (.mov (.t 11)),Rq 110 (.ixa 4 (.t 108) (.t 109)),Rq 111 (.ld 4 true (.t 110)),Rq 112 (.call .pure (.c (.fn (.f 49) [] [])) [.t 104,.t 111]),Rq 113 (.call .pure (.c (.fn (.f 50) [] [])) [.t 103,.t 112]),Rq 114 (.ixa 4 (.t 95) (.t 96)),⟨none,none,.st 4 (.t 114) (.t 113)⟩])) (
.reg [Rq 90 (.mov (.t 11)),Rq 91 (.bin .add (.t 90) (.c (.int .i64 1))),Rq 11 (.mov (.t 91))]))
def c90_2 : VC :=
.seq (
.reg [Rq 55 (.bin .lss (.t 54) (.t 53))]) (
.seq (
.cond (.t 55) (
 .skip) (
 .exit 4)) (
.seq (
.blk 5 (
.seq (
.reg [Rq 56 (.mov (.t 54)),Rq 9 (.mov (.t 56))]) (
.seq (
.seq (
.reg [Rq 57 (.mov (.t 9)),Rq 58 (.mov (.t 8)),Rq 59 (.bin .eql (.t 57) (.t 58)),Rq 60 (.mov (.t 59)),⟨some 61,some (60,false),.mov (.t 6)⟩,⟨some 62,some (60,false),.mov (.t 9)⟩,⟨some 63,some (60,false),.ixa 1 (.t 61) (.t 62)⟩,⟨some 64,some (60,false),.ld 1 false (.t 63)⟩,⟨some 65,some (60,false),.mov (.t 8)⟩,⟨some 66,some (60,false),.ixa 4 (.t 64) (.t 65)⟩,⟨some 67,some (60,false),.ld 4 true (.t 66)⟩,⟨some 68,some (60,false),.call .pure (.c (.fn (.f 108) [] [])) [.t 67]⟩,⟨some 69,some (60,false),.bin .eql (.t 68) (.c (.int .i64 0))⟩,Rq 70 (.pick (.t 60) (.c (.bool true)) (.t 69))]) (
.cond (.t 70) (
 .exit 5) (
 .skip))) (
.seq (
.reg [Rq 71 (.mov (.t 6)),Rq 72 (.mov (.t 9)),Rq 73 (.ixa 1 (.t 71) (.t 72)),Rq 74 (.ld 1 false (.t 73)),Rq 75 (.mov (.t 8)),Rq 76 (.ixa 4 (.t 74) (.t 75)),Rq 77 (.ld 4 true (.t 76)),Rq 78 (.mov (.t 6)),Rq 79 (.mov (.t 8)),Rq 80 (.ixa 1 (.t 78) (.t 79)),Rq 81 (.ld 1 false (.t 80)),Rq 82 (.mov (.t 8)),Rq 83 (.ixa 4 (.t 81) (.t 82)),Rq 84 (.ld 4 true (.t 83)),Rq 85 (.call .pure (.c (.fn (.f 70) [] [])) [.t 77,.t 84]),Rq 10 (.box 4 (.c (.agg [.int .i64 0,.nils,.int .i64 0,.nils]))),⟨none,none,.st 4 (.t 10) (.t 85)⟩]) (
.seq (
.reg [Rq 86 (.mov (.t 8)),Rq 11 (.mov (.t 86))]) (
.seq (
.blk 6 (
.loop [5,6,8,9,10,11,49,50,53,54] c90_1)) (
.kp [5,6,8,49,50,53,54]))))))) (
.reg [Rq 115 (.bin .add (.t 54) (.c (.int .i64 1))),Rq 54 (.mov (.t 115))])))
def c90_3 : VC :=
.seq (
.reg [Rq 51 (.bin .lss (.t 50) (.t 49))]) (
.seq (
.cond (.t 51) (
 .skip) (
 .exit 2)) (
.seq (
.blk 3 (
.seq (
.reg [Rq 52 (.mov (.t 50)),Rq 8 (.mov (.t 52))]) (
.seq (
.reg [Rq 53 (.mov (.t 5)),Rq 54 (.mov (.c (.int .i64 0)))]) (
.seq (
.blk 4 (
.loop [5,6,8,49,50,53,54] c90_2)) (
.kp [5,6,49,50]))))) (
.reg [Rq 116 (.bin .add (.t 50) (.c (.int .i64 1))),Rq 50 (.mov (.t 116))])))
def c90_4 : VC :=
.seq (
.reg [Rq 121 (.bin .lss (.t 120) (.t 119))]) (
.seq (
.cond (.t 121) (
 .skip) (
 .exit 8)) (
.seq (
.blk 9 (
.seq (
.reg [Rq 122 (.mov (.t 120)),Rq 13 (.mov (.t 122))]) (
.reg [Rq 123 (.mov (.t 12)),Rq 124 (.mov (.t 13)),Rq 125 (.mov (.t 6)),Rq 126 (.mov (.t 13)),Rq 127 (.ixa 1 (.t 125) (.t 126)),Rq 128 (.ld 1 false (.t 127)),Rq 129 (.mov (.t 5)),Rq 130 (.ixa 4 (.t 128) (.t 129)),Rq 131 (.ld 4 true (.t 130)),Rq 132 (.mov (.t 6)),Rq 133 (.mov (.t 13)),Rq 134 (.ixa 1 (.t 132) (.t 133)),Rq 135 (.ld 1 false (.t 134)),Rq 136 (.mov (.t 13)),Rq 137 (.ixa 4 (.t 135) (.t 136)),Rq 138 (.ld 4 true (.t 137)),Rq 139 (.call .pure (.c (.fn (.f 70) [] [])) [.t 131,.t 138]),Rq 140 (.ixa 4 (.t 123) (.t 124)),⟨none,none,.st 4 (.t 140) (.t 139)⟩]))) (
.reg [Rq 141 (.bin .add (.t 120) (.c (.int .i64 1))),Rq 120 (.mov (.t 141))])))
def c90 : Fnc := ⟨[.t 4],
.seq (
.reg [Rq 4 (.mov (.c (.nils)))]) (
.seq (
.reg [Rq 14 (.mov (.t 1)),Rq 15 (.len 1 (.t 14)),Rq 5 (.mov (.t 15))]) (
.seq (
.reg [Rq 16 (.mov (.t 5)),Rq 17 (.mks 1 24 [.nils] (.t 16) (.t 16)),Rq 6 (.mov (.t 17))]) (
.seq (
.seq (
.reg [Rq 18 (.mov (.t 6)),Rq 19 (.len 1 (.t 18)),Rq 20 (.mov (.c (.int .i64 0)))]) (
.seq (
.blk 0 (
.loop [0,1,5,6,19,20] c90_0)) (
.kp [5,6]))) (
.seq (
.seq (
.reg [Rq 49 (.mov (.t 5)),Rq 50 (.mov (.c (.int .i64 0)))]) (
.seq (
.blk 2 (
.loop [5,6,49,50] c90_3)) (
.kp [5,6]))) (
.seq (
.reg [Rq 117 (.mov (.t 5)),Rq 118 (.mks 4 64 [.int .i64 0,.nils,.int .i64 0,.nils] (.t 117) (.t 117)),Rq 12 (.mov (.t 118))]) (
.seq (
.seq (
.reg [Rq 119 (.mov (.t 5)),Rq 120 (.mov (.c (.int .i64 0)))]) (
.seq (
.blk 8 (
.loop [5,6,12,119,120] c90_4)) (
.kp [12]))) (
.seq (
.reg [Rq 142 (.mov (.t 12)),Rq 4 (.mov (.t 142))]) (
.ret))))))))⟩
def c91 : Fnc := ⟨[.cell 3 4 true],
.seq (
.reg [Rq 3 (.box 4 (.c (.agg [.int .i64 0,.nils,.int .i64 0,.nils])))]) (
.seq (
.reg [Rq 4 (.mov (.t 0)),Rq 5 (.ld 1 false (.t 1)),Rq 6 (.call .pure (.c (.fn (.f 131) [] [])) [.t 4,.t 5]),⟨none,none,.st 4 (.t 3) (.t 6)⟩]) (
.ret))⟩
def c92_0 : VC :=
.seq (
.reg [Rq 11 (.bin .lss (.t 10) (.t 9))]) (
.seq (
.cond (.t 11) (
 .skip) (
 .exit 0)) (
.seq (
.blk 1 (
.seq (
.reg [Rq 12 (.ixa 1 (.t 8) (.t 10)),Rq 13 (.ld 1 false (.t 12)),Rq 7 (.mov (.t 13))]) (
.reg [Rq 14 (.mov (.t 5)),Rq 15 (.mov (.t 1)),Rq 16 (.mov (.t 7)),Rq 17 (.call .pure (.t 15) [.t 16]),Rq 18 (.mksl 1 4 [.int .i64 0,.nils,.int .i64 0,.nils] [(0,4,(.t 17))]),Rq 19 (.app 4 64 (.t 14) (.t 18)),Rq 5 (.mov (.t 19))]))) (
.reg [Rq 20 (.bin .add (.t 10) (.c (.int .i64 1))),Rq 10 (.mov (.t 20))])))
def c92 : Fnc := ⟨[.t 4],
.seq (
.reg [Rq 4 (.mov (.c (.nils)))]) (
.seq (
.reg [Rq 5 (.mov (.c (.nils)))]) (
.seq (
.seq (
.reg [Rq 8 (.mov (.t 0)),Rq 9 (.len 1 (.t 8)),Rq 10 (.mov (.c (.int .i64 0)))]) (
.seq (
.blk 0 (
.loop [1,5,8,9,10] c92_0)) (
.kp [5]))) (
.seq (
.reg [Rq 21 (.mov (.t 5)),Rq 4 (.mov (.t 21))]) (
.ret))))⟩
def c94 : Fnc := ⟨[.t 3],
.seq (
.reg [Rq 3 (.mov (.c (.bool false)))]) (
.seq (
.reg [Rq 4 (.mov (.t 0)),Rq 5 (.ld 1 false (.t 1)),Rq 6 (.un .neg (.t 5)),Rq 7 (.bin .lss (.t 4) (.t 6)),Rq 8 (.mov (.t 7)),⟨some 9,some (8,false),.mov (.t 0)⟩,⟨some 10,some (8,false),.ld 1 false (.t 1)⟩,⟨some 11,some (8,false),.bin .gtr (.t 9) (.t 10)⟩,Rq 12 (.pick (.t 8) (.c (.bool true)) (.t 11)),Rq 3 (.mov (.t 12))]) (
.ret))⟩
def c95 : Fnc := ⟨[.t 4],
.seq (
.reg [Rq 4 (.mov (.c (.bool false)))]) (
.seq (
.reg [Rq 5 (.mov (.t 0)),Rq 6 (.mov (.t 1)),Rq 7 (.call .pure (.c (.fn (.f 132) [] [])) [.t 5,.t 6]),Rq 8 (.bin .geq (.t 7) (.c (.int .i64 0))),Rq 4 (.mov (.t 8))]) (
.ret))⟩
def c96 : Fnc := ⟨[.t 2],
.seq (
.reg [Rq 1 (.box 1 (.t 0)),Rq 2 (.mov (.c (.nilf)))]) (
.seq (
.reg [Rq 3 (.mkf (.f 133) [] [.t 1]),Rq 2 (.mov (.t 3))]) (
.ret))⟩
def c97 : Fnc := ⟨[.t 6],
.seq (
.reg [Rq 6 (.mov (.c (.int .i64 0)))]) (
.seq (
.reg [Rq 7 (.mov (.t 0)),Rq 8 (.mov (.t 2)),Rq 9 (.mov (.t 0)),Rq 10 (.len 1 (.t 9)),Rq 11 (.call .pure (.c (.fn (.f 134) [] [])) [.t 8,.t 10]),Rq 12 (.ixa 1 (.t 7) (.t 11)),Rq 13 (.ld 1 false (.t 12)),Rq 14 (.mov (.t 1)),Rq 15 (.mov (.t 0)),Rq 16 (.len 1 (.t 15)),Rq 17 (.call .pure (.c (.fn (.f 134) [] [])) [.t 14,.t 16]),Rq 18 (.ixa 1 (.t 13) (.t 17)),Rq 19 (.ld 1 false (.t 18)),Rq 6 (.mov (.t 19))]) (
.ret))⟩
def c98 : Fnc := ⟨[.t 2],
.seq (
.reg [Rq 1 (.box 4 (.t 0)),Rq 2 (.mov (.c (.bool false)))]) (
.seq (
.reg [Rq 3 (.off 2 (.t 1)),Rq 4 (.off 1 (.t 3)),Rq 5 (.ld 1 false (.t 4)),Rq 6 (.eq false .sl (.t 5) (.c (.nils))),Rq 7 (.mov (.t 6)),⟨some 8,some (7,true),.off 2 (.t 1)⟩,⟨some 9,some (7,true),.off 0 (.t 8)⟩,⟨some 10,some (7,true),.ld 1 false (.t 9)⟩,⟨some 11,some (7,true),.bin .eql (.t 10) (.c (.int .i64 1))⟩,Rq 12 (.pick (.t 7) (.t 11) (.c (.bool false))),Rq 2 (.mov (.t 12))]) (
.ret))⟩
def c99_0 : VC :=
.seq (
.seq (
.reg [Rq 24 (.mov (.t 4)),Rq 25 (.len 1 (.t 24)),Rq 26 (.bin .gtr (.t 25) (.c (.int .i64 0)))]) (
.cond (.t 26) (
 .skip) (
 .exit 0))) (
.blk 1 (
.seq (
.reg [Rq 28 (.mov (.t 4)),Rq 29 (.mov (.t 5)),Rq 30 (.call .pure (.c (.fn (.f 137) [] [])) [.t 28,.t 29]),Rq 27 (.mov (.t 30)),Rq 31 (.ext 0 (.t 27)),Rq 32 (.ext 1 (.t 27)),Rq 7 (.mov (.t 31)),Rq 8 (.mov (.t 32))]) (
.seq (
.reg [Rq 9 (.mov (.c (.str [48])))]) (
.seq (
.seq (
.reg [Rq 33 (.mov (.t 8)),Rq 34 (.len 1 (.t 33)),Rq 35 (.bin .gtr (.t 34) (.c (.int .i64 0)))]) (
.cond (.t 35) (
 .reg [Rq 36 (.mov (.t 8)),
   Rq 37 (.ixa 1 (.t 36) (.c (.int .i64 0))),
   Rq 38 (.ld 1 false (.t 37)),
   Rq 39 (.call .pure (.c (.fn (.f 138) [] [])) [.t 38,.c (.int .i64 10)]),
   Rq 9 (.mov (.t 39))]) (
 .skip))) (
.seq (
.seq (
.reg [Rq 40 (.mov (.t 7)),Rq 41 (.len 1 (.t 40)),Rq 42 (.bin .gtr (.t 41) (.c (.int .i64 0)))]) (
.cond (.t 42) (
 .reg [Rq 43 (.mov (.t 9)),
   Rq 44 (.len 0 (.t 43)),
   Rq 45 (.bin .sub (.c (.int .i64 18)) (.t 44)),
   Rq 46 (.call .pure (.c (.fn (.f 139) [] [])) [.c (.str [48]),.t 45]),
   Rq 47 (.mov (.t 9)),
   Rq 48 (.bin .add (.t 46) (.t 47)),
   Rq 9 (.mov (.t 48))]) (
 .skip))) (
.seq (
.reg [Rq 49 (.mov (.t 6)),Rq 50 (.mov (.t 9)),Rq 51 (.mksl 1 1 [.str []] [(0,1,(.t 50))]),Rq 52 (.app 1 16 (.t 49) (.t 51)),Rq 6 (.mov (.t 52))]) (
.reg [Rq 53 (.mov (.t 7)),Rq 4 (.mov (.t 53))])))))))
def c99_1 : VC :=
.seq (
.seq (
.reg [Rq 59 (.mov (.t 11)),Rq 60 (.bin .geq (.t 59) (.c (.int .i64 0)))]) (
.cond (.t 60) (
 .skip) (
 .exit 2))) (
.seq (
.blk 3 (
.reg [Rq 63 (.mov (.t 6)),Rq 64 (.mov (.t 11)),Rq 65 (.ixa 1 (.t 63) (.t 64)),Rq 66 (.ld 1 false (.t 65)),Rq 67 (.call .pure (.c (.fn (.f 140) [] [])) [.t 10,.t 66])])) (
.reg [Rq 61 (.mov (.t 11)),Rq 62 (.bin .sub (.t 61) (.c (.int .i64 1))),Rq 11 (.mov (.t 62))]))
def c99 : Fnc := ⟨[.t 2],
.seq (
.reg [Rq 1 (.box 2 (.t 0)),Rq 2 (.mov (.c (.str [])))]) (
.seq (
.seq (
.reg [Rq 12 (.off 1 (.t 1)),Rq 13 (.ld 1 false (.t 12)),Rq 14 (.eq false .sl (.t 13) (.c (.nils)))]) (
.cond (.t 14) (
 .seq (
 .reg [Rq 15 (.off 0 (.t 1)),
   Rq 16 (.ld 1 false (.t 15)),
   Rq 17 (.call .pure (.c (.fn (.f 135) [] [])) [.t 16]),
   Rq 2 (.mov (.t 17))]) (
 .ret)) (
 .skip))) (
.seq (
.reg [Rq 19 (.ld 2 true (.t 1)),Rq 20 (.call .pure (.c (.fn (.f 136) [] [])) [.t 19]),Rq 18 (.mov (.t 20)),Rq 21 (.ext 0 (.t 18)),Rq 22 (.ext 1 (.t 18)),Rq 3 (.mov (.t 21)),Rq 4 (.mov (.t 22))]) (
.seq (
.reg [Rq 23 (.mksl 1 1 [.int .u64 0] [(0,1,(.c (.int .u64 1000000000000000000)))]),Rq 5 (.mov (.t 23))]) (
.seq (
.reg [Rq 6 (.mov (.c (.nils)))]) (
.seq (
.seq (
.blk 0 (
.loop [3,4,5,6] c99_0)) (
.kp [3,6])) (
.seq (
.reg [Rq 10 (.box 2 (.c (.agg [.nilp,.nils])))]) (
.seq (
.seq (
.reg [Rq 54 (.mov (.t 3))]) (
.cond (.t 54) (
 .reg [Rq 55 (.call .pure (.c (.fn (.f 140) [] [])) [.t 10,.c (.str [45])])]) (
 .skip))) (
.seq (
.seq (
.reg [Rq 56 (.mov (.t 6)),Rq 57 (.len 1 (.t 56)),Rq 58 (.bin .sub (.t 57) (.c (.int .i64 1))),Rq 11 (.mov (.t 58))]) (
.seq (
.blk 2 (
.loop [6,10,11] c99_1)) (
.kp [10]))) (
.seq (
.reg [Rq 68 (.call .pure (.c (.fn (.f 141) [] [])) [.t 10]),Rq 2 (.mov (.t 68))]) (
.ret))))))))))⟩
def c100 : Fnc := ⟨[.cell 4 2 true],
.seq (
.reg [Rq 2 (.box 2 (.t 0)),Rq 3 (.box 2 (.t 1)),Rq 4 (.box 2 (.c (.agg [.int .i64 0,.nils])))]) (
.seq (
.seq (
.reg [Rq 11 (.off 1 (.t 2)),Rq 12 (.ld 1 false (.t 11)),Rq 13 (.eq false .sl (.t 12) (.c (.nils))),Rq 14 (.mov (.t 13)),⟨some 15,some (14,true),.off 1 (.t 3)⟩,⟨some 16,some (14,true),.ld 1 false (.t 15)⟩,⟨some 17,some (14,true),.eq false .sl (.t 16) (.c (.nils))⟩,Rq 18 (.pick (.t 14) (.t 17) (.c (.bool false)))]) (
.cond (.t 18) (
 .seq (
 .reg [Rq 20 (.off 0 (.t 2)),
   Rq 21 (.ld 1 false (.t 20)),
   Rq 22 (.call .pure (.c (.fn (.f 142) [] [])) [.t 21]),
   Rq 23 (.off 0 (.t 3)),
   Rq 24 (.ld 1 false (.t 23)),
   Rq 25 (.call .pure (.c (.fn (.f 142) [] [])) [.t 24]),
   Rq 26 (.call .pure (.c (.fn (.f 143) [] [])) [.t 22,.t 25]),
   Rq 19 (.mov (.t 26)),
   Rq 27 (.ext 0 (.t 19)),
   Rq 28 (.ext 1 (.t 19)),
   Rq 5 (.mov (.t 27)),
   Rq 6 (.mov (.t 28))]) (
 .seq (
 .reg [Rq 29 (.mov (.t 5)),
   Rq 30 (.bin .eql (.t 29) (.c (.int .u64 0))),
   Rq 31 (.mov (.t 30)),
   ⟨some 32,some (31,true),.mov (.t 6)⟩,
   ⟨some 33,some (31,true),.bin .leq (.t 32) (.c (.int .u64 9223372036854775807))⟩,
   Rq 34 (.pick (.t 31) (.t 33) (.c (.bool false)))]) (
 .cond (.t 34) (
  .seq (
  .seq (
  .reg [Rq 35 (.off 0 (.t 2)),
    Rq 36 (.ld 1 false (.t 35)),
    Rq 37 (.bin .lss (.t 36) (.c (.int .i64 0))),
    Rq 38 (.off 0 (.t 3)),
    Rq 39 (.ld 1 false (.t 38)),
    Rq 40 (.bin .lss (.t 39) (.c (.int .i64 0))),
    Rq 41 (.eq true .b (.t 37) (.t 40))]) (
  .cond (.t 41) (
   .seq (
   .reg [Rq 42 (.mov (.t 6)),
     Rq 43 (.cv (.toInt .i64) (.t 42)),
     Rq 44 (.un .neg (.t 43)),
     Rq 45 (.mkagg [.int .i64 0,.nils] [(0,1,(.t 44))]),
     ⟨none,none,.st 2 (.t 4) (.t 45)⟩]) (
   .ret)) (
   .skip))) (
  .seq (
  .reg [Rq 46 (.mov (.t 6)),
    Rq 47 (.cv (.toInt .i64) (.t 46)),
    Rq 48 (.mkagg [.int .i64 0,.nils] [(0,1,(.t 47))]),
    ⟨none,none,.st 2 (.t 4) (.t 48)⟩]) (
  .ret))) (
  .skip)))) (
 .skip))) (
.seq (
.reg [Rq 50 (.ld 2 true (.t 2)),Rq 51 (.call .pure (.c (.fn (.f 136) [] [])) [.t 50]),Rq 49 (.mov (.t 51)),Rq 52 (.ext 0 (.t 49)),Rq 53 (.ext 1 (.t 49)),Rq 7 (.mov (.t 52)),Rq 8 (.mov (.t 53))]) (
.seq (
.reg [Rq 55 (.ld 2 true (.t 3)),Rq 56 (.call .pure (.c (.fn (.f 136) [] [])) [.t 55]),Rq 54 (.mov (.t 56)),Rq 57 (.ext 0 (.t 54)),Rq 58 (.ext 1 (.t 54)),Rq 9 (.mov (.t 57)),Rq 10 (.mov (.t 58))]) (
.seq (
.reg [Rq 59 (.mov (.t 7)),Rq 60 (.mov (.t 9)),Rq 61 (.eq true .b (.t 59) (.t 60)),Rq 62 (.mov (.t 8)),Rq 63 (.mov (.t 10)),Rq 64 (.call .pure (.c (.fn (.f 144) [] [])) [.t 62,.t 63]),Rq 65 (.call .pure (.c (.fn (.f 145) [] [])) [.t 61,.t 64]),⟨none,none,.st 2 (.t 4) (.t 65)⟩]) (
.ret)))))⟩
def c101 : Fnc := ⟨[.cell 4 4 true],
.seq (
.reg [Rq 2 (.box 2 (.t 0)),Rq 3 (.box 2 (.t 1)),Rq 4 (.box 4 (.c (.agg [.int .i64 0,.nils,.int .i64 0,.nils])))]) (
.seq (
.seq (
.reg [Rq 6 (.ld 2 true (.t 3)),Rq 7 (.call .pure (.c (.fn (.f 146) [] [])) [.t 6]),Rq 8 (.bin .lss (.t 7) (.c (.int .i64 0)))]) (
.cond (.t 8) (
 .reg [Rq 9 (.ld 2 true (.t 2)),
   Rq 10 (.call .pure (.c (.fn (.f 147) [] [])) [.t 9]),
   Rq 11 (.ld 2 true (.t 3)),
   Rq 12 (.call .pure (.c (.fn (.f 147) [] [])) [.t 11]),
   ⟨none,none,.st 2 (.t 2) (.t 10)⟩,
   ⟨none,none,.st 2 (.t 3) (.t 12)⟩]) (
 .skip))) (
.seq (
.seq (
.reg [Rq 13 (.off 1 (.t 3)),Rq 14 (.ld 1 false (.t 13)),Rq 15 (.eq false .sl (.t 14) (.c (.nils))),Rq 16 (.mov (.t 15)),⟨some 17,some (16,true),.off 0 (.t 3)⟩,⟨some 18,some (16,true),.ld 1 false (.t 17)⟩,⟨some 19,some (16,true),.bin .eql (.t 18) (.c (.int .i64 1))⟩,Rq 20 (.pick (.t 16) (.t 19) (.c (.bool false)))]) (
.cond (.t 20) (
 .seq (
 .reg [Rq 21 (.ld 2 true (.t 2)),
   Rq 22 (.ld 2 true (.t 3)),
   Rq 23 (.mkagg [.int .i64 0,.nils,.int .i64 0,.nils] [(0,2,(.t 21)),(2,2,(.t 22))]),
   ⟨none,none,.st 4 (.t 4) (.t 23)⟩]) (
 .ret)) (
 .skip))) (
.seq (
.reg [Rq 24 (.ld 2 true (.t 2)),Rq 25 (.ld 2 true (.t 3)),Rq 26 (.call .pure (.c (.fn (.f 130) [] [])) [.t 24,.t 25]),Rq 5 (.box 2 (.c (.agg [.int .i64 0,.nils]))),⟨none,none,.st 2 (.t 5) (.t 26)⟩]) (
.seq (
.reg [Rq 27 (.ld 2 true (.t 2)),Rq 28 (.ld 2 true (.t 5)),Rq 29 (.call .pure (.c (.fn (.f 148) [] [])) [.t 27,.t 28]),Rq 30 (.ld 2 true (.t 3)),Rq 31 (.ld 2 true (.t 5)),Rq 32 (.call .pure (.c (.fn (.f 148) [] [])) [.t 30,.t 31]),Rq 33 (.mkagg [.int .i64 0,.nils,.int .i64 0,.nils] [(0,2,(.t 29)),(2,2,(.t 32))]),⟨none,none,.st 4 (.t 4) (.t 33)⟩]) (
.ret)))))⟩
def c102 : Fnc := ⟨[.cell 2 4 true],
.seq (
.reg [Rq 1 (.box 4 (.t 0)),Rq 2 (.box 4 (.c (.agg [.int .i64 0,.nils,.int .i64 0,.nils])))]) (
.seq (
.reg [Rq 3 (.off 0 (.t 1)),Rq 4 (.ld 2 true (.t 3)),Rq 5 (.call .pure (.c (.fn (.f 147) [] [])) [.t 4]),Rq 6 (.off 2 (.t 1)),Rq 7 (.ld 2 true (.t 6)),Rq 8 (.mkagg [.int .i64 0,.nils,.int .i64 0,.nils] [(0,2,(.t 5)),(2,2,(.t 7))]),⟨none,none,.st 4 (.t 2) (.t 8)⟩]) (
.ret))⟩
def c103 : Fnc := ⟨[.t 4,.cell 5 4 true],
.seq (
.reg [Rq 2 (.box 4 (.t 0)),Rq 4 (.mov (.c (.int .i64 0))),Rq 5 (.box 4 (.c (.agg [.int .i64 0,.nils,.int .i64 0,.nils])))]) (
.seq (
.reg [Rq 10 (.ld 4 true (.t 2)),Rq 11 (.call .pure (.c (.fn (.f 149) [] [])) [.t 10]),Rq 12 (.call .pure (.c (.fn (.f 111) [] [])) [.t 11]),Rq 6 (.box 4 (.c (.agg [.int .i64 0,.nils,.int .i64 0,.nils]))),⟨none,none,.st 4 (.t 6) (.t 12)⟩]) (
.seq (
.reg [Rq 13 (.ld 4 true (.t 6)),Rq 14 (.mov (.t 1)),Rq 15 (.call .pure (.c (.fn (.f 69) [] [])) [.t 14]),Rq 16 (.ld 4 true (.t 6)),Rq 17 (.mov (.t 1)),Rq 18 (.call .pure (.c (.fn (.f 69) [] [])) [.t 17]),Rq 19 (.call .pure (.c (.fn (.f 70) [] [])) [.t 16,.t 18]),Rq 20 (.call .pure (.c (.fn (.f 149) [] [])) [.t 19]),Rq 21 (.call .pure (.c (.fn (.f 111) [] [])) [.t 20]),Rq 22 (.call .pure (.c (.fn (.f 49) [] [])) [.t 15,.t 21]),Rq 23 (.call .pure (.c (.fn (.f 50) [] [])) [.t 13,.t 22]),Rq 7 (.box 4 (.c (.agg [.int .i64 0,.nils,.int .i64 0,.nils]))),⟨none,none,.st 4 (.t 7) (.t 23)⟩]) (
.seq (
.reg [Rq 25 (.off 0 (.t 7)),Rq 26 (.ld 2 true (.t 25)),Rq 27 (.call .pure (.c (.fn (.f 150) [] [])) [.t 26]),Rq 24 (.mov (.t 27)),Rq 28 (.ext 0 (.t 24)),Rq 29 (.ext 1 (.t 24)),Rq 8 (.mov (.t 28)),Rq 9 (.mov (.t 29))]) (
.seq (
.reg [Rq 30 (.mov (.t 8)),Rq 31 (.ld 4 true (.t 2)),Rq 32 (.ld 4 true (.t 6)),Rq 33 (.call .pure (.c (.fn (.f 50) [] [])) [.t 31,.t 32]),Rq 4 (.mov (.t 30)),⟨none,none,.st 4 (.t 5) (.t 33)⟩]) (
.ret)))))⟩
def c104 : Fnc := ⟨[.cell 2 16 true],
.seq (
.reg [Rq 1 (.box 10 (.t 0)),Rq 2 (.box 16 (.c (.agg [.int .i64 0,.nils,.int .i64 0,.nils,.int .i64 0,.nils,.int .i64 0,.nils,.int .i64 0,.nils,.int .i64 0,.nils,.int .i64 0,.nils,.int .i64 0,.nils])))]) (
.seq (
.reg [Rq 6 (.call .pure (.c (.fn (.f 69) [] [])) [.c (.int .i64 1)]),Rq 3 (.box 4 (.c (.agg [.int .i64 0,.nils,.int .i64 0,.nils]))),⟨none,none,.st 4 (.t 3) (.t 6)⟩]) (
.seq (
.reg [Rq 7 (.ld 4 true (.t 3)),Rq 8 (.off 2 (.t 1)),Rq 9 (.ld 4 true (.t 8)),Rq 10 (.call .pure (.c (.fn (.f 50) [] [])) [.t 7,.t 9]),Rq 11 (.ld 4 true (.t 3)),Rq 12 (.off 6 (.t 1)),Rq 13 (.ld 4 true (.t 12)),Rq 14 (.call .pure (.c (.fn (.f 50) [] [])) [.t 11,.t 13]),Rq 4 (.box 4 (.c (.agg [.int .i64 0,.nils,.int .i64 0,.nils]))),Rq 5 (.box 4 (.c (.agg [.int .i64 0,.nils,.int .i64 0,.nils]))),⟨none,none,.st 4 (.t 4) (.t 10)⟩,⟨none,none,.st 4 (.t 5) (.t 14)⟩]) (
.seq (
.reg [Rq 15 (.ld 4 true (.t 4)),Rq 16 (.ld 4 true (.t 5)),Rq 17 (.call .pure (.c (.fn (.f 49) [] [])) [.t 15,.t 16]),Rq 18 (.off 2 (.t 1)),Rq 19 (.ld 4 true (.t 18)),Rq 20 (.ld 4 true (.t 5)),Rq 21 (.call .pure (.c (.fn (.f 49) [] [])) [.t 19,.t 20]),Rq 22 (.ld 4 true (.t 4)),Rq 23 (.off 6 (.t 1)),Rq 24 (.ld 4 true (.t 23)),Rq 25 (.call .pure (.c (.fn (.f 49) [] [])) [.t 22,.t 24]),Rq 26 (.off 2 (.t 1)),Rq 27 (.ld 4 true (.t 26)),Rq 28 (.off 6 (.t 1)),Rq 29 (.ld 4 true (.t 28)),Rq 30 (.call .pure (.c (.fn (.f 49) [] [])) [.t 27,.t 29]),Rq 31 (.mkagg [.int .i64 0,.nils,.int .i64 0,.nils,.int .i64 0,.nils,.int .i64 0,.nils,.int .i64 0,.nils,.int .i64 0,.nils,.int .i64 0,.nils,.int .i64 0,.nils] [(0,4,(.t 17)),(4,4,(.t 21)),(8,4,(.t 25)),(12,4,(.t 30))]),⟨none,none,.st 16 (.t 2) (.t 31)⟩]) (
.ret))))⟩
def c105 : Fnc := ⟨[.t 6,.t 7],
.seq (
.reg [Rq 3 (.box 10 (.t 0)),Rq 6 (.mov (.c (.int .i64 0))),Rq 7 (.mov (.c (.int .i64 0)))]) (
.seq (
.reg [Rq 8 (.off 0 (.t 3)),Rq 9 (.ld 1 false (.t 8)),Rq 10 (.mov (.t 1)),Rq 11 (.bin .rem (.t 10) (.c (.int .i64 2))),Rq 12 (.bin .add (.t 9) (.t 11)),Rq 13 (.mov (.t 2)),Rq 14 (.call .pure (.c (.fn (.f 134) [] [])) [.t 12,.t 13]),Rq 15 (.off 1 (.t 3)),Rq 16 (.ld 1 false (.t 15)),Rq 17 (.mov (.t 1)),Rq 18 (.bin .quo (.t 17) (.c (.int .i64 2))),Rq 19 (.bin .add (.t 16) (.t 18)),Rq 20 (.mov (.t 2)),Rq 21 (.call .pure (.c (.fn (.f 134) [] [])) [.t 19,.t 20]),Rq 6 (.mov (.t 14)),Rq 7 (.mov (.t 21))]) (
.ret))⟩
def c106_0 : VC :=
.seq (
.reg [Rq 12 (.bin .lss (.t 11) (.t 10))]) (
.seq (
.cond (.t 12) (
 .skip) (
 .exit 0)) (
.seq (
.blk 1 (
.seq (
.reg [Rq 13 (.ixa 4 (.t 9) (.t 11)),Rq 14 (.ld 4 true (.t 13)),Rq 8 (.box 4 (.c (.agg [.int .i64 0,.nils,.int .i64 0,.nils]))),⟨none,none,.st 4 (.t 8) (.t 14)⟩]) (
.reg [Rq 15 (.mov (.t 2)),Rq 16 (.ld 4 true (.t 3)),Rq 17 (.ld 4 true (.t 8)),Rq 18 (.call .pure (.t 15) [.t 16,.t 17]),⟨none,none,.st 4 (.t 3) (.t 18)⟩]))) (
.reg [Rq 19 (.bin .add (.t 11) (.c (.int .i64 1))),Rq 11 (.mov (.t 19))])))
def c106 : Fnc := ⟨[.cell 6 4 true],
.seq (
.reg [Rq 3 (.box 4 (.t 0)),Rq 6 (.box 4 (.c (.agg [.int .i64 0,.nils,.int .i64 0,.nils])))]) (
.seq (
.seq (
.reg [Rq 9 (.mov (.t 1)),Rq 10 (.len 1 (.t 9)),Rq 11 (.mov (.c (.int .i64 0)))]) (
.seq (
.blk 0 (
.loop [2,3,6,9,10,11] c106_0)) (
.kp [3,6]))) (
.seq (
.reg [Rq 20 (.ld 4 true (.t 3)),⟨none,none,.st 4 (.t 6) (.t 20)⟩]) (
.ret)))⟩
def c107 : Fnc := ⟨[.t 2],
.seq (
.reg [Rq 1 (.box 4 (.t 0)),Rq 2 (.mov (.c (.bool false)))]) (
.seq (
.reg [Rq 3 (.off 0 (.t 1)),Rq 4 (.ld 2 true (.t 3)),Rq 5 (.call .pure (.c (.fn (.f 151) [] [])) [.t 4]),Rq 6 (.mov (.t 5)),⟨some 7,some (6,false),.off 2 (.t 1)⟩,⟨some 8,some (6,false),.ld 2 true (.t 7)⟩,⟨some 9,some (6,false),.call .pure (.c (.fn (.f 151) [] [])) [.t 8]⟩,Rq 10 (.pick (.t 6) (.c (.bool true)) (.t 9)),Rq 2 (.mov (.t 10))]) (
.ret))⟩
def c108 : Fnc := ⟨[.t 2],
.seq (
.reg [Rq 1 (.box 4 (.t 0)),Rq 2 (.mov (.c (.int .i64 0)))]) (
.seq (
.reg [Rq 3 (.off 0 (.t 1)),Rq 4 (.ld 2 true (.t 3)),Rq 5 (.call .pure (.c (.fn (.f 146) [] [])) [.t 4]),Rq 2 (.mov (.t 5))]) (
.ret))⟩
def c110_0 : VC :=
.seq (
.seq (
.reg [Rq 13 (.mov (.t 0)),Rq 14 (.len 0 (.t 13)),Rq 15 (.bin .gtr (.t 14) (.c (.int .i64 0)))]) (
.cond (.t 15) (
 .skip) (
 .exit 0))) (
.blk 1 (
.seq (
.reg [Rq 16 (.mov (.t 0)),Rq 17 (.len 0 (.t 16)),Rq 18 (.mn [.c (.int .i64 18),.t 17]),Rq 5 (.mov (.t 18))]) (
.seq (
.reg [Rq 20 (.mov (.t 0)),Rq 21 (.mov (.t 5)),Rq 22 (.sli .str (.t 20) none (some (.t 21))),Rq 23 (.call .pure (.c (.fn (.f 154) [] [])) [.t 22]),Rq 19 (.mov (.t 23)),Rq 24 (.ext 0 (.t 19)),Rq 25 (.ext 1 (.t 19)),Rq 6 (.mov (.t 24)),Rq 7 (.mov (.t 25))]) (
.seq (
.reg [Rq 26 (.ld 2 true (.t 4)),Rq 27 (.call .pure (.c (.fn (.f 117) [] [])) [.c (.int .i64 10)]),Rq 28 (.mov (.t 5)),Rq 29 (.call .pure (.c (.fn (.f 155) [] [])) [.t 27,.t 28]),Rq 30 (.call .pure (.c (.fn (.f 100) [] [])) [.t 26,.t 29]),Rq 31 (.mov (.t 6)),Rq 32 (.call .pure (.c (.fn (.f 117) [] [])) [.t 31]),Rq 33 (.call .pure (.c (.fn (.f 119) [] [])) [.t 30,.t 32]),⟨none,none,.st 2 (.t 4) (.t 33)⟩]) (
.reg [Rq 34 (.mov (.t 0)),Rq 35 (.mov (.t 5)),Rq 36 (.sli .str (.t 34) (some (.t 35)) none),Rq 0 (.mov (.t 36))])))))
def c110 : Fnc := ⟨[.cell 2 2 true],
.seq (
.reg [Rq 2 (.box 2 (.c (.agg [.int .i64 0,.nils])))]) (
.seq (
.reg [Rq 8 (.mov (.t 0)),Rq 9 (.call .pure (.c (.fn (.f 152) [] [])) [.t 8,.c (.str [45])]),Rq 3 (.mov (.t 9))]) (
.seq (
.reg [Rq 10 (.mov (.t 0)),Rq 11 (.call .pure (.c (.fn (.f 153) [] [])) [.t 10,.c (.str [45])]),Rq 0 (.mov (.t 11))]) (
.seq (
.reg [Rq 12 (.mkagg [.int .i64 0,.nils] []),Rq 4 (.box 2 (.c (.agg [.int .i64 0,.nils]))),⟨none,none,.st 2 (.t 4) (.t 12)⟩]) (
.seq (
.seq (
.blk 0 (
.loop [0,2,3,4] c110_0)) (
.kp [2,3,4])) (
.seq (
.seq (
.reg [Rq 37 (.mov (.t 3))]) (
.cond (.t 37) (
 .seq (
 .reg [Rq 38 (.ld 2 true (.t 4)),
   Rq 39 (.call .pure (.c (.fn (.f 147) [] [])) [.t 38]),
   ⟨none,none,.st 2 (.t 2) (.t 39)⟩]) (
 .ret)) (
 .skip))) (
.seq (
.reg [Rq 40 (.ld 2 true (.t 4)),⟨none,none,.st 2 (.t 2) (.t 40)⟩]) (
.ret)))))))⟩
def c111 : Fnc := ⟨[.cell 2 4 true],
.seq (
.reg [Rq 1 (.box 2 (.t 0)),Rq 2 (.box 4 (.c (.agg [.int .i64 0,.nils,.int .i64 0,.nils])))]) (
.seq (
.reg [Rq 3 (.ld 2 true (.t 1)),Rq 4 (.call .pure (.c (.fn (.f 117) [] [])) [.c (.int .i64 1)]),Rq 5 (.mkagg [.int .i64 0,.nils,.int .i64 0,.nils] [(0,2,(.t 3)),(2,2,(.t 4))]),⟨none,none,.st 4 (.t 2) (.t 5)⟩]) (
.ret))⟩
def c112 : Fnc := ⟨[.cell 4 8 true],
.seq (
.reg [Rq 2 (.box 8 (.t 0)),Rq 3 (.box 8 (.t 1)),Rq 4 (.box 8 (.c (.agg [.int .i64 0,.nils,.int .i64 0,.nils,.int .i64 0,.nils,.int .i64 0,.nils])))]) (
.seq (
.reg [Rq 5 (.off 0 (.t 2)),Rq 6 (.ld 4 true (.t 5)),Rq 7 (.off 0 (.t 3)),Rq 8 (.ld 4 true (.t 7)),Rq 9 (.call .pure (.c (.fn (.f 74) [] [])) [.t 6,.t 8]),Rq 10 (.off 4 (.t 2)),Rq 11 (.ld 4 true (.t 10)),Rq 12 (.off 4 (.t 3)),Rq 13 (.ld 4 true (.t 12)),Rq 14 (.call .pure (.c (.fn (.f 74) [] [])) [.t 11,.t 13]),Rq 15 (.mkagg [.int .i64 0,.nils,.int .i64 0,.nils,.int .i64 0,.nils,.int .i64 0,.nils] [(0,4,(.t 9)),(4,4,(.t 14))]),⟨none,none,.st 8 (.t 4) (.t 15)⟩]) (
.ret))⟩
def c113 : Fnc := ⟨[.t 2],
.seq (
.reg [Rq 1 (.box 8 (.t 0)),Rq 2 (.mov (.c (.bool false)))]) (
.seq (
.reg [Rq 3 (.off 0 (.t 1)),Rq 4 (.ld 4 true (.t 3)),Rq 5 (.call .pure (.c (.fn (.f 107) [] [])) [.t 4]),Rq 6 (.mov (.t 5)),⟨some 7,some (6,false),.off 4 (.t 1)⟩,⟨some 8,some (6,false),.ld 4 true (.t 7)⟩,⟨some 9,some (6,false),.call .pure (.c (.fn (.f 107) [] [])) [.t 8]⟩,Rq 10 (.pick (.t 6) (.c (.bool true)) (.t 9)),Rq 2 (.mov (.t 10))]) (
.ret))⟩
def c114 : Fnc := ⟨[.cell 2 2 true],
.seq (
.reg [Rq 1 (.box 8 (.t 0)),Rq 2 (.box 2 (.c (.agg [.str [],.str []])))]) (
.seq (
.reg [Rq 3 (.off 0 (.t 1)),Rq 4 (.ld 4 true (.t 3)),Rq 5 (.call .pure (.c (.fn (.f 46) [] [])) [.t 4]),Rq 6 (.off 4 (.t 1)),Rq 7 (.ld 4 true (.t 6)),Rq 8 (.call .pure (.c (.fn (.f 46) [] [])) [.t 7]),Rq 9 (.mkagg [.str [],.str []] [(0,1,(.t 5)),(1,1,(.t 8))]),⟨none,none,.st 2 (.t 2) (.t 9)⟩]) (
.ret))⟩
def c115 : Fnc := ⟨[.t 2],
.seq (
.reg [Rq 1 (.box 8 (.t 0)),Rq 2 (.mov (.c (.int .i64 0)))]) (
.seq (
.reg [Rq 3 (.off 0 (.t 1)),Rq 4 (.ld 1 false (.t 3)),Rq 5 (.call .pure (.c (.fn (.f 4) [] [])) [.t 4]),Rq 6 (.off 1 (.t 1)),Rq 7 (.ld 1 false (.t 6)),Rq 8 (.call .pure (.c (.fn (.f 61) [] [])) [.t 7,.c (.int .i64 0)]),Rq 9 (.off 2 (.t 1)),Rq 10 (.ld 1 false (.t 9)),Rq 11 (.call .pure (.c (.fn (.f 61) [] [])) [.t 10,.c (.int .i64 1)]),Rq 12 (.off 3 (.t 1)),Rq 13 (.ld 1 false (.t 12)),Rq 14 (.call .pure (.c (.fn (.f 86) [] [])) [.t 13]),Rq 15 (.off 4 (.t 1)),Rq 16 (.ld 2 true (.t 15)),Rq 17 (.call .pure (.c (.fn (.f 53) [] [])) [.t 16]),Rq 18 (.off 6 (.t 1)),Rq 19 (.ld 2 true (.t 18)),Rq 20 (.call .pure (.c (.fn (.f 53) [] [])) [.t 19]),Rq 21 (.mksl 6 1 [.int .i64 0,.int .i64 0,.int .i64 0,.int .i64 0,.int .i64 0,.int .i64 0] [(0,1,(.t 5)),(1,1,(.t 8)),(2,1,(.t 11)),(3,1,(.t 14)),(4,1,(.t 17)),(5,1,(.t 20))]),Rq 22 (.call .pure (.c (.fn (.f 33) [] [])) [.t 21]),Rq 2 (.mov (.t 22))]) (
.ret))⟩
def c116 : Fnc := ⟨[.cell 8 8 true],
.seq (
.reg [Rq 4 (.box 8 (.t 0)),Rq 5 (.box 3 (.t 1)),Rq 6 (.box 2 (.t 2)),Rq 8 (.box 8 (.c (.agg [.int .i64 0,.nils,.int .i64 0,.nils,.int .i64 0,.nils,.int .i64 0,.nils])))]) (
.seq (
.reg [Rq 10 (.ld 3 true (.t 5)),Rq 11 (.off 1 (.t 4)),Rq 12 (.ld 1 false (.t 11)),Rq 13 (.call .pure (.c (.fn (.f 62) [] [])) [.t 12]),Rq 14 (.ld 2 true (.t 6)),Rq 15 (.call .pure (.c (.fn (.f 64) [] [])) [.t 10,.t 13,.t 14]),Rq 16 (.off 2 (.t 4)),Rq 17 (.ld 1 false (.t 16)),Rq 18 (.call .pure (.c (.fn (.f 62) [] [])) [.t 17]),Rq 19 (.call .pure (.c (.fn (.f 75) [] [])) [.t 15,.t 18]),Rq 9 (.box 8 (.c (.agg [.int .i64 0,.nils,.int .i64 0,.nils,.int .i64 0,.nils,.int .i64 0,.nils]))),⟨none,none,.st 8 (.t 9) (.t 19)⟩]) (
.seq (
.reg [Rq 20 (.ld 8 true (.t 9)),Rq 21 (.off 4 (.t 4)),Rq 22 (.ld 2 true (.t 21)),Rq 23 (.call .pure (.c (.fn (.f 54) [] [])) [.t 22]),Rq 24 (.call .pure (.c (.fn (.f 112) [] [])) [.t 20,.t 23]),Rq 25 (.off 6 (.t 4)),Rq 26 (.ld 2 true (.t 25)),Rq 27 (.call .pure (.c (.fn (.f 54) [] [])) [.t 26]),Rq 28 (.mov (.t 3)),Rq 29 (.call .pure (.c (.fn (.f 69) [] [])) [.t 28]),Rq 30 (.call .pure (.c (.fn (.f 75) [] [])) [.t 27,.t 29]),Rq 31 (.call .pure (.c (.fn (.f 112) [] [])) [.t 24,.t 30]),⟨none,none,.st 8 (.t 8) (.t 31)⟩]) (
.ret)))⟩
def c117 : Fnc := ⟨[.cell 2 2 true],
.seq (
.reg [Rq 2 (.box 2 (.c (.agg [.int .i64 0,.nils])))]) (
.seq (
.reg [Rq 3 (.mov (.t 0)),Rq 4 (.mkagg [.int .i64 0,.nils] [(0,1,(.t 3))]),⟨none,none,.st 2 (.t 2) (.t 4)⟩]) (
.ret))⟩
def c118 : Fnc := ⟨[.t 4],
.seq (
.reg [Rq 2 (.box 2 (.t 0)),Rq 3 (.box 2 (.t 1)),Rq 4 (.mov (.c (.int .i64 0)))]) (
.seq (
.seq (
.reg [Rq 5 (.off 1 (.t 2)),Rq 6 (.ld 1 false (.t 5)),Rq 7 (.eq false .sl (.t 6) (.c (.nils))),Rq 8 (.mov (.t 7)),⟨some 9,some (8,true),.off 1 (.t 3)⟩,⟨some 10,some (8,true),.ld 1 false (.t 9)⟩,⟨some 11,some (8,true),.eq false .sl (.t 10) (.c (.nils))⟩,Rq 12 (.pick (.t 8) (.t 11) (.c (.bool false)))]) (
.cond (.t 12) (
 .seq (
 .blk 0 (
 .seq (
 .reg [Rq 14 (.off 0 (.t 2)),
   Rq 15 (.ld 1 false (.t 14)),
   Rq 16 (.off 0 (.t 3)),
   Rq 17 (.ld 1 false (.t 16)),
   Rq 18 (.bin .lss (.t 15) (.t 17)),
   Rq 13 (.mov (.t 18))]) (
 .cond (.t 13) (
  .seq (
  .reg [Rq 4 (.mov (.c (.int .i64 (-1))))]) (
  .ret)) (
  .seq (
  .reg [Rq 20 (.off 0 (.t 2)),
    Rq 21 (.ld 1 false (.t 20)),
    Rq 22 (.off 0 (.t 3)),
    Rq 23 (.ld 1 false (.t 22)),
    Rq 24 (.bin .gtr (.t 21) (.t 23)),
    Rq 19 (.mov (.t 24))]) (
  .cond (.t 19) (
   .seq (
   .reg [Rq 4 (.mov (.c (.int .i64 1)))]) (
   .ret)) (
   .skip)))))) (
 .seq (
 .reg [Rq 4 (.mov (.c (.int .i64 0)))]) (
 .ret))) (
 .skip))) (
.seq (
.reg [Rq 25 (.ld 2 true (.t 2)),Rq 26 (.ld 2 true (.t 3)),Rq 27 (.call .pure (.c (.fn (.f 156) [] [])) [.t 25,.t 26]),Rq 28 (.call .pure (.c (.fn (.f 146) [] [])) [.t 27]),Rq 4 (.mov (.t 28))]) (
.ret)))⟩
def c119 : Fnc := ⟨[.cell 4 2 true],
.seq (
.reg [Rq 2 (.box 2 (.t 0)),Rq 3 (.box 2 (.t 1)),Rq 4 (.box 2 (.c (.agg [.int .i64 0,.nils])))]) (
.seq (
.seq (
.reg [Rq 10 (.off 1 (.t 2)),Rq 11 (.ld 1 false (.t 10)),Rq 12 (.eq false .sl (.t 11) (.c (.nils))),Rq 13 (.mov (.t 12)),⟨some 14,some (13,true),.off 1 (.t 3)⟩,⟨some 15,some (13,true),.ld 1 false (.t 14)⟩,⟨some 16,some (13,true),.eq false .sl (.t 15) (.c (.nils))⟩,Rq 17 (.pick (.t 13) (.t 16) (.c (.bool false)))]) (
.cond (.t 17) (
 .seq (
 .reg [Rq 18 (.off 0 (.t 2)),
   Rq 19 (.ld 1 false (.t 18)),
   Rq 20 (.off 0 (.t 3)),
   Rq 21 (.ld 1 false (.t 20)),
   Rq 22 (.bin .add (.t 19) (.t 21)),
   Rq 5 (.mov (.t 22))]) (
 .seq (
 .reg [Rq 23 (.mov (.t 5)),
   Rq 24 (.off 0 (.t 2)),
   Rq 25 (.ld 1 false (.t 24)),
   Rq 26 (.bin .gtr (.t 23) (.t 25)),
   Rq 27 (.off 0 (.t 3)),
   Rq 28 (.ld 1 false (.t 27)),
   Rq 29 (.bin .gtr (.t 28) (.c (.int .i64 0))),
   Rq 30 (.eq false .b (.t 26) (.t 29))]) (
 .cond (.t 30) (
  .seq (
  .reg [Rq 31 (.mov (.t 5)),
    Rq 32 (.mkagg [.int .i64 0,.nils] [(0,1,(.t 31))]),
    ⟨none,none,.st 2 (.t 4) (.t 32)⟩]) (
  .ret)) (
  .skip)))) (
 .skip))) (
.seq (
.reg [Rq 34 (.ld 2 true (.t 2)),Rq 35 (.call .pure (.c (.fn (.f 136) [] [])) [.t 34]),Rq 33 (.mov (.t 35)),Rq 36 (.ext 0 (.t 33)),Rq 37 (.ext 1 (.t 33)),Rq 6 (.mov (.t 36)),Rq 7 (.mov (.t 37))]) (
.seq (
.reg [Rq 39 (.ld 2 true (.t 3)),Rq 40 (.call .pure (.c (.fn (.f 136) [] [])) [.t 39]),Rq 38 (.mov (.t 40)),Rq 41 (.ext 0 (.t 38)),Rq 42 (.ext 1 (.t 38)),Rq 8 (.mov (.t 41)),Rq 9 (.mov (.t 42))]) (
.seq (
.blk 0 (
.seq (
.reg [Rq 44 (.mov (.t 6)),Rq 45 (.mov (.t 8)),Rq 46 (.eq false .b (.t 44) (.t 45)),Rq 43 (.mov (.t 46))]) (
.cond (.t 43) (
 .seq (
 .reg [Rq 47 (.mov (.t 6)),
   Rq 48 (.mov (.t 7)),
   Rq 49 (.mov (.t 9)),
   Rq 50 (.call .pure (.c (.fn (.f 157) [] [])) [.t 48,.t 49]),
   Rq 51 (.call .pure (.c (.fn (.f 145) [] [])) [.t 47,.t 50]),
   ⟨none,none,.st 2 (.t 4) (.t 51)⟩]) (
 .ret)) (
 .seq (
 .reg [Rq 53 (.mov (.t 7)),
   Rq 54 (.mov (.t 9)),
   Rq 55 (.call .pure (.c (.fn (.f 158) [] [])) [.t 53,.t 54]),
   Rq 56 (.bin .geq (.t 55) (.c (.int .i64 0))),
   Rq 52 (.mov (.t 56))]) (
 .cond (.t 52) (
  .seq (
  .reg [Rq 57 (.mov (.t 6)),
    Rq 58 (.mov (.t 7)),
    Rq 59 (.mov (.t 9)),
    Rq 60 (.call .pure (.c (.fn (.f 159) [] [])) [.t 58,.t 59]),
    Rq 61 (.call .pure (.c (.fn (.f 145) [] [])) [.t 57,.t 60]),
    ⟨none,none,.st 2 (.t 4) (.t 61)⟩]) (
  .ret)) (
  .skip)))))) (
.seq (
.reg [Rq 62 (.mov (.t 8)),Rq 63 (.mov (.t 9)),Rq 64 (.mov (.t 7)),Rq 65 (.call .pure (.c (.fn (.f 159) [] [])) [.t 63,.t 64]),Rq 66 (.call .pure (.c (.fn (.f 145) [] [])) [.t 62,.t 65]),⟨none,none,.st 2 (.t 4) (.t 66)⟩]) (
.ret))))))⟩
def c120_0 : VC :=
.seq (
.reg [Rq 11 (.bin .lss (.t 10) (.t 9))]) (
.seq (
.cond (.t 11) (
 .skip) (
 .exit 0)) (
.seq (
.blk 1 (
.seq (
.reg [Rq 12 (.ixa 8 (.t 8) (.t 10)),Rq 13 (.ld 8 true (.t 12)),Rq 7 (.box 8 (.c (.agg [.nils,.str [],.str [],.str [],.str [],.str [],.str [],.str []]))),⟨none,none,.st 8 (.t 7) (.t 13)⟩]) (
.reg [Rq 14 (.mov (.t 5)),Rq 15 (.mov (.t 1)),Rq 16 (.ld 8 true (.t 7)),Rq 17 (.call .pure (.t 15) [.t 16]),Rq 18 (.mksl 1 1 [.int .i64 0] [(0,1,(.t 17))]),Rq 19 (.app 1 8 (.t 14) (.t 18)),Rq 5 (.mov (.t 19))]))) (
.reg [Rq 20 (.bin .add (.t 10) (.c (.int .i64 1))),Rq 10 (.mov (.t 20))])))
def c120 : Fnc := ⟨[.t 4],
.seq (
.reg [Rq 4 (.mov (.c (.nils)))]) (
.seq (
.reg [Rq 5 (.mov (.c (.nils)))]) (
.seq (
.seq (
.reg [Rq 8 (.mov (.t 0)),Rq 9 (.len 1 (.t 8)),Rq 10 (.mov (.c (.int .i64 0)))]) (
.seq (
.blk 0 (
.loop [1,5,8,9,10] c120_0)) (
.kp [5]))) (
.seq (
.reg [Rq 21 (.mov (.t 5)),Rq 4 (.mov (.t 21))]) (
.ret))))⟩
def c121_0 : VC :=
.seq (
.reg [Rq 11 (.bin .lss (.t 10) (.t 9))]) (
.seq (
.cond (.t 11) (
 .skip) (
 .exit 0)) (
.seq (
.blk 1 (
.seq (
.reg [Rq 12 (.ixa 2 (.t 8) (.t 10)),Rq 13 (.ld 2 true (.t 12)),Rq 7 (.box 2 (.c (.agg [.str [],.str []]))),⟨none,none,.st 2 (.t 7) (.t 13)⟩]) (
.reg [Rq 14 (.mov (.t 5)),Rq 15 (.mov (.t 1)),Rq 16 (.ld 2 true (.t 7)),Rq 17 (.call .pure (.t 15) [.t 16]),Rq 18 (.mksl 1 1 [.int .i64 0] [(0,1,(.t 17))]),Rq 19 (.app 1 8 (.t 14) (.t 18)),Rq 5 (.mov (.t 19))]))) (
.reg [Rq 20 (.bin .add (.t 10) (.c (.int .i64 1))),Rq 10 (.mov (.t 20))])))
def c121 : Fnc := ⟨[.t 4],
.seq (
.reg [Rq 4 (.mov (.c (.nils)))]) (
.seq (
.reg [Rq 5 (.mov (.c (.nils)))]) (
.seq (
.seq (
.reg [Rq 8 (.mov (.t 0)),Rq 9 (.len 1 (.t 8)),Rq 10 (.mov (.c (.int .i64 0)))]) (
.seq (
.blk 0 (
.loop [1,5,8,9,10] c121_0)) (
.kp [5]))) (
.seq (
.reg [Rq 21 (.mov (.t 5)),Rq 4 (.mov (.t 21))]) (
.ret))))⟩
def c122 : Fnc := ⟨[.t 4],
.seq (
.reg [Rq 4 (.mov (.c (.bool false)))]) (
.seq (
.reg [Rq 5 (.mov (.t 0)),Rq 6 (.mov (.t 1)),Rq 7 (.call .pure (.c (.fn (.f 160) [] [])) [.t 5,.t 6]),Rq 8 (.bin .geq (.t 7) (.c (.int .i64 0))),Rq 4 (.mov (.t 8))]) (
.ret))⟩
def c123_0 : VC :=
.seq (
.reg [Rq 12 (.bin .lss (.t 11) (.t 10))]) (
.seq (
.cond (.t 12) (
 .skip) (
 .exit 0)) (
.seq (
.blk 1 (
.seq (
.reg [Rq 13 (.mov (.t 11)),Rq 14 (.ixa 4 (.t 9) (.t 11)),Rq 15 (.ld 4 true (.t 14)),Rq 5 (.box 4 (.c (.agg [.int .i64 0,.nils,.int .i64 0,.nils]))),Rq 4 (.mov (.t 13)),⟨none,none,.st 4 (.t 5) (.t 15)⟩]) (
.reg [Rq 16 (.mov (.t 3)),Rq 17 (.mov (.t 4)),Rq 18 (.ld 4 true (.t 5)),Rq 19 (.call .pure (.c (.fn (.f 46) [] [])) [.t 18]),Rq 20 (.ixa 1 (.t 16) (.t 17)),⟨none,none,.st 1 (.t 20) (.t 19)⟩]))) (
.reg [Rq 21 (.bin .add (.t 11) (.c (.int .i64 1))),Rq 11 (.mov (.t 21))])))
def c123 : Fnc := ⟨[.t 2],
.seq (
.reg [Rq 2 (.mov (.c (.nils)))]) (
.seq (
.reg [Rq 6 (.mov (.t 0)),Rq 7 (.len 1 (.t 6)),Rq 8 (.mks 1 16 [.str []] (.t 7) (.t 7)),Rq 3 (.mov (.t 8))]) (
.seq (
.seq (
.reg [Rq 9 (.mov (.t 0)),Rq 10 (.len 1 (.t 9)),Rq 11 (.mov (.c (.int .i64 0)))]) (
.seq (
.blk 0 (
.loop [3,9,10,11] c123_0)) (
.kp [3]))) (
.seq (
.reg [Rq 22 (.mov (.t 3)),Rq 2 (.mov (.t 22))]) (
.ret))))⟩
def c124 : Fnc := ⟨[.t 4],
.seq (
.reg [Rq 4 (.mov (.c (.int .i64 0)))]) (
.seq (
.seq (
.reg [Rq 5 (.mov (.t 0))]) (
.cond (.t 5) (
 .seq (
 .reg [Rq 6 (.mov (.t 1)),
   Rq 4 (.mov (.t 6))]) (
 .ret)) (
 .skip))) (
.seq (
.reg [Rq 4 (.mov (.c (.int .i64 0)))]) (
.ret)))⟩
def c125_0 : VC :=
.seq (
.reg [Rq 8 (.bin .lss (.t 7) (.t 6))]) (
.seq (
.cond (.t 8) (
 .skip) (
 .exit 0)) (
.seq (
.blk 1 (
.seq (
.reg [Rq 9 (.ixa 1 (.t 5) (.t 7)),Rq 10 (.ld 1 false (.t 9)),Rq 4 (.mov (.t 10))]) (
.seq (
.reg [Rq 11 (.mov (.t 4)),Rq 12 (.bin .neq (.t 11) (.c (.int .i64 0)))]) (
.cond (.t 12) (
 .seq (
 .reg [Rq 13 (.mov (.t 4)),
   Rq 2 (.mov (.t 13))]) (
 .ret)) (
 .skip))))) (
.reg [Rq 14 (.bin .add (.t 7) (.c (.int .i64 1))),Rq 7 (.mov (.t 14))])))
def c125 : Fnc := ⟨[.t 2],
.seq (
.reg [Rq 2 (.mov (.c (.int .i64 0)))]) (
.seq (
.seq (
.reg [Rq 5 (.mov (.t 0)),Rq 6 (.len 1 (.t 5)),Rq 7 (.mov (.c (.int .i64 0)))]) (
.seq (
.blk 0 (
.loop [5,6,7] c125_0)) (
.kp []))) (
.seq (
.reg [Rq 2 (.mov (.c (.int .i64 0)))]) (
.ret)))⟩
def c126 : Fnc := ⟨[.t 3],
.seq (
.reg [Rq 3 (.mov (.c (.int .i64 0)))]) (
.seq (
.reg [Rq 4 (.mov (.t 0)),Rq 5 (.len 1 (.t 4)),Rq 6 (.bin .eql (.t 5) (.c (.int .i64 0))),Rq 7 (.call .pure (.c (.fn (.f 124) [] [])) [.t 6,.c (.int .i64 12)]),Rq 8 (.mov (.t 0)),Rq 9 (.len 1 (.t 8)),Rq 10 (.bin .gtr (.t 9) (.c (.int .i64 64))),Rq 11 (.call .pure (.c (.fn (.f 124) [] [])) [.t 10,.c (.int .i64 5)]),Rq 12 (.mov (.t 0)),Rq 13 (.len 1 (.t 12)),Rq 14 (.ld 1 false (.t 1)),Rq 15 (.ixa 1 (.t 14) (.c (.int .i64 0))),Rq 16 (.ld 1 false (.t 15)),Rq 17 (.len 1 (.t 16)),Rq 18 (.bin .neq (.t 13) (.t 17)),Rq 19 (.call .pure (.c (.fn (.f 124) [] [])) [.t 18,.c (.int .i64 2)]),Rq 20 (.mov (.t 0)),Rq 21 (.call .pure (.c (.fn (.f 161) [] [])) [.t 20]),Rq 22 (.mksl 4 1 [.int .i64 0,.int .i64 0,.int .i64 0,.int .i64 0] [(0,1,(.t 7)),(1,1,(.t 11)),(2,1,(.t 19)),(3,1,(.t 21))]),Rq 23 (.call .pure (.c (.fn (.f 125) [] [])) [.t 22]),Rq 3 (.mov (.t 23))]) (
.ret))⟩
def c127_0 : VC :=
.seq (
.reg [Rq 11 (.bin .lss (.t 10) (.t 9))]) (
.seq (
.cond (.t 11) (
 .skip) (
 .exit 0)) (
.seq (
.blk 1 (
.seq (
.reg [Rq 12 (.ixa 1 (.t 8) (.t 10)),Rq 13 (.ld 1 false (.t 12)),Rq 6 (.mov (.t 13))]) (
.seq (
.reg [Rq 14 (.mov (.t 1)),Rq 15 (.mov (.t 6)),Rq 16 (.call .pure (.t 14) [.t 15]),Rq 7 (.mov (.t 16))]) (
.seq (
.reg [Rq 17 (.mov (.t 7)),Rq 18 (.bin .neq (.t 17) (.c (.int .i64 0)))]) (
.cond (.t 18) (
 .seq (
 .reg [Rq 19 (.mov (.t 7)),
   Rq 4 (.mov (.t 19))]) (
 .ret)) (
 .skip)))))) (
.reg [Rq 20 (.bin .add (.t 10) (.c (.int .i64 1))),Rq 10 (.mov (.t 20))])))
def c127 : Fnc := ⟨[.t 4],
.seq (
.reg [Rq 4 (.mov (.c (.int .i64 0)))]) (
.seq (
.seq (
.reg [Rq 8 (.mov (.t 0)),Rq 9 (.len 1 (.t 8)),Rq 10 (.mov (.c (.int .i64 0)))]) (
.seq (
.blk 0 (
.loop [1,8,9,10] c127_0)) (
.kp []))) (
.seq (
.reg [Rq 4 (.mov (.c (.int .i64 0)))]) (
.ret)))⟩
def c129 : Fnc := ⟨[.t 2],
.seq (
.reg [Rq 2 (.mov (.c (.bool false)))]) (
.seq (
.reg [Rq 3 (.mov (.t 0)),Rq 4 (.bin .neq (.t 3) (.c (.str []))),Rq 5 (.mov (.t 4)),⟨some 6,some (5,true),.mov (.t 0)⟩,⟨some 7,some (5,true),.call .pure (.c (.fn (.f 162) [] [])) [.t 6,.c (.str [48,49,50,51,52,53,54,55,56,57])]⟩,⟨some 8,some (5,true),.bin .eql (.t 7) (.c (.str []))⟩,Rq 9 (.pick (.t 5) (.t 8) (.c (.bool false))),Rq 10 (.mov (.t 9)),⟨some 11,some (10,true),.mov (.t 0)⟩,⟨some 12,some (10,true),.ixs (.t 11) (.c (.int .i64 0))⟩,⟨some 13,some (10,true),.bin .neq (.t 12) (.c (.int .u8 48))⟩,⟨some 14,some (10,true),.mov (.t 13)⟩,⟨some 15,some (14,false),.mov (.t 0)⟩,⟨some 16,some (14,false),.bin .eql (.t 15) (.c (.str [48]))⟩,⟨some 17,some (10,true),.pick (.t 14) (.c (.bool true)) (.t 16)⟩,Rq 18 (.pick (.t 10) (.t 17) (.c (.bool false))),Rq 2 (.mov (.t 18))]) (
.ret))⟩
def c130_0 : VC :=
.seq (
.seq (
.reg [Rq 11 (.ld 2 true (.t 3)),Rq 12 (.call .pure (.c (.fn (.f 146) [] [])) [.t 11]),Rq 13 (.bin .neq (.t 12) (.c (.int .i64 0)))]) (
.cond (.t 13) (
 .skip) (
 .exit 0))) (
.blk 1 (
.seq (
.reg [Rq 15 (.ld 2 true (.t 2)),Rq 16 (.ld 2 true (.t 3)),Rq 17 (.call .pure (.c (.fn (.f 164) [] [])) [.t 15,.t 16]),Rq 14 (.mov (.t 17)),Rq 18 (.ext 0 (.t 14)),Rq 19 (.ext 1 (.t 14)),Rq 5 (.box 2 (.c (.agg [.int .i64 0,.nils]))),Rq 6 (.box 2 (.c (.agg [.int .i64 0,.nils]))),⟨none,none,.st 2 (.t 5) (.t 18)⟩,⟨none,none,.st 2 (.t 6) (.t 19)⟩]) (
.reg [Rq 20 (.ld 2 true (.t 3)),Rq 21 (.ld 2 true (.t 6)),⟨none,none,.std [(2,true,6)] 2 (.t 2) (.t 20)⟩,⟨none,none,.st 2 (.t 3) (.t 21)⟩])))
def c130 : Fnc := ⟨[.cell 4 2 true],
.seq (
.reg [Rq 2 (.box 2 (.t 0)),Rq 3 (.box 2 (.t 1)),Rq 4 (.box 2 (.c (.agg [.int .i64 0,.nils])))]) (
.seq (
.reg [Rq 7 (.ld 2 true (.t 2)),Rq 8 (.call .pure (.c (.fn (.f 163) [] [])) [.t 7]),Rq 9 (.ld 2 true (.t 3)),Rq 10 (.call .pure (.c (.fn (.f 163) [] [])) [.t 9]),⟨none,none,.st 2 (.t 2) (.t 8)⟩,⟨none,none,.st 2 (.t 3) (.t 10)⟩]) (
.seq (
.seq (
.blk 0 (
.loop [2,3,4] c130_0)) (
.kp [2,4])) (
.seq (
.reg [Rq 22 (.ld 2 true (.t 2)),⟨none,none,.st 2 (.t 4) (.t 22)⟩]) (
.ret))))⟩
def c131_0 : VC :=
.seq (
.reg [Rq 11 (.bin .lss (.t 10) (.t 9))]) (
.seq (
.cond (.t 11) (
 .skip) (
 .exit 0)) (
.seq (
.blk 1 (
.seq (
.reg [Rq 12 (.mov (.t 10)),Rq 6 (.mov (.t 12))]) (
.reg [Rq 13 (.ld 4 true (.t 5)),Rq 14 (.mov (.t 0)),Rq 15 (.mov (.t 6)),Rq 16 (.ixa 4 (.t 14) (.t 15)),Rq 17 (.ld 4 true (.t 16)),Rq 18 (.mov (.t 1)),Rq 19 (.mov (.t 6)),Rq 20 (.ixa 4 (.t 18) (.t 19)),Rq 21 (.ld 4 true (.t 20)),Rq 22 (.call .pure (.c (.fn (.f 49) [] [])) [.t 17,.t 21]),Rq 23 (.call .pure (.c (.fn (.f 74) [] [])) [.t 13,.t 22]),⟨none,none,.st 4 (.t 5) (.t 23)⟩]))) (
.reg [Rq 24 (.bin .add (.t 10) (.c (.int .i64 1))),Rq 10 (.mov (.t 24))])))
def c131 : Fnc := ⟨[.cell 4 4 true],
.seq (
.reg [Rq 4 (.box 4 (.c (.agg [.int .i64 0,.nils,.int .i64 0,.nils])))]) (
.seq (
.reg [Rq 7 (.call .pure (.c (.fn (.f 69) [] [])) [.c (.int .i64 0)]),Rq 5 (.box 4 (.c (.agg [.int .i64 0,.nils,.int .i64 0,.nils]))),⟨none,none,.st 4 (.t 5) (.t 7)⟩]) (
.seq (
.seq (
.reg [Rq 8 (.mov (.t 0)),Rq 9 (.len 1 (.t 8)),Rq 10 (.mov (.c (.int .i64 0)))]) (
.seq (
.blk 0 (
.loop [0,1,4,5,9,10] c131_0)) (
.kp [4,5]))) (
.seq (
.reg [Rq 25 (.ld 4 true (.t 5)),⟨none,none,.st 4 (.t 4) (.t 25)⟩]) (
.ret))))⟩
def c132_0 : VC :=
.seq (
.reg [Rq 9 (.bin .lss (.t 8) (.t 7))]) (
.seq (
.cond (.t 9) (
 .skip) (
 .exit 0)) (
.seq (
.blk 1 (
.seq (
.reg [Rq 10 (.mov (.t 8)),Rq 5 (.mov (.t 10))]) (
.seq (
.reg [Rq 11 (.mov (.t 1)),Rq 12 (.mov (.t 0)),Rq 13 (.mov (.t 5)),Rq 14 (.ixa 1 (.t 12) (.t 13)),Rq 15 (.ld 1 false (.t 14)),Rq 16 (.call .pure (.t 11) [.t 15])]) (
.cond (.t 16) (
 .seq (
 .reg [Rq 17 (.mov (.t 5)),
   Rq 4 (.mov (.t 17))]) (
 .ret)) (
 .skip))))) (
.reg [Rq 18 (.bin .add (.t 8) (.c (.int .i64 1))),Rq 8 (.mov (.t 18))])))
def c132 : Fnc := ⟨[.t 4],
.seq (
.reg [Rq 4 (.mov (.c (.int .i64 0)))]) (
.seq (
.seq (
.reg [Rq 6 (.mov (.t 0)),Rq 7 (.len 1 (.t 6)),Rq 8 (.mov (.c (.int .i64 0)))]) (
.seq (
.blk 0 (
.loop [0,1,7,8] c132_0)) (
.kp []))) (
.seq (
.reg [Rq 4 (.mov (.c (.int .i64 (-1))))]) (
.ret)))⟩
def c133_0 : VC :=
.seq (
.reg [Rq 11 (.bin .lss (.t 10) (.t 9))]) (
.seq (
.cond (.t 11) (
 .skip) (
 .exit 2)) (
.seq (
.blk 3 (
.seq (
.reg [Rq 12 (.mov (.t 10)),Rq 4 (.mov (.t 12))]) (
.seq (
.reg [Rq 13 (.mov (.t 0)),Rq 14 (.mov (.t 4)),Rq 15 (.mov (.t 3)),Rq 16 (.call .heap (.t 13) [.t 14,.t 15]),Rq 17 (.un .not (.t 16))]) (
.cond (.t 17) (
 .ret) (
 .skip))))) (
.reg [Rq 18 (.bin .add (.t 10) (.c (.int .i64 1))),Rq 10 (.mov (.t 18))])))
def c133_1 : VC :=
.seq (
.reg [Rq 7 (.bin .lss (.t 6) (.t 5))]) (
.seq (
.cond (.t 7) (
 .skip) (
 .exit 0)) (
.seq (
.blk 1 (
.seq (
.reg [Rq 8 (.mov (.t 6)),Rq 3 (.mov (.t 8))]) (
.seq (
.reg [Rq 9 (.ld 1 false (.t 1)),Rq 10 (.mov (.c (.int .i64 0)))]) (
.seq (
.blk 2 (
.loop [0,1,3,5,6,9,10] c133_0)) (
.kp [0,1,5,6]))))) (
.reg [Rq 19 (.bin .add (.t 6) (.c (.int .i64 1))),Rq 6 (.mov (.t 19))])))
def c133 : Fnc := ⟨[],
.seq (
.reg [Rq 5 (.ld 1 false (.t 1)),Rq 6 (.mov (.c (.int .i64 0)))]) (
.seq (
.blk 0 (
.loop [0,1,5,6] c133_1)) (
.kp []))⟩
def c134 : Fnc := ⟨[.t 4],
.seq (
.reg [Rq 4 (.mov (.c (.int .i64 0)))]) (
.seq (
.reg [Rq 5 (.mov (.t 0)),Rq 6 (.mov (.t 1)),Rq 7 (.bin .rem (.t 5) (.t 6)),Rq 8 (.mov (.t 1)),Rq 9 (.bin .add (.t 7) (.t 8)),Rq 10 (.mov (.t 1)),Rq 11 (.bin .rem (.t 9) (.t 10)),Rq 4 (.mov (.t 11))]) (
.ret))⟩
def c136 : Fnc := ⟨[.t 2,.t 3],
.seq (
.reg [Rq 1 (.box 2 (.t 0)),Rq 2 (.mov (.c (.bool false))),Rq 3 (.mov (.c (.nils)))]) (
.seq (
.blk 0 (
.seq (
.reg [Rq 5 (.off 1 (.t 1)),Rq 6 (.ld 1 false (.t 5)),Rq 7 (.eq true .sl (.t 6) (.c (.nils))),Rq 4 (.mov (.t 7))]) (
.cond (.t 4) (
 .seq (
 .reg [Rq 8 (.off 0 (.t 1)),
   Rq 9 (.ld 1 false (.t 8)),
   Rq 10 (.bin .lss (.t 9) (.c (.int .i64 0))),
   Rq 11 (.off 1 (.t 1)),
   Rq 12 (.ld 1 false (.t 11)),
   Rq 2 (.mov (.t 10)),
   Rq 3 (.mov (.t 12))]) (
 .ret)) (
 .seq (
 .reg [Rq 14 (.off 0 (.t 1)),
   Rq 15 (.ld 1 false (.t 14)),
   Rq 16 (.bin .eql (.t 15) (.c (.int .i64 0))),
   Rq 13 (.mov (.t 16))]) (
 .cond (.t 13) (
  .seq (
  .reg [Rq 2 (.mov (.c (.bool false))),
    Rq 3 (.mov (.c (.nils)))]) (
  .ret)) (
  .skip)))))) (
.seq (
.reg [Rq 17 (.off 0 (.t 1)),Rq 18 (.ld 1 false (.t 17)),Rq 19 (.bin .lss (.t 18) (.c (.int .i64 0))),Rq 20 (.off 0 (.t 1)),Rq 21 (.ld 1 false (.t 20)),Rq 22 (.call .pure (.c (.fn (.f 142) [] [])) [.t 21]),Rq 23 (.mksl 1 1 [.int .u64 0] [(0,1,(.t 22))]),Rq 2 (.mov (.t 19)),Rq 3 (.mov (.t 23))]) (
.ret)))⟩
def c142 : Fnc := ⟨[.t 2],
.seq (
.reg [Rq 2 (.mov (.c (.int .u64 0)))]) (
.seq (
.seq (
.reg [Rq 3 (.mov (.t 0)),Rq 4 (.bin .lss (.t 3) (.c (.int .i64 0)))]) (
.cond (.t 4) (
 .seq (
 .reg [Rq 5 (.mov (.t 0)),
   Rq 6 (.un .neg (.t 5)),
   Rq 7 (.cv (.toInt .u64) (.t 6)),
   Rq 2 (.mov (.t 7))]) (
 .ret)) (
 .skip))) (
.seq (
.reg [Rq 8 (.mov (.t 0)),Rq 9 (.cv (.toInt .u64) (.t 8)),Rq 2 (.mov (.t 9))]) (
.ret)))⟩
def c146 : Fnc := ⟨[.t 2],
.seq (
.reg [Rq 1 (.box 2 (.t 0)),Rq 2 (.mov (.c (.int .i64 0)))]) (
.seq (
.reg [Rq 3 (.off 0 (.t 1)),Rq 4 (.ld 1 false (.t 3)),Rq 5 (.mn [.c (.int .i64 1),.t 4]),Rq 6 (.mx [.c (.int .i64 (-1)),.t 5]),Rq 2 (.mov (.t 6))]) (
.ret))⟩
def c147 : Fnc := ⟨[.cell 2 2 true],
.seq (
.reg [Rq 1 (.box 2 (.t 0)),Rq 2 (.box 2 (.c (.agg [.int .i64 0,.nils])))]) (
.seq (
.seq (
.reg [Rq 5 (.off 1 (.t 1)),Rq 6 (.ld 1 false (.t 5)),Rq 7 (.eq false .sl (.t 6) (.c (.nils))),Rq 8 (.mov (.t 7)),⟨some 9,some (8,true),.off 0 (.t 1)⟩,⟨some 10,some (8,true),.ld 1 false (.t 9)⟩,⟨some 11,some (8,true),.bin .neq (.t 10) (.c (.int .i64 (-9223372036854775808)))⟩,Rq 12 (.pick (.t 8) (.t 11) (.c (.bool false)))]) (
.cond (.t 12) (
 .seq (
 .reg [Rq 13 (.off 0 (.t 1)),
   Rq 14 (.ld 1 false (.t 13)),
   Rq 15 (.un .neg (.t 14)),
   Rq 16 (.mkagg [.int .i64 0,.nils] [(0,1,(.t 15))]),
   ⟨none,none,.st 2 (.t 2) (.t 16)⟩]) (
 .ret)) (
 .skip))) (
.seq (
.reg [Rq 18 (.ld 2 true (.t 1)),Rq 19 (.call .pure (.c (.fn (.f 136) [] [])) [.t 18]),Rq 17 (.mov (.t 19)),Rq 20 (.ext 0 (.t 17)),Rq 21 (.ext 1 (.t 17)),Rq 3 (.mov (.t 20)),Rq 4 (.mov (.t 21))]) (
.seq (
.reg [Rq 22 (.mov (.t 3)),Rq 23 (.un .not (.t 22)),Rq 24 (.mov (.t 4)),Rq 25 (.call .pure (.c (.fn (.f 145) [] [])) [.t 23,.t 24]),⟨none,none,.st 2 (.t 2) (.t 25)⟩]) (
.ret))))⟩
def c148 : Fnc := ⟨[.cell 4 2 true],
.seq (
.reg [Rq 2 (.box 2 (.t 0)),Rq 3 (.box 2 (.t 1)),Rq 4 (.box 2 (.c (.agg [.int .i64 0,.nils])))]) (
.seq (
.seq (
.reg [Rq 7 (.ld 2 true (.t 3)),Rq 8 (.call .pure (.c (.fn (.f 146) [] [])) [.t 7]),Rq 9 (.bin .lss (.t 8) (.c (.int .i64 0)))]) (
.cond (.t 9) (
 .reg [Rq 10 (.ld 2 true (.t 2)),
   Rq 11 (.call .pure (.c (.fn (.f 147) [] [])) [.t 10]),
   Rq 12 (.ld 2 true (.t 3)),
   Rq 13 (.call .pure (.c (.fn (.f 147) [] [])) [.t 12]),
   ⟨none,none,.st 2 (.t 2) (.t 11)⟩,
   ⟨none,none,.st 2 (.t 3) (.t 13)⟩]) (
 .skip))) (
.seq (
.reg [Rq 15 (.ld 2 true (.t 2)),Rq 16 (.ld 2 true (.t 3)),Rq 17 (.call .pure (.c (.fn (.f 164) [] [])) [.t 15,.t 16]),Rq 14 (.mov (.t 17)),Rq 18 (.ext 0 (.t 14)),Rq 19 (.ext 1 (.t 14)),Rq 5 (.box 2 (.c (.agg [.int .i64 0,.nils]))),Rq 6 (.box 2 (.c (.agg [.int .i64 0,.nils]))),⟨none,none,.st 2 (.t 5) (.t 18)⟩,⟨none,none,.st 2 (.t 6) (.t 19)⟩]) (
.seq (
.reg [Rq 20 (.ld 2 true (.t 5)),⟨none,none,.st 2 (.t 4) (.t 20)⟩]) (
.ret))))⟩
def c149 : Fnc := ⟨[.cell 2 2 true],
.seq (
.reg [Rq 1 (.box 4 (.t 0)),Rq 2 (.box 2 (.c (.agg [.int .i64 0,.nils])))]) (
.seq (
.reg [Rq 6 (.off 0 (.t 1)),Rq 7 (.ld 2 true (.t 6)),Rq 8 (.off 2 (.t 1)),Rq 9 (.ld 2 true (.t 8)),Rq 10 (.call .pure (.c (.fn (.f 164) [] [])) [.t 7,.t 9]),Rq 5 (.mov (.t 10)),Rq 11 (.ext 0 (.t 5)),Rq 12 (.ext 1 (.t 5)),Rq 3 (.box 2 (.c (.agg [.int .i64 0,.nils]))),Rq 4 (.box 2 (.c (.agg [.int .i64 0,.nils]))),⟨none,none,.st 2 (.t 3) (.t 11)⟩,⟨none,none,.st 2 (.t 4) (.t 12)⟩]) (
.seq (
.reg [Rq 13 (.ld 2 true (.t 3)),⟨none,none,.st 2 (.t 2) (.t 13)⟩]) (
.ret)))⟩
def c150 : Fnc := ⟨[.t 2,.t 3],
.seq (
.reg [Rq 1 (.box 2 (.t 0)),Rq 2 (.mov (.c (.int .i64 0))),Rq 3 (.mov (.c (.bool false)))]) (
.seq (
.reg [Rq 4 (.off 0 (.t 1)),Rq 5 (.ld 1 false (.t 4)),Rq 6 (.off 1 (.t 1)),Rq 7 (.ld 1 false (.t 6)),Rq 8 (.eq false .sl (.t 7) (.c (.nils))),Rq 2 (.mov (.t 5)),Rq 3 (.mov (.t 8))]) (
.ret))⟩
def c151 : Fnc := ⟨[.t 2],
.seq (
.reg [Rq 1 (.box 2 (.t 0)),Rq 2 (.mov (.c (.bool false)))]) (
.seq (
.reg [Rq 3 (.ld 2 true (.t 1)),Rq 4 (.call .pure (.c (.fn (.f 172) [] [])) [.t 3]),Rq 5 (.bin .gtr (.t 4) (.c (.int .i64 1800))),Rq 6 (.mov (.t 5)),⟨some 7,some (6,true),.ld 2 true (.t 1)⟩,⟨some 8,some (6,true),.call .pure (.c (.fn (.f 99) [] [])) [.t 7]⟩,⟨some 9,some (6,true),.call .pure (.c (.fn (.f 153) [] [])) [.t 8,.c (.str [45])]⟩,⟨some 10,some (6,true),.len 0 (.t 9)⟩,⟨some 11,some (6,true),.bin .gtr (.t 10) (.c (.int .i64 600))⟩,Rq 12 (.pick (.t 6) (.t 11) (.c (.bool false))),Rq 2 (.mov (.t 12))]) (
.ret))⟩
def c155_0 : VC :=
.seq (
.seq (
.reg [Rq 7 (.mov (.t 1)),Rq 8 (.bin .gtr (.t 7) (.c (.int .i64 0)))]) (
.cond (.t 8) (
 .skip) (
 .exit 0))) (
.seq (
.blk 1 (
.seq (
.seq (
.reg [Rq 11 (.mov (.t 1)),Rq 12 (.bin .and (.t 11) (.c (.int .i64 1))),Rq 13 (.bin .eql (.t 12) (.c (.int .i64 1)))]) (
.cond (.t 13) (
 .reg [Rq 14 (.ld 2 true (.t 5)),
   Rq 15 (.ld 2 true (.t 2)),
   Rq 16 (.call .pure (.c (.fn (.f 100) [] [])) [.t 14,.t 15]),
   ⟨none,none,.st 2 (.t 5) (.t 16)⟩]) (
 .skip))) (
.seq (
.reg [Rq 17 (.mov (.t 1)),Rq 18 (.bin .gtr (.t 17) (.c (.int .i64 1)))]) (
.cond (.t 18) (
 .reg [Rq 19 (.ld 2 true (.t 2)),
   Rq 20 (.ld 2 true (.t 2)),
   Rq 21 (.call .pure (.c (.fn (.f 100) [] [])) [.t 19,.t 20]),
   ⟨none,none,.st 2 (.t 2) (.t 21)⟩]) (
 .skip))))) (
.reg [Rq 9 (.mov (.t 1)),Rq 10 (.bin .shr (.t 9) (.c (.int .u64 1))),Rq 1 (.mov (.t 10))]))
def c155 : Fnc := ⟨[.cell 4 2 true],
.seq (
.reg [Rq 2 (.box 2 (.t 0)),Rq 4 (.box 2 (.c (.agg [.int .i64 0,.nils])))]) (
.seq (
.reg [Rq 6 (.call .pure (.c (.fn (.f 117) [] [])) [.c (.int .i64 1)]),Rq 5 (.box 2 (.c (.agg [.int .i64 0,.nils]))),⟨none,none,.st 2 (.t 5) (.t 6)⟩]) (
.seq (
.seq (
.blk 0 (
.loop [1,2,4,5] c155_0)) (
.kp [4,5])) (
.seq (
.reg [Rq 22 (.ld 2 true (.t 5)),⟨none,none,.st 2 (.t 4) (.t 22)⟩]) (
.ret))))⟩
def c160_0 : VC :=
.seq (
.reg [Rq 9 (.bin .lss (.t 8) (.t 7))]) (
.seq (
.cond (.t 9) (
 .skip) (
 .exit 0)) (
.seq (
.blk 1 (
.seq (
.reg [Rq 10 (.mov (.t 8)),Rq 5 (.mov (.t 10))]) (
.seq (
.reg [Rq 11 (.mov (.t 1)),Rq 12 (.mov (.t 0)),Rq 13 (.mov (.t 5)),Rq 14 (.ixa 4 (.t 12) (.t 13)),Rq 15 (.ld 4 true (.t 14)),Rq 16 (.call .pure (.t 11) [.t 15])]) (
.cond (.t 16) (
 .seq (
 .reg [Rq 17 (.mov (.t 5)),
   Rq 4 (.mov (.t 17))]) (
 .ret)) (
 .skip))))) (
.reg [Rq 18 (.bin .add (.t 8) (.c (.int .i64 1))),Rq 8 (.mov (.t 18))])))
def c160 : Fnc := ⟨[.t 4],
.seq (
.reg [Rq 4 (.mov (.c (.int .i64 0)))]) (
.seq (
.seq (
.reg [Rq 6 (.mov (.t 0)),Rq 7 (.len 1 (.t 6)),Rq 8 (.mov (.c (.int .i64 0)))]) (
.seq (
.blk 0 (
.loop [0,1,7,8] c160_0)) (
.kp []))) (
.seq (
.reg [Rq 4 (.mov (.c (.int .i64 (-1))))]) (
.ret)))⟩
def c161_0 : VC :=
.seq (
.reg [Rq 9 (.bin .lss (.t 8) (.t 7))]) (
.seq (
.cond (.t 9) (
 .skip) (
 .exit 0)) (
.seq (
.blk 1 (
.seq (
.reg [Rq 10 (.ixa 1 (.t 6) (.t 8)),Rq 11 (.ld 1 false (.t 10)),Rq 4 (.mov (.t 11))]) (
.seq (
.reg [Rq 12 (.mov (.t 4)),Rq 13 (.call .pure (.c (.fn (.f 86) [] [])) [.t 12]),Rq 5 (.mov (.t 13))]) (
.seq (
.reg [Rq 14 (.mov (.t 5)),Rq 15 (.bin .neq (.t 14) (.c (.int .i64 0)))]) (
.cond (.t 15) (
 .seq (
 .reg [Rq 16 (.mov (.t 5)),
   Rq 2 (.mov (.t 16))]) (
 .ret)) (
 .skip)))))) (
.reg [Rq 17 (.bin .add (.t 8) (.c (.int .i64 1))),Rq 8 (.mov (.t 17))])))
def c161 : Fnc := ⟨[.t 2],
.seq (
.reg [Rq 2 (.mov (.c (.int .i64 0)))]) (
.seq (
.seq (
.reg [Rq 6 (.mov (.t 0)),Rq 7 (.len 1 (.t 6)),Rq 8 (.mov (.c (.int .i64 0)))]) (
.seq (
.blk 0 (
.loop [6,7,8] c161_0)) (
.kp []))) (
.seq (
.reg [Rq 2 (.mov (.c (.int .i64 0)))]) (
.ret)))⟩
def c163 : Fnc := ⟨[.cell 2 2 true],
.seq (
.reg [Rq 1 (.box 2 (.t 0)),Rq 2 (.box 2 (.c (.agg [.int .i64 0,.nils])))]) (
.seq (
.seq (
.reg [Rq 3 (.off 0 (.t 1)),Rq 4 (.ld 1 false (.t 3)),Rq 5 (.bin .lss (.t 4) (.c (.int .i64 0)))]) (
.cond (.t 5) (
 .seq (
 .reg [Rq 6 (.ld 2 true (.t 1)),
   Rq 7 (.call .pure (.c (.fn (.f 147) [] [])) [.t 6]),
   ⟨none,none,.st 2 (.t 2) (.t 7)⟩]) (
 .ret)) (
 .skip))) (
.seq (
.reg [Rq 8 (.ld 2 true (.t 1)),⟨none,none,.st 2 (.t 2) (.t 8)⟩]) (
.ret)))⟩
def c164 : Fnc := ⟨[.cell 4 2 true,.cell 5 2 true],
.seq (
.reg [Rq 2 (.box 2 (.t 0)),Rq 3 (.box 2 (.t 1)),Rq 4 (.box 2 (.c (.agg [.int .i64 0,.nils]))),Rq 5 (.box 2 (.c (.agg [.int .i64 0,.nils])))]) (
.seq (
.seq (
.reg [Rq 16 (.off 1 (.t 2)),Rq 17 (.ld 1 false (.t 16)),Rq 18 (.eq false .sl (.t 17) (.c (.nils))),Rq 19 (.mov (.t 18)),⟨some 20,some (19,true),.off 1 (.t 3)⟩,⟨some 21,some (19,true),.ld 1 false (.t 20)⟩,⟨some 22,some (19,true),.eq false .sl (.t 21) (.c (.nils))⟩,Rq 23 (.pick (.t 19) (.t 22) (.c (.bool false))),Rq 24 (.mov (.t 23)),⟨some 25,some (24,true),.off 0 (.t 2)⟩,⟨some 26,some (24,true),.ld 1 false (.t 25)⟩,⟨some 27,some (24,true),.bin .neq (.t 26) (.c (.int .i64 (-9223372036854775808)))⟩,Rq 28 (.pick (.t 24) (.t 27) (.c (.bool false)))]) (
.cond (.t 28) (
 .seq (
 .reg [Rq 29 (.off 0 (.t 2)),
   Rq 30 (.ld 1 false (.t 29)),
   Rq 31 (.off 0 (.t 3)),
   Rq 32 (.ld 1 false (.t 31)),
   Rq 33 (.bin .quo (.t 30) (.t 32)),
   Rq 34 (.off 0 (.t 2)),
   Rq 35 (.ld 1 false (.t 34)),
   Rq 36 (.off 0 (.t 3)),
   Rq 37 (.ld 1 false (.t 36)),
   Rq 38 (.bin .rem (.t 35) (.t 37)),
   Rq 6 (.mov (.t 33)),
   Rq 7 (.mov (.t 38))]) (
 .seq (
 .seq (
 .reg [Rq 39 (.mov (.t 7)),
   Rq 40 (.bin .lss (.t 39) (.c (.int .i64 0)))]) (
 .cond (.t 40) (
  .reg [Rq 41 (.mov (.t 6)),
    Rq 42 (.bin .sub (.t 41) (.c (.int .i64 1))),
    Rq 43 (.mov (.t 7)),
    Rq 44 (.off 0 (.t 3)),
    Rq 45 (.ld 1 false (.t 44)),
    Rq 46 (.bin .add (.t 43) (.t 45)),
    Rq 6 (.mov (.t 42)),
    Rq 7 (.mov (.t 46))]) (
  .skip))) (
 .seq (
 .reg [Rq 47 (.mov (.t 6)),
   Rq 48 (.mkagg [.int .i64 0,.nils] [(0,1,(.t 47))]),
   Rq 49 (.mov (.t 7)),
   Rq 50 (.mkagg [.int .i64 0,.nils] [(0,1,(.t 49))]),
   ⟨none,none,.st 2 (.t 4) (.t 48)⟩,
   ⟨none,none,.st 2 (.t 5) (.t 50)⟩]) (
 .ret)))) (
 .skip))) (
.seq (
.reg [Rq 52 (.ld 2 true (.t 2)),Rq 53 (.call .pure (.c (.fn (.f 136) [] [])) [.t 52]),Rq 51 (.mov (.t 53)),Rq 54 (.ext 0 (.t 51)),Rq 55 (.ext 1 (.t 51)),Rq 8 (.mov (.t 54)),Rq 9 (.mov (.t 55))]) (
.seq (
.reg [Rq 57 (.ld 2 true (.t 3)),Rq 58 (.call .pure (.c (.fn (.f 136) [] [])) [.t 57]),Rq 56 (.mov (.t 58)),Rq 59 (.ext 0 (.t 56)),Rq 60 (.ext 1 (.t 56)),Rq 10 (.mov (.t 59)),Rq 11 (.mov (.t 60))]) (
.seq (
.reg [Rq 62 (.mov (.t 9)),Rq 63 (.mov (.t 11)),Rq 64 (.call .pure (.c (.fn (.f 137) [] [])) [.t 62,.t 63]),Rq 61 (.mov (.t 64)),Rq 65 (.ext 0 (.t 61)),Rq 66 (.ext 1 (.t 61)),Rq 12 (.mov (.t 65)),Rq 13 (.mov (.t 66))]) (
.seq (
.reg [Rq 67 (.mov (.t 8)),Rq 68 (.mov (.t 12)),Rq 69 (.call .pure (.c (.fn (.f 145) [] [])) [.t 67,.t 68]),Rq 70 (.mov (.t 8)),Rq 71 (.mov (.t 13)),Rq 72 (.call .pure (.c (.fn (.f 145) [] [])) [.t 70,.t 71]),Rq 14 (.box 2 (.c (.agg [.int .i64 0,.nils]))),Rq 15 (.box 2 (.c (.agg [.int .i64 0,.nils]))),⟨none,none,.st 2 (.t 14) (.t 69)⟩,⟨none,none,.st 2 (.t 15) (.t 72)⟩]) (
.seq (
.seq (
.reg [Rq 73 (.ld 2 true (.t 15)),Rq 74 (.call .pure (.c (.fn (.f 146) [] [])) [.t 73]),Rq 75 (.bin .lss (.t 74) (.c (.int .i64 0)))]) (
.cond (.t 75) (
 .reg [Rq 76 (.ld 2 true (.t 14)),
   Rq 77 (.call .pure (.c (.fn (.f 117) [] [])) [.c (.int .i64 1)]),
   Rq 78 (.call .pure (.c (.fn (.f 156) [] [])) [.t 76,.t 77]),
   Rq 79 (.ld 2 true (.t 15)),
   Rq 80 (.ld 2 true (.t 3)),
   Rq 81 (.call .pure (.c (.fn (.f 119) [] [])) [.t 79,.t 80]),
   ⟨none,none,.st 2 (.t 14) (.t 78)⟩,
   ⟨none,none,.st 2 (.t 15) (.t 81)⟩]) (
 .skip))) (
.seq (
.reg [Rq 82 (.ld 2 true (.t 14)),Rq 83 (.ld 2 true (.t 15)),⟨none,none,.std [(2,true,15)] 2 (.t 4) (.t 82)⟩,⟨none,none,.st 2 (.t 5) (.t 83)⟩]) (
.ret))))))))⟩
def c172 : Fnc := ⟨[.t 2],
.seq (
.reg [Rq 1 (.box 2 (.t 0)),Rq 2 (.mov (.c (.int .i64 0)))]) (
.seq (
.reg [Rq 6 (.ld 2 true (.t 1)),Rq 7 (.call .pure (.c (.fn (.f 136) [] [])) [.t 6]),Rq 5 (.mov (.t 7)),Rq 8 (.ext 0 (.t 5)),Rq 9 (.ext 1 (.t 5)),Rq 3 (.mov (.t 8)),Rq 4 (.mov (.t 9))]) (
.seq (
.seq (
.reg [Rq 10 (.mov (.t 4)),Rq 11 (.len 1 (.t 10)),Rq 12 (.bin .eql (.t 11) (.c (.int .i64 0)))]) (
.cond (.t 12) (
 .seq (
 .reg [Rq 2 (.mov (.c (.int .i64 0)))]) (
 .ret)) (
 .skip))) (
.seq (
.reg [Rq 13 (.mov (.t 4)),Rq 14 (.len 1 (.t 13)),Rq 15 (.bin .sub (.t 14) (.c (.int .i64 1))),Rq 16 (.bin .mul (.c (.int .i64 64)) (.t 15)),Rq 17 (.mov (.t 4)),Rq 18 (.mov (.t 4)),Rq 19 (.len 1 (.t 18)),Rq 20 (.bin .sub (.t 19) (.c (.int .i64 1))),Rq 21 (.ixa 1 (.t 17) (.t 20)),Rq 22 (.ld 1 false (.t 21)),Rq 23 (.call .pure (.c (.fn (.f 175) [] [])) [.t 22]),Rq 24 (.bin .add (.t 16) (.t 23)),Rq 2 (.mov (.t 24))]) (
.ret))))⟩
end VE
