import Derived.Test.YtmjadjhlhjldjaaGreatDoorTables
import Derived.Test.YtmjadjhlhjldjaaGreatDoorMemo
set_option linter.all false
set_option maxRecDepth 100000
namespace VE
namespace VK1
def t0 : Tr Ent := .l
abbrev j (n : Int) : AV := .int .i64 n
abbrev u (n : Nat) : AV := .int .u64 n
def w (l : List Nat) : AV := .vsl true l.length (l.map u)
def v0 : AV := .str [49]
def v1 : AV := .str [50]
def v2 : AV := .str [48]
def v3 : AV := .str [45,50,47,51]
def v4 : AV := .str [45,49,47,51]
def v5 : AV := .str [52]
def v6 : AV := .str [51]
def v7 : AV := .agg [j 2,.nils,j 1,.nils]
def v8 : AV := .agg [j 1,.nils,j 1,.nils]
def v9 : AV := .agg [j 0,.nils,j 1,.nils]
def v10 : AV := .agg [j 11184811,.nils,j 1,.nils]
def v11 : AV := .agg [j 177,.nils]
def v12 : AV := .agg [j (-3),.nils]
def v13 : AV := .str [45,51]
def v14 : AV := .agg [j 1,.nils]
def v15 : AV := .agg [j 0,.nils]
def v16 : AV := .agg [j 11184811,.nils]
def v17 : AV := .agg [j 3,.nils]
def v18 : AV := .agg [j 2,.nils]
def v19 : AV := .agg [j (-5),.nils]
def v20 : AV := .agg [j 6,.nils]
def v21 : AV := .agg [j 5,.nils]
def v22 : AV := .str [53]
def v23 : AV := .agg [j (-6),.nils]
def v24 : AV := .str [45,54]
def v25 : AV := .agg [j 500,.nils]
def v26 : AV := .agg [j 283,.nils]
def v27 : AV := .agg [j 250,.nils]
def v28 : AV := .agg [j 200,.nils]
def v29 : AV := .agg [j (-177),.nils]
def v30 : AV := .agg [j (-707),.nils]
def v31 : AV := .agg [j 1000,.nils]
def v32 : AV := .agg [j 707,.nils]
def v33 : AV := .agg [j 33554432,.nils]
def v34 : AV := .agg [j 4,.nils]
def v35 : AV := .agg [j (-2),.nils]
def v36 : AV := .str [45,50]
def v37 : AV := .agg [j (-1),.nils]
def v38 : AV := .str [45,49]
def v39 : AV := .agg [j 8,.nils]
def v40 : AV := .str [56]
def v41 : AV := .agg [j (-4),.nils]
def v42 : AV := .agg [j 1000000,.nils]
def v43 : AV := .agg [j 10,.nils]
def v44 : AV := .agg [j 100,.nils]
def v45 : AV := .agg [j 2000000,.nils]
def v46 : AV := .agg [j 1000000000000000000,.nils]
def v47 : AV := .agg [j 100000000,.nils]
def v48 : AV := .agg [j 1000000000000000,.nils]
def v49 : AV := .agg [j 10000000000000000,.nils]
def v50 : AV := .agg [j 11,.nils]
def v51 : AV := .agg [j 16777216,.nils]
def v52 : AV := .agg [j 32,.nils]
def v53 : AV := .agg [j 16,.nils]
def v54 : AV := .agg [j 12,.nils]
def v55 : AV := .agg [j (-15),.nils]
def v56 : AV := .agg [j 256,.nils]
def v57 : AV := .agg [j 65536,.nils]
def v58 : AV := .agg [j 2048,.nils]
def v59 : AV := .agg [j 10000,.nils]
def v60 : AV := .agg [j 16777217,.nils]
def v61 : AV := .agg [j 5,.nils,j 1,.nils]
def v62 : AV := .agg [j (-2),.nils,j 1,.nils]
def v63 : AV := .agg [j (-1),.nils,j 1,.nils]
def v64 : AV := .agg [j 2000000,.nils,j 1,.nils]
def v65 : AV := .agg [j 4,.nils,j 1,.nils]
def v66 : AV := .agg [j 3,.nils,j 1,.nils]
def v67 : AV := .agg [j (-6),.nils,j 1,.nils]
def v68 : AV := .agg [j 8,.nils,j 1,.nils]
def v69 : AV := .agg [j (-4),.nils,j 1,.nils]
def v70 : AV := .agg [j (-15),.nils,j 1,.nils]
def v71 : AV := .agg [j 11,.nils,j 1,.nils]
def v72 : AV := .agg [j (-3),.nils,j 1,.nils]
def v73 : AV := .agg [j 6,.nils,j 1,.nils]
def v74 : AV := .agg [j 1414,.nils]
def v75 : AV := .agg [j 1417,.nils]
def v76 : AV := .agg [j 1512,.nils]
def v77 : AV := .agg [j 999999999,.nils]
def v78 : AV := .agg [j 708,.nils]
def v79 : AV := .agg [j 314159265358979323,.nils]
def v80 : AV := .agg [j 2828,.nils]
def v81 : AV := .agg [j (-708),.nils]
def v82 : AV := .agg [j 1415,.nils]
def v83 : AV := .agg [j (-12),.nils]
def v84 : AV := .str [49,49]
def v85 : AV := .str [49,54,55,55,55,50,49,55]
def v86 : AV := .agg [j 19,.nils]
def v87 : AV := w [17141642983857435610,23729635]
def v88 : AV := w [5782533995252789348,6903900930993065827,95800405]
def v89 : AV := .vsl false 2 [u 8517096806125780797,u 2113149700393599948]
def v90 : AV := .agg [j 11184810,.nils]
def v91 : AV := .agg [j 268556931493155,.nils]
def v92 : AV := .agg [j (-268556931493155),.nils]
def v93 : AV := .agg [j 15,.nils]
def v94 : AV := .agg [j 8388608,.nils]
def v95 : AV := w [12841816680275005770,13161652337898601986,90638001705]
def v96 : AV := .agg [j 91810290,.nils]
def v97 : AV := w [3045029095724553698,25]
def v98 : AV := w [6399444481559475388,10948563002861]
def v99 : AV := w [8838169010550242411,11648284440560156239,7232]
def v100 : AV := w [3674031232874724134,12529952070501274096,329920358137583042,5544844341389442335,14492781612538992981,45]
def v101 : AV := w [13070572018536022016,10549268516463523069,293873587705]
def v102 : AV := .vsl false 3 [u 7236889286840459925,u 7876560602087652357,u 181276003411]
def v103 : AV := .vsl false 3 [u 7170515353843274386,u 9364039851713857364,u 207894759023]
def v104 : AV := w [5415264564868724224,2702429455317848186,3257820634772804819,2921037779272485671,12892480808343775952,890]
def v105 : AV := w [9499324417185814012,2579272376208973014,10473475704207649438,8359000212588520640,5462207568661732176,58]
def v106 : AV := .vsl false 3 [u 7455323194197715914,u 4202843118986907043,u 2874012161]
def v107 : AV := w [7585187672398757888,569008837486978856,2854786896515372131,13854840613988277292,18078004663405200202,3676]
def v108 : AV := .vsl false 5 [u 14189355548283026892,u 14716625746279442152,u 12318077660473956507,u 13146092726962069828,u 243561992871567315]
def v109 : AV := .vsl false 5 [u 8068274122100154195,u 10164474085895960830,u 8661451129107458488,u 11709122817828559434,u 17366314611440665278]
def v110 : AV := .vsl false 5 [u 14550886082860770979,u 14470342835219398496,u 12822340539202483276,u 829795195913251750,u 191293141874751367]
def v111 : AV := w [3357387301995924548,10998580160438829665,17305001410530887765,13223409123470817412,3664734435888764724,1]
def v112 : AV := w [16216789405050171313,13990962461900849178,13001944405576862530,2721289870473684565,16479346644060571776,2887]
def v113 : AV := w [17280761535336168307,17528012411317331584,461615552109]
def v114 : AV := .vsl false 3 [u 9514143892148891222,u 14589875561820374064,u 55910076283]
def v115 : AV := w [1527792737363884452,7503159166461348028,59094506]
def v116 : AV := .vsl false 3 [u 13782813920216018380,u 14771817424140671491,u 1846462208439]
def v117 : AV := w [16800268943940132986,10498901635650969125,15552186833516458699,617515930402880608,1347820176139651620,1134]
def v118 : AV := w [13230967557627232237,3500369219144259201,2487962285782537470,9309154521224901510,53372725]
def v119 : AV := w [4511974855030608433,637104959086601153,12451904279572219604,8102622432476352004,107591]
def v120 : AV := .vsl false 3 [u 6974583969644181956,u 17520943641721873814,u 8147514494740620]
def v121 : AV := .vsl false 3 [u 1836720482995807440,u 10567391271835021952,u 451914]
def v122 : AV := .vsl false 3 [u 10316584580937133664,u 13918965476187210352,u 264504]
def v123 : AV := w [12334973124691332432,4233453559939239903,207800006678]
def v124 : AV := w [6450984253743169536,13015503840481697412,293873587]
def v125 : AV := w [1882113692433447380,6589440540014481872,11201623559418453978,4739216728]
def v126 : AV := w [12234476317405662167,11692049235685359344,15353889696288128096,15111976797126571406,20765904853]
def v127 : AV := .vsl false 3 [u 12335241514720210847,u 4233453559939239903,u 207800006678]
def v128 : AV := w [268556931493155]
def v129 : AV := .vsl false 3 [u 6833769732611472624,u 41619165242384851,u 8476062]
def v130 : AV := .vsl false 3 [u 2890163405202426688,u 3536336812359135601,u 2975992]
def v131 : AV := w [15852820823071556841,16643281740854508204,6733274196778773178,6899023038396955358,222]
def v132 : AV := .vsl false 3 [u 15905803109429250494,u 4233464490753250908,u 207800006678]
def v133 : AV := w [17533984222864527674,12353584992072517549,14264124144876419712,2639106]
def v134 : AV := w [5467296334037880926,16357]
def v135 : AV := .vsl false 5 [u 16600421415523125331,u 6593959610220467789,u 9621704098130034456,u 15503065397907737844,u 1669347581099524]
def v136 : AV := w [494431295515953084,10681898006951248689,10894471581772944298,3722172114]
def v137 : AV := .vsl false 3 [u 12334973124692332432,u 4233453559939239903,u 207800006678]
def v138 : AV := .vsl false 3 [u 12787093511028803474,u 6341182953755401551,u 207800006678]
def v139 : AV := .vsl false 4 [u 17876293434389998218,u 17941419946077638974,u 11792391544926169901,u 5476984495424500642]
def v140 : AV := .vsl false 3 [u 7791533900303611049,u 2546863062074383501,u 16643002409318332171]
def v141 : AV := .vsl false 3 [u 349704605168908272,u 17270539680539398753,u 77094]
def v142 : AV := .vsl false 3 [u 9267470765430408848,u 17447578655697668941,u 33219]
def v143 : AV := .vsl false 3 [u 12334973124692332451,u 4233453559939239903,u 207800006678]
def v144 : AV := w [585116523289769433,15658363997444158300,20]
def v145 : AV := .vsl false 3 [u 5393686069291290035,u 4233453559962943047,u 207800006678]
def v146 : AV := .vsl false 3 [u 9697743876229720706,u 13696713614337051836,u 10373886302566910]
def v147 : AV := .vsl false 5 [u 17292431025786201035,u 11946252089032414340,u 13964961894145495040,u 13986844084537750418,u 7801041777162]
def v148 : AV := .vsl false 2 [u 7135181956152382277,u 1303496973947833351]
def v149 : AV := .vsl false 3 [u 8003386255225394266,u 3252936194182942452,u 207800013877]
def v150 : AV := .vsl false 3 [u 12334973124784097795,u 4233453559939239903,u 207800006678]
def v151 : AV := w [13944175567244065250,4096355134818525490,2743784780152768049,1]
def v152 : AV := .vsl false 3 [u 9723933137813899312,u 3577955977601520452,u 11452054]
def v153 : AV := w [5057613930186074076,12163321890431987431,9297356646049816308,12453774809672462324,136989]
def v154 : AV := .vsl false 4 [u 11025444859222714962,u 2417956740003135128,u 13421244786285755757,u 5808294154414]
def v155 : AV := w [17236632546876903068,11135480475144698162,1148068112344762910,1641]
def v156 : AV := .vsl false 4 [u 5361003646381842880,u 16435824858651011218,u 7726429105647848976,u 4301613563662702939]
def v157 : AV := .vsl false 3 [u 10284866305095868446,u 12015622436964011398,u 3231308864769]
def v158 : AV := .vsl false 4 [u 4244187385348643476,u 4734386098559386715,u 10417457931255205964,u 6120433682148984]
def v159 : AV := w [9649144829102292634,15]
def v160 : AV := .vsl false 4 [u 6113462245698230025,u 11899689605548549250,u 7204198040994281268,u 4806977373155694]
def v161 : AV := .vsl false 5 [u 11009532767374467259,u 8124201305943929203,u 16104677368926751221,u 7314726601207293494,u 6126923884370]
def v162 : AV := w [10141935774598533592,8309989412897469218,9297645483805615959,12029650584374213082,174]
def v163 : AV := .vsl false 3 [u 7834891934529719632,u 7197531120445425756,u 31380170]
def v164 : AV := .vsl false 3 [u 15001500364499333901,u 4233453559939239928,u 207800006678]
def v165 : AV := .vsl false 5 [u 724442254058341841,u 12242707536774606347,u 15727830659569986504,u 12988536605132093096,u 1311102524267539]
def v166 : AV := .vsl false 2 [u 2875139543986997541,u 3350260278875572]
def v167 : AV := .vsl false 4 [u 6557673277525087494,u 15976676401898429601,u 8523590972869011769,u 4561823561349]
def v168 : AV := w [16079647657453681551,9047855698823632873,8583923049414943528,2089]
def v169 : AV := .vsl false 3 [u 9966879975768225392,u 15095169869357363215,u 187409]
def v170 : AV := w [8753492008855507006,8313990678002305033,4461]
def v171 : AV := w [17862480628081892373,5412527530760177011,9289918553171977696,1669267044269566458,26439971242]
def v172 : AV := .vsl false 3 [u 1053442922206619248,u 11415689614233665265,u 2524077]
def v173 : AV := w [18173646507131229515,13627204094284174079,1964443467344395986,3360215]
def v174 : AV := w [8305159076503378217,14637632]
def v175 : AV := w [11628999839319665121,7983186536062692438,6928779995928134897,13333596706826726224,67956264]
def v176 : AV := .vsl false 2 [u 5157674005487560540,u 6753624099915]
def v177 : AV := .vsl false 2 [u 5785850920737608665,u 10963091799]
def v178 : AV := w [2225215780011097513,15327931522679171057,650936]
def v179 : AV := .vsl false 3 [u 16593281996017185979,u 9718793280983461320,u 4385347745044]
def v180 : AV := .vsl false 2 [u 4550891663906995120,u 8199]
def v181 : AV := .vsl false 2 [u 16425875146837966512,u 7236]
def v182 : AV := .vsl false 2 [u 5111978564696012016,u 50249654277257]
def v183 : AV := .vsl false 2 [u 7159108629621897120,u 43368066956468]
def v184 : AV := .vsl false 2 [u 3083901620222578096,u 18648396]
def v185 : AV := .vsl false 2 [u 2180461744876363584,u 610632]
def v186 : AV := .vsl false 2 [u 6331654186693285248,u 1573182231]
def v187 : AV := .vsl false 2 [u 3684146204910180496,u 430745008]
def v188 : AV := .vsl false 3 [u 9723933137795899312,u 3577955977601520452,u 11452054]
def v189 : AV := .vsl false 3 [u 6833769732649472624,u 41619165242384851,u 8476062]
def v190 : AV := .vsl false 2 [u 17701465505681123664,u 461]
def v191 : AV := .vsl false 2 [u 8062317726835436128,u 38]
def v192 : AV := .vsl false 3 [u 6184888871835990480,u 10099740341725821930,u 616]
def v193 : AV := .vsl false 3 [u 14559915651415052928,u 13228462717394739238,u 21]
def v194 : AV := .vsl false 2 [u 16347454578296750992,u 3577109470]
def v195 : AV := .vsl false 2 [u 10015800391603465744,u 2003927239]
def v196 : AV := .vsl false 2 [u 13767511602125347664,u 2249549810866734]
def v197 : AV := .vsl false 2 [u 4607232787428954096,u 2005183126801237]
def v198 : AV := .vsl false 3 [u 7441730033706885616,u 1715340864178252272,u 1]
def v199 : AV := .vsl false 2 [u 13015243156357325600,u 7538511876662970636]
def v200 : AV := .vsl false 3 [u 2890163405146426688,u 3536336812359135601,u 2975992]
def v201 : AV := .vsl false 2 [u 13725959645672295376,u 280947206]
def v202 : AV := .vsl false 3 [u 16893689183768430832,u 12684534469197727453,u 3]
def v203 : AV := .vsl false 2 [u 995144945467656128,u 2078543031735]
def v204 : AV := .vsl false 2 [u 13414179172380698128,u 645958225583]
def v205 : AV := .vsl false 2 [u 11120010015640308240,u 25901256312]
def v206 : AV := .vsl false 2 [u 7916510896190665120,u 5581036710]
def v207 : AV := .vsl false 2 [u 6571760590778580224,u 962]
def v208 : AV := .vsl false 2 [u 7317039158807008176,u 500]
def v209 : AV := .vsl false 2 [u 8404930632947436736,u 149797801]
def v210 : AV := .vsl false 1 [u 13187373152203648208]
def v211 : AV := .vsl false 2 [u 9160278814696393568,u 244366684065497]
def v212 : AV := .vsl false 2 [u 16092839649454216592,u 140668354983]
def v213 : AV := .vsl false 2 [u 4383052795692486608,u 83284805648]
def v214 : AV := .vsl false 2 [u 10436965218809810128,u 178159800359646571]
def v215 : AV := .vsl false 2 [u 6603916033094869216,u 137373287425702591]
def v216 : AV := .vsl false 3 [u 8482949321377482272,u 14981199327136831483,u 1254]
def v217 : AV := w [10107815461005042512]
def v218 : AV := .vsl false 2 [u 16399614008783666512,u 6881587320788]
def v219 : AV := .vsl false 3 [u 4335620253824644048,u 8637665728864155564,u 8]
def v220 : AV := .vsl false 3 [u 5888675143765764832,u 14399875333375979726,u 4]
def v221 : AV := .vsl false 3 [u 7834891934531719632,u 7197531120445425756,u 31380170]
def v222 : AV := .vsl false 2 [u 11457025568769877040,u 329432]
def v223 : AV := .vsl false 2 [u 9170180249816038160,u 281199]
def v224 : AV := w [3079557691198605696]
def v225 : AV := .vsl false 2 [u 13551512549659598096,u 15013748623870650]
def v226 : AV := .vsl false 2 [u 13623512233814847952,u 10759015686202678]
def v227 : AV := .vsl false 2 [u 16182697728756395376,u 40033]
def v228 : AV := w [18064758389395912917,7182119875137284349,12987500417]
def v229 : AV := w [5014872534286336000,4272233503850647016,18367099]
def v230 : AV := .vsl false 3 [u 12334973124693332432,u 4233453559939239903,u 207800006678]
def v231 : AV := .vsl false 2 [u 2286845318953838880,u 48233]
def v232 : AV := .vsl false 2 [u 18374744389554301760,u 4254732937667971]
def v233 : AV := .vsl false 2 [u 3833049185714940912,u 40786512933943980]
def v234 : AV := .vsl false 2 [u 5321029012724858640,u 131149405]
def v235 : AV := .vsl false 2 [u 18304731868411337648,u 5085061184561862614]
def v236 : AV := .vsl false 2 [u 13157255361655539568,u 2453450692101108021]
def v237 : AV := .vsl false 3 [u 261507148017642192,u 822126442853612486,u 10655]
def v238 : AV := .vsl false 2 [u 11709786853761729984,u 57383549335]
def v239 : AV := .vsl false 2 [u 1183178196907373840,u 2]
def v240 : AV := .vsl false 1 [u 10748015656519348992]
def v241 : AV := .vsl false 3 [u 9267470758912408848,u 17447578655697668941,u 33219]
def v242 : AV := .vsl false 3 [u 261507163619642192,u 822126442853612486,u 10655]
def v243 : AV := .vsl false 3 [u 349704607734908272,u 17270539680539398753,u 77094]
def v244 : AV := .vsl false 2 [u 13473201076481669424,u 14269]
def v245 : AV := .vsl false 2 [u 13614001708944731296,u 64]
def v246 : AV := .vsl false 3 [u 8482949268053482272,u 14981199327136831483,u 1254]
def v247 : AV := .vsl false 2 [u 3771208457272940912,u 40786512933943980]
def v248 : AV := .vsl false 2 [u 13794572322613598096,u 15013748623870650]
def v249 : AV := .vsl false 2 [u 5458199431683819920,u 133781700]
def v250 : AV := .vsl false 2 [u 17544082418509742384,u 14541178]
def v251 : AV := .vsl false 2 [u 10432662077995810128,u 178159800359646571]
def v252 : AV := .vsl false 2 [u 6661453620722869216,u 137373287425702591]
def v253 : AV := .vsl false 2 [u 579739404831745040,u 140668354130]
def v254 : AV := .vsl false 2 [u 17627428572892952656,u 83284809320]
def v255 : AV := .vsl false 2 [u 12950604925646540944,u 2003814414]
def v256 : AV := .vsl false 2 [u 16828074014704251264,u 1573386955]
def v257 : AV := .vsl false 3 [u 1053442922356619248,u 11415689614233665265,u 2524077]
def v258 : AV := .vsl false 2 [u 6598821830051267888,u 7]
def v259 : AV := .vsl false 2 [u 11931193853426722832,u 2]
def v260 : AV := .vsl false 3 [u 1836720482789807440,u 10567391271835021952,u 451914]
def v261 : AV := .vsl false 2 [u 13258781789409413280,u 43368066956458]
def v262 : AV := .vsl false 2 [u 16735639399599047120,u 6881587320800]
def v263 : AV := .vsl false 2 [u 4109258029476393568,u 244366684065497]
def v264 : AV := .vsl false 2 [u 11547677115298908784,u 50249654277259]
def v265 : AV := .vsl false 2 [u 13582154328482103008,u 2911089]
def v266 : AV := .vsl false 2 [u 108953252000433584,u 2896820]
def v267 : AV := .vsl false 2 [u 1499642118510381200,u 645958225841]
def v268 : AV := .vsl false 2 [u 1399054905648344000,u 57383544809]
def v269 : AV := .vsl false 2 [u 16228373667244608656,u 25901264511]
def v270 : AV := .vsl false 2 [u 5078665760362888640,u 2078543031653]
def v271 : AV := .vsl false 2 [u 10013737208167830608,u 282104579]
def v272 : AV := .vsl false 2 [u 4555537776484010688,u 148322879]
def v273 : AV := .vsl false 3 [u 14559914713703052928,u 13228462717394739238,u 21]
def v274 : AV := .vsl false 3 [u 4335646951954644048,u 8637665728864155564,u 8]
def v275 : AV := w [18064758389396037917,7182119875137284349,12987500417]
def v276 : AV := .vsl false 3 [u 6184889314029990480,u 10099740341725821930,u 616]
def v277 : AV := .vsl false 2 [u 719020363148750144,u 4254732937667972]
def v278 : AV := .vsl false 2 [u 11637511233167347664,u 2249549810866734]
def v279 : AV := .vsl false 2 [u 13158852118701539568,u 2453450692101108021]
def v280 : AV := .vsl false 2 [u 7528253203690954096,u 2005183126801237]
def v281 : AV := .vsl false 3 [u 10316584582117133664,u 13918965476187210352,u 264504]
def v282 : AV := .vsl false 2 [u 5835795718578229920,u 5581015785]
def v283 : AV := .vsl false 2 [u 13075551959464847952,u 10759015686202678]
def v284 : AV := .vsl false 2 [u 6765365049588146096,u 27]
def v285 : AV := .vsl false 3 [u 9966879974382225392,u 15095169869357363215,u 187409]
def v286 : AV := .vsl false 2 [u 14569274984651841296,u 430427458]
def v287 : AV := .vsl false 3 [u 7441594667632885616,u 1715340864178252272,u 1]
def v288 : AV := .vsl false 2 [u 13015730286681325600,u 7538511876662970636]
def v289 : AV := .vsl false 2 [u 83271609768439104,u 10]
def v290 : AV := .vsl false 3 [u 5888620809793764832,u 14399875333375979726,u 4]
def v291 : AV := .vsl false 3 [u 16893770215870430832,u 12684534469197727453,u 3]
def v292 : AV := .vsl false 2 [u 11331934866641240592,u 3577201370]
def v293 : AV := .vsl false 2 [u 18303622241689337648,u 5085061184561862614]
def v294 : AV := w [5832619374768430096]
def v295 : AV := .agg [j 414,.nils]
def v296 : AV := .agg [j 172,.nils]
def v297 : AV := .agg [j 70,.nils]
def v298 : AV := .agg [j 415,.nils]
def v299 : AV := .agg [j 170,.nils]
def v300 : AV := .agg [j 75,.nils]
def v301 : AV := .agg [j 20,.nils]
def v302 : AV := .agg [j 25223696,.nils]
def v303 : AV := .agg [j 12998272,.nils]
def v304 : AV := .agg [j 12225424,.nils]
def v305 : AV := .agg [j 2224,.nils]
def v306 : AV := .agg [j 1888,.nils]
def v307 : AV := .agg [j 336,.nils]
def v308 : AV := .agg [j 208,.nils]
def v309 : AV := .agg [j 128,.nils]
def v310 : AV := .agg [j 80,.nils]
def v311 : AV := .agg [j 165659417062993,.nils]
def v312 : AV := .agg [j 166995380103,.nils]
def v313 : AV := .agg [j 246250040960,.nils]
def v314 : AV := .agg [j 32586127888,.nils]
def v315 : AV := .agg [j 7,.nils]
def v316 : AV := .agg [j 18147145744,.nils]
def v317 : AV := .agg [j 772848,.nils]
def v318 : AV := .agg [j 632704,.nils]
def v319 : AV := .agg [j 140144,.nils]
def v320 : AV := .agg [j 63445664,.nils]
def v321 : AV := .agg [j 38221968,.nils]
def v322 : AV := .agg [j 68016,.nils]
def v323 : AV := .agg [j 4112,.nils]
def v324 : AV := .agg [j 472130528970929424,.nils]
def v325 : AV := .agg [j 397011858438296000,.nils]
def v326 : AV := .agg [j 75118670532633424,.nils]
def v327 : AV := .agg [j 1510086373648,.nils]
def v328 : AV := .agg [j 165113296,.nils]
def v329 : AV := .agg [j 21418505775128880,.nils]
def v330 : AV := .agg [j 72128,.nils]
def v331 : AV := .agg [j 1756336414608,.nils]
def v332 : AV := .agg [j 103011146151,.nils]
def v333 : AV := .agg [j 917223093017511200,.nils]
def v334 : AV := .agg [j 329280816663362896,.nils]
def v335 : AV := .agg [j 258661459690785408,.nils]
def v336 : AV := .agg [j 393672256,.nils]
def v337 : AV := .agg [j 3708163600,.nils]
def v338 : AV := .agg [j 3314491344,.nils]
def v339 : AV := .agg [j 4915396281750918896,.nils]
def v340 : AV := .agg [j 6779095617472,.nils]
def v341 : AV := .agg [j 3079557691198605696,.nils]
def v342 : AV := .agg [j 869142387409225424,.nils]
def v343 : AV := .agg [j 70619356972577488,.nils]
def v344 : AV := .agg [j 46803388773052944,.nils]
def v345 : AV := .agg [j 23815968199524544,.nils]
def v346 : AV := .agg [j 307800639364688,.nils]
def v347 : AV := .agg [j 90130829482704,.nils]
def v348 : AV := .agg [j 37408150916576,.nils]
def v349 : AV := .agg [j 14438982144,.nils]
def v350 : AV := .agg [j 10863153207246784,.nils]
def v351 : AV := .agg [j 10555352567882096,.nils]
def v352 : AV := .agg [j 15314527649552,.nils]
def v353 : AV := .agg [j 27724,.nils]
def v354 : AV := .agg [j 48,.nils]
def v355 : AV := .agg [j 5832619374768430096,.nils]
def v356 : AV := .agg [j 233644530399045067,.nils]
def v357 : AV := .agg [j 56633202,.nils]
def v358 : AV := .agg [j 44946,.nils]
def v359 : AV := .agg [j 211912954363632,.nils]
def v360 : AV := .agg [j 192808762905248,.nils]
def v361 : AV := .agg [j 19104191458384,.nils]
def v362 : AV := .agg [j 1766848321408,.nils]
def v363 : AV := .agg [j 1435708244304,.nils]
def v364 : AV := .agg [j 293,.nils]
def v365 : AV := .agg [j 121,.nils]
def v366 : AV := .agg [j 51,.nils]
def v367 : AV := .agg [j 3778448,.nils]
def v368 : AV := .agg [j 1805392,.nils]
def v369 : AV := .agg [j 167664,.nils]
def v370 : AV := .agg [j 292,.nils]
def v371 : AV := .agg [j 124,.nils]
def v372 : AV := .agg [j 44,.nils]
def v373 : AV := .agg [j 12016,.nils]
def v374 : AV := .agg [j 2864,.nils]
def v375 : AV := .agg [j 560,.nils]
def v376 : AV := .agg [j 128752,.nils]
def v377 : AV := .agg [j 22987420573528400,.nils]
def v378 : AV := .agg [j 38912,.nils]
def v379 : AV := .agg [j 111147935888,.nils]
def v380 : AV := .agg [j 108844205328,.nils]
def v381 : AV := .agg [j 2303730560,.nils]
def v382 : AV := .agg [j 28254528,.nils]
def v383 : AV := .agg [j 331140077104,.nils]
def v384 : AV := .agg [j 568869008,.nils]
def v385 : AV := .agg [j 13,.nils]
def v386 : AV := .agg [j 828547625996144,.nils]
def v387 : AV := .agg [j 616634671632512,.nils]
def v388 : AV := .agg [j 36,.nils]
def v389 : AV := .agg [j 64,.nils]
def v390 : AV := .vsl false 0 []
def v391 : AV := w [8640380767668084153,17987378242513441600,230807776054]
def v392 : AV := .vsl false 2 [u 17463089541855990736,u 17030607900432772]
def v393 : AV := w [9632337040368467968,5421010862427]
def v394 : AV := .vsl false 3 [u 16114778996962784998,u 16609280748925111553,u 923231104219]
def v395 : AV := w [16114359280022847488,16609280748925111553,923231104219]
def v396 : AV := w [16616825203528040448,17030607900432772]
def v397 : AV := .vsl false 3 [u 4818490623631867340,u 16394987128794677289,u 272389265430]
def v398 : AV := .vsl false 3 [u 7618611272510715734,u 13374841863731521290,u 3659305935]
def v399 : AV := .vsl false 3 [u 1746377658667505148,u 1599727212568632173,u 227174926597]
def v400 : AV := .vsl false 3 [u 5049880919036410662,u 15456940594375998285,u 108881395591]
def v401 : AV := w [17611961318384703471,10051395827332337828,207800006644]
def v402 : AV := w [228755338261016246,15834360252274472699,203235585999]
def v403 : AV := .vsl false 3 [u 15840774403327411665,u 11942699833789439100,u 140357623712]
def v404 : AV := w [6941760015582258140,11976423673148936281,4659173023]
def v405 : AV := .vsl false 3 [u 421539611954999217,u 13196361294450075735,u 272546525667]
def v406 : AV := w [4021442947409540411,9486481206710503630,828798]
def v407 : AV := .vsl false 3 [u 2523625169501610171,u 17067363556509273432,u 75021796449]
def v408 : AV := .vsl false 3 [u 8640380767668084153,u 17987378242513441600,u 230807776054]
def v409 : AV := w [13621876266353651619,14736531200132615338,33]
def v410 : AV := .vsl false 3 [u 17863603311630982995,u 11726035622108506063,u 25133904187]
def v411 : AV := .vsl false 3 [u 15320273221443061843,u 12503505949779772,u 151336667214]
def v412 : AV := w [6615404896634909228,792797273462150915,1055259]
def v413 : AV := w [1387981358590485038,2460138920720791537,207798958618]
def v414 : AV := .vsl false 3 [u 12004326465849222656,u 12583738487651288622,u 71186920073]
def v415 : AV := .vsl false 3 [u 14523843154860188619,u 14361084977088776627,u 276609180204]
def v416 : AV := .vsl false 3 [u 1282353773684968516,u 3289625660447247870,u 196580211114]
def v417 : AV := .vsl false 3 [u 2023799238178458475,u 7999906463597924033,u 75241462]
def v418 : AV := .vsl false 3 [u 7173920219356902912,u 14913013201911312773,u 249251386827]
def v419 : AV := w [3597362798407890137,9139644163598633729,5680]
def v420 : AV := w [16370927238490033171,10063982856075116439,26]
def v421 : AV := .vsl false 3 [u 1235828631747698810,u 1079552342813895860,u 113493716422]
def v422 : AV := .vsl false 3 [u 3957293859378521763,u 1070264078444544701,u 39820490084]
def v423 : AV := w [4269996704903022677,4228033253361801603,207800006678]
def v424 : AV := w [14334071515131066545,17772694999]
def v425 : AV := w [9506358627869775106,4233453542190248047,207800006678]
def v426 : AV := .vsl false 3 [u 6844174947456487896,u 7934601446456017395,u 26722947584]
def v427 : AV := .vsl false 3 [u 15181002372271313457,u 15855354825785105609,u 127223305244]
def v428 : AV := w [11956471268774780203,4233453559939239903,207800006678]
def v429 : AV := .vsl false 3 [u 8746584666257613248,u 12575681850306854528,u 44808278737]
def v430 : AV := .vsl false 2 [u 12366545110363778517,u 4265683872219832]
def v431 : AV := .vsl false 3 [u 349461191194858758,u 622604278883827451,u 36576459784]
def v432 : AV := .vsl false 3 [u 1579144640813099602,u 7733978210614872140,u 131240361634]
def v433 : AV := w [6698787159143406041,4233453559939213411,207800006678]
def v434 : AV := .vsl false 2 [u 8262468237226232984,u 13958642011]
def v435 : AV := .vsl false 3 [u 18170290448945823725,u 4863456854025250333,u 177576882805]
def v436 : AV := .vsl false 3 [u 8692097415552468201,u 12762717506135777163,u 59332127679]
def v437 : AV := w [8302713205355927860,26517]
def v438 : AV := .vsl false 3 [u 2390991103675935201,u 2398540852768645950,u 183800717753]
def v439 : AV := .vsl false 3 [u 8799859423424730889,u 18345504288447267381,u 151275892387]
def v440 : AV := .vsl false 2 [u 10209694078816097337,u 8598981274288]
def v441 : AV := .vsl false 3 [u 6359753310305933972,u 12002794089071725076,u 130763764821]
def v442 : AV := .vsl false 3 [u 6473246494091955159,u 4262437969390320619,u 292627674578]
def v443 : AV := w [14104395762648518710,19]
def v444 : AV := .vsl false 3 [u 1363536335835424732,u 1604162463768968710,u 264198958956]
def v445 : AV := .vsl false 2 [u 15956439711762054671,u 1659663893673001552]
def v446 : AV := w [8797682231043936192,18637212]
def v447 : AV := .vsl false 3 [u 1230989211628645002,u 1159565562802114719,u 17798937139]
def v448 : AV := .vsl false 1 [u 378770245945430644]
def v449 : AV := w [13956796289713155025,20826]
def v450 : AV := w [11635806404526227817,5431237391449305]
def v451 : AV := .vsl false 3 [u 2236115821013113877,u 5139296421525228835,u 214964783928]
def v452 : AV := .vsl false 3 [u 5065919791669400907,u 16506561736487297484,u 83028630264]
def v453 : AV := .vsl false 3 [u 15490361791363993244,u 6078422657748804733,u 12337586889]
def v454 : AV := .vsl false 3 [u 10858523675194609978,u 3257907593705100571,u 81099056982]
def v455 : AV := .vsl false 3 [u 7290936844905413076,u 11398232400322276176,u 7413401391]
def v456 : AV := .vsl false 1 [u 233644530399045067]
def v457 : AV := .vsl false 3 [u 6367995094100048354,u 17496855401415799788,u 43195630703]
def v458 : AV := .vsl false 3 [u 13587521312188827580,u 11758254733816970059,u 65734798861]
def v459 : AV := .vsl false 3 [u 7609138115395105961,u 16981135940981975920,u 154323963535]
def v460 : AV := w [12334972957788717692,4233453559939239903,207800006678]
def v461 : AV := .vsl false 3 [u 16048122460062088079,u 6651628531624551829,u 221869364373]
def v462 : AV := .vsl false 1 [u 131157864828]
def v463 : AV := .vsl false 1 [u 297485455515141020]
def v464 : AV := w [12334973124692332432,4233453559939239903,207800006678]
def v465 : AV := .vsl false 3 [u 18072714473608393915,u 9602986640170551272,u 271117517166]
def v466 : AV := .vsl false 1 [u 103011146151]
def v467 : AV := w [12334973124692287505,4233453559939239903,207800006678]
def v468 : AV := .vsl false 3 [u 6276526027401755076,u 4281137798239609278,u 163149191346]
def v469 : AV := .vsl false 1 [u 165659417062993]
def v470 : AV := .vsl false 3 [u 8468261177957575298,u 8940698426691163316,u 148656560223]
def v471 : AV := .vsl false 3 [u 8706354635702509598,u 17203401714586090397,u 292572987713]
def v472 : AV := .vsl false 1 [u 210924120762378]
def v473 : AV := .vsl false 1 [u 2]
def v474 : AV := w [869142387409225424]
def v475 : AV := .vsl false 3 [u 14324738801190271189,u 11979060741096308869,u 1961260]
def v476 : AV := w [4915396281750918896]
def v477 : AV := .vsl false 3 [u 14324738801190396189,u 11979060741096308869,u 1961260]
def v478 : AV := .str [55,48,55,47,49,48,48,48]
def v479 : AV := .str [49,55,55,47,50,53,48]
def v480 : AV := .str [49,47,50]
def v481 : AV := .str [45,49,55,55,47,50,53,48]
def v482 : AV := .str [45,55,48,55,47,49,48,48,48]
def v483 : AV := .str [49,47,56]
def v484 : AV := .str [55,48,55,47,53,48,48]
def v485 : AV := .str [50,56,51,47,50,48,48]
def v486 : AV := .str [49,47,54]
def v487 : AV := .str [49,47,52]
def v488 : AV := .str [49,47,51]
def v489 : AV := .agg [j (-1),.nils,j 3,.nils]
def v490 : AV := .agg [j 1,.nils,j 2,.nils]
def v491 : AV := .agg [j 283,.nils,j 200,.nils]
def v492 : AV := .agg [j (-5),.nils,j 2,.nils]
def v493 : AV := .str [45,53,47,50]
def v494 : AV := .agg [j 5,.nils,j 8,.nils]
def v495 : AV := .agg [j 11184811,.nils,j 33554432,.nils]
def v496 : AV := .str [49,49,49,56,52,56,49,49,47,51,51,53,53,52,52,51,50]
def v497 : AV := .agg [j 1,.nils,j 4,.nils]
def v498 : AV := .agg [j (-2),.nils,j 3,.nils]
def v499 : AV := .agg [j 1,.nils,j 8,.nils]
def v500 : AV := .agg [j 1,.nils,j 6,.nils]
def v501 : AV := .agg [j 707,.nils,j 500,.nils]
def v502 : AV := .agg [j (-707),.nils,j 1000,.nils]
def v503 : AV := .agg [j 707,.nils,j 1000,.nils]
def v504 : AV := .agg [j (-177),.nils,j 250,.nils]
def v505 : AV := .agg [j 177,.nils,j 250,.nils]
def v506 : AV := .agg [j 1,.nils,j 3,.nils]
def v507 : AV := .agg [j 16777217,.nils,j 1,.nils]
def v508 : AV := .agg [j 16777216,.nils,j 1,.nils]
def v509 : AV := .agg [j 2,.nils,j 3,.nils]
def v510 : AV := .agg [j 33554432,.nils,j 1,.nils]
def v511 : AV := .agg [j 3,.nils,j 8,.nils]
def v512 : AV := .agg [j 8388608,.nils,j 1,.nils]
def v513 : AV := .agg [j (-8388608),.nils,j 1,.nils]
def v514 : AV := .agg [j (-3),.nils,j 8,.nils]
def v515 : AV := .agg [j (-1),.nils,j 4,.nils]
def v516 : AV := .agg [j (-1),.nils,j 2,.nils]
def v517 : AV := .agg [j 11184810,.nils,j 1,.nils]
def v518 : AV := .agg [j (-11184810),.nils,j 1,.nils]
def v519 : AV := .agg [j (-5),.nils,j 8,.nils]
def v520 : AV := .agg [j 33554432,.nils,j 3,.nils]
def v521 : AV := .agg [j 16777217,.nils,j 2,.nils]
def v522 : AV := .agg [j 210924120762378,.nils]
def v523 : AV := .agg [j 131157864828,.nils]
def v524 : AV := .agg [j 378770245945430644,.nils]
def v525 : AV := .agg [j 72107633,.nils]
def v526 : AV := .agg [j 35300,.nils]
def v527 : AV := .agg [j 14,.nils]
def v528 : AV := .agg [j 297485455515141020,.nils]
def v529 : AV := .agg [j 1,.nils,j 33554432,.nils]
def v530 : AV := .vsl false 2 [j 2,.nils,j 1,.nils,j 1,.nils,j 1,.nils]
def v531 : AV := .vsl false 3 [j 1,.nils,j 1,.nils,j 0,.nils,j 1,.nils,j (-1),.nils,j 3,.nils]
def v532 : AV := .vsl false 3 [j 0,.nils,j 1,.nils,j 1,.nils,j 1,.nils,j (-2),.nils,j 3,.nils]
def v533 : AV := .vsl false 2 [j 4,.nils,j 1,.nils,j 3,.nils,j 1,.nils]
def v534 : AV := .vsl false 2 [j 1,.nils,j 1,.nils,j 2,.nils,j 1,.nils]
def v535 : AV := .agg [j 30,.nils]
def v536 : AV := .agg [j 9,.nils]
def v537 : AV := .agg [j (-2),.nils,j 1,.nils,j (-2),.nils,j 1,.nils]
def v538 : AV := .agg [j 2,.nils,j 1,.nils,j 2,.nils,j 1,.nils]
def v539 : AV := .agg [j 1,.nils,j 1,.nils,j 1,.nils,j 1,.nils]
def v540 : AV := .agg [j 4,.nils,j 1,.nils,j 4,.nils,j 1,.nils]
def v541 : AV := .agg [j 5,.nils,j 1,.nils,j 5,.nils,j 1,.nils]
def v542 : AV := .agg [j 3,.nils,j 1,.nils,j 3,.nils,j 1,.nils]
def v543 : AV := .agg [j (-1),.nils,j 1,.nils,j (-1),.nils,j 1,.nils]
def v544 : AV := .agg [j 6,.nils,j 1,.nils,j 6,.nils,j 1,.nils]
def v545 : AV := .vsl true 4 [j 3,.nils,j 1,.nils,j 3,.nils,j 1,.nils,j 3,.nils,j 1,.nils,j 3,.nils,j 1,.nils]
def v546 : AV := .vsl false 4 [j 1,.nils,j 4,.nils,j 1,.nils,j 8,.nils,j 1,.nils,j 2,.nils,j 1,.nils,j 4,.nils]
def v547 : AV := .vsl true 4 [j (-2),.nils,j 1,.nils,j (-2),.nils,j 1,.nils,j (-2),.nils,j 1,.nils,j (-2),.nils,j 1,.nils]
def v548 : AV := .vsl true 4 [j 1,.nils,j 1,.nils,j (-2),.nils,j 1,.nils,j (-2),.nils,j 1,.nils,j 4,.nils,j 1,.nils]
def v549 : AV := .vsl true 4 [j (-1),.nils,j 1,.nils,j (-1),.nils,j 1,.nils,j (-1),.nils,j 1,.nils,j (-1),.nils,j 1,.nils]
def v550 : AV := .vsl false 4 [j 3,.nils,j 1,.nils,j (-4),.nils,j 1,.nils,j (-6),.nils,j 1,.nils,j 8,.nils,j 1,.nils]
def v551 : AV := .vsl true 4 [j 6,.nils,j 1,.nils,j 6,.nils,j 1,.nils,j 6,.nils,j 1,.nils,j 6,.nils,j 1,.nils]
def v552 : AV := .vsl true 4 [j 1,.nils,j 1,.nils,j 1,.nils,j 1,.nils,j 1,.nils,j 1,.nils,j 1,.nils,j 1,.nils]
def v553 : AV := .vsl true 4 [j 4,.nils,j 1,.nils,j 4,.nils,j 1,.nils,j 4,.nils,j 1,.nils,j 4,.nils,j 1,.nils]
def v554 : AV := .vsl true 3 [j 1,.nils,j 1,.nils,j 2,.nils,j 1,.nils,j 3,.nils,j 1,.nils]
def v555 : AV := .vsl false 3 [j 3,.nils,j 1,.nils,j 4,.nils,j 1,.nils,j 11,.nils,j 1,.nils]
def v556 : AV := .vsl false 3 [j 1,.nils,j 1,.nils,j 2,.nils,j 1,.nils,j 5,.nils,j 1,.nils]
def v557 : AV := .vsl false 3 [j 0,.nils,j 1,.nils,j 1,.nils,j 1,.nils,j 2,.nils,j 1,.nils]
def v558 : AV := .vsl true 3 [j 2,.nils,j 1,.nils,j 4,.nils,j 1,.nils,j 6,.nils,j 1,.nils]
def v559 : AV := .vsl false 3 [j 1,.nils,j 1,.nils,j 2,.nils,j 1,.nils,j 3,.nils,j 1,.nils]
def v560 : AV := .agg [j (-3),.nils,j 2,.nils]
def v561 : AV := .str [45,49,47,56]
def v562 : AV := .agg [j (-1),.nils,j 8,.nils]
def v563 : AV := .agg [j (-1),.nils,j 1,.nils,j 2,.nils,j 1,.nils]
def v564 : AV := .vsl false 3 [j 0,.nils,j 1,.nils,j (-2),.nils,j 1,.nils,j (-4),.nils,j 1,.nils]
def v565 : AV := .vsl true 3 [j (-3),.nils,j 1,.nils,j 0,.nils,j 1,.nils,j 1,.nils,j 1,.nils]
def v566 : AV := .vsl false 3 [j 1,.nils,j 1,.nils,j (-1),.nils,j 2,.nils,j 0,.nils,j 1,.nils]
def v567 : AV := .vsl true 3 [j (-2),.nils,j 1,.nils,j 1,.nils,j 1,.nils,j 0,.nils,j 1,.nils]
def v568 : AV := .vsl false 3 [j 0,.nils,j 1,.nils,j (-3),.nils,j 2,.nils,j 1,.nils,j 1,.nils]
def v569 : AV := .vsl true 2 [v0,v1]
def v570 : AV := .vsl true 2 [v1,v0]
def v571 : AV := .vsl true 3 [v2,v0,v3]
def v572 : AV := .vsl true 3 [v0,v2,v4]
def v573 : AV := .vsl true 2 [v5,v6]
def v574 : AV := .agg [j 1,v87]
def v575 : AV := .agg [j 1,v88]
def v576 : AV := .agg [j 1,v89]
def v577 : AV := .agg [j 1,v95]
def v578 : AV := .agg [j 1,v97]
def v579 : AV := .agg [j 1,v98]
def v580 : AV := .agg [j 1,v99]
def v581 : AV := .agg [j 1,v123]
def v582 : AV := .agg [j 1,v230]
def v583 : AV := .agg [j 1,v116]
def v584 : AV := .agg [j 1,v124]
def v585 : AV := .tup [v15,v14]
def v586 : AV := .tup [v18,v15]
def v587 : AV := .tup [v14,v15]
def v588 : AV := .tup [v17,v15]
def v589 : AV := .tup [v15,v18]
def v590 : AV := .tup [v15,v15]
def v591 : AV := .agg [v0,v1]
def v592 : AV := .agg [v38,v1]
def v593 : AV := .agg [v5,v40]
def v594 : AV := .agg [v13,v5]
def v595 : AV := .agg [v0,v0]
def v596 : AV := .agg [v6,v6,v38,v38]
def v597 : AV := .agg [v0,v0,v1,v1]
def v598 : AV := .agg [j 1,v391]
def v599 : AV := .agg [j 1,v450]
def v600 : AV := .agg [j 1,v409]
def v601 : AV := .agg [j 1,v101]
def v602 : AV := .agg [j 1,v424]
def v603 : AV := .agg [j 1,v404]
def v604 : AV := .agg [j 1,v437]
def v605 : AV := .agg [j 1,v412]
def v606 : AV := .agg [j 1,v137]
def v607 : AV := .vsl true 2 [v0,v2]
def v608 : AV := .vsl true 3 [v1,v5,.str [54]]
def v609 : AV := .vsl true 2 [v2,v0]
def v610 : AV := .vsl true 2 [v6,v5]
def v611 : AV := .vsl true 3 [v0,v1,v6]
def v612 : AV := .agg [j 1,v178]
def v613 : AV := .agg [j 1,v106]
def v614 : AV := .agg [j 1,v114]
def v615 : AV := .agg [j 1,v115]
def v616 : AV := .agg [j 1,v102]
def v617 : AV := .agg [j 1,v170]
def v618 : AV := .agg [j 1,v159]
def v619 : AV := .agg [j 1,v176]
def v620 : AV := .agg [j 1,v177]
def v621 : AV := .agg [j 1,v166]
def v622 : AV := .agg [j 1,v134]
def v623 : AV := .agg [j 1,v144]
def v624 : AV := .agg [j 1,v174]
def v625 : AV := .agg [j 1,v148]
def v626 : AV := .agg [j 1,v229]
def v627 : AV := .agg [j 1,v113,j 2,.nils]
def v628 : AV := .vsl true 2 [v569,v610]
def v629 : AV := .vsl true 2 [v609,v607]
def v630 : AV := .vsl true 2 [v611,v608]
def v631 : AV := .tup [.agg [v481,v482],j 0]
def v632 : AV := .tup [.agg [v484,v485],j 0]
def v633 : AV := .tup [.agg [v478,v479],j 0]
def v634 : AV := .tup [.agg [v24,v40],j 0]
def v635 : AV := .tup [.agg [v483,v480],j 0]
def v636 : AV := .tup [.agg [v0,v0,v36,v36],j 0]
def v637 : AV := .tup [.agg [v22,v22,v22,v22],j 0]
def v638 : AV := .tup [.agg [v480,v480],j 0]
def e0_29 : Ent := [.m 55467 [v569,v569] (.bool true) (.m 51820 [v570,v570] (.bool true) (.o 38327 [v571,v571] (.bool true))
  (.l))
  (.m 63514 [v572,v572] (.bool true) (.o 60170 [v573,v573] (.bool true))
  (.l))]
def e0_59 : Ent := [.o 31699 [.vsl false 3 [j 0,j 2,j 1],.vsl true 3 [j 0,j 2,j 1]] (.bool true)]
def e0_69 : Ent := [.m 1843 [j 2] (v7) (.m 1842 [j 1] (v8) (.o 1841 [j 0] (v9))
  (.l))
  (.o 48082 [j 11184811] (v10))]
def e0_99 : Ent := [.m 28869 [v11] (.str [49,55,55]) (.m 28696 [v12] (v13) (.m 28693 [v14] (v0) (.m 28692 [v15] (v2) (.o 9412 [v16] (.str [49,49,49,56,52,56,49,49]))
  (.l))
  (.m 28695 [v17] (v6) (.o 28694 [v18] (v1))
  (.l)))
  (.m 28700 [v19] (.str [45,53]) (.m 28698 [v20] (.str [54]) (.o 28697 [v21] (v22))
  (.l))
  (.o 28702 [v23] (v24))))
  (.m 29192 [v25] (.str [53,48,48]) (.m 28975 [v26] (.str [50,56,51]) (.m 28942 [v27] (.str [50,53,48]) (.o 28892 [v28] (.str [50,48,48]))
  (.l))
  (.o 29044 [v29] (.str [45,49,55,55])))
  (.m 30104 [v30] (.str [45,55,48,55]) (.m 29692 [v31] (.str [49,48,48,48]) (.o 29399 [v32] (.str [55,48,55]))
  (.l))
  (.o 36372 [v33] (.str [51,51,53,53,52,52,51,50])))),
  .m 28696 [v34] (v5) (.m 28694 [v35] (v36) (.o 28692 [v37] (v38))
  (.l))
  (.o 28700 [v39] (v40))]
def e0_100 : Ent := [.m 38459 [v14,v18] (v18) (.m 38198 [v17,v14] (v17) (.m 38195 [v37,v14] (v37) (.m 37934 [v18,v37] (v35) (.o 37932 [v37,v37] (v14))
  (.l))
  (.m 38197 [v18,v14] (v18) (.o 38196 [v14,v14] (v14))
  (.l)))
  (.m 38203 [v39,v14] (v39) (.m 38201 [v41,v14] (v41) (.o 38199 [v12,v14] (v12))
  (.l))
  (.m 38458 [v37,v18] (v35) (.o 38205 [v23,v14] (v23))
  (.l))))
  (.m 40037 [v14,v39] (v39) (.m 38985 [v14,v34] (v34) (.m 38984 [v37,v12] (v17) (.o 38460 [v18,v18] (v34))
  (.l))
  (.m 39848 [v31,v31] (v42) (.o 38986 [v18,v12] (v23))
  (.l)))
  (.m 40572 [v43,v43] (v44) (.m 40563 [v14,v43] (v43) (.o 40562 [v15,v43] (v15))
  (.l))
  (.o 64242 [v43,v44] (v31)))),
  .m 38984 [v37,v34] (v41) (.m 38199 [v34,v14] (v34) (.o 38197 [v35,v14] (v35))
  (.l))
  (.o 38986 [v18,v34] (v39))]
def k0 : List (Nat × Ent) := [(29,e0_29),(59,e0_59),(69,e0_69),(99,e0_99),(100,e0_100)]
def e1_100 : Ent := [.m 38985 [v14,v12] (v12) (.m 37938 [v41,v37] (v34) (.m 36640 [v18,v42] (v45) (.m 19736 [v15,v46] (v15) (.m 14861 [.agg [j 10000000,.nils],v47] (v48) (.o 157 [.agg [j (-11184810),.nils],v17] (.agg [j (-33554430),.nils]))
  (.o 18915 [v16,v14] (v16)))
  (.m 26622 [v14,v33] (v33) (.o 22125 [v44,v49] (v46))
  (.l)))
  (.m 37935 [v17,v15] (v15) (.m 37933 [v14,v37] (v37) (.o 37932 [v15,v37] (v15))
  (.o 37934 [v18,v15] (v15)))
  (.m 37937 [v21,v15] (v15) (.o 37936 [v34,v15] (v15))
  (.l))))
  (.m 38460 [v18,v35] (v41) (.m 38206 [v50,v14] (v50) (.m 38201 [v20,v14] (v20) (.o 38200 [v21,v14] (v21))
  (.o 38203 [v19,v14] (v19)))
  (.m 38459 [v14,v35] (v35) (.o 38458 [v15,v35] (v15))
  (.l)))
  (.m 38722 [v14,v17] (v17) (.m 38462 [v12,v18] (v23) (.o 38461 [v17,v35] (v23))
  (.o 38463 [v21,v18] (v43)))
  (.m 38984 [v15,v34] (v15) (.o 38723 [v18,v17] (v20))
  (.l)))))
  (.m 42035 [v51,v14] (v51) (.m 39575 [v14,v47] (v47) (.m 38992 [v39,v34] (v52) (.m 38988 [v34,v34] (v53) (.o 38987 [v17,v34] (v54))
  (.o 38989 [v21,v12] (v55)))
  (.m 39574 [v15,v47] (v15) (.o 39510 [v15,v20] (v15))
  (.l)))
  (.m 39995 [v56,v56] (v57) (.m 39741 [v18,v56] (.agg [j 512,.nils]) (.o 39740 [v14,v56] (v56))
  (.o 39747 [v39,v56] (v58)))
  (.m 40038 [v18,v39] (v53) (.o 40036 [v15,v39] (v15))
  (.l))))
  (.m 48092 [v31,v59] (.agg [j 10000000,.nils]) (.m 42296 [.agg [j (-8388608),.nils],v18] (.agg [j (-16777216),.nils]) (.m 42133 [v56,v57] (v51) (.o 42036 [v60,v14] (v60))
  (.o 42156 [v53,v53] (v56)))
  (.m 45875 [v33,v14] (v33) (.o 42389 [.agg [j 512,.nils],v57] (v33))
  (.l)))
  (.m 64232 [v15,v44] (v15) (.m 57092 [v59,v59] (v47) (.o 54528 [v47,v47] (v49))
  (.l))
  (.m 64332 [v44,v44] (v59) (.o 64233 [v14,v44] (v44))
  (.l))))),
  .m 37934 [v35,v37] (v18) (.m 37933 [v14,v15] (v15) (.o 37932 [v15,v15] (v15))
  (.l))
  (.m 40036 [v37,v39] (.agg [j (-8),.nils]) (.o 37938 [v41,v15] (v15))
  (.l)),
  .o 37934 [v35,v15] (v15)]
def k1 : List (Nat × Ent) := [(100,e1_100)]
def e2_100 : Ent := [.m 38461 [v17,v18] (v20) (.m 38195 [v15,v14] (v15) (.o 37936 [v12,v15] (v15))
  (.o 38458 [v15,v18] (v15)))
  (.m 38721 [v37,v17] (v12) (.o 38462 [v12,v35] (v20))
  (.l)),
  .o 38721 [v15,v17] (v15)]
def e2_101 : Ent := [.m 38200 [v21,v14] (v61) (.m 38197 [v35,v14] (v62) (.m 38195 [v37,v14] (v63) (.o 7044 [v45,v14] (v64))
  (.o 38196 [v14,v14] (v8)))
  (.m 38199 [v34,v14] (v65) (.o 38198 [v17,v14] (v66))
  (.l)))
  (.m 38205 [v23,v14] (v67) (.m 38203 [v39,v14] (v68) (.o 38201 [v41,v14] (v69))
  (.l))
  (.m 38223 [v55,v14] (v70) (.o 38206 [v50,v14] (v71))
  (.l))),
  .m 38199 [v12,v14] (v72) (.m 38197 [v18,v14] (v7) (.o 38195 [v15,v14] (v9))
  (.l))
  (.o 38201 [v20,v14] (v73))]
def e2_118 : Ent := [.m 38731 [v23,v17] (j (-1)) (.m 38459 [v14,v18] (j (-1)) (.m 38196 [v14,v14] (j 0) (.m 28017 [v32,v32] (j 0) (.m 18891 [v74,v75] (j (-1)) (.o 18102 [v74,v74] (j 0))
  (.l))
  (.o 37932 [v37,v37] (j 0)))
  (.m 38199 [v34,v14] (j 1) (.o 38197 [v35,v14] (j (-1)))
  (.o 38458 [v37,v18] (j (-1)))))
  (.m 38723 [v18,v17] (j (-1)) (.m 38466 [v39,v18] (j 1) (.m 38462 [v34,v18] (j 1) (.o 38460 [v35,v35] (j 0))
  (.l))
  (.o 38722 [v14,v17] (j (-1))))
  (.m 38727 [v41,v17] (j (-1)) (.o 38724 [v17,v17] (j 0))
  (.o 38729 [v39,v17] (j 1)))))
  (.m 40046 [v43,v39] (j 1) (.m 39516 [v20,v20] (j 0) (.m 38988 [v12,v34] (j (-1)) (.m 38987 [v17,v34] (j (-1)) (.o 38986 [v18,v34] (j (-1)))
  (.l))
  (.o 38992 [v39,v34] (j 1)))
  (.m 40038 [v18,v39] (j (-1)) (.o 39520 [v23,v41] (j (-1)))
  (.o 40040 [v34,v39] (j (-1)))))
  (.m 53900 [v76,v58] (j (-1)) (.m 40570 [v39,v23] (j 1) (.o 40048 [v54,v39] (j 1))
  (.o 43879 [v75,v76] (j (-1))))
  (.m 54095 [v20,v77] (j (-1)) (.o 54093 [v34,v77] (j (-1)))
  (.o 54097 [v39,v77] (j (-1)))))),
  .m 38462 [v34,v35] (j 1) (.o 38460 [v18,v18] (j 0))
  (.o 38988 [v34,v34] (j 0))]
def k2 : List (Nat × Ent) := [(100,e2_100),(101,e2_101),(118,e2_118)]
def e3_118 : Ent := [.m 30462 [v60,v33] (j (-1)) (.o 3357 [v60,v51] (j 1))
  (.o 38725 [v34,v17] (j 1))]
def e3_119 : Ent := [.m 38902 [v32,v14] (v78) (.m 37937 [v21,v15] (v21) (.m 35436 [v15,v79] (v79) (.m 21412 [v33,.agg [j (-33554430),.nils]] (v18) (.m 18102 [v74,v74] (v80) (.o 17316 [v75,.agg [j 1411,.nils]] (v80))
  (.l))
  (.m 34584 [v58,.agg [j 976,.nils]] (.agg [j 3024,.nils]) (.o 29936 [v60,.agg [j (-16777216),.nils]] (v14))
  (.l)))
  (.m 37934 [v18,v15] (v18) (.m 37933 [v14,v15] (v14) (.o 37932 [v15,v15] (v15))
  (.l))
  (.o 37935 [v17,v15] (v17))))
  (.m 38459 [v14,v18] (v17) (.m 38197 [v18,v14] (v17) (.m 38196 [v14,v14] (v18) (.o 38195 [v15,v14] (v14))
  (.l))
  (.o 38458 [v15,v18] (v18)))
  (.m 38721 [v15,v17] (v17) (.m 38461 [v17,v18] (v21) (.o 38460 [v18,v35] (v15))
  (.l))
  (.o 38725 [v12,v17] (v15)))))
  (.m 40040 [v12,v39] (v21) (.m 39510 [v15,v20] (v20) (.m 38987 [v17,v12] (v15) (.m 38985 [v14,v34] (v21) (.o 38984 [v15,v34] (v34))
  (.l))
  (.m 39344 [v30,v37] (v81) (.o 39247 [v15,v21] (v21))
  (.l)))
  (.m 39609 [v74,v14] (v82) (.m 39515 [v21,v41] (v14) (.o 39514 [v34,v41] (v15))
  (.l))
  (.o 40036 [v15,v39] (v39))))
  (.m 40825 [v15,v50] (v50) (.m 40568 [v20,v23] (v15) (.m 40566 [v34,v23] (v35) (.o 40044 [v39,v19] (v17))
  (.l))
  (.o 40570 [v39,v23] (v18)))
  (.m 59525 [v76,.agg [j 1322,.nils]] (.agg [j 2834,.nils]) (.m 45307 [v50,v55] (v41) (.o 41620 [v41,.agg [j (-8),.nils]] (v83))
  (.l))
  (.o 65300 [v15,v60] (v60))))),
  .m 38984 [v15,v12] (v12) (.m 37934 [v35,v15] (v35) (.o 37932 [v37,v15] (v37))
  (.o 38460 [v35,v18] (v15)))
  (.m 39609 [v81,v14] (v30) (.o 39510 [v37,v20] (v21))
  (.l)),
  .o 37932 [v15,v37] (v37)]
def e3_124 : Ent := [.m 26590 [.bool false,j 4] (j 0) (.m 26064 [.bool false,j 2] (j 0) (.o 25801 [.bool false,j 1] (j 0))
  (.o 26327 [.bool false,j 3] (j 0)))
  (.m 28431 [.bool false,j 11] (j 0) (.o 26853 [.bool false,j 5] (j 0))
  (.o 28694 [.bool false,j 12] (j 0)))]
def e3_125 : Ent := [.m 51832 [.vsl true 4 [j 0,j 0,j 0,j 0]] (j 0) (.o 27379 [.vsl true 2 [j 0,j 0]] (j 0))
  (.l)]
def k3 : List (Nat × Ent) := [(118,e3_118),(119,e3_119),(124,e3_124),(125,e3_125)]
def e4_125 : Ent := [.o 34670 [.vsl true 3 [j 0,j 0,j 0]] (j 0)]
def e4_129 : Ent := [.m 2151 [v22] (.bool true) (.m 2148 [v1] (.bool true) (.m 2147 [v0] (.bool true) (.o 2146 [v2] (.bool true))
  (.l))
  (.m 2150 [v5] (.bool true) (.o 2149 [v6] (.bool true))
  (.l)))
  (.m 15011 [v84] (.bool true) (.m 2154 [v40] (.bool true) (.o 2152 [.str [54]] (.bool true))
  (.l))
  (.o 15572 [v85] (.bool true)))]
def e4_147 : Ent := [.m 28711 [v86] (.agg [j (-19),.nils]) (.m 28693 [v14] (v37) (.m 13215 [v574] (.agg [j (-1),v87]) (.m 8224 [v575] (.agg [j (-1),v88]) (.o 2211 [v576] (.agg [j (-1),v89]))
  (.o 9411 [v90] (.agg [j (-11184810),.nils])))
  (.m 28692 [v15] (v15) (.o 21979 [v91] (v92))
  (.l)))
  (.m 28697 [v21] (v19) (.m 28695 [v17] (v12) (.o 28694 [v35] (v18))
  (.o 28696 [v12] (v17)))
  (.m 28707 [v93] (v55) (.o 28702 [v23] (v20))
  (.l))))
  (.m 30612 [v94] (.agg [j (-8388608),.nils]) (.m 29399 [v32] (v30) (.m 28720 [v55] (v93) (.o 28714 [v83] (v54))
  (.o 28804 [v577] (.agg [j (-1),v95])))
  (.m 30106 [v81] (v78) (.o 30104 [v30] (v32))
  (.l)))
  (.m 45877 [v42] (.agg [j (-1000000),.nils]) (.m 44061 [v96] (.agg [j (-91810290),.nils]) (.o 34639 [v578] (.agg [j (-1),v97]))
  (.l))
  (.m 50592 [v579] (.agg [j (-1),v98]) (.o 46219 [v580] (.agg [j (-1),v99]))
  (.l)))),
  .m 28694 [v18] (v35) (.o 28692 [v37] (v14))
  (.l)]
def e4_150 : Ent := [.m 30612 [v94] (.tup [j 8388608,.bool true]) (.o 9411 [v90] (.tup [j 11184810,.bool true]))
  (.l)]
def e4_158 : Ent := [.m 30536 [v100,v101] (j 1) (.m 18758 [v102,w [2]] (j 1) (.m 9568 [v103,v88] (j 1) (.m 3602 [v104,v101] (j 1) (.o 1152 [v105,v101] (j 1))
  (.l))
  (.o 12267 [v106,w [30]] (j 1)))
  (.m 29397 [v107,v101] (j 1) (.m 27305 [v108,v101] (j 1) (.o 19957 [v109,v101] (j 1))
  (.l))
  (.o 30350 [v110,v101] (j 1))))
  (.m 48889 [v111,v101] (j 1) (.m 43323 [v112,v101] (j 1) (.m 40769 [v113,w [2]] (j 1) (.o 30814 [v114,w [12]] (j 1))
  (.l))
  (.o 47816 [v115,w [56]] (j 1)))
  (.m 64055 [v101,v95] (j 1) (.m 57211 [v116,w [8]] (j 1) (.o 56159 [v116,w [4]] (j 1))
  (.l))
  (.o 64643 [v117,v101] (j 1))))]
def k4 : List (Nat × Ent) := [(125,e4_125),(129,e4_129),(147,e4_147),(150,e4_150),(158,e4_158)]
def e5_158 : Ent := [.m 34966 [v118,v101] (j 1) (.m 20007 [v119,v101] (j 1) (.m 10197 [v120,v101] (j 1) (.m 6359 [v121,v122] (j 1) (.m 5280 [v123,v124] (j 1) (.o 2084 [v125,v101] (j 1))
  (.o 5440 [v126,v101] (j 1)))
  (.m 8243 [v127,v128] (j 1) (.o 7299 [v129,v130] (j 1))
  (.o 9224 [v131,v101] (j 1))))
  (.m 15526 [v132,v98] (j 1) (.m 12628 [v133,v101] (j 1) (.o 12258 [v134,w [650]] (j 1))
  (.o 14173 [v135,v101] (j 1)))
  (.m 17279 [v136,v101] (j 1) (.o 15924 [v137,w [1000000]] (j 1))
  (.o 19003 [v138,v89] (j 1)))))
  (.m 32715 [v139,v101] (j 1) (.m 25039 [v140,v101] (j 1) (.m 22849 [v141,v142] (j 1) (.o 22234 [v143,w [19]] (j 1))
  (.o 24970 [v144,w [182]] (j 1)))
  (.m 27829 [v145,v87] (j 1) (.o 25826 [v146,v101] (j 1))
  (.o 28377 [v147,v101] (j 1))))
  (.m 34328 [v148,w [240]] (j 1) (.m 32979 [v149,v99] (j 1) (.o 32926 [v150,w [91810290]] (j 1))
  (.o 33158 [v151,v101] (j 1)))
  (.m 34597 [v152,v129] (j 1) (.o 34375 [v153,v101] (j 1))
  (.l)))))
  (.m 51739 [v154,v101] (j 1) (.m 41825 [v155,v101] (j 1) (.m 38775 [v156,v101] (j 1) (.m 36995 [v157,v101] (j 1) (.o 36738 [v158,v101] (j 1))
  (.o 38681 [v159,w [756]] (j 1)))
  (.m 40547 [v160,v101] (j 1) (.o 40101 [v161,v101] (j 1))
  (.o 40839 [v162,v101] (j 1))))
  (.m 44723 [v163,v152] (j 1) (.m 44131 [v164,v97] (j 1) (.o 43858 [v165,v101] (j 1))
  (.o 44239 [v166,w [306]] (j 1)))
  (.m 51674 [v167,v101] (j 1) (.o 47737 [v168,v101] (j 1))
  (.l))))
  (.m 57769 [v122,v169] (j 1) (.m 55582 [v170,w [132]] (j 1) (.m 53392 [v171,v101] (j 1) (.o 52228 [v169,v141] (j 1))
  (.o 53398 [v172,v121] (j 1)))
  (.m 57055 [v124,v163] (j 1) (.o 56232 [v173,v101] (j 1))
  (.o 57201 [v130,v172] (j 1))))
  (.m 63154 [v174,w [552]] (j 1) (.m 58389 [v175,v101] (j 1) (.o 57803 [v176,w [380]] (j 1))
  (.o 61149 [v177,w [462]] (j 1)))
  (.m 64212 [v178,w [90]] (j 1) (.o 63640 [v179,v101] (j 1))
  (.l)))))]
def k5 : List (Nat × Ent) := [(158,e5_158)]
def e6_158 : Ent := [.m 36871 [v180,v181] (j 1) (.m 22281 [v182,v183] (j 1) (.m 9323 [v124,w [16]] (j 1) (.m 4241 [v123,w [16]] (j 1) (.m 589 [v184,v185] (j 1) (.o 33 [v186,v187] (j 1))
  (.o 3700 [v188,v189] (j 1)))
  (.m 7277 [v190,v191] (j 1) (.o 5525 [v192,v193] (j 1))
  (.o 7990 [v194,v195] (j 1))))
  (.m 18770 [v196,v197] (j 1) (.m 15909 [v198,v199] (j 1) (.o 12062 [v189,v200] (j 1))
  (.o 16165 [v187,v201] (j 1)))
  (.m 19888 [v202,v198] (j 1) (.o 19212 [v203,v204] (j 1))
  (.o 22111 [v205,v206] (j 1)))))
  (.m 29903 [v207,v208] (j 1) (.m 23088 [v201,v209] (j 1) (.m 22475 [v191,v210] (j 1) (.o 22464 [v211,v182] (j 1))
  (.o 22706 [v212,v213] (j 1)))
  (.m 26862 [v195,v186] (j 1) (.o 25830 [v214,v215] (j 1))
  (.o 29216 [v216,v192] (j 1))))
  (.m 34071 [v210,v217] (j 1) (.m 31569 [v218,v203] (j 1) (.o 31106 [v206,v194] (j 1))
  (.o 31816 [v219,v220] (j 1)))
  (.m 36864 [v221,v188] (j 1) (.o 36336 [v208,v190] (j 1))
  (.l)))))
  (.m 53563 [v222,v223] (j 1) (.m 44515 [v217,v224] (j 1) (.m 39810 [v225,v226] (j 1) (.m 37916 [v227,v180] (j 1) (.o 37277 [v228,v229] (j 1))
  (.o 39650 [v230,v124] (j 1)))
  (.m 41240 [v181,v207] (j 1) (.o 40748 [v231,v227] (j 1))
  (.o 42522 [v226,v232] (j 1))))
  (.m 48413 [v233,v225] (j 1) (.m 45170 [v234,v184] (j 1) (.o 44914 [v193,v219] (j 1))
  (.o 46680 [v185,v222] (j 1)))
  (.m 52819 [v235,v236] (j 1) (.o 50829 [v237,v216] (j 1))
  (.l))))
  (.m 61062 [v183,v218] (j 1) (.m 57833 [v142,v237] (j 1) (.m 54864 [v238,v205] (j 1) (.o 54467 [v124,v221] (j 1))
  (.o 55846 [v215,v233] (j 1)))
  (.m 60317 [v220,v202] (j 1) (.o 57878 [v236,v214] (j 1))
  (.o 60540 [v204,v212] (j 1))))
  (.m 62598 [v199,v235] (j 1) (.m 62344 [v209,v234] (j 1) (.o 62232 [v213,v238] (j 1))
  (.o 62384 [v223,v231] (j 1)))
  (.m 65208 [v197,v211] (j 1) (.o 65073 [v232,v196] (j 1))
  (.l)))))]
def k6 : List (Nat × Ent) := [(158,e6_158)]
def e7_158 : Ent := [.m 38611 [v230,w [16]] (j 1) (.m 21245 [v239,v240] (j 1) (.m 12872 [v241,v242] (j 1) (.m 6009 [v243,v241] (j 1) (.m 4497 [v244,v245] (j 1) (.o 1389 [v242,v246] (j 1))
  (.o 4815 [v247,v248] (j 1)))
  (.m 7656 [v249,v250] (j 1) (.o 7060 [v251,v252] (j 1))
  (.o 9778 [v253,v254] (j 1))))
  (.m 17118 [v255,v256] (j 1) (.m 14598 [v200,v257] (j 1) (.o 13691 [v258,v259] (j 1))
  (.o 14788 [v257,v260] (j 1)))
  (.m 20340 [v261,v262] (j 1) (.o 20276 [v252,v247] (j 1))
  (.l))))
  (.m 28183 [v263,v264] (j 1) (.m 25333 [v250,v265] (j 1) (.m 22417 [v265,v266] (j 1) (.o 22128 [v267,v253] (j 1))
  (.o 23462 [v268,v269] (j 1)))
  (.m 26312 [v262,v270] (j 1) (.o 25959 [v271,v272] (j 1))
  (.l)))
  (.m 35031 [v273,v274] (j 1) (.m 31235 [v275,v229] (j 1) (.o 28839 [v246,v276] (j 1))
  (.o 32339 [v277,v278] (j 1)))
  (.m 36818 [v279,v251] (j 1) (.o 36570 [v278,v280] (j 1))
  (.l)))))
  (.m 49967 [v260,v281] (j 1) (.m 46626 [v269,v282] (j 1) (.m 44734 [v248,v283] (j 1) (.m 41865 [v245,v284] (j 1) (.o 39108 [v285,v243] (j 1))
  (.o 42140 [v270,v267] (j 1)))
  (.m 45534 [v256,v286] (j 1) (.o 45433 [v259,v239] (j 1))
  (.o 46260 [v287,v288] (j 1))))
  (.m 48908 [v284,v289] (j 1) (.m 47380 [v289,v258] (j 1) (.o 47172 [v272,v249] (j 1))
  (.o 48684 [v290,v291] (j 1)))
  (.m 48976 [v281,v285] (j 1) (.o 48942 [v292,v255] (j 1))
  (.l))))
  (.m 58869 [v283,v277] (j 1) (.m 55583 [v254,v268] (j 1) (.m 54226 [v286,v271] (j 1) (.o 52350 [v282,v292] (j 1))
  (.o 54749 [v266,v244] (j 1)))
  (.m 57639 [v288,v293] (j 1) (.o 55889 [v240,v294] (j 1))
  (.l)))
  (.m 65262 [v264,v261] (j 1) (.m 64924 [v274,v290] (j 1) (.o 64629 [v291,v287] (j 1))
  (.o 65036 [v280,v263] (j 1)))
  (.m 65301 [v293,v279] (j 1) (.o 65285 [v276,v273] (j 1))
  (.l)))))]
def e7_163 : Ent := [.m 28697 [v21] (v21) (.o 28694 [v18] (v18))
  (.o 28698 [v20] (v20))]
def k7 : List (Nat × Ent) := [(158,e7_158),(163,e7_163)]
def e8_163 : Ent := [.m 29400 [v78] (v78) (.m 28696 [v34] (v34) (.m 28693 [v14] (v14) (.m 28692 [v15] (v15) (.o 9412 [v16] (v16))
  (.l))
  (.o 28695 [v17] (v17)))
  (.m 28724 [v52] (v52) (.m 28708 [v53] (v53) (.o 28700 [v39] (v39))
  (.l))
  (.o 29399 [v32] (v32))))
  (.m 32278 [v581] (v581) (.m 30106 [v74] (v74) (.m 29692 [v31] (v31) (.o 29690 [v582] (v582))
  (.l))
  (.o 30107 [v82] (v82)))
  (.m 36599 [v583] (v583) (.m 36372 [v33] (v33) (.o 32533 [v60] (v60))
  (.l))
  (.o 58424 [v584] (v584))))]
def e8_164 : Ent := [.m 38985 [v14,v34] (v585) (.m 38203 [v39,v14] (.tup [v39,v15]) (.m 18061 [v295,v296] (.tup [v18,v297]) (.m 16772 [v31,v295] (.tup [v18,v296]) (.m 11311 [v45,v76] (.tup [.agg [j 1322,.nils],.agg [j 1136,.nils]]) (.o 7044 [v45,v14] (.tup [v45,v15]))
  (.l))
  (.m 17536 [v298,v299] (.tup [v18,v300]) (.o 17035 [v31,v298] (.tup [v18,v299]))
  (.l)))
  (.m 38197 [v18,v14] (v586) (.m 38196 [v14,v14] (v587) (.o 21237 [v45,v58] (.tup [.agg [j 976,.nils],.agg [j 1152,.nils]]))
  (.l))
  (.o 38199 [v34,v14] (.tup [v34,v15]))))
  (.m 38463 [v21,v18] (.tup [v18,v14]) (.m 38461 [v17,v18] (.tup [v14,v14]) (.m 38460 [v18,v18] (v587) (.o 38459 [v14,v18] (v585))
  (.l))
  (.o 38462 [v34,v18] (v586)))
  (.m 38727 [v20,v17] (v586) (.m 38466 [v19,v18] (.tup [v12,v14]) (.o 38464 [v20,v18] (v588))
  (.l))
  (.o 38749 [v55,v17] (.tup [v19,v15])))))
  (.m 41286 [v80,v18] (.tup [v74,v15]) (.m 39872 [v74,v18] (.tup [v32,v15]) (.m 39525 [v93,v20] (.tup [v18,v17]) (.m 39458 [v31,v18] (.tup [v25,v15]) (.o 38986 [v18,v34] (v589))
  (.l))
  (.o 39542 [v52,v20] (.tup [v21,v18])))
  (.m 40262 [v74,v31] (.tup [v14,v295]) (.m 40038 [v18,v39] (v589) (.o 40037 [v14,v39] (v585))
  (.l))
  (.o 40263 [v82,v31] (.tup [v14,v298]))))
  (.m 46418 [v297,v52] (.tup [v18,v20]) (.m 41897 [v301,v93] (.tup [v14,v21]) (.m 41482 [.agg [j 3024,.nils],v18] (.tup [v76,v15]) (.o 41292 [.agg [j 2834,.nils],v18] (.tup [v75,v15]))
  (.l))
  (.o 43267 [v300,v301] (.tup [v17,v93])))
  (.m 56514 [v296,v297] (.tup [v18,v52]) (.m 51847 [v45,v75] (.tup [.agg [j 1411,.nils],.agg [j 613,.nils]]) (.o 51058 [v45,v74] (.tup [v74,.agg [j 604,.nils]]))
  (.l))
  (.o 57827 [v299,v300] (.tup [v18,v301]))))),
  .o 38466 [v39,v18] (.tup [v34,v15])]
def k8 : List (Nat × Ent) := [(163,e8_163),(164,e8_164)]
def e9_164 : Ent := [.m 39262 [v93,v21] (v588) (.m 23404 [v302,v303] (.tup [v14,v304]) (.m 12532 [v305,v306] (.tup [v14,v307]) (.m 6283 [v308,v309] (.tup [v14,v310]) (.m 1584 [v311,.agg [j 992,.nils]] (.tup [v312,.agg [j 817,.nils]]) (.o 784 [v313,v314] (.tup [v315,v316]))
  (.o 2340 [v317,v318] (.tup [v14,v319])))
  (.m 8469 [v320,v321] (.tup [v14,v302]) (.o 8026 [v322,v323] (.tup [v53,v305]))
  (.o 9615 [v324,v325] (.tup [v14,v326]))))
  (.m 17574 [v327,v313] (.tup [v20,v314]) (.m 14870 [v328,v320] (.tup [v18,v321]) (.o 14716 [v325,v326] (.tup [v21,v329]))
  (.o 15608 [v319,v330] (.tup [v14,v322])))
  (.m 21221 [v331,v327] (.tup [v14,v313]) (.o 18179 [v332,.agg [j 1122,.nils]] (.tup [v96,.agg [j 771,.nils]]))
  (.o 22997 [v321,v302] (.tup [v14,v303])))))
  (.m 32469 [v333,v334] (.tup [v18,v335]) (.m 27866 [v336,v328] (.tup [v18,v320]) (.m 27146 [v337,v338] (.tup [v14,v336]) (.o 23811 [v304,v317] (.tup [v93,v318]))
  (.o 27451 [v307,v308] (.tup [v14,v309])))
  (.m 29779 [v339,v333] (.tup [v21,v334]) (.o 28595 [v340,v331] (.tup [v17,v327]))
  (.o 30382 [v341,v342] (.tup [v17,v324]))))
  (.m 38339 [v343,v344] (.tup [v14,v345]) (.m 37525 [v303,v304] (.tup [v14,v317]) (.o 37267 [v323,v305] (.tup [v14,v306]))
  (.o 38201 [v20,v14] (.tup [v20,v15])))
  (.m 38992 [v39,v34] (v586) (.o 38829 [v334,v335] (.tup [v14,v343]))
  (.l)))))
  (.m 48081 [v346,v347] (.tup [v17,v348]) (.m 42172 [v52,v53] (v586) (.m 40662 [v82,v21] (.tup [v26,v15]) (.m 39672 [v316,v349] (.tup [v14,v337]) (.o 39511 [v14,v20] (v585))
  (.o 40247 [v31,v21] (.tup [v28,v15])))
  (.m 41184 [v326,v329] (.tup [v17,v350]) (.o 40942 [v351,v346] (.tup [.agg [j 34,.nils],v347]))
  (.o 41702 [v350,v351] (.tup [v14,v346]))))
  (.m 45514 [v330,v322] (.tup [v14,v323]) (.m 44031 [v348,v352] (.tup [v18,v340]) (.o 42308 [v353,.agg [j 1406,.nils]] (.tup [v86,.agg [j 1010,.nils]]))
  (.o 44712 [v329,v350] (.tup [v14,v351])))
  (.m 46396 [v354,v52] (.tup [v14,v53]) (.o 45650 [v352,v340] (.tup [v18,v331]))
  (.l))))
  (.m 57848 [v347,v348] (.tup [v18,v352]) (.m 51920 [v342,v324] (.tup [v14,v325]) (.m 50496 [v318,v319] (.tup [v34,v330]) (.o 48797 [v355,v339] (.tup [v14,v333]))
  (.o 50636 [v310,v354] (.tup [v14,v52])))
  (.m 55096 [v43,.agg [j 1560,.nils]] (.tup [v15,v43]) (.o 54432 [v335,v343] (.tup [v17,v344]))
  (.o 56169 [v349,v337] (.tup [v17,v338]))))
  (.m 61745 [v338,v336] (.tup [v39,v328]) (.m 59100 [v309,v310] (.tup [v14,v354]) (.o 57909 [v314,v316] (.tup [v14,v349]))
  (.o 61455 [v356,.agg [j 870,.nils]] (.tup [v91,.agg [j 217,.nils]])))
  (.m 64765 [v357,.agg [j 1260,.nils]] (.tup [v358,.agg [j 1242,.nils]]) (.o 62667 [v306,v307] (.tup [v21,v308]))
  (.l)))))]
def k9 : List (Nat × Ent) := [(164,e9_164)]
def e10_164 : Ent := [.m 40039 [v17,v39] (.tup [v15,v17]) (.m 38198 [v17,v14] (v588) (.m 17845 [v359,v360] (.tup [v14,v361]) (.m 6148 [v361,v362] (.tup [v43,v363]) (.m 4527 [v364,v365] (.tup [v18,v366]) (.o 3571 [v367,v368] (.tup [v18,v369]))
  (.o 5315 [v370,v371] (.tup [v18,v372])))
  (.m 16928 [v373,v374] (.tup [v34,v375]) (.o 8735 [v368,v369] (.tup [v43,v376]))
  (.o 17713 [v344,v345] (.tup [v14,v377]))))
  (.m 28310 [v31,v32] (.tup [v14,v364]) (.m 26523 [v378,v373] (.tup [v17,v374]) (.o 21982 [v379,v380] (.tup [v14,v381]))
  (.o 27726 [v382,v367] (.tup [v315,v368])))
  (.m 31047 [v383,v379] (.tup [v18,v380]) (.o 28573 [v31,v78] (.tup [v14,v370]))
  (.o 35400 [v380,v381] (.tup [.agg [j 47,.nils],v384])))))
  (.m 39195 [v31,v14] (.tup [v31,v15]) (.m 38729 [v39,v17] (.tup [v18,v18]) (.m 38474 [v53,v18] (.tup [v39,v15]) (.o 38200 [v21,v14] (.tup [v21,v15]))
  (.o 38726 [v21,v17] (.tup [v14,v18])))
  (.m 39006 [v83,v34] (.tup [v12,v15]) (.o 38902 [v32,v14] (.tup [v32,v15]))
  (.o 39016 [v52,v34] (.tup [v39,v15]))))
  (.m 39556 [v78,v31] (.tup [v15,v78]) (.m 39523 [v385,v20] (.tup [v18,v14]) (.o 39255 [v39,v21] (.tup [v14,v17]))
  (.o 39555 [v32,v31] (.tup [v15,v32])))
  (.m 39984 [v31,v34] (.tup [v27,v15]) (.o 39692 [v78,v34] (.tup [v11,v15]))
  (.l)))))
  (.m 48535 [v386,v387] (.tup [v14,v359]) (.m 42188 [v354,v53] (v588) (.m 40072 [v388,v39] (.tup [v34,v34]) (.m 40041 [v21,v39] (.tup [v15,v21]) (.o 40040 [v12,v39] (.tup [v37,v21]))
  (.o 40048 [v54,v39] (.tup [v14,v34])))
  (.m 41370 [v86,v385] (.tup [v14,v20]) (.o 41120 [v52,v54] (.tup [v18,v39]))
  (.o 42142 [v18,v53] (v589))))
  (.m 47444 [v372,v388] (.tup [v14,v39]) (.m 46360 [v54,v52] (.tup [v15,v54]) (.o 42980 [v366,v86] (.tup [v18,v385]))
  (.o 46829 [v387,v359] (.tup [v18,v360])))
  (.m 48222 [v376,v378] (.tup [v17,v373]) (.o 47727 [v381,v384] (.tup [v34,v382]))
  (.l))))
  (.m 55324 [v375,v389] (.tup [v39,v354]) (.m 50177 [v32,v364] (.tup [v18,v365]) (.m 49628 [v371,v372] (.tup [v18,v388]) (.o 49096 [v362,v363] (.tup [v14,v383]))
  (.o 49915 [v78,v370] (.tup [v18,v371])))
  (.m 51466 [v365,v366] (.tup [v18,v86]) (.o 50620 [v389,v354] (.tup [v14,v53]))
  (.o 53394 [v363,v383] (.tup [v34,v379]))))
  (.m 61309 [v384,v382] (.tup [v301,v367]) (.m 58558 [v345,v377] (.tup [v14,v386]) (.o 57034 [v374,v375] (.tup [v21,v389]))
  (.o 58861 [v360,v361] (.tup [v43,v362])))
  (.m 62608 [v377,v386] (.tup [.agg [j 27,.nils],v387]) (.o 61973 [v369,v376] (.tup [v14,v378]))
  (.l)))))]
def k10 : List (Nat × Ent) := [(164,e10_164)]
def e11_164 : Ent := [.m 38724 [v17,v17] (v587) (.m 38197 [v35,v14] (.tup [v35,v15]) (.m 20089 [v33,v16] (.tup [v18,v90]) (.m 18914 [v90,v14] (.tup [v90,v15]) (.o 7341 [v16,v33] (.tup [v15,v16]))
  (.o 18915 [v16,v14] (.tup [v16,v15])))
  (.m 38195 [v15,v14] (v590) (.o 26622 [v14,v33] (v585))
  (.l)))
  (.m 38721 [v15,v17] (v590) (.m 38458 [v15,v18] (v590) (.o 38199 [v12,v14] (.tup [v12,v15]))
  (.o 38460 [v35,v18] (.tup [v37,v15])))
  (.m 38723 [v18,v17] (v589) (.o 38722 [v14,v17] (v585))
  (.l))))
  (.m 42036 [v60,v14] (.tup [v60,v15]) (.m 39516 [v20,v20] (v587) (.m 38988 [v34,v34] (v587) (.o 38984 [v15,v34] (v590))
  (.o 39512 [v18,v20] (v589)))
  (.m 40398 [v81,v34] (.tup [v29,v15]) (.o 39607 [v30,v14] (.tup [v30,v15]))
  (.l)))
  (.m 45875 [v33,v14] (.tup [v33,v15]) (.m 42156 [v53,v53] (v587) (.o 42140 [v15,v53] (v590))
  (.o 42299 [v60,v18] (.tup [v94,v14])))
  (.m 58387 [v16,v90] (.tup [v14,v14]) (.o 46401 [v33,v17] (.tup [v90,v18]))
  (.l)))),
  .o 38195 [v37,v14] (.tup [v37,v15])]
def e11_165 : Ent := [.m 35278 [u 7,u 14771817424140671491,u 8] (.tup [u 17987378242513441600,u 3]) (.m 11728 [u 0,u 55910076283,u 12] (.tup [u 4659173023,u 7]) (.m 7348 [u 0,u 1846462208439,u 8] (.tup [u 230807776054,u 7]) (.m 3120 [u 3,u 13782813920216018380,u 8] (.tup [u 8640380767668084153,u 4]) (.m 2270 [u 1,u 7876560602087652357,u 2] (.tup [u 13161652337898601986,u 1]) (.o 281 [u 7,u 14589875561820374064,u 12] (.tup [u 11976423673148936281,u 4]))
  (.l))
  (.o 6124 [u 5085813608334953033,u 17221914586511671786,u 9860761315262647567] (.tup [u 9514143892148891223,u 4654640062892318673])))
  (.m 9879 [u 0,u 461615552109,u 2] (.tup [u 230807776054,u 1]) (.o 7417 [u 123378975730,u 16970758043593641104,u 9860761315262647567] (.tup [u 230807776054,u 9615206107975960166]))
  (.o 11181 [u 38053177558,u 11405314466377704374,u 9860761315262647567] (.tup [u 71186920073,u 6726674476194625711]))))
  (.m 15252 [u 0,u 38053177558,u 9860761315262647567] (.tup [u 0,u 38053177558]) (.m 13957 [u 0,u 181276003411,u 2] (.tup [u 90638001705,u 1]) (.o 13196 [u 3868500459342291674,u 14889567346368605124,u 9860761315262647567] (.tup [u 7236889286840459926,u 3963806296073750266]))
  (.o 14876 [u 6416948029269513826,u 7092406932585281326,u 9860761315262647567] (.tup [u 12004326465849222657,u 1709538190655598623])))
  (.m 25867 [u 0,u 29886895765,u 9860761315262647567] (.tup [u 0,u 29886895765]) (.o 20682 [u 3,u 14771817424140671491,u 4] (.tup [u 17528012411317331584,u 3]))
  (.o 28121 [u 6726674430164660183,u 8773251545563832559,u 9860761315262647567] (.tup [u 12583738487651288623,u 4692920937256608046])))))
  (.m 47243 [u 0,u 1956092753,u 9860761315262647567] (.tup [u 0,u 1956092753]) (.m 43450 [u 1,u 17528012411317331584,u 2] (.tup [u 17987378242513441600,u 0]) (.m 42646 [u 4618740959516513961,u 826650806228208397,u 9860761315262647567] (.tup [u 8640380767668084153,u 5586931257605613622]) (.o 38005 [u 4210438642832482828,u 6128173216111921247,u 9860761315262647567] (.tup [u 7876560602087652357,u 8961540200703705876]))
  (.o 43356 [u 96901620940,u 17024595125433239533,u 9860761315262647567] (.tup [u 181276003411,u 4210438760046827536])))
  (.m 45424 [u 29886895765,u 18000252560640906040,u 9860761315262647567] (.tup [u 55910076283,u 7799060941405858819]) (.o 45042 [u 1,u 7236889286840459925,u 2] (.tup [u 12841816680275005770,u 1]))
  (.o 46612 [u 4,u 9514143892148891222,u 12] (.tup [u 6941760015582258140,u 6]))))
  (.m 55518 [u 9615205958734021273,u 17784883194167889019,u 9860761315262647567] (.tup [u 17987378242513441601,u 6388745515304181420]) (.m 51988 [u 0,u 17280761535336168307,u 2] (.tup [u 8640380767668084153,u 1]) (.o 48949 [u 0,u 96901620940,u 9860761315262647567] (.tup [u 0,u 96901620940]))
  (.o 54049 [u 3,u 13782813920216018380,u 4] (.tup [u 17280761535336168307,u 0])))
  (.m 63060 [u 0,u 123378975730,u 9860761315262647567] (.tup [u 0,u 123378975730]) (.o 58277 [u 0,u 1846462208439,u 4] (.tup [u 461615552109,u 3]))
  (.o 65016 [u 7799060905254008432,u 11691715628713137205,u 9860761315262647567] (.tup [u 14589875561820374065,u 4658968923914213462])))))]
def k11 : List (Nat × Ent) := [(164,e11_164),(165,e11_165)]
def e12_165 : Ent := [.m 33918 [u 3036,u 9694886586292784103,u 9860761315262647567] (.tup [u 5680,u 4885623676653309719]) (.m 14779 [u 0,u 2874012161,u 30] (.tup [u 95800405,u 11]) (.m 6628 [u 43,u 2225215780011097513,u 90] (.tup [u 8838169010550242411,u 11]) (.m 3166 [u 5071026438449732310,u 13378680515198940468,u 9860761315262647567] (.tup [u 9486481206710503630,u 8283699938762685218]) (.m 560 [u 105,u 8313990678002305033,u 132] (.tup [u 14736531200132615338,u 97]) (.o 479 [u 4010835806864533039,u 3449718558356772687,u 9860761315262647567] (.tup [u 7503159166461348028,u 5668281837170165835]))
  (.o 1905 [u 9,u 7455323194197715914,u 30] (.tup [u 5782533995252789348,u 18])))
  (.m 6180 [u 0,u 2280233863615719,u 9860761315262647567] (.tup [u 0,u 2280233863615719]) (.o 5084 [u 40220545,u 1949659715267921401,u 9860761315262647567] (.tup [u 75241462,u 4276373536037249167]))
  (.o 6527 [u 1189495641830788009,u 11501812275989404152,u 9860761315262647567] (.tup [u 2225215780011097513,u 2774994173539575825]))))
  (.m 10219 [u 84,u 585116523289769433,u 182] (.tup [u 8517096806125780797,u 123]) (.m 7912 [u 443036,u 12620153505318756507,u 9860761315262647567] (.tup [u 828798,u 5071026438450268217]) (.o 7023 [u 4444268176840009586,u 17306387904720101621,u 9860761315262647567] (.tup [u 8313990678002305034,u 194328710349940319]))
  (.o 9804 [u 56,u 15327931522679171057,u 90] (.tup [u 11648284440560156239,u 43])))
  (.m 11605 [u 2384,u 16262623839939756314,u 9860761315262647567] (.tup [u 4461,u 4444268176840012471]) (.o 10788 [u 97,u 8753492008855507006,u 132] (.tup [u 13621876266353651619,u 50]))
  (.o 14218 [u 31589142,u 4738122732372557394,u 9860761315262647567] (.tup [u 59094506,u 4010835806902743964])))))
  (.m 28069 [u 8370224542029381897,u 4524797132601253533,u 9860761315262647567] (.tup [u 15658363997444158301,u 576823246978245418]) (.m 20875 [u 1081827836822970794,u 16199533274484211100,u 9860761315262647567] (.tup [u 2023799238178458475,u 7904740214018433879]) (.m 18775 [u 2149674158697073012,u 4688379230284384234,u 9860761315262647567] (.tup [u 4021442947409540412,u 1879399194618994022]) (.o 16073 [u 2246642154096403986,u 17130997743973457977,u 9860761315262647567] (.tup [u 4202843118986907043,u 6702853005329484972]))
  (.o 19236 [u 7149561067289068241,u 8425615581494049413,u 9860761315262647567] (.tup [u 13374841863731521291,u 2860057010740027872])))
  (.m 24719 [u 3985264947156696039,u 9630868426469043882,u 9860761315262647567] (.tup [u 7455323194197715914,u 8474118041393011668]) (.o 23336 [u 0,u 650936,u 90] (.tup [u 7232,u 56]))
  (.o 27427 [u 696788142335947021,u 12185994483328493554,u 9860761315262647567] (.tup [u 1303496973947833351,u 4656982860407822473]))))
  (.m 31519 [u 11,u 2671266036477265474,u 9860761315262647567] (.tup [u 20,u 8370224542029381910]) (.m 29691 [u 2280233863615719,u 2229690106426445809,u 9860761315262647567] (.tup [u 4265683872219832,u 6613331292681948969]) (.o 28358 [u 0,u 1303496973947833351,u 240] (.tup [u 5431237391449305,u 151]))
  (.o 29752 [u 1922980867396622826,u 9991524349635738854,u 9860761315262647567] (.tup [u 3597362798407890137,u 7404096113680178991])))
  (.m 33772 [u 0,u 40220545,u 9860761315262647567] (.tup [u 0,u 40220545]) (.o 32659 [u 2,u 7503159166461348028,u 56] (.tup [u 792797273462150915,u 20]))
  (.l)))))
  (.m 50181 [u 4885623676653306046,u 17582283978387590737,u 9860761315262647567] (.tup [u 9139644163598633729,u 7832739364623473730]) (.m 43299 [u 1536311656,u 3340938866375386749,u 9860761315262647567] (.tup [u 2874012161,u 2246642155954760558]) (.m 39443 [u 6610573071348700820,u 4211293077283656691,u 9860761315262647567] (.tup [u 12366545110363778518,u 4302862820935616105]) (.m 36136 [u 8751127318904648512,u 12419226911217523513,u 9860761315262647567] (.tup [u 16370927238490033173,u 145498527181378814]) (.o 35400 [u 0,u 887178217124680923,u 9860761315262647567] (.tup [u 0,u 887178217124680923]))
  (.o 38859 [u 1956092753,u 12679621652454572612,u 9860761315262647567] (.tup [u 3659305935,u 7149561069655201315])))
  (.m 41623 [u 20,u 1527792737363884452,u 56] (.tup [u 6615404896634909228,u 4]) (.o 40584 [u 8193590890505324320,u 15704506738930885685,u 9860761315262647567] (.tup [u 15327931522679171058,u 1239883156830470919]))
  (.o 42791 [u 4276373535988597506,u 1592950636365487982,u 9860761315262647567] (.tup [u 7999906463597924033,u 6254623883803079967]))))
  (.m 46061 [u 347960,u 3653214721682114572,u 9860761315262647567] (.tup [u 650936,u 8193590890505745220]) (.m 45085 [u 0,u 1536311656,u 9860761315262647567] (.tup [u 0,u 1536311656]) (.o 43500 [u 4679204906268608093,u 10380202194171512235,u 9860761315262647567] (.tup [u 8753492008855507007,u 508928810690338554]))
  (.o 45800 [u 0,u 696788142335947021,u 9860761315262647567] (.tup [u 0,u 696788142335947021])))
  (.m 49580 [u 0,u 4461,u 132] (.tup [u 33,u 105]) (.o 46812 [u 0,u 20,u 182] (.tup [u 0,u 20]))
  (.l))))
  (.m 57794 [u 887178217124680923,u 1202998022775101655,u 9860761315262647567] (.tup [u 1659663893673001552,u 9602712192954099239]) (.m 53772 [u 4072551069815447380,u 6293258937506711253,u 9860761315262647567] (.tup [u 7618611272510715735,u 2688212193522310588]) (.m 52969 [u 1790891488600453,u 7933559028398231049,u 9860761315262647567] (.tup [u 3350260278875572,u 1539080603921179773]) (.o 52345 [u 0,u 59094506,u 56] (.tup [u 1055259,u 2]))
  (.o 53501 [u 20,u 15658363997444158300,u 182] (.tup [u 2113149700393599948,u 84])))
  (.m 55759 [u 0,u 1790891488600453,u 9860761315262647567] (.tup [u 0,u 1790891488600453]) (.o 55625 [u 312775758948146808,u 4329942406656531948,u 9860761315262647567] (.tup [u 585116523289769433,u 2895654245909754165]))
  (.o 56737 [u 3814132506498137489,u 3077815966243556609,u 9860761315262647567] (.tup [u 7135181956152382278,u 4571853162983071207]))))
  (.m 64405 [u 151,u 7135181956152382277,u 240] (.tup [u 11635806404526227817,u 213]) (.m 62863 [u 5379731644138087146,u 6770665213448112901,u 9860761315262647567] (.tup [u 10063982856075116440,u 5397808430833539357]) (.o 61297 [u 11,u 4202843118986907043,u 30] (.tup [u 6903900930993065827,u 9]))
  (.o 63783 [u 816686102552268926,u 2368424344451759854,u 9860761315262647567] (.tup [u 1527792737363884452,u 1831235458374715986])))
  (.m 65323 [u 14,u 3505108809033201281,u 9860761315262647567] (.tup [u 26,u 5379731644138087163]) (.o 65041 [u 8529561792062261182,u 11152797518057159250,u 9860761315262647567] (.tup [u 15956439711762054672,u 7669806575837546338]))
  (.l)))))]
def k12 : List (Nat × Ent) := [(165,e12_165)]
def e13_165 : Ent := [.m 41111 [u 0,u 12591666748181446970,u 9319528729230993672] (.tup [u 1,u 3272138018950453298]) (.m 23859 [u 15,u 9649144829102292634,u 756] (.tup [u 378770245945430644,u 10]) (.m 15473 [u 0,u 4596610738532,u 9860761315262647567] (.tup [u 0,u 4596610738532]) (.m 9262 [u 0,u 5860352974,u 9860761315262647567] (.tup [u 0,u 5860352974]) (.m 6414 [u 0,u 3350260278875572,u 306] (.tup [u 10948563002861,u 106]) (.o 5348 [u 38545347,u 8129632898315825754,u 9860761315262647567] (.tup [u 72107633,u 1449404853199377595]))
  (.o 8528 [u 429,u 5785850920737608665,u 462] (.tup [u 17141642983857435610,u 109])))
  (.m 12479 [u 0,u 10963091799,u 462] (.tup [u 23729635,u 429]) (.o 10192 [u 0,u 7461633153,u 9860761315262647567] (.tup [u 0,u 7461633153]))
  (.o 14016 [u 70110822513,u 1249560632357495009,u 9860761315262647567] (.tup [u 131157864828,u 7444700584556752541]))))
  (.m 19902 [u 0,u 38545347,u 9860761315262647567] (.tup [u 0,u 38545347]) (.m 18714 [u 106,u 2875139543986997541,u 306] (.tup [u 6399444481559475388,u 109]) (.o 15780 [u 0,u 55064911235,u 9860761315262647567] (.tup [u 0,u 55064911235]))
  (.o 18973 [u 5,u 16191013205362704417,u 9860761315262647567] (.tup [u 10,u 9817120421283986827])))
  (.m 22775 [u 0,u 16357,u 650] (.tup [u 25,u 107]) (.o 20083 [u 124895371111326176,u 6723403821619903347,u 9860761315262647567] (.tup [u 233644530399045067,u 2356770042732901774]))
  (.o 22891 [u 112750109296181,u 15697521341219093275,u 9860761315262647567] (.tup [u 210924120762378,u 2786114913303437445])))))
  (.m 28422 [u 107,u 5467296334037880926,u 650] (.tup [u 3045029095724553698,u 138]) (.m 26232 [u 0,u 14637632,u 552] (.tup [u 26517,u 248]) (.m 25061 [u 14820,u 4473910412968349130,u 9860761315262647567] (.tup [u 27724,u 5474378446882150742]) (.o 24695 [u 11133,u 74025569278305405,u 9860761315262647567] (.tup [u 20826,u 7460646517818215991]))
  (.o 25278 [u 8743,u 15511956648763061479,u 9860761315262647567] (.tup [u 16357,u 2922559340246586748])))
  (.m 27120 [u 10,u 10426570503210959790,u 9860761315262647567] (.tup [u 19,u 7539546250316172177]) (.o 27031 [u 4416726704543189480,u 15714962393216899489,u 9860761315262647567] (.tup [u 8262468237226232984,u 7333426188722349241]))
  (.o 28233 [u 159021725453314130,u 10276529627530192074,u 9860761315262647567] (.tup [u 297485455515141020,u 441108670462427814]))))
  (.m 36688 [u 30273445,u 474786086368227468,u 9860761315262647567] (.tup [u 56633202,u 5178252940473145054]) (.m 35085 [u 1536914301951803015,u 3905983904211044254,u 9860761315262647567] (.tup [u 2875139543986997541,u 7817576983839333747]) (.o 29117 [u 7824589,u 9047234889947444116,u 9860761315262647567] (.tup [u 14637632,u 4439547218285488596]))
  (.o 36250 [u 2922559340246576172,u 6379534969807396961,u 9860761315262647567] (.tup [u 5467296334037880926,u 8611169086067483871])))
  (.m 40623 [u 7,u 18020644191483052077,u 9860761315262647567] (.tup [u 14,u 9097194293772847451]) (.o 40148 [u 387,u 1063905807021767849,u 10097419586828951109] (.tup [u 707,u 1078214444549809178]))
  (.l)))))
  (.m 52694 [u 4702826919547881422,u 5391897853802584436,u 9860761315262647567] (.tup [u 8797682231043936192,u 6285876721227017524]) (.m 48373 [u 0,u 6753624099915,u 380] (.tup [u 17772694999,u 295]) (.m 43036 [u 0,u 112750109296181,u 9860761315262647567] (.tup [u 0,u 112750109296181]) (.m 42619 [u 5860352974,u 17364582686622093246,u 9860761315262647567] (.tup [u 10963091799,u 3092843638849196197]) (.o 42431 [u 0,u 88553728764082,u 9860761315262647567] (.tup [u 0,u 88553728764082]))
  (.o 42777 [u 0,u 15,u 756] (.tup [u 0,u 15])))
  (.m 43889 [u 7460646517818202525,u 6457849404290308054,u 9860761315262647567] (.tup [u 13956796289713155026,u 3551505639646616712]) (.o 43283 [u 5157978756358639574,u 17721821337463929117,u 9860761315262647567] (.tup [u 9649144829102292634,u 7466507560315059223]))
  (.o 45078 [u 7461633153,u 14788068510671758026,u 9860761315262647567] (.tup [u 13958642011,u 4416726713568946037]))))
  (.m 50513 [u 88553728764082,u 12366564571653529984,u 9860761315262647567] (.tup [u 165659417062993,u 2721339909322198465]) (.m 48513 [u 4596610738532,u 7617408173070224817,u 9860761315262647567] (.tup [u 8598981274288,u 5457627567101435233]) (.o 48512 [u 9962576,u 14029894708047072763,u 9860761315262647567] (.tup [u 18637212,u 4702826919559932375]))
  (.o 50261 [u 4439547218276023800,u 7179550574982344591,u 9860761315262647567] (.tup [u 8305159076503378217,u 6873690885350957352])))
  (.m 51886 [u 55064911235,u 13482799355680592472,u 9860761315262647567] (.tup [u 103011146151,u 413980786929833615]) (.o 51659 [u 2757049813605402648,u 14668139186283419367,u 9860761315262647567] (.tup [u 5157674005487560540,u 7603894200906292355]))
  (.l))))
  (.m 58505 [u 7539546250316172164,u 14076979875832808605,u 9860761315262647567] (.tup [u 14104395762648518711,u 3662936437135099492]) (.m 55817 [u 18869,u 18248588387302516992,u 9860761315262647567] (.tup [u 35300,u 4988086441372844196]) (.m 53817 [u 1,u 16056118151884335997,u 12591666748181446970] (.tup [u 2,u 9319528729230993673]) (.o 53246 [u 0,u 3610169631896,u 9860761315262647567] (.tup [u 0,u 3610169631896]))
  (.o 55113 [u 248,u 8305159076503378217,u 552] (.tup [u 8302713205355927860,u 265])))
  (.m 56480 [u 8,u 13984760799586804820,u 17251431112796943806] (.tup [u 9,u 6295833374090723494]) (.o 55915 [u 0,u 124895371111326176,u 9860761315262647567] (.tup [u 0,u 124895371111326176]))
  (.o 57472 [u 0,u 159021725453314130,u 9860761315262647567] (.tup [u 0,u 159021725453314130]))))
  (.m 61353 [u 3092843631760383574,u 14593136660483190278,u 9860761315262647567] (.tup [u 5785850920737608665,u 4637845415934377807]) (.m 59163 [u 3610169631896,u 6375331926854179865,u 9860761315262647567] (.tup [u 6753624099915,u 2757054180546466996]) (.o 58545 [u 295,u 5157674005487560540,u 380] (.tup [u 14334071515131066545,u 160]))
  (.o 60490 [u 8,u 5495445895621940161,u 9860761315262647567] (.tup [u 15,u 5157978756358639584])))
  (.m 63943 [u 5457622006939382577,u 7950960454624876953,u 9860761315262647567] (.tup [u 10209694078816097338,u 5605945020916594739]) (.o 63104 [u 0,u 70110822513,u 9860761315262647567] (.tup [u 0,u 70110822513]))
  (.l)))))]
def k13 : List (Nat × Ent) := [(165,e13_165)]
def e14_165 : Ent := [.m 31361 [u 0,u 15900330483851719177,u 9306433703304190498] (.tup [u 1,u 6593896780547528679]) (.m 13611 [u 7,u 2284472882079023088,u 16014815006916443935] (.tup [u 8,u 3293161342714332920]) (.m 5550 [u 2,u 6456034562960564979,u 9440093503716414721] (.tup [u 4,u 5589148695514009327]) (.m 2186 [u 38,u 8062317726835436128,u 13187373152203648208] (.tup [u 53,u 10107815461005042512]) (.m 1107 [u 1,u 3909850708346485684,u 15403779232809621585] (.tup [u 1,u 6952815549246415715]) (.o 199 [u 0,u 15077023753325941273,u 10170122369123725229] (.tup [u 1,u 4906901384202216044]))
  (.o 1930 [u 1,u 16720817507270311771,u 10441347311089658933] (.tup [u 3,u 3843519647710886588])))
  (.m 2976 [u 0,u 11590879918510158115,u 9893827737738231698] (.tup [u 1,u 1697052180771926417]) (.o 2964 [u 1,u 16225794128437650014,u 18028689601589028937] (.tup [u 1,u 16643848600558172693]))
  (.o 4325 [u 1,u 859800964184832305,u 10294026532234264082] (.tup [u 1,u 9012518505660119839]))))
  (.m 8986 [u 0,u 38,u 13187373152203648208] (.tup [u 0,u 38]) (.m 6447 [u 1,u 16408028151666474976,u 18428312050620291042] (.tup [u 1,u 16426460174755735550]) (.o 5675 [u 1,u 166123332898829380,u 13187793561095057358] (.tup [u 1,u 5425073845513323638]))
  (.o 8158 [u 7,u 1241019992342858863,u 17336269101073600815] (.tup [u 7,u 9014344800794514470])))
  (.m 10685 [u 2,u 3430681728356504544,u 15077023753325941273] (.tup [u 2,u 10170122369123725230]) (.o 9439 [u 1,u 2141308990758976548,u 18025037011320239677] (.tup [u 1,u 2563016053148288487]))
  (.o 11231 [u 19,u 4927302904106319839,u 12519065258290478849] (.tup [u 28,u 4881613072454392771])))))
  (.m 20320 [u 0,u 13576417446175411330,u 11268534671028796939] (.tup [u 1,u 2307882775146614391]) (.m 16934 [u 5,u 3738389119644686295,u 11302342904179157498] (.tup [u 8,u 5553366254759184391]) (.m 15730 [u 1,u 6591386442871406082,u 9763226144908785530] (.tup [u 2,u 5511678226763386638]) (.o 15218 [u 1,u 4357710372325209544,u 17583780790489931693] (.tup [u 1,u 5220673655544829467]))
  (.o 16360 [u 1,u 3599968833343994931,u 17006191672581595575] (.tup [u 1,u 5040521234471950972])))
  (.m 18288 [u 0,u 18028689601589028937,u 16643848600558172692] (.tup [u 1,u 1384841001030856245]) (.o 17532 [u 2,u 508845773675458096,u 11996513686024055546] (.tup [u 3,u 1412792863022394690]))
  (.o 19138 [u 4,u 15021109827724579920,u 15900330483851719177] (.tup [u 5,u 9306433703304190499]))))
  (.m 25799 [u 1,u 12360814391909691555,u 13905631098492831430] (.tup [u 2,u 2996296268633580311]) (.m 22673 [u 1,u 1079708216108019445,u 11023356453526773273] (.tup [u 1,u 8503095836290797788]) (.o 22289 [u 4,u 5363645607067647126,u 13576417446175411330] (.tup [u 5,u 11268534671028796940]))
  (.o 22775 [u 1,u 16318127463363507,u 16296028563538715021] (.tup [u 1,u 2167033637634200102])))
  (.m 28646 [u 0,u 17213603914801121991,u 13513532468535040991] (.tup [u 1,u 3700071446266081000]) (.o 28253 [u 1,u 433442933723277827,u 11178297391028018650] (.tup [u 1,u 7701889616404810793]))
  (.l)))))
  (.m 46053 [u 1,u 15565639271453639534,u 10081042468943901944] (.tup [u 3,u 3769255938331485318]) (.m 38447 [u 1,u 5523626075359090871,u 15363568191668081491] (.tup [u 1,u 8606801957400560996]) (.m 34829 [u 0,u 13088552075801813195,u 11101010765320348298] (.tup [u 1,u 1987541310481464897]) (.m 33534 [u 0,u 15374078590843546352,u 11017232062671543028] (.tup [u 1,u 4356846528172003324]) (.o 31812 [u 3,u 16759915824152303863,u 10252064212593153945] (.tup [u 7,u 335698557128881096]))
  (.o 34661 [u 2,u 7175440103267068881,u 17427386112688013296] (.tup [u 2,u 9214156025310145521])))
  (.m 36208 [u 1,u 3253551308343742934,u 9350583480273640332] (.tup [u 2,u 2999128421506013886]) (.o 36043 [u 2,u 384626769504871456,u 13088552075801813195] (.tup [u 2,u 11101010765320348298]))
  (.o 36787 [u 1,u 7928843048480563100,u 10850147691026647275] (.tup [u 2,u 4675291740136820166]))))
  (.m 43043 [u 0,u 2,u 15077023753325941273] (.tup [u 0,u 2]) (.m 40333 [u 3,u 282292172842670872,u 11985185074534321243] (.tup [u 4,u 7681784095834040748]) (.o 40162 [u 1,u 1893500664537898843,u 9813802768404432086] (.tup [u 2,u 712639201438586287]))
  (.o 42456 [u 3,u 8719027806537120895,u 13172645370857331653] (.tup [u 4,u 11368678544236449131])))
  (.m 43886 [u 3,u 2386706230739585937,u 17436082704356927419] (.tup [u 3,u 5418690338797458528]) (.o 43138 [u 8,u 9446891704794500461,u 11402227223017380580] (.tup [u 13,u 8791890395244965849]))
  (.l))))
  (.m 57746 [u 7,u 4023580288498520229,u 11078728008246849961] (.tup [u 12,u 206052705503182009]) (.m 54723 [u 1,u 3037963582538838197,u 11590879918510158115] (.tup [u 1,u 9893827737738231698]) (.m 53065 [u 0,u 13187373152203648208,u 10107815461005042512] (.tup [u 1,u 3079557691198605696]) (.o 49975 [u 2,u 8180650536696084526,u 9231531100586457561] (.tup [u 4,u 8148014281769357514]))
  (.o 54654 [u 0,u 14800285785064324001,u 9653272518947191960] (.tup [u 1,u 5147013266117132041])))
  (.m 56956 [u 4,u 17162452059053386568,u 14431734612967060196] (.tup [u 6,u 4359020676089231856]) (.o 54821 [u 2,u 4871901096939532500,u 15374078590843546352] (.tup [u 2,u 11017232062671543028]))
  (.o 57125 [u 1,u 16425421335004303223,u 10837380677594917052] (.tup [u 3,u 2360023375929103683]))))
  (.m 64717 [u 2,u 17160641726721060733,u 14800285785064324001] (.tup [u 3,u 9653272518947191962]) (.m 61859 [u 1,u 12280392309626611367,u 17213603914801121991] (.tup [u 1,u 13513532468535040992]) (.o 59235 [u 0,u 18428312050620291042,u 16426460174755735550] (.tup [u 1,u 2001851875864555492]))
  (.o 62444 [u 17,u 14471405549918548793,u 10742353828124194906] (.tup [u 30,u 5795439959255079085])))
  (.m 64829 [u 1,u 4157941734648763381,u 11106732509518368766] (.tup [u 2,u 391220789321577465]) (.o 64745 [u 0,u 13172645370857331653,u 11368678544236449129] (.tup [u 1,u 1803966826620882524]))
  (.l)))))]
def k14 : List (Nat × Ent) := [(165,e14_165)]
def e15_165 : Ent := [.m 31678 [u 3,u 13015503840481697412,u 16] (.tup [u 4272233503850647016,u 4]) (.m 15045 [u 1,u 12281181722280082801,u 17212634756797404449] (.tup [u 1,u 13515291039192229968]) (.m 6551 [u 2,u 1183178196907373840,u 10748015656519348992] (.tup [u 3,u 5832619374768430096]) (.m 3854 [u 6,u 4233453559939239903,u 16] (.tup [u 7182119875137284349,u 15]) (.m 878 [u 4,u 6450984253743169536,u 16] (.tup [u 5014872534286336000,u 0]) (.o 748 [u 1,u 13104971866274575867,u 11534419521678997204] (.tup [u 2,u 8482876896626133075]))
  (.l))
  (.m 5840 [u 176,u 14902417816947731056,u 16066288109670292582] (.tup [u 203,u 72888526759421326]) (.o 5657 [u 1,u 939335017304100600,u 10192670649827743627] (.tup [u 1,u 9193408441185908589]))
  (.l)))
  (.m 10891 [u 0,u 293873587,u 16] (.tup [u 18367099,u 3]) (.m 9586 [u 2,u 6456034580231307058,u 9440093446416117399] (.tup [u 4,u 5589148941985940694]) (.o 7429 [u 1,u 12360811961731862048,u 13905635500446111867] (.tup [u 2,u 2996285034549189930]))
  (.l))
  (.m 12803 [u 0,u 12206170500211456516,u 9519166586081619268] (.tup [u 1,u 2687003914129837248]) (.o 11630 [u 0,u 14789374870420697921,u 9693039545506826108] (.tup [u 1,u 5096335324913871813]))
  (.l))))
  (.m 19550 [u 2,u 17167676009349816642,u 14789374870420697921] (.tup [u 3,u 9693039545506826111]) (.m 18362 [u 3,u 282309780655792623,u 11985140138196759716] (.tup [u 4,u 7681981448997408607]) (.m 17904 [u 0,u 207800006678,u 16] (.tup [u 12987500417,u 6]) (.o 15944 [u 3,u 8719027806537049116,u 13172645370857947398] (.tup [u 4,u 11368678544233914372]))
  (.l))
  (.m 19103 [u 0,u 13172645370857947398,u 11368678544233914370] (.tup [u 1,u 1803966826624033028]) (.o 18866 [u 1,u 4357710372325209544,u 17583780790489931694] (.tup [u 1,u 5220673655544829466]))
  (.l)))
  (.m 22565 [u 0,u 17212634756797404449,u 13515291039192229968] (.tup [u 1,u 3697343717605174481]) (.m 20944 [u 0,u 18428312050620290096,u 16426460174755736847] (.tup [u 1,u 2001851875864553249]) (.o 20122 [u 1,u 16425421333632285451,u 10837380681912602572] (.tup [u 3,u 2360023361604029351]))
  (.l))
  (.m 31242 [u 1,u 1938597225945935638,u 18386816882371817179] (.tup [u 1,u 1998524417283670075]) (.o 25351 [u 0,u 10748015656519348992,u 5832619374768430096] (.tup [u 1,u 4915396281750918896]))
  (.l)))))
  (.m 52252 [u 1,u 3909851694234211150,u 15403778017720706832] (.tup [u 1,u 6952817750223055934]) (.m 42032 [u 1,u 4622094969648442792,u 16965753793252266150] (.tup [u 1,u 6103085250105728258]) (.m 35935 [u 2,u 4871901096939532497,u 15374078590843546365] (.tup [u 2,u 11017232062671542999]) (.m 34018 [u 111,u 8896285856037221234,u 9329731425205906521] (.tup [u 220,u 3943964492498015990]) (.o 33699 [u 1,u 433442819122683183,u 11178297883971881383] (.tup [u 1,u 7701889008860353416]))
  (.l))
  (.m 40158 [u 2,u 425437553404522853,u 15775857969992063741] (.tup [u 2,u 5767209760839498603]) (.o 37272 [u 0,u 12803108058201168390,u 12740349120272768810] (.tup [u 1,u 62758937928399580]))
  (.l)))
  (.m 47955 [u 0,u 10107815461005042512,u 3079557691198605696] (.tup [u 3,u 869142387409225424]) (.m 46708 [u 4,u 17162452059033108500,u 14431734612992264221] (.tup [u 6,u 4359020675917729638]) (.o 42936 [u 1,u 5523536202683967817,u 15363962897994817208] (.tup [u 1,u 8606317378398702225]))
  (.l))
  (.m 52168 [u 7,u 2284472882079033465,u 16014815006916425991] (.tup [u 8,u 3293161342714486849]) (.o 51286 [u 2,u 7175440103267068759,u 17427386112688013471] (.tup [u 2,u 9214156025310145049]))
  (.l))))
  (.m 59894 [u 3,u 2386706230840402039,u 17436082703670918533] (.tup [u 3,u 5418690340956301288]) (.m 54844 [u 1,u 16408028151666475327,u 18428312050620290096] (.tup [u 1,u 16426460174755736847]) (.m 54043 [u 1,u 15484763512794980684,u 12206170500211456516] (.tup [u 2,u 9519166586081619268]) (.o 53112 [u 15,u 12334973124693332432,u 16] (.tup [u 18064758389396037917,u 0]))
  (.l))
  (.m 55700 [u 15,u 12334973124691332432,u 16] (.tup [u 18064758389395912917,u 0]) (.o 54907 [u 0,u 15374078590843546365,u 11017232062671542997] (.tup [u 1,u 4356846528172003368]))
  (.l)))
  (.m 62091 [u 0,u 2,u 10748015656519348992] (.tup [u 0,u 2]) (.m 61198 [u 7,u 17967326543007676126,u 15988195338269360593] (.tup [u 9,u 3200777014550292101]) (.o 61156 [u 3,u 8612549131948787525,u 12803108058201168390] (.tup [u 4,u 12740349120272768813]))
  (.l))
  (.o 64066 [u 1,u 16720817507270311772,u 10441347311089658932] (.tup [u 3,u 3843519647710886592])))))]
def e15_166 : Ent := [.m 25509 [w [0,11927795063396681728,9860761315262647567,0]] (.vsl false 3 [u 0,u 11927795063396681728,u 9860761315262647567]) (.m 12872 [v107] (v107) (.m 3684 [w [1]] (w [1]) (.o 3683 [w [0]] (v390))
  (.o 3687 [w [4]] (w [4])))
  (.m 22775 [w [13782813920216018380,14771817424140671491,1846462208439,0]] (v116) (.o 17691 [v391] (v391))
  (.o 24014 [w [17463089541855990736,17030607900432772,0]] (v392))))
  (.m 49332 [v393] (v393) (.m 38934 [v101] (v101) (.o 34706 [w [16114778996962784998,16609280748925111553,923231104219,0]] (v394))
  (.o 48627 [v395] (v395)))
  (.m 56270 [v113] (v113) (.o 52222 [v396] (v396))
  (.l)))]
def k15 : List (Nat × Ent) := [(165,e15_165),(166,e15_166)]
def e16_166 : Ent := [.m 41554 [w [14189355548283026892,14716625746279442152,12318077660473956507,13146092726962069828,243561992871567315,0]] (v108) (.m 26666 [v397] (v397) (.m 8390 [v99] (v99) (.m 3701 [w [18]] (w [18]) (.m 3689 [w [6]] (w [6]) (.o 3527 [w [7618611272510715734,13374841863731521290,3659305935,0]] (v398))
  (.o 3694 [w [11]] (w [11])))
  (.m 3806 [w [123]] (w [123]) (.o 3733 [w [50]] (w [50]))
  (.o 7605 [w [8003386255225394266,3252936194182942452,207800013877,0]] (v149))))
  (.m 16070 [v399] (v399) (.m 13965 [v400] (v400) (.o 11528 [v401] (v401))
  (.o 14011 [v100] (v100)))
  (.m 22189 [w [7170515353843274386,9364039851713857364,207894759023,0]] (v103) (.o 18941 [v402] (v402))
  (.o 25444 [v403] (v403)))))
  (.m 34670 [.vsl false 3 [u 0,u 0,u 0]] (v390) (.m 30720 [v404] (v404) (.m 28050 [v405] (v405) (.o 26798 [v112] (v112))
  (.o 28422 [w [16600421415523125331,6593959610220467789,9621704098130034456,15503065397907737844,1669347581099524,0]] (v135)))
  (.m 33736 [v406] (v406) (.o 32364 [v111] (v111))
  (.o 34206 [w [8068274122100154195,10164474085895960830,8661451129107458488,11709122817828559434,17366314611440665278,0]] (v109))))
  (.m 37566 [w [7455323194197715914,4202843118986907043,2874012161,0]] (v106) (.m 35194 [v407] (v407) (.o 34853 [w [8640380767668084153,17987378242513441600,230807776054,0]] (v408))
  (.o 36893 [v170] (v170)))
  (.m 38422 [v409] (v409) (.o 37637 [w [12787093511028803474,6341182953755401551,207800006678,0]] (v138))
  (.l)))))
  (.m 54539 [v410] (v410) (.m 49115 [v115] (v115) (.m 46475 [v411] (v411) (.m 42740 [v412] (v412) (.o 42626 [w [17292431025786201035,11946252089032414340,13964961894145495040,13986844084537750418,7801041777162,0]] (v147))
  (.o 44599 [w [14550886082860770979,14470342835219398496,12822340539202483276,829795195913251750,191293141874751367,0]] (v110)))
  (.m 47894 [v413] (v413) (.o 46549 [w [12004326465849222656,12583738487651288622,71186920073,0]] (v414))
  (.o 48118 [v117] (v117))))
  (.m 53027 [v415] (v415) (.m 51421 [w [7236889286840459925,7876560602087652357,181276003411,0]] (v102) (.o 50148 [v105] (v105))
  (.o 52598 [v104] (v104)))
  (.m 54538 [v416] (v416) (.o 54350 [w [11009532767374467259,8124201305943929203,16104677368926751221,7314726601207293494,6126923884370,0]] (v161))
  (.l))))
  (.m 58652 [v144] (v144) (.m 56620 [w [8517096806125780797,2113149700393599948,0]] (v89) (.m 56240 [w [2023799238178458475,7999906463597924033,75241462,0]] (v417) (.o 54650 [v418] (v418))
  (.o 56569 [v178] (v178)))
  (.m 58107 [w [724442254058341841,12242707536774606347,15727830659569986504,12988536605132093096,1311102524267539,0]] (v165) (.o 57324 [v88] (v88))
  (.o 58457 [v419] (v419))))
  (.m 63604 [v420] (v420) (.m 60847 [w [9514143892148891222,14589875561820374064,55910076283,0]] (v114) (.o 60618 [v421] (v421))
  (.o 61376 [v422] (v422)))
  (.m 64627 [v95] (v95) (.o 64046 [v423] (v423))
  (.l)))))]
def k16 : List (Nat × Ent) := [(166,e16_166)]
def e17_166 : Ent := [.m 28229 [v424] (v424) (.m 12608 [w [4244187385348643476,4734386098559386715,10417457931255205964,6120433682148984,0]] (v158) (.m 3821 [w [138]] (w [138]) (.m 2288 [v425] (v425) (.m 1044 [v426] (v426) (.o 691 [v427] (v427))
  (.o 1316 [v428] (v428)))
  (.m 3482 [v119] (v119) (.o 3286 [v429] (v429))
  (.o 3792 [w [109]] (w [109]))))
  (.m 4430 [w [12366545110363778517,4265683872219832,0]] (v430) (.m 3896 [w [213]] (w [213]) (.o 3843 [w [160]] (w [160]))
  (.o 3948 [w [265]] (w [265])))
  (.m 8585 [w [17876293434389998218,17941419946077638974,11792391544926169901,5476984495424500642,0]] (v139) (.o 4433 [v431] (v431))
  (.o 12281 [v432] (v432)))))
  (.m 24314 [v162] (v162) (.m 16417 [w [6113462245698230025,11899689605548549250,7204198040994281268,4806977373155694,0]] (v160) (.m 14991 [v87] (v87) (.o 14645 [w [5361003646381842880,16435824858651011218,7726429105647848976,4301613563662702939,0]] (v156))
  (.o 15526 [v433] (v433)))
  (.m 17850 [v153] (v153) (.o 16701 [w [8262468237226232984,13958642011,0]] (v434))
  (.o 18441 [v118] (v118))))
  (.m 27116 [v435] (v435) (.m 26054 [v436] (v436) (.o 25028 [v437] (v437))
  (.o 26686 [v438] (v438)))
  (.m 27609 [w [11025444859222714962,2417956740003135128,13421244786285755757,5808294154414,0]] (v154) (.o 27544 [w [6557673277525087494,15976676401898429601,8523590972869011769,4561823561349,0]] (v167))
  (.l)))))
  (.m 46702 [w [5157674005487560540,6753624099915,0]] (v176) (.m 39238 [v97] (v97) (.m 31626 [v439] (v439) (.m 30337 [w [15001500364499333901,4233453559939239928,207800006678,0]] (v164) (.o 28482 [w [5785850920737608665,10963091799,0]] (v177))
  (.o 31197 [w [10209694078816097337,8598981274288,0]] (v440)))
  (.m 36867 [v171] (v171) (.o 35459 [w [5393686069291290035,4233453559962943047,207800006678,0]] (v145))
  (.o 38230 [v441] (v441))))
  (.m 40664 [v442] (v442) (.m 40418 [v443] (v443) (.o 40139 [v444] (v444))
  (.o 40479 [w [15956439711762054671,1659663893673001552,0]] (v445)))
  (.m 46416 [v446] (v446) (.o 41864 [v175] (v175))
  (.l))))
  (.m 54436 [v126] (v126) (.m 51300 [w [15905803109429250494,4233464490753250908,207800006678,0]] (v132) (.m 47968 [v447] (v447) (.o 46785 [w [378770245945430644,0]] (v448))
  (.o 48164 [v449] (v449)))
  (.m 52600 [w [2875139543986997541,3350260278875572,0]] (v166) (.o 52443 [v159] (v159))
  (.o 53898 [v134] (v134))))
  (.m 62992 [v450] (v450) (.m 59229 [v98] (v98) (.o 58220 [v131] (v131))
  (.o 60047 [w [7135181956152382277,1303496973947833351,0]] (v148)))
  (.m 65047 [v174] (v174) (.o 64796 [v451] (v451))
  (.l)))))]
def k17 : List (Nat × Ent) := [(166,e17_166)]
def e18_166 : Ent := [.m 30826 [w [866995704826953728,17047044360909728595,12591666748181446970,0]] (.vsl false 3 [u 866995704826953728,u 17047044360909728595,u 12591666748181446970]) (.m 18784 [v452] (v452) (.m 5524 [v453] (v453) (.m 3692 [w [9]] (w [9]) (.m 754 [v136] (v136) (.o 437 [v152] (v152))
  (.o 3685 [w [2]] (w [2])))
  (.m 3697 [w [14]] (w [14]) (.o 3693 [w [10]] (w [10]))
  (.o 4390 [w [707]] (w [707]))))
  (.m 16060 [v123] (v123) (.m 10488 [w [0,4982938468024057856,10097419586828951109,0]] (.vsl false 3 [u 0,u 4982938468024057856,u 10097419586828951109]) (.o 7484 [v454] (v454))
  (.o 10834 [w [6974583969644181956,17520943641721873814,8147514494740620,0]] (v120)))
  (.m 18611 [v455] (v455) (.o 16633 [v151] (v151))
  (.o 18655 [w [233644530399045067,0]] (v456)))))
  (.m 26741 [w [56633202]] (w [56633202]) (.m 23091 [w [11224843839221006336,18159690408497535497,17251431112796943806,0]] (.vsl false 3 [u 11224843839221006336,u 18159690408497535497,u 17251431112796943806]) (.m 20920 [v457] (v457) (.o 20849 [w [12334973124784097795,4233453559939239903,207800006678,0]] (v150))
  (.o 21142 [v124] (v124)))
  (.m 25676 [w [7791533900303611049,2546863062074383501,16643002409318332171,0]] (v140) (.o 25300 [v155] (v155))
  (.o 26463 [w [9697743876229720706,13696713614337051836,10373886302566910,0]] (v146))))
  (.m 28965 [v458] (v458) (.m 27970 [v459] (v459) (.o 27435 [v460] (v460))
  (.o 28413 [v461] (v461)))
  (.m 29431 [v172] (v172) (.o 29007 [w [1844716628617461760,1007614697086846597,11101010765320348298,0]] (.vsl false 3 [u 1844716628617461760,u 1007614697086846597,u 11101010765320348298]))
  (.l)))))
  (.m 51079 [w [131157864828,0]] (v462) (.m 39707 [v173] (v173) (.m 35808 [w [297485455515141020,0]] (v463) (.m 31407 [w [27724]] (w [27724]) (.o 31212 [v168] (v168))
  (.o 33245 [v464] (v464)))
  (.m 37884 [w [12335241514720210847,4233453559939239903,207800006678,0]] (v127) (.o 37632 [w [10284866305095868446,12015622436964011398,3231308864769,0]] (v157))
  (.o 38983 [w [35300]] (w [35300]))))
  (.m 50407 [w [12334973124692332432,4233453559939239903,207800006678,0]] (v137) (.m 46583 [v465] (v465) (.o 40145 [w [103011146151,0]] (v466))
  (.o 50167 [v130] (v130)))
  (.m 50461 [v129] (v129) (.o 50426 [w [12334973124692332451,4233453559939239903,207800006678,0]] (v143))
  (.l))))
  (.m 61912 [w [72107633,0]] (.vsl false 1 [u 72107633]) (.m 53839 [v467] (v467) (.m 51521 [w [2268952195078553600,2225292095175613805,9319528729230993672,0]] (.vsl false 3 [u 2268952195078553600,u 2225292095175613805,u 9319528729230993672]) (.o 51080 [v125] (v125))
  (.o 51615 [v468] (v468)))
  (.m 57740 [w [165659417062993,0]] (v469) (.o 55043 [w [12838918112703152128,3946776841807804311,13088552075801813195,0]] (.vsl false 3 [u 12838918112703152128,u 3946776841807804311,u 13088552075801813195]))
  (.o 61624 [v133] (v133))))
  (.m 64276 [v470] (v470) (.m 62543 [v471] (v471) (.o 62198 [w [210924120762378,0]] (v472))
  (.o 62675 [v163] (v163)))
  (.m 65370 [v121] (v121) (.o 64277 [w [16593281996017185979,9718793280983461320,4385347745044,0]] (v179))
  (.l)))))]
def k18 : List (Nat × Ent) := [(166,e18_166)]
def e19_166 : Ent := [.m 33862 [w [15197768919213436928,17583780790489931693,0]] (.vsl false 2 [u 15197768919213436928,u 17583780790489931693]) (.m 16517 [w [14123288431433875456,18405850142534175504,11302342904179157498,0]] (.vsl false 3 [u 14123288431433875456,u 18405850142534175504,u 11302342904179157498]) (.m 3696 [w [13]] (w [13]) (.m 3400 [v218] (v218) (.m 1907 [.vsl false 3 [u 13015243156357325600,u 7538511876662970636,u 0]] (v199) (.o 9 [w [12339862978995159040,17228536335635472196,11996513686024055546,0]] (.vsl false 3 [u 12339862978995159040,u 17228536335635472196,u 11996513686024055546]))
  (.o 2986 [w [0,8835108314369495612,17006191672581595575,0]] (.vsl false 3 [u 0,u 8835108314369495612,u 17006191672581595575])))
  (.m 3688 [w [5]] (w [5]) (.o 3686 [w [3]] (w [3]))
  (.o 3691 [w [8]] (w [8]))))
  (.m 11501 [w [970776613945868288,11368678544236449129,0]] (.vsl false 2 [u 970776613945868288,u 11368678544236449129]) (.m 7082 [w [11356952360321548288,7783313707888672423,13187793561095057358,0]] (.vsl false 3 [u 11356952360321548288,u 7783313707888672423,u 13187793561095057358]) (.o 3711 [w [28]] (w [28]))
  (.o 7618 [v169] (v169)))
  (.m 13110 [w [15640009212910632960,16014815006916443935,0]] (.vsl false 2 [u 15640009212910632960,u 16014815006916443935]) (.o 11656 [v182] (v182))
  (.o 15785 [v193] (v193)))))
  (.m 28330 [v197] (v197) (.m 21706 [v122] (v122) (.m 20476 [v183] (v183) (.o 18733 [w [472877960873902080,814448518005480396,9350583480273640332,0]] (.vsl false 3 [u 472877960873902080,u 814448518005480396,u 9350583480273640332]))
  (.o 20938 [v202] (v202)))
  (.m 23579 [v215] (v215) (.o 22692 [w [10785629040996777984,13172645370857331653,0]] (.vsl false 2 [u 10785629040996777984,u 13172645370857331653]))
  (.o 27381 [w [2,0]] (v473))))
  (.m 31737 [w [11238732870103072768,7579701578387302324,10850147691026647275,0]] (.vsl false 3 [u 11238732870103072768,u 7579701578387302324,u 10850147691026647275]) (.m 30161 [v235] (v235) (.o 29586 [v226] (v226))
  (.o 30743 [w [17711531434541318144,1174896230113773888,9306433703304190498,0]] (.vsl false 3 [u 17711531434541318144,u 1174896230113773888,u 9306433703304190498])))
  (.m 32941 [v237] (v237) (.o 32458 [w [3583155636418637824,10441347311089658933,0]] (.vsl false 2 [u 3583155636418637824,u 10441347311089658933]))
  (.l)))))
  (.m 50889 [v214] (v214) (.m 48127 [w [0,14106034321146203965,9763226144908785530,0]] (.vsl false 3 [u 0,u 14106034321146203965,u 9763226144908785530]) (.m 40166 [v232] (v232) (.m 39215 [v196] (v196) (.o 38264 [v211] (v211))
  (.o 39398 [w [8358680908399640576,18056467237039850302,11106732509518368766,0]] (.vsl false 3 [u 8358680908399640576,u 18056467237039850302,u 11106732509518368766])))
  (.m 44963 [v142] (v142) (.o 42196 [v236] (v236))
  (.o 46678 [w [0,3720865016853442808,10081042468943901944,0]] (.vsl false 3 [u 0,u 3720865016853442808,u 10081042468943901944]))))
  (.m 49865 [w [4797307421845635072,15374078590843546352,0]] (.vsl false 2 [u 4797307421845635072,u 15374078590843546352]) (.m 49255 [v192] (v192) (.o 48708 [w [14166635577847316480,5066553084058110100,15900330483851719177,0]] (.vsl false 3 [u 14166635577847316480,u 5066553084058110100,u 15900330483851719177]))
  (.o 49824 [w [7583742239005099584,15077023753325941273,0]] (.vsl false 2 [u 7583742239005099584,u 15077023753325941273])))
  (.m 50691 [v219] (v219) (.o 50150 [v216] (v216))
  (.l))))
  (.m 58722 [v141] (v141) (.m 55393 [w [18162719663113123680,10170122369123725229,0]] (.vsl false 2 [u 18162719663113123680,u 10170122369123725229]) (.m 53883 [w [3882987350283990016,11402227223017380580,0]] (.vsl false 2 [u 3882987350283990016,u 11402227223017380580]) (.o 52144 [w [412619808249348096,16426460174755735550,0]] (.vsl false 2 [u 412619808249348096,u 16426460174755735550]))
  (.o 54689 [v233] (v233)))
  (.m 57532 [v225] (v225) (.o 55839 [w [237198879449415680,17427386112688013296,0]] (.vsl false 2 [u 237198879449415680,u 17427386112688013296]))
  (.o 57801 [v198] (v198))))
  (.m 60042 [w [0,3913761877927261332,12519065258290478849,0]] (.vsl false 3 [u 0,u 3913761877927261332,u 12519065258290478849]) (.m 59228 [v220] (v220) (.o 58735 [w [15735533299203055040,9813802768404432086,0]] (.vsl false 2 [u 15735533299203055040,u 9813802768404432086]))
  (.o 59534 [w [61777950649483264,18428312050620291042,0]] (.vsl false 2 [u 61777950649483264,u 18428312050620291042])))
  (.m 63863 [w [0,14571142448252884316,11023356453526773273,0]] (.vsl false 3 [u 0,u 14571142448252884316,u 11023356453526773273]) (.o 60953 [w [4738007701983281152,11017232062671543028,0]] (.vsl false 2 [u 4738007701983281152,u 11017232062671543028]))
  (.l)))))]
def k19 : List (Nat × Ent) := [(166,e19_166)]
def e20_166 : Ent := [.m 33990 [w [4611686018427387904,17336269101073600815,0]] (.vsl false 2 [u 4611686018427387904,u 17336269101073600815]) (.m 16435 [v204] (v204) (.m 5709 [.vsl false 2 [u 13187373152203648208,u 0]] (v210) (.m 3690 [w [7]] (w [7]) (.m 2868 [v194] (v194) (.o 32 [w [14943506513568727040,9893827737738231698,0]] (.vsl false 2 [u 14943506513568727040,u 9893827737738231698]))
  (.o 3438 [w [9734337097157836800,17436082704356927419,0]] (.vsl false 2 [u 9734337097157836800,u 17436082704356927419])))
  (.m 3713 [w [30]] (w [30]) (.o 3695 [w [12]] (w [12]))
  (.o 5013 [v190] (v190))))
  (.m 10389 [v212] (v212) (.m 8746 [v195] (v195) (.o 5715 [w [12497488965953126400,11268534671028796939,0]] (.vsl false 2 [u 12497488965953126400,u 11268534671028796939]))
  (.o 9887 [w [16170141476724932608,18025037011320239677,0]] (.vsl false 2 [u 16170141476724932608,u 18025037011320239677])))
  (.m 14624 [v187] (v187) (.o 10512 [v223] (v223))
  (.o 15639 [w [17434560057458032640,10742353828124194906,0]] (.vsl false 2 [u 17434560057458032640,u 10742353828124194906])))))
  (.m 23034 [v203] (v203) (.m 20403 [w [10895378848933740544,9440093503716414721,0]] (.vsl false 2 [u 10895378848933740544,u 9440093503716414721]) (.m 17870 [w [10170920712311668736,9653272518947191960,0]] (.vsl false 2 [u 10170920712311668736,u 9653272518947191960]) (.o 17115 [w [16342210537024651264,10837380677594917052,0]] (.vsl false 2 [u 16342210537024651264,u 10837380677594917052]))
  (.o 19558 [w [3179780214414639104,13905631098492831430,0]] (.vsl false 2 [u 3179780214414639104,u 13905631098492831430])))
  (.m 21501 [v186] (v186) (.o 21041 [w [3033398649406095360,10294026532234264082,0]] (.vsl false 2 [u 3033398649406095360,u 10294026532234264082]))
  (.o 22971 [v207] (v207))))
  (.m 29640 [v181] (v181) (.m 24739 [w [6696759187411566592,13513532468535040991,0]] (.vsl false 2 [u 6696759187411566592,u 13513532468535040991]) (.o 24228 [v234] (v234))
  (.o 27432 [w [53,0]] (.vsl false 1 [u 53])))
  (.m 31326 [v227] (v227) (.o 30178 [v208] (v208))
  (.l)))))
  (.m 50254 [w [11772440607409045504,15403779232809621585,0]] (.vsl false 2 [u 11772440607409045504,u 15403779232809621585]) (.m 42630 [v222] (v222) (.m 39317 [w [9223372036854775808,11078728008246849961,0]] (.vsl false 2 [u 9223372036854775808,u 11078728008246849961]) (.m 38684 [w [6681165357308182528,11178297391028018650,0]] (.vsl false 2 [u 6681165357308182528,u 11178297391028018650]) (.o 37385 [v191] (v191))
  (.o 38918 [v213] (v213)))
  (.m 40391 [v180] (v180) (.o 39616 [w [14230350215092633600,17213603914801121991,0]] (.vsl false 2 [u 14230350215092633600,u 17213603914801121991]))
  (.o 40922 [v185] (v185))))
  (.m 45755 [w [17203750576555294720,9231531100586457561,0]] (.vsl false 2 [u 17203750576555294720,u 9231531100586457561]) (.m 44607 [v201] (v201) (.o 43816 [w [11687620037014716416,14800285785064324001,0]] (.vsl false 2 [u 11687620037014716416,u 14800285785064324001]))
  (.o 44814 [w [14926855509477687296,10252064212593153945,0]] (.vsl false 2 [u 14926855509477687296,u 10252064212593153945])))
  (.m 47758 [v209] (v209) (.o 46405 [w [1478869527637786624,11590879918510158115,0]] (.vsl false 2 [u 1478869527637786624,u 11590879918510158115]))
  (.l))))
  (.m 59828 [w [12105675798371893248,16643848600558172692,0]] (.vsl false 2 [u 12105675798371893248,u 16643848600558172692]) (.m 53792 [w [4731843121569071104,14431734612967060196,0]] (.vsl false 2 [u 4731843121569071104,u 14431734612967060196]) (.m 52288 [v205] (v205) (.o 50909 [v184] (v184))
  (.o 52616 [w [2963368554809786368,13576417446175411330,0]] (.vsl false 2 [u 2963368554809786368,u 13576417446175411330])))
  (.m 58514 [w [15564440312192434176,18028689601589028937,0]] (.vsl false 2 [u 15564440312192434176,u 18028689601589028937]) (.o 54749 [v224] (v224))
  (.o 59497 [v231] (v231))))
  (.m 64371 [v238] (v238) (.m 61999 [w [17690139336311308288,16296028563538715021,0]] (.vsl false 2 [u 17690139336311308288,u 16296028563538715021]) (.o 61989 [v217] (v217))
  (.o 63631 [w [13401050922826596352,11985185074534321243,0]] (.vsl false 2 [u 13401050922826596352,u 11985185074534321243])))
  (.m 64938 [w [10463554701252100096,15363568191668081491,0]] (.vsl false 2 [u 10463554701252100096,u 15363568191668081491]) (.o 64915 [v206] (v206))
  (.l)))))]
def k20 : List (Nat × Ent) := [(166,e20_166)]
def e21_166 : Ent := [.m 39833 [v474] (v474) (.m 24735 [.vsl false 3 [u 13015730286681325600,u 7538511876662970636,u 0]] (v288) (.m 11856 [w [11649686336100630528,1174896230113776139,9306433703304190498,0]] (.vsl false 3 [u 11649686336100630528,u 1174896230113776139,u 9306433703304190498]) (.m 6259 [w [15756406246309101568,5066553084058109707,15900330483851719177,0]] (.vsl false 3 [u 15756406246309101568,u 5066553084058109707,u 15900330483851719177]) (.m 4960 [w [11725121629859086336,7579701578387321901,10850147691026647275,0]] (.vsl false 3 [u 11725121629859086336,u 7579701578387321901,u 10850147691026647275]) (.o 2071 [w [12334973124693332432,4233453559939239903,207800006678,0]] (v230))
  (.o 5101 [v200] (v200)))
  (.m 8522 [v241] (v241) (.o 7598 [w [18160500409669123680,10170122369123725229,0]] (.vsl false 2 [u 18160500409669123680,u 10170122369123725229]))
  (.o 10760 [v291] (v291))))
  (.m 18712 [v188] (v188) (.m 15426 [w [13882841968517464064,15374078590843546365,0]] (.vsl false 2 [u 13882841968517464064,u 15374078590843546365]) (.o 12973 [w [3607586338187990016,11402227223017380580,0]] (.vsl false 2 [u 3607586338187990016,u 11402227223017380580]))
  (.o 17277 [w [4115836061887885312,17583780790489931694,0]] (.vsl false 2 [u 4115836061887885312,u 17583780790489931694])))
  (.m 21753 [w [0,8835128572394995612,17006191672581595575,0]] (.vsl false 3 [u 0,u 8835128572394995612,u 17006191672581595575]) (.o 19333 [v274] (v274))
  (.o 23331 [v252] (v252)))))
  (.m 31903 [v229] (v229) (.m 29391 [v283] (v283) (.m 26530 [w [6355986449103323136,3946776841807804298,13088552075801813195,0]] (.vsl false 3 [u 6355986449103323136,u 3946776841807804298,u 13088552075801813195]) (.o 26041 [w [12075099737461882880,17427386112688013471,0]] (.vsl false 2 [u 12075099737461882880,u 17427386112688013471]))
  (.o 27565 [v276] (v276)))
  (.m 31524 [v221] (v221) (.o 29959 [w [7584716499653099584,15077023753325941273,0]] (.vsl false 2 [u 7584716499653099584,u 15077023753325941273]))
  (.o 31822 [v251] (v251))))
  (.m 38048 [v290] (v290) (.m 35870 [v247] (v247) (.o 35317 [v228] (v228))
  (.o 37887 [w [15915650714383155200,1007614697086846632,11101010765320348298,0]] (.vsl false 3 [u 15915650714383155200,u 1007614697086846632,u 11101010765320348298])))
  (.m 39024 [v293] (v293) (.o 38852 [v285] (v285))
  (.l)))))
  (.m 52075 [w [7156905903147450368,2225292095175613807,9319528729230993672,0]] (.vsl false 3 [u 7156905903147450368,u 2225292095175613807,u 9319528729230993672]) (.m 46799 [v287] (v287) (.m 42112 [w [0,3913761848623761332,12519065258290478849,0]] (.vsl false 3 [u 0,u 3913761848623761332,u 12519065258290478849]) (.m 41377 [w [0,3720797333816442808,10081042468943901944,0]] (.vsl false 3 [u 0,u 3720797333816442808,u 10081042468943901944]) (.o 40638 [w [8213439820416942080,7783313707888667136,13187793561095057358,0]] (.vsl false 3 [u 8213439820416942080,u 7783313707888667136,u 13187793561095057358]))
  (.o 41379 [v242] (v242)))
  (.m 46208 [v277] (v277) (.o 45643 [w [17969274552278056960,17047044360909728593,12591666748181446970,0]] (.vsl false 3 [u 17969274552278056960,u 17047044360909728593,u 12591666748181446970]))
  (.o 46554 [w [15475753052579381248,11017232062671542997,0]] (.vsl false 2 [u 15475753052579381248,u 11017232062671542997]))))
  (.m 48343 [w [4400016835940974592,814448518005380939,9350583480273640332,0]] (.vsl false 3 [u 4400016835940974592,u 814448518005380939,u 9350583480273640332]) (.m 48220 [v248] (v248) (.o 48189 [w [6198673228976189440,10441347311089658932,0]] (.vsl false 2 [u 6198673228976189440,u 10441347311089658932]))
  (.o 48281 [v189] (v189)))
  (.m 51862 [v257] (v257) (.o 49074 [w [15741920327387055040,9813802768404432086,0]] (.vsl false 2 [u 15741920327387055040,u 9813802768404432086]))
  (.l))))
  (.m 58709 [w [7205759403792793600,18405850142508138395,11302342904179157498,0]] (.vsl false 3 [u 7205759403792793600,u 18405850142508138395,u 11302342904179157498]) (.m 55541 [w [0,14571135656506384316,11023356453526773273,0]] (.vsl false 3 [u 0,u 14571135656506384316,u 11023356453526773273]) (.m 53916 [v246] (v246) (.o 53344 [w [12324355466997006336,18159690408497535497,17251431112796943806,0]] (.vsl false 3 [u 12324355466997006336,u 18159690408497535497,u 17251431112796943806]))
  (.o 54017 [v281] (v281)))
  (.m 57254 [v278] (v278) (.o 56161 [v279] (v279))
  (.o 57922 [w [3260606130216239104,17228536335636424467,11996513686024055546,0]] (.vsl false 3 [u 3260606130216239104,u 17228536335636424467,u 11996513686024055546]))))
  (.m 63394 [v260] (v260) (.m 59944 [v475] (v475) (.o 59799 [v243] (v243))
  (.o 62931 [v273] (v273)))
  (.m 65038 [w [0,14106035989779328965,9763226144908785530,0]] (.vsl false 3 [u 0,u 14106035989779328965,u 9763226144908785530]) (.o 64053 [w [10664523917613334528,18056467237471680380,11106732509518368766,0]] (.vsl false 3 [u 10664523917613334528,u 18056467237471680380,u 11106732509518368766]))
  (.l)))))]
def k21 : List (Nat × Ent) := [(166,e21_166)]
def e22_166 : Ent := [.m 28331 [w [1718649175949312000,18428312050620290096,0]] (.vsl false 2 [u 1718649175949312000,u 18428312050620290096]) (.m 10972 [w [2645539061497856000,11178297883971881383,0]] (.vsl false 2 [u 2645539061497856000,u 11178297883971881383]) (.m 3909 [w [0,16965753793252266150,0]] (.vsl false 2 [u 0,u 16965753793252266150]) (.m 2322 [w [233250396716400640,10192670649827743627,0]] (.vsl false 2 [u 233250396716400640,u 10192670649827743627]) (.m 779 [w [12330059253359312896,9440093446416117399,0]] (.vsl false 2 [u 12330059253359312896,u 9440093446416117399]) (.o 400 [w [317487679184830464,16014815006916425991,0]] (.vsl false 2 [u 317487679184830464,u 16014815006916425991]))
  (.o 1174 [v280] (v280)))
  (.m 3886 [w [203]] (w [203]) (.o 2865 [w [8621194257333485568,9693039545506826108,0]] (.vsl false 2 [u 8621194257333485568,u 9693039545506826108]))
  (.o 3903 [w [220]] (w [220]))))
  (.m 7608 [v268] (v268) (.m 6297 [v265] (v265) (.o 4347 [v286] (v286))
  (.o 7383 [w [0,12206170500211456516,0]] (.vsl false 2 [u 0,u 12206170500211456516])))
  (.m 9088 [v250] (v250) (.o 7949 [w [16981882600060616704,14431734612992264221,0]] (.vsl false 2 [u 16981882600060616704,u 14431734612992264221]))
  (.o 10098 [v255] (v255)))))
  (.m 17938 [v263] (v263) (.m 13410 [w [11014506165315829760,13515291039192229968,0]] (.vsl false 2 [u 11014506165315829760,u 13515291039192229968]) (.m 12419 [w [11468522734938488832,11368678544233914370,0]] (.vsl false 2 [u 11468522734938488832,u 11368678544233914370]) (.o 11872 [w [17961191492546461696,14789374870420697921,0]] (.vsl false 2 [u 17961191492546461696,u 14789374870420697921]))
  (.o 12582 [w [15491116080759308288,12803108058201168390,0]] (.vsl false 2 [u 15491116080759308288,u 12803108058201168390])))
  (.m 15849 [v292] (v292) (.o 13727 [v282] (v282))
  (.o 17538 [v253] (v253))))
  (.m 22664 [w [16483174636176015360,16066288109670292582,0]] (.vsl false 2 [u 16483174636176015360,u 16066288109670292582]) (.m 20199 [v258] (v258) (.o 17971 [v256] (v256))
  (.o 22150 [v254] (v254)))
  (.m 27483 [v261] (v261) (.o 24282 [w [10354908626832850944,10837380681912602572,0]] (.vsl false 2 [u 10354908626832850944,u 10837380681912602572]))
  (.l)))))
  (.m 46384 [v264] (v264) (.m 38910 [w [3984806225264902144,16426460174755736847,0]] (.vsl false 2 [u 3984806225264902144,u 16426460174755736847]) (.m 31121 [v262] (v262) (.m 30954 [w [8076854087968096256,12740349120272768810,0]] (.vsl false 2 [u 8076854087968096256,u 12740349120272768810]) (.o 28848 [w [0,11534419521678997204,0]] (.vsl false 2 [u 0,u 11534419521678997204]))
  (.o 31028 [v245] (v245)))
  (.m 36099 [v244] (v244) (.o 35460 [w [1669745983170281472,17212634756797404449,0]] (.vsl false 2 [u 1669745983170281472,u 17212634756797404449]))
  (.o 36106 [v259] (v259))))
  (.m 42341 [w [7135670743022436352,15403778017720706832,0]] (.vsl false 2 [u 7135670743022436352,u 15403778017720706832]) (.m 40498 [v272] (v272) (.o 40419 [w [14757558833656102912,13905635500446111867,0]] (.vsl false 2 [u 14757558833656102912,u 13905635500446111867]))
  (.o 41921 [v269] (v269)))
  (.m 44085 [v289] (v289) (.o 43630 [v249] (v249))
  (.l))))
  (.m 54931 [w [12811871569768873984,11985140138196759716,0]] (.vsl false 2 [u 12811871569768873984,u 11985140138196759716]) (.m 51993 [w [8286957565896556544,15988195338269360593,0]] (.vsl false 2 [u 8286957565896556544,u 15988195338269360593]) (.m 49507 [w [14767777337705496576,17436082703670918533,0]] (.vsl false 2 [u 14767777337705496576,u 17436082703670918533]) (.o 47524 [w [6673729032304984064,13172645370857947398,0]] (.vsl false 2 [u 6673729032304984064,u 13172645370857947398]))
  (.o 49616 [w [15565498111097831424,15363962897994817208,0]] (.vsl false 2 [u 15565498111097831424,u 15363962897994817208])))
  (.m 53107 [v239] (v239) (.o 52826 [w [15571532162191589376,18386816882371817179,0]] (.vsl false 2 [u 15571532162191589376,u 18386816882371817179]))
  (.o 53611 [v284] (v284))))
  (.m 63098 [v266] (v266) (.m 60278 [v270] (v270) (.o 56749 [v271] (v271))
  (.o 62719 [w [9223372036854775808,15775857969992063741,0]] (.vsl false 2 [u 9223372036854775808,u 15775857969992063741])))
  (.m 64347 [w [4611686018427387904,9329731425205906521,0]] (.vsl false 2 [u 4611686018427387904,u 9329731425205906521]) (.o 63466 [v267] (v267))
  (.l)))))]
def k22 : List (Nat × Ent) := [(166,e22_166)]
def e23_166 : Ent := [.m 27722 [w [0,9519166586081619268,0]] (.vsl false 2 [u 0,u 9519166586081619268]) (.m 10378 [.vsl false 2 [u 10748015656519348992,u 0]] (v240) (.o 5790 [v476] (v476))
  (.o 27382 [w [3,0]] (.vsl false 1 [u 3])))
  (.m 50096 [v294] (v294) (.o 29275 [v275] (v275))
  (.o 53902 [v477] (v477)))]
def e23_168 : Ent := [.m 41050 [v108,j 25] (.fsl true 1 6 [u 7110692860751511552,u 5320639355617400175,u 13585234931186431978,u 6795324093543867700,u 12620153505318756507,u 443036]) (.m 22969 [v131,j 25] (.fsl true 1 6 [u 1724369625577160704,u 2339832716179538193,u 7657415508031828385,u 14788068510671758026,u 7461633153,u 0]) (.m 14897 [v105,j 25] (.fsl true 1 7 [u 8406281154633662464,u 2235425584484690114,u 5981332626068707029,u 14959130339742757509,u 12679621652454572612,u 1956092753,u 0]) (.m 6613 [v175,j 25] (.fsl true 1 6 [u 8883194494074224640,u 13201006364291417347,u 7232853611785327603,u 2229690106426445809,u 2280233863615719,u 0]) (.m 3683 [v101,j 25] (.fsl true 1 4 [u 0,u 11927795063396681728,u 9860761315262647567,u 0]) (.o 1616 [v171,j 25] (.fsl true 1 6 [u 18142817310782521344,u 4147805408044501134,u 7526712121096550994,u 1202998022775101655,u 887178217124680923,u 0]))
  (.o 4456 [v173,j 25] (.fsl true 1 5 [u 7752426322667765760,u 15632870780578589574,u 15697521341219093275,u 112750109296181,u 0])))
  (.m 12867 [v117,j 25] (.fsl true 1 7 [u 3426439150935474176,u 15202319165333589271,u 961662443038402350,u 17227849641302665455,u 11405314466377704374,u 38053177558,u 0]) (.o 11864 [v179,j 25] (.fsl true 1 4 [u 2228431246499774464,u 18324286909209939548,u 18020644191483052077,u 7]))
  (.l)))
  (.m 19185 [v126,j 25] (.fsl true 1 6 [u 14375430188886392832,u 12275350774398292782,u 12188870864326132993,u 12185994483328493554,u 696788142335947021,u 0]) (.m 17347 [v104,j 25] (.fsl true 1 7 [u 15880683409941463040,u 10017566469570055620,u 3934778460740452842,u 14164402015779318837,u 18000252560640906040,u 29886895765,u 0]) (.o 15829 [v125,j 25] (.fsl true 1 5 [u 15915943131460141056,u 9547699532758007096,u 10276529627530192074,u 159021725453314130,u 0]))
  (.o 19155 [v129,j 40] (.fsl true 1 4 [u 2268952195078553600,u 2225292095175613805,u 9319528729230993672,u 0])))
  (.m 19681 [v129,j 42] (.fsl true 1 4 [u 9075808780314214400,u 8901168380702455220,u 384626769504871456,u 2]) (.o 19387 [v130,j 42] (.fsl true 1 4 [u 12838918112703152128,u 3946776841807804311,u 13088552075801813195,u 0]))
  (.l))))
  (.m 33702 [v109,j 25] (.fsl true 1 6 [u 2453480202106306560,u 12080057117262737545,u 15184931038105837294,u 6095673998529554255,u 4738122732372557394,u 31589142]) (.m 31024 [v136,j 25] (.fsl true 1 5 [u 5300210161783144448,u 5246289522778290469,u 6723403821619903347,u 124895371111326176,u 0]) (.m 26373 [v133,j 25] (.fsl true 1 5 [u 9284814543857385472,u 3622627546453420659,u 12366564571653529984,u 88553728764082,u 0]) (.o 23942 [v120,j 25] (.fsl true 1 4 [u 6178249241408831488,u 15207795346899047782,u 4473910412968349130,u 14820]))
  (.o 27918 [v135,j 25] (.fsl true 1 6 [u 11976221569845297152,u 12145343620715430166,u 14730689433170281702,u 12567261336356720209,u 9694886586292784103,u 3036])))
  (.m 31369 [v163,j 40] (.fsl true 1 4 [u 4002943604732461056,u 17872636743285519379,u 16056118151884335997,u 1]) (.o 31106 [v163,j 39] (.fsl true 1 4 [u 11224843839221006336,u 18159690408497535497,u 17251431112796943806,u 0]))
  (.l)))
  (.m 35379 [v121,j 45] (.fsl true 1 4 [u 14166635577847316480,u 5066553084058110100,u 15900330483851719177,u 0]) (.m 34652 [v152,j 40] (.fsl true 1 4 [u 866995704826953728,u 17047044360909728595,u 12591666748181446970,u 0]) (.o 33752 [v119,j 25] (.fsl true 1 6 [u 8307786870436134912,u 3127185099364055938,u 17312438459126886119,u 6375331926854179865,u 3610169631896,u 0]))
  (.l))
  (.m 39571 [v146,j 25] (.fsl true 1 4 [u 6440931234313928704,u 17116390089087068829,u 18248588387302516992,u 18869]) (.o 38784 [v140,j 25] (.fsl true 1 4 [u 11105319681047658496,u 17011507261016130093,u 474786086368227468,u 30273445]))
  (.l)))))
  (.m 54042 [v124,j 35] (.fsl true 1 4 [u 0,u 4982938468024057856,u 10097419586828951109,u 0]) (.m 48120 [v153,j 25] (.fsl true 1 6 [u 2697548217289015296,u 11632759207732469890,u 4061073950888794521,u 7617408173070224817,u 4596610738532,u 0]) (.m 44281 [v100,j 25] (.fsl true 1 7 [u 16249656466703646720,u 796517163575146895,u 11722284527024588458,u 1868629332525131833,u 3340938866375386749,u 1536311656,u 0]) (.m 43142 [v107,j 25] (.fsl true 1 7 [u 0,u 846940949099743232,u 2105567141335911181,u 4882141931604229243,u 16970758043593641104,u 123378975730,u 0]) (.o 42122 [v147,j 25] (.fsl true 1 6 [u 14710405957892964352,u 17746459796680209948,u 13030269557280576313,u 3298687608699460357,u 3505108809033201281,u 14]))
  (.o 44095 [v110,j 25] (.fsl true 1 6 [u 11011352548098441216,u 5219317920036019779,u 10504789516606349816,u 12331269571073008693,u 3653214721682114572,u 347960])))
  (.m 46903 [v151,j 25] (.fsl true 1 5 [u 11031152718814117888,u 10761748518470354771,u 8129632898315825754,u 38545347,u 0]) (.o 46460 [v139,j 25] (.fsl true 1 5 [u 6121215793213472768,u 14139088011910982324,u 4845672909088356724,u 14029894708047072763,u 9962576]))
  (.l)))
  (.m 50740 [v157,j 25] (.fsl true 1 4 [u 15234339709627924480,u 16414749944740410974,u 16191013205362704417,u 5]) (.m 48960 [v123,j 35] (.fsl true 1 4 [u 11077846281412935680,u 16885260529511499168,u 1063905807021767849,u 387]) (.o 48711 [v118,j 25] (.fsl true 1 6 [u 14498826077507420160,u 9557654551355407277,u 631988468857251742,u 7933559028398231049,u 1790891488600453,u 0]))
  (.o 50483 [v158,j 25] (.fsl true 1 5 [u 16244427459380903936,u 2685372470310325443,u 10862143130761914326,u 74025569278305405,u 11133])))
  (.m 53846 [v161,j 25] (.fsl true 1 6 [u 8150602462286315520,u 1619355102860120943,u 8883998512637902316,u 3273025442310717085,u 2671266036477265474,u 11]) (.o 52520 [v156,j 25] (.fsl true 1 5 [u 15221132939736645632,u 4730146650198428728,u 12367098002841022351,u 9047234889947444116,u 7824589]))
  (.l))))
  (.m 61482 [v168,j 25] (.fsl true 1 5 [u 12943327698725371904,u 11823849733112089796,u 1249560632357495009,u 70110822513,u 0]) (.m 55570 [v155,j 25] (.fsl true 1 5 [u 17627389783451893760,u 18219479909630110115,u 13482799355680592472,u 55064911235,u 0]) (.m 54584 [v162,j 25] (.fsl true 1 6 [u 13013022633703243776,u 12647802540320718537,u 11307271265362290182,u 17364582686622093246,u 5860352974,u 0]) (.o 54292 [v160,j 25] (.fsl true 1 5 [u 809862529739128832,u 5496716226583965379,u 16558063397112531041,u 15511956648763061479,u 8743]))
  (.o 55094 [v124,j 39] (.fsl true 1 4 [u 0,u 5940039193546719232,u 13984760799586804820,u 8])))
  (.m 57603 [v165,j 25] (.fsl true 1 6 [u 14455108446275502080,u 5167006856170969976,u 5728109610650553771,u 8343513065260878069,u 16262623839939756314,u 2384]) (.o 57068 [v112,j 25] (.fsl true 1 7 [u 1610787693136969728,u 8552011887104105272,u 1830592948732187588,u 8086467997178847327,u 17024595125433239533,u 96901620940,u 0]))
  (.l)))
  (.m 64961 [v172,j 45] (.fsl true 1 4 [u 14757733028939694080,u 8060917576694772776,u 15021109827724579920,u 4]) (.m 64172 [v172,j 42] (.fsl true 1 4 [u 1844716628617461760,u 1007614697086846597,u 11101010765320348298,u 0]) (.o 62634 [v111,j 25] (.fsl true 1 7 [u 17080393723616952320,u 14128138397664751531,u 3580545943548806556,u 1371423537845260142,u 1949659715267921401,u 40220545,u 0]))
  (.l))
  (.m 65484 [v154,j 25] (.fsl true 1 5 [u 6794032794893811712,u 12696856800288441471,u 897413122145590429,u 10426570503210959790,u 10]) (.o 65419 [v167,j 25] (.fsl true 1 5 [u 3758228231107379200,u 1456082395084489490,u 12171306551318638877,u 5495445895621940161,u 8]))
  (.l)))))]
def k23 : List (Nat × Ent) := [(166,e23_166),(168,e23_168)]
def e24_168 : Ent := [.m 32544 [v198,j 63] (.fsl true 1 4 [u 0,u 3720865016853442808,u 10081042468943901944,u 0]) (.m 15761 [v142,j 48] (.fsl true 1 4 [u 472877960873902080,u 814448518005480396,u 9350583480273640332,u 0]) (.m 4193 [v213,j 27] (.fsl true 1 3 [u 6681165357308182528,u 11178297391028018650,u 0]) (.m 1172 [v211,j 18] (.fsl true 1 3 [u 7219804630513876992,u 8719027806537120895,u 3]) (.m 808 [v196,j 13] (.fsl true 1 3 [u 61777950649483264,u 18428312050620291042,u 0]) (.o 646 [v211,j 16] (.fsl true 1 3 [u 15640009212910632960,u 16014815006916443935,u 0]))
  (.o 896 [v236,j 2] (.fsl true 1 3 [u 15735533299203055040,u 9813802768404432086,u 0])))
  (.m 1759 [v232,j 13] (.fsl true 1 3 [u 474397758898831360,u 16408028151666474976,u 1]) (.o 1496 [v232,j 12] (.fsl true 1 3 [u 237198879449415680,u 17427386112688013296,u 0]))
  (.o 1948 [v236,j 6] (.fsl true 1 3 [u 11960859829024709632,u 9446891704794500461,u 8]))))
  (.m 10641 [v214,j 6] (.fsl true 1 3 [u 3882987350283990016,u 11402227223017380580,u 0]) (.m 4456 [v213,j 28] (.fsl true 1 3 [u 13362330714616365056,u 3909850708346485684,u 1]) (.o 4265 [v237,j 50] (.fsl true 1 4 [u 12339862978995159040,u 17228536335635472196,u 11996513686024055546,u 0]))
  (.o 5054 [v237,j 53] (.fsl true 1 4 [u 6485183463413514240,u 8701082169116916261,u 3738389119644686295,u 5])))
  (.m 14967 [v233,j 8] (.fsl true 1 3 [u 3583155636418637824,u 10441347311089658933,u 0]) (.o 10904 [v214,j 7] (.fsl true 1 3 [u 7765974700567980032,u 4357710372325209544,u 1]))
  (.o 15493 [v233,j 10] (.fsl true 1 3 [u 14332622545674551296,u 4871901096939532500,u 2])))))
  (.m 22526 [v216,j 54] (.fsl true 1 4 [u 9799832789158199296,u 18364956211358799393,u 4157941734648763381,u 1]) (.m 18336 [v225,j 10] (.fsl true 1 3 [u 4797307421845635072,u 15374078590843546352,u 0]) (.m 16287 [v142,j 50] (.fsl true 1 4 [u 1891511843495608320,u 3257794072021921584,u 508845773675458096,u 2]) (.o 16238 [v198,j 1] (.fsl true 1 4 [u 14883460067413771232,u 3430681728356504544,u 2,u 0]))
  (.o 18089 [v205,j 29] (.fsl true 1 3 [u 3179780214414639104,u 13905631098492831430,u 0])))
  (.m 21631 [v192,j 54] (.fsl true 1 4 [u 8358680908399640576,u 18056467237039850302,u 11106732509518368766,u 0]) (.o 18574 [v199,j 1] (.fsl true 1 3 [u 7583742239005099584,u 15077023753325941273,u 0]))
  (.o 22263 [v216,j 53] (.fsl true 1 4 [u 14123288431433875456,u 18405850142534175504,u 11302342904179157498,u 0]))))
  (.m 29257 [v141,j 47] (.fsl true 1 4 [u 11238732870103072768,u 7579701578387302324,u 10850147691026647275,u 0]) (.m 24645 [v219,j 60] (.fsl true 1 4 [u 0,u 14106034321146203965,u 9763226144908785530,u 0]) (.o 22946 [v192,j 59] (.fsl true 1 4 [u 9223372036854775808,u 5957885300279109582,u 4927302904106319839,u 19]))
  (.o 24908 [v219,j 61] (.fsl true 1 4 [u 0,u 9765324568582856314,u 1079708216108019445,u 1])))
  (.m 29909 [v238,j 28] (.fsl true 1 3 [u 11772440607409045504,u 15403779232809621585,u 0]) (.o 29520 [v141,j 48] (.fsl true 1 4 [u 4030721666496593920,u 15159403156774604649,u 3253551308343742934,u 1]))
  (.l)))))
  (.m 49694 [v183,j 21] (.fsl true 1 3 [u 7766212911566946304,u 17162452059053386568,u 4]) (.m 43411 [v169,j 46] (.fsl true 1 4 [u 11356952360321548288,u 7783313707888672423,u 13187793561095057358,u 0]) (.m 33708 [v220,j 62] (.fsl true 1 4 [u 0,u 10695540822796217016,u 3599968833343994931,u 1]) (.m 33144 [v218,j 23] (.fsl true 1 3 [u 480628412566732800,u 2386706230739585937,u 3]) (.o 32618 [v218,j 21] (.fsl true 1 3 [u 4731843121569071104,u 14431734612967060196,u 0]))
  (.o 33445 [v220,j 61] (.fsl true 1 4 [u 0,u 14571142448252884316,u 11023356453526773273,u 0])))
  (.m 40922 [v212,j 26] (.fsl true 1 3 [u 10895378848933740544,u 9440093503716414721,u 0]) (.o 40085 [v182,j 18] (.fsl true 1 3 [u 10785629040996777984,u 13172645370857331653,u 0]))
  (.o 41185 [v212,j 27] (.fsl true 1 3 [u 3344013624157929472,u 433442933723277827,u 1]))))
  (.m 48905 [v183,j 18] (.fsl true 1 3 [u 970776613945868288,u 11368678544236449129,u 0]) (.m 46442 [v204,j 24] (.fsl true 1 3 [u 16342210537024651264,u 10837380677594917052,u 0]) (.o 43674 [v169,j 47] (.fsl true 1 4 [u 4267160646933544960,u 15566627415777344847,u 7928843048480563100,u 1]))
  (.o 46968 [v204,j 26] (.fsl true 1 3 [u 10028609926969950208,u 6456034562960564979,u 2])))
  (.m 49378 [v215,j 8] (.fsl true 1 3 [u 11948793764717322240,u 16720817507270311771,u 1]) (.o 49115 [v215,j 7] (.fsl true 1 3 [u 15197768919213436928,u 17583780790489931693,u 0]))
  (.l))))
  (.m 55911 [v226,j 10] (.fsl true 1 3 [u 4738007701983281152,u 11017232062671543028,u 0]) (.m 54382 [v235,j 2] (.fsl true 1 3 [u 17878695252516695744,u 1893500664537898843,u 1]) (.m 53041 [v203,j 24] (.fsl true 1 3 [u 1021930120606121984,u 16425421335004303223,u 1]) (.o 52778 [v203,j 23] (.fsl true 1 3 [u 9734337097157836800,u 17436082704356927419,u 0]))
  (.o 54119 [v235,j 1] (.fsl true 1 3 [u 18162719663113123680,u 10170122369123725229,u 0])))
  (.m 55260 [v193,j 60] (.fsl true 1 4 [u 0,u 7827523755854522664,u 6591386442871406082,u 1]) (.o 54997 [v193,j 59] (.fsl true 1 4 [u 0,u 3913761877927261332,u 12519065258290478849,u 0]))
  (.o 55444 [v197,j 13] (.fsl true 1 3 [u 412619808249348096,u 16426460174755735550,u 0]))))
  (.m 57499 [v122,j 46] (.fsl true 1 4 [u 16976318795373084672,u 2349792460227547777,u 166123332898829380,u 1]) (.m 56437 [v226,j 12] (.fsl true 1 3 [u 505286734223572992,u 7175440103267068881,u 2]) (.o 56233 [v197,j 16] (.fsl true 1 3 [u 3300958465994784768,u 2284472882079023088,u 7]))
  (.o 57236 [v122,j 45] (.fsl true 1 4 [u 17711531434541318144,u 1174896230113773888,u 9306433703304190498,u 0])))
  (.m 61202 [v202,j 63] (.fsl true 1 4 [u 0,u 17670216628738991224,u 15565639271453639534,u 1]) (.o 60939 [v202,j 62] (.fsl true 1 4 [u 0,u 8835108314369495612,u 17006191672581595575,u 0]))
  (.l)))))]
def k24 : List (Nat × Ent) := [(168,e24_168)]
def e25_168 : Ent := [.m 24026 [v281,j 45] (.fsl true 1 4 [u 11649686336100630528,u 1174896230113776139,u 9306433703304190498,u 0]) (.m 11986 [v201,j 35] (.fsl true 1 3 [u 10170920712311668736,u 9653272518947191960,u 0]) (.m 3748 [v228,j 39] (.fsl true 1 4 [u 11077846281412935680,u 16885260529511499168,u 1063905807021767849,u 387]) (.m 2016 [v181,j 54] (.fsl true 1 3 [u 12393906174523604992,u 1241019992342858863,u 7]) (.m 334 [v229,j 39] (.fsl true 1 4 [u 0,u 4982938468024057856,u 10097419586828951109,u 0]) (.o 218 [v221,j 40] (.fsl true 1 4 [u 6201966860284461056,u 17872636743285519379,u 16056118151884335997,u 1]))
  (.o 1227 [v181,j 51] (.fsl true 1 3 [u 17690139336311308288,u 16296028563538715021,u 0])))
  (.m 2650 [v227,j 50] (.fsl true 1 3 [u 13096467716393402368,u 8180650536696084526,u 2]) (.o 2124 [v227,j 48] (.fsl true 1 3 [u 12497488965953126400,u 11268534671028796939,u 0]))
  (.o 2817 [v208,j 55] (.fsl true 1 3 [u 15564440312192434176,u 18028689601589028937,u 0]))))
  (.m 10813 [v191,j 58] (.fsl true 1 3 [u 9223372036854775808,u 11078728008246849961,u 0]) (.m 9387 [v285,j 47] (.fsl true 1 4 [u 16426879640833884160,u 15566627415777334272,u 7928843048480563100,u 1]) (.o 9124 [v285,j 46] (.fsl true 1 4 [u 8213439820416942080,u 7783313707888667136,u 13187793561095057358,u 0]))
  (.o 10668 [v185,j 44] (.fsl true 1 3 [u 17434560057458032640,u 10742353828124194906,u 0])))
  (.m 11715 [v180,j 50] (.fsl true 1 3 [u 17203750576555294720,u 9231531100586457561,u 0]) (.o 10931 [v185,j 45] (.fsl true 1 3 [u 16422376041206513664,u 3037963582538838197,u 1]))
  (.o 11978 [v180,j 51] (.fsl true 1 3 [u 15960757079401037824,u 16318127463363507,u 1])))))
  (.m 17501 [v189,j 42] (.fsl true 1 4 [u 10180879538880249856,u 8901168380702455229,u 384626769504871456,u 2]) (.m 13492 [v242,j 53] (.fsl true 1 4 [u 7638104968020361216,u 8701082169124534425,u 3738389119644686295,u 5]) (.m 12639 [v222,j 45] (.fsl true 1 3 [u 1478869527637786624,u 11590879918510158115,u 0]) (.o 12249 [v201,j 36] (.fsl true 1 3 [u 1895097350913785856,u 859800964184832305,u 1]))
  (.o 12703 [v242,j 50] (.fsl true 1 4 [u 3260606130216239104,u 17228536335636424467,u 11996513686024055546,u 0])))
  (.m 15663 [v209,j 37] (.fsl true 1 3 [u 6066797298812190720,u 2141308990758976548,u 1]) (.o 15400 [v209,j 36] (.fsl true 1 3 [u 3033398649406095360,u 10294026532234264082,u 0]))
  (.o 16975 [v189,j 40] (.fsl true 1 4 [u 7156905903147450368,u 2225292095175613807,u 9319528729230993672,u 0]))))
  (.m 20655 [v184,j 44] (.fsl true 1 3 [u 16490774460547203072,u 14471405549918548793,u 17]) (.m 18615 [v205,j 31] (.fsl true 1 3 [u 12719120857658556416,u 282292172842670872,u 3]) (.o 17809 [v230,j 35] (.fsl true 1 4 [u 11146565758148935680,u 16885260529511499168,u 1063905807021767849,u 387]))
  (.o 19340 [v184,j 39] (.fsl true 1 3 [u 14926855509477687296,u 10252064212593153945,u 0])))
  (.m 21871 [v257,j 45] (.fsl true 1 4 [u 16644741272807931904,u 8060917576694773062,u 15021109827724579920,u 4]) (.o 21082 [v257,j 42] (.fsl true 1 4 [u 15915650714383155200,u 1007614697086846632,u 11101010765320348298,u 0]))
  (.l)))))
  (.m 43962 [v190,j 58] (.fsl true 1 3 [u 4611686018427387904,u 4023580288498520229,u 7]) (.m 31505 [v206,j 32] (.fsl true 1 3 [u 8355357771943641088,u 5523626075359090871,u 1]) (.m 30295 [v231,j 48] (.fsl true 1 3 [u 2963368554809786368,u 13576417446175411330,u 0]) (.m 26029 [v246,j 53] (.fsl true 1 4 [u 7205759403792793600,u 18405850142508138395,u 11302342904179157498,u 0]) (.o 24289 [v281,j 46] (.fsl true 1 4 [u 4852628598491709440,u 2349792460227552279,u 166123332898829380,u 1]))
  (.o 30172 [v238,j 29] (.fsl true 1 3 [u 5098137141108539392,u 12360814391909691555,u 1])))
  (.m 30597 [v243,j 48] (.fsl true 1 4 [u 5003499186008621056,u 15159403156774643803,u 3253551308343742934,u 1]) (.o 30334 [v243,j 47] (.fsl true 1 4 [u 11725121629859086336,u 7579701578387321901,u 10850147691026647275,u 0]))
  (.o 31242 [v206,j 31] (.fsl true 1 3 [u 13401050922826596352,u 11985185074534321243,u 0]))))
  (.m 39842 [v200,j 42] (.fsl true 1 4 [u 6355986449103323136,u 3946776841807804298,u 13088552075801813195,u 0]) (.m 34979 [v194,j 32] (.fsl true 1 3 [u 10463554701252100096,u 15363568191668081491,u 0]) (.o 33403 [v260,j 45] (.fsl true 1 4 [u 15756406246309101568,u 5066553084058109707,u 15900330483851719177,u 0]))
  (.o 35242 [v194,j 33] (.fsl true 1 3 [u 2480365328794648576,u 12280392309626611367,u 1])))
  (.m 43173 [v190,j 55] (.fsl true 1 3 [u 12105675798371893248,u 16643848600558172692,u 0]) (.o 41120 [v195,j 33] (.fsl true 1 3 [u 14230350215092633600,u 17213603914801121991,u 0]))
  (.l))))
  (.m 54401 [v186,j 35] (.fsl true 1 3 [u 8340292675936714752,u 17160641726721060733,u 2]) (.m 46831 [v223,j 48] (.fsl true 1 3 [u 8867587666292506624,u 5363645607067647126,u 4]) (.m 45367 [v241,j 50] (.fsl true 1 4 [u 17600067343763898368,u 3257794072021523756,u 508845773675458096,u 2]) (.o 44841 [v241,j 48] (.fsl true 1 4 [u 4400016835940974592,u 814448518005380939,u 9350583480273640332,u 0]))
  (.o 46042 [v223,j 45] (.fsl true 1 3 [u 14943506513568727040,u 9893827737738231698,u 0])))
  (.m 52927 [v188,j 40] (.fsl true 1 4 [u 17969274552278056960,u 17047044360909728593,u 12591666748181446970,u 0]) (.o 47524 [v187,j 35] (.fsl true 1 3 [u 11687620037014716416,u 14800285785064324001,u 0]))
  (.o 53875 [v186,j 33] (.fsl true 1 3 [u 6696759187411566592,u 13513532468535040991,u 0]))))
  (.m 61131 [v207,j 55] (.fsl true 1 3 [u 9223372036854775808,u 16225794128437650014,u 1]) (.m 58180 [v234,j 39] (.fsl true 1 3 [u 9340333685771075584,u 16759915824152303863,u 3]) (.o 57654 [v234,j 37] (.fsl true 1 3 [u 16170141476724932608,u 18025037011320239677,u 0]))
  (.o 60868 [v207,j 54] (.fsl true 1 3 [u 4611686018427387904,u 17336269101073600815,u 0])))
  (.m 65476 [v221,j 39] (.fsl true 1 4 [u 12324355466997006336,u 18159690408497535497,u 17251431112796943806,u 0]) (.o 65462 [v276,j 54] (.fsl true 1 4 [u 10664523917613334528,u 18056467237471680380,u 11106732509518368766,u 0]))
  (.l)))))]
def k25 : List (Nat × Ent) := [(168,e25_168)]
def e26_168 : Ent := [.m 45575 [v282,j 31] (.fsl true 1 3 [u 12811871569768873984,u 11985140138196759716,u 0]) (.m 24128 [v271,j 35] (.fsl true 1 3 [u 8621194257333485568,u 9693039545506826108,u 0]) (.m 9024 [v248,j 10] (.fsl true 1 3 [u 13882841968517464064,u 15374078590843546365,u 0]) (.m 7722 [v269,j 29] (.fsl true 1 3 [u 14757558833656102912,u 13905635500446111867,u 0]) (.m 5236 [v287,j 1] (.fsl true 1 4 [u 14883189335265771232,u 3430681728356504544,u 2,u 0]) (.o 1256 [v276,j 59] (.fsl true 1 4 [u 9223372036854775808,u 5957885314097672082,u 4927302904106319839,u 19]))
  (.o 7538 [v277,j 12] (.fsl true 1 3 [u 12075099737461882880,u 17427386112688013471,u 0])))
  (.m 8140 [v272,j 36] (.fsl true 1 3 [u 233250396716400640,u 10192670649827743627,u 0]) (.o 7801 [v277,j 13] (.fsl true 1 3 [u 5703455401214214144,u 16408028151666475327,u 1]))
  (.o 8248 [v269,j 31] (.fsl true 1 3 [u 3690003113495756800,u 282309780655792623,u 3]))))
  (.m 14861 [v279,j 2] (.fsl true 1 3 [u 15741920327387055040,u 9813802768404432086,u 0]) (.m 12265 [v290,j 61] (.fsl true 1 4 [u 0,u 14571135656506384316,u 11023356453526773273,u 0]) (.o 9292 [v264,j 18] (.fsl true 1 3 [u 6673729032304984064,u 13172645370857947398,u 0]))
  (.o 12528 [v290,j 62] (.fsl true 1 4 [u 0,u 10695527239303217016,u 3599968833343994931,u 1])))
  (.m 18847 [v278,j 13] (.fsl true 1 3 [u 1718649175949312000,u 18428312050620290096,u 0]) (.o 15913 [v279,j 6] (.fsl true 1 3 [u 12063052279968709632,u 9446891704794500461,u 8]))
  (.o 21542 [v287,j 63] (.fsl true 1 4 [u 0,u 3720797333816442808,u 10081042468943901944,u 0])))))
  (.m 36622 [v273,j 59] (.fsl true 1 4 [u 0,u 3913761848623761332,u 12519065258290478849,u 0]) (.m 27952 [v267,j 24] (.fsl true 1 3 [u 10354908626832850944,u 10837380681912602572,u 0]) (.m 24764 [v270,j 24] (.fsl true 1 3 [u 11088810601701441536,u 16425421333632285451,u 1]) (.o 24501 [v270,j 23] (.fsl true 1 3 [u 14767777337705496576,u 17436082703670918533,u 0]))
  (.o 26292 [v246,j 54] (.fsl true 1 4 [u 14411518807585587200,u 18364956211306725174,u 4157941734648763381,u 1])))
  (.m 28478 [v267,j 26] (.fsl true 1 3 [u 4526146359912300544,u 6456034580231307058,u 2]) (.o 28288 [v280,j 13] (.fsl true 1 3 [u 3984806225264902144,u 16426460174755736847,u 0]))
  (.o 29077 [v280,j 16] (.fsl true 1 3 [u 13431705728409665536,u 2284472882079033465,u 7]))))
  (.m 38930 [v268,j 29] (.fsl true 1 3 [u 14271341486044872704,u 12360811961731862048,u 1]) (.m 37247 [v286,j 35] (.fsl true 1 3 [u 17961191492546461696,u 14789374870420697921,u 0]) (.o 36885 [v273,j 60] (.fsl true 1 4 [u 0,u 7827523697247522664,u 6591386442871406082,u 1]))
  (.o 38667 [v268,j 28] (.fsl true 1 3 [u 7135670743022436352,u 15403778017720706832,u 0])))
  (.m 42472 [v255,j 33] (.fsl true 1 3 [u 1669745983170281472,u 17212634756797404449,u 0]) (.o 41402 [v288,j 1] (.fsl true 1 3 [u 7584716499653099584,u 15077023753325941273,u 0]))
  (.l)))))
  (.m 53209 [v254,j 28] (.fsl true 1 3 [u 5291078122995712000,u 3909851694234211150,u 1]) (.m 48867 [v252,j 7] (.fsl true 1 3 [u 4115836061887885312,u 17583780790489931694,u 0]) (.m 47960 [v292,j 32] (.fsl true 1 3 [u 15565498111097831424,u 15363962897994817208,u 0]) (.m 45841 [v263,j 16] (.fsl true 1 3 [u 317487679184830464,u 16014815006916425991,u 0]) (.o 45838 [v282,j 32] (.fsl true 1 3 [u 7176999065828196352,u 5523536202683967817,u 1]))
  (.o 46367 [v263,j 18] (.fsl true 1 3 [u 1269950716739321856,u 8719027806537049116,u 3])))
  (.m 48223 [v292,j 33] (.fsl true 1 3 [u 12684252148486111232,u 12281181722280082801,u 1]) (.o 48071 [v253,j 26] (.fsl true 1 3 [u 12330059253359312896,u 9440093446416117399,u 0]))
  (.o 48334 [v253,j 27] (.fsl true 1 3 [u 6213374433009074176,u 433442819122683183,u 1]))))
  (.m 50871 [v256,j 35] (.fsl true 1 3 [u 7164536513844215808,u 17167676009349816642,u 2]) (.m 50345 [v256,j 33] (.fsl true 1 3 [u 11014506165315829760,u 13515291039192229968,u 0]) (.o 49130 [v252,j 8] (.fsl true 1 3 [u 8231672123775770624,u 16720817507270311772,u 1]))
  (.o 50761 [v291,j 62] (.fsl true 1 4 [u 0,u 8835128572394995612,u 17006191672581595575,u 0])))
  (.m 52946 [v254,j 27] (.fsl true 1 3 [u 2645539061497856000,u 11178297883971881383,u 0]) (.o 51024 [v291,j 63] (.fsl true 1 4 [u 0,u 17670257144789991224,u 15565639271453639534,u 1]))
  (.l))))
  (.m 59071 [v274,j 61] (.fsl true 1 4 [u 0,u 9765327905849106314,u 1079708216108019445,u 1]) (.m 56701 [v261,j 21] (.fsl true 1 3 [u 17961205584669704192,u 17162452059033108500,u 4]) (.m 55912 [v261,j 18] (.fsl true 1 3 [u 11468522734938488832,u 11368678544233914370,u 0]) (.o 55716 [v283,j 10] (.fsl true 1 3 [u 15475753052579381248,u 11017232062671542997,u 0]))
  (.o 56242 [v283,j 12] (.fsl true 1 3 [u 6562779989188870144,u 7175440103267068759,u 2])))
  (.m 57358 [v251,j 7] (.fsl true 1 3 [u 7215172676375980032,u 4357710372325209544,u 1]) (.o 57095 [v251,j 6] (.fsl true 1 3 [u 3607586338187990016,u 11402227223017380580,u 0]))
  (.o 58808 [v274,j 60] (.fsl true 1 4 [u 0,u 14106035989779328965,u 9763226144908785530,u 0]))))
  (.m 62195 [v247,j 10] (.fsl true 1 3 [u 6347948842195206144,u 4871901096939532497,u 2]) (.m 60865 [v262,j 23] (.fsl true 1 3 [u 12587298179113811968,u 2386706230840402039,u 3]) (.o 60339 [v262,j 21] (.fsl true 1 3 [u 16981882600060616704,u 14431734612992264221,u 0]))
  (.o 61669 [v247,j 8] (.fsl true 1 3 [u 6198673228976189440,u 10441347311089658932,u 0])))
  (.m 63245 [v293,j 2] (.fsl true 1 3 [u 17874256745628695744,u 1893500664537898843,u 1]) (.o 62982 [v293,j 1] (.fsl true 1 3 [u 18160500409669123680,u 10170122369123725229,u 0]))
  (.l)))))]
def k26 : List (Nat × Ent) := [(168,e26_168)]
def e27_168 : Ent := [.m 27302 [v284,j 59] (.fsl true 1 3 [u 9223372036854775808,u 15775857969992063741,u 0]) (.m 10586 [v259,j 62] (.fsl true 1 3 [u 0,u 12206170500211456516,u 0]) (.m 7423 [v244,j 50] (.fsl true 1 3 [u 16483174636176015360,u 16066288109670292582,u 0]) (.m 4719 [v245,j 59] (.fsl true 1 3 [u 0,u 425437553404522853,u 2]) (.o 4193 [v245,j 57] (.fsl true 1 3 [u 4611686018427387904,u 9329731425205906521,u 0]))
  (.l))
  (.m 9264 [v244,j 57] (.fsl true 1 3 [u 6917529027641081856,u 8896285856037221234,u 111]) (.o 8403 [v272,j 37] (.fsl true 1 3 [u 466500793432801280,u 1938597225945935638,u 1]))
  (.l)))
  (.m 18039 [v289,j 60] (.fsl true 1 3 [u 0,u 11534419521678997204,u 0]) (.m 12324 [v249,j 40] (.fsl true 1 3 [u 13891792855275405312,u 17967326543007676126,u 7]) (.o 11535 [v249,j 37] (.fsl true 1 3 [u 15571532162191589376,u 18386816882371817179,u 0]))
  (.l))
  (.m 24391 [v271,j 36] (.fsl true 1 3 [u 17242388514666971136,u 939335017304100600,u 1]) (.o 18302 [v289,j 61] (.fsl true 1 3 [u 0,u 4622094969648442792,u 1]))
  (.l))))
  (.m 43303 [v250,j 40] (.fsl true 1 3 [u 8286957565896556544,u 15988195338269360593,u 0]) (.m 32318 [v266,j 42] (.fsl true 1 3 [u 8076854087968096256,u 12740349120272768810,u 0]) (.m 27587 [v239,j 62] (.fsl true 1 3 [u 0,u 9519166586081619268,u 0]) (.o 27565 [v284,j 60] (.fsl true 1 3 [u 0,u 13104971866274575867,u 1]))
  (.l))
  (.m 41038 [v265,j 42] (.fsl true 1 3 [u 15491116080759308288,u 12803108058201168390,u 0]) (.o 34422 [v266,j 50] (.fsl true 1 3 [u 1639310264362860544,u 14902417816947731056,u 176]))
  (.l)))
  (.m 60200 [v258,j 62] (.fsl true 1 3 [u 0,u 15484763512794980684,u 1]) (.m 59937 [v258,j 61] (.fsl true 1 3 [u 0,u 16965753793252266150,u 0]) (.o 43829 [v250,j 42] (.fsl true 1 3 [u 14701086189876674560,u 8612549131948787525,u 3]))
  (.l))
  (.o 63227 [v275,j 39] (.fsl true 1 4 [u 11146565758148935680,u 16885260529511499168,u 1063905807021767849,u 387]))))]
def e27_172 : Ent := [.m 28892 [v28] (j 8) (.m 28696 [v12] (j 2) (.m 28694 [v18] (j 2) (.m 28693 [v14] (j 1) (.o 28692 [v15] (j 0))
  (.l))
  (.o 28695 [v17] (j 2)))
  (.m 28702 [v23] (j 3) (.m 28700 [v19] (j 3) (.o 28697 [v21] (j 3))
  (.l))
  (.o 28869 [v11] (j 8))))
  (.m 29399 [v32] (j 10) (.m 29044 [v29] (j 8) (.m 28975 [v26] (j 9) (.o 28942 [v27] (j 8))
  (.l))
  (.o 29192 [v25] (j 9)))
  (.m 32533 [v60] (j 25) (.m 30104 [v30] (j 10) (.o 29692 [v31] (j 10))
  (.l))
  (.o 63062 [v45] (j 21)))),
  .m 28696 [v34] (j 3) (.m 28694 [v35] (j 2) (.o 28692 [v37] (j 1))
  (.l))
  (.o 28700 [v39] (j 4))]
def e27_187 : Ent := [.m 41587 [v2,v5] (.agg [v2,v5]) (.m 34640 [v478,v479] (.agg [v478,v479]) (.m 24930 [v480,v480] (.agg [v480,v480]) (.o 10560 [v481,v482] (.agg [v481,v482]))
  (.o 28098 [v483,v480] (.agg [v483,v480])))
  (.m 41326 [v1,v6] (.agg [v1,v6]) (.o 41062 [v0,v1] (v591))
  (.o 41451 [v484,v485] (.agg [v484,v485]))))
  (.m 53922 [v38,v1] (v592) (.m 41855 [v22,v22] (.agg [v22,v22]) (.o 41590 [v6,v5] (.agg [v6,v5]))
  (.o 42643 [v5,v40] (v593)))
  (.m 56785 [v24,v40] (.agg [v24,v40]) (.o 54962 [v13,v5] (v594))
  (.l)))]
def e27_219 : Ent := [.o 2147 [v0] (v595)]
def k27 : List (Nat × Ent) := [(168,e27_168),(172,e27_172),(187,e27_187),(219,e27_219)]
def e28_219 : Ent := [.m 2151 [v22] (.agg [v22,v22]) (.m 2148 [v1] (.agg [v1,v1]) (.o 2146 [v2] (.agg [v2,v2]))
  (.o 2149 [v6] (.agg [v6,v6])))
  (.m 15264 [v36] (.agg [v36,v36]) (.o 15007 [v38] (.agg [v38,v38]))
  (.l))]
def e28_231 : Ent := [.o 24078 [.flt .f32 1051372203] (.bool true)]
def e28_238 : Ent := [.o 7 [] (.vmap [v2,v486,v487,v488,v480,.str [50,47,51],.str [51,47,52],.str [53,47,54]] [v0,v480,v2,.str [45,49,47,50],v38,.str [45,49,47,50],v2,v480])]
def e28_246 : Ent := [.m 6739 [.flt .f64 4710765210229538816] (.bool false) (.o 178 [.flt .f64 4712266410284285952] (.bool false))
  (.l)]
def e28_252 : Ent := [.m 6739 [.flt .f64 4710765210229538816] (.flt .f64 4710765210229538816) (.o 178 [.flt .f64 4712266410284285952] (.flt .f64 4712266410284285952))
  (.l)]
def k28 : List (Nat × Ent) := [(219,e28_219),(231,e28_231),(238,e28_238),(246,e28_246),(252,e28_252)]
def l1_129 : Ent := e4_129
def l1_69 : Ent := e0_69
def l1_147 : Ent := e4_147
def l1_150 : Ent := e4_150
def l1_219 : Ent := e27_219 ++ (e28_219)
def l1_29 : Ent := e0_29
def l1_158 : Ent := e4_158 ++ (e5_158 ++ (e6_158 ++ (e7_158)))
def l1_99 : Ent := e0_99
def l1_163 : Ent := e7_163 ++ (e8_163)
def l1_100 : Ent := e0_100 ++ (e1_100 ++ (e2_100))
def l1_164 : Ent := e8_164 ++ (e9_164 ++ (e10_164 ++ (e11_164)))
def l1_101 : Ent := e2_101
def l1_165 : Ent := e11_165 ++ (e12_165 ++ (e13_165 ++ (e14_165 ++ (e15_165))))
def l1_166 : Ent := e15_166 ++ (e16_166 ++ (e17_166 ++ (e18_166 ++ (e19_166 ++ (e20_166 ++ (e21_166 ++ (e22_166 ++ (e23_166))))))))
def l1_231 : Ent := e28_231
def l1_168 : Ent := e23_168 ++ (e24_168 ++ (e25_168 ++ (e26_168 ++ (e27_168))))
def l1_172 : Ent := e27_172
def l1_238 : Ent := e28_238
def l1_118 : Ent := e2_118 ++ (e3_118)
def l1_246 : Ent := e28_246
def l1_119 : Ent := e3_119
def l1_59 : Ent := e0_59
def l1_187 : Ent := e27_187
def l1_252 : Ent := e28_252
def l1_124 : Ent := e3_124
def l1_125 : Ent := e3_125 ++ (e4_125)
def t1 : Tr Ent := (.n 158 l1_158 (.n 118 l1_118 (.n 99 l1_99 (.n 59 l1_59 (.n 29 l1_29 .l .l) (.n 69 l1_69 .l .l)) (.n 101 l1_101 (.n 100 l1_100 .l .l) .l)) (.n 129 l1_129 (.n 124 l1_124 (.n 119 l1_119 .l .l) (.n 125 l1_125 .l .l)) (.n 150 l1_150 (.n 147 l1_147 .l .l) .l))) (.n 187 l1_187 (.n 166 l1_166 (.n 164 l1_164 (.n 163 l1_163 .l .l) (.n 165 l1_165 .l .l)) (.n 172 l1_172 (.n 168 l1_168 .l .l) .l)) (.n 238 l1_238 (.n 231 l1_231 (.n 219 l1_219 .l .l) .l) (.n 252 l1_252 (.n 246 l1_246 .l .l) .l))))
def e29_28 : Ent := [.m 46512 [.vsl false 2 [v570,v573],.vsl true 2 [v570,v573]] (.bool true) (.o 13824 [.vsl false 2 [v572,v571],.vsl true 2 [v572,v571]] (.bool true))
  (.l)]
def e29_46 : Ent := [.m 12653 [v489] (v4) (.m 5362 [v61] (v22) (.m 5359 [v62] (v36) (.m 5358 [v8] (v0) (.o 5357 [v9] (v2))
  (.l))
  (.m 5361 [v72] (v13) (.o 5360 [v66] (v6))
  (.l)))
  (.m 9006 [v490] (v480) (.m 5367 [v67] (v24) (.o 5365 [v68] (v40))
  (.l))
  (.m 10861 [v491] (v485) (.o 9013 [v492] (v493))
  (.l))))
  (.m 30898 [v494] (.str [53,47,56]) (.m 21602 [v495] (v496) (.m 16302 [v497] (v487) (.o 12655 [v498] (v3))
  (.l))
  (.m 30894 [v499] (v483) (.o 23598 [v500] (v486))
  (.l)))
  (.m 57349 [v501] (v484) (.m 47466 [v502] (v482) (.o 46761 [v503] (v478))
  (.l))
  (.m 62288 [v504] (v481) (.o 62113 [v505] (v479))
  (.l)))),
  .m 5361 [v65] (v5) (.o 5359 [v7] (v1))
  (.l)]
def e29_49 : Ent := [.m 36734 [v61,v8] (v61) (.m 36471 [v61,v9] (v9) (.m 36468 [v7,v63] (v62) (.m 36466 [v63,v63] (v8) (.o 35174 [v7,.agg [j 1000000,.nils,j 1,.nils]] (v64))
  (.o 36467 [v8,v63] (v63)))
  (.m 36470 [v65,v9] (v9) (.o 36469 [v66,v9] (v9))
  (.l)))
  (.m 36731 [v7,v8] (v7) (.m 36730 [v8,v8] (v8) (.o 36472 [v69,v9] (v9))
  (.l))
  (.m 36733 [v65,v8] (v65) (.o 36732 [v66,v8] (v66))
  (.l))))
  (.m 37256 [v8,v66] (v66) (.m 36993 [v8,v62] (v62) (.m 36740 [v71,v8] (v71) (.o 36735 [v73,v8] (v73))
  (.o 36992 [v63,v7] (v62)))
  (.m 36995 [v66,v62] (v67) (.o 36994 [v7,v7] (v65))
  (.l)))
  (.m 37519 [v8,v72] (v72) (.m 37518 [v63,v72] (v66) (.o 37257 [v7,v66] (v73))
  (.l))
  (.m 37523 [v61,v72] (v70) (.o 37520 [v7,v72] (v67))
  (.l)))),
  .m 36992 [v9,v62] (v9) (.m 36467 [v8,v9] (v9) (.o 36466 [v9,v9] (v9))
  (.o 36468 [v7,v9] (v9)))
  (.m 37518 [v63,v65] (v69) (.o 36994 [v7,v62] (v69))
  (.o 37520 [v7,v65] (v68))),
  .o 36468 [v62,v9] (v9)]
def k29 : List (Nat × Ent) := [(28,e29_28),(46,e29_46),(49,e29_49)]
def e30_49 : Ent := [.m 36733 [v72,v8] (v72) (.o 36729 [v9,v8] (v9))
  (.o 37255 [v9,v66] (v9))]
def e30_71 : Ent := [.m 36996 [v65,v62] (j 1) (.m 35726 [v490,v497] (j 1) (.m 20635 [v506,v490] (j (-1)) (.m 14979 [v497,v499] (j 1) (.m 7683 [v490,v499] (j 1) (.o 1891 [v507,v508] (j 1))
  (.l))
  (.o 16987 [v490,v490] (j 0)))
  (.m 24283 [v497,v490] (j (-1)) (.o 20636 [v509,v490] (j 1))
  (.o 28996 [v507,v510] (j (-1)))))
  (.m 36733 [v65,v8] (j 1) (.m 36730 [v8,v8] (j 0) (.o 36466 [v63,v63] (j 0))
  (.o 36731 [v62,v8] (j (-1))))
  (.m 36993 [v8,v7] (j (-1)) (.o 36992 [v63,v7] (j (-1)))
  (.o 36994 [v62,v62] (j 0)))))
  (.m 38050 [v73,v73] (j 0) (.m 37263 [v68,v66] (j 1) (.m 37258 [v66,v66] (j 0) (.m 37257 [v7,v66] (j (-1)) (.o 37256 [v8,v66] (j (-1)))
  (.l))
  (.o 37261 [v69,v66] (j (-1))))
  (.m 37521 [v66,v65] (j (-1)) (.o 37265 [v67,v66] (j (-1)))
  (.o 37522 [v72,v65] (j (-1)))))
  (.m 38879 [v494,v490] (j 1) (.m 38574 [v65,v68] (j (-1)) (.o 38054 [v67,v69] (j (-1)))
  (.o 38875 [v499,v490] (j (-1))))
  (.m 57614 [v499,v497] (j (-1)) (.o 39104 [v68,v67] (j 1))
  (.o 57616 [v511,v497] (j 1))))),
  .m 37522 [v65,v65] (j 0) (.o 36994 [v7,v7] (j 0))
  (.l)]
def e30_73 : Ent := [.o 5358 [v8] (v8)]
def e30_74 : Ent := [.m 37259 [v72,v66] (v9) (.m 36729 [v9,v8] (v8) (.m 36468 [v7,v9] (v7) (.m 36467 [v8,v9] (v8) (.o 36466 [v9,v9] (v9))
  (.l))
  (.m 36471 [v61,v9] (v61) (.o 36469 [v66,v9] (v66))
  (.l)))
  (.m 36995 [v66,v7] (v61) (.m 36994 [v7,v62] (v9) (.o 36992 [v9,v7] (v7))
  (.l))
  (.o 37255 [v9,v66] (v66))))
  (.m 38048 [v65,v69] (v9) (.m 37521 [v66,v72] (v9) (.m 37519 [v8,v65] (v61) (.o 37518 [v9,v65] (v65))
  (.l))
  (.o 38044 [v63,v73] (v61)))
  (.m 39102 [v73,v67] (v9) (.m 39100 [v65,v67] (v62) (.o 38049 [v61,v69] (v8))
  (.l))
  (.o 43841 [v71,v70] (v69))))]
def e30_86 : Ent := [.o 15007 [v38] (j 0)]
def k30 : List (Nat × Ent) := [(49,e30_49),(71,e30_71),(73,e30_73),(74,e30_74),(86,e30_86)]
def e31_86 : Ent := [.m 2151 [v22] (j 0) (.m 2148 [v1] (j 0) (.m 2147 [v0] (j 0) (.o 2146 [v2] (j 0))
  (.l))
  (.m 2150 [v5] (j 0) (.o 2149 [v6] (j 0))
  (.l)))
  (.m 15011 [v84] (j 0) (.m 2154 [v40] (j 0) (.o 2152 [.str [54]] (j 0))
  (.l))
  (.m 15572 [v85] (j 0) (.o 15521 [v13] (j 0))
  (.l)))]
def e31_102 : Ent := [.m 7277 [v512] (v513) (.m 5359 [v62] (v7) (.m 5358 [v8] (v63) (.o 5357 [v9] (v9))
  (.l))
  (.m 5361 [v72] (v66) (.o 5360 [v66] (v72))
  (.l)))
  (.m 30896 [v511] (v514) (.m 16302 [v497] (v515) (.o 9005 [v516] (v490))
  (.l))
  (.m 51597 [v517] (v518) (.o 30898 [v494] (v519))
  (.l))),
  .m 5359 [v7] (v62) (.o 5357 [v63] (v8))
  (.l)]
def e31_130 : Ent := [.m 39511 [v14,v20] (v14) (.m 38463 [v21,v18] (v14) (.m 38459 [v14,v18] (v14) (.m 26622 [v14,v33] (v14) (.o 7341 [v16,v33] (v14))
  (.o 38458 [v15,v18] (v18)))
  (.m 38462 [v34,v18] (v18) (.o 38460 [v18,v18] (v18))
  (.l)))
  (.m 38984 [v15,v34] (v34) (.m 38722 [v14,v17] (v14) (.o 38721 [v15,v17] (v17))
  (.o 38723 [v18,v17] (v14)))
  (.m 38986 [v18,v34] (v18) (.o 38985 [v14,v34] (v14))
  (.l))))
  (.m 40041 [v21,v39] (v14) (.m 40037 [v14,v39] (v14) (.m 39555 [v32,v31] (v14) (.o 39516 [v20,v20] (v20))
  (.o 39556 [v78,v31] (v34)))
  (.m 40039 [v17,v39] (v14) (.o 40038 [v18,v39] (v18))
  (.l)))
  (.m 42142 [v18,v53] (v18) (.m 40263 [v82,v31] (v21) (.o 40262 [v74,v31] (v18))
  (.o 42140 [v15,v53] (v53)))
  (.m 46401 [v33,v17] (v14) (.o 42299 [v60,v18] (v14))
  (.l))))]
def e31_137 : Ent := [.m 57211 [v116,w [8]] (.tup [v391,w [4]]) (.o 56159 [v116,w [4]] (.tup [v113,v390]))
  (.l)]
def k31 : List (Nat × Ent) := [(86,e31_86),(102,e31_102),(130,e31_130),(137,e31_137)]
def e32_137 : Ent := [.m 30536 [v100,v101] (.tup [v106,v400]) (.m 18758 [v102,w [2]] (.tup [v95,w [1]]) (.m 3602 [v104,v101] (.tup [v114,v418]) (.o 1152 [v105,v101] (.tup [v398,v399]))
  (.o 12267 [v106,w [30]] (.tup [v88,w [18]])))
  (.m 29397 [v107,v101] (.tup [v408,v390]) (.o 19957 [v109,v101] (.tup [v115,v410]))
  (.l)))
  (.m 43323 [v112,v101] (.tup [v102,v405]) (.m 40769 [v113,w [2]] (.tup [v391,w [1]]) (.o 30814 [v114,w [12]] (.tup [v404,w [6]]))
  (.l))
  (.m 64643 [v117,v101] (.tup [v414,v421]) (.o 48889 [v111,v101] (.tup [v417,v416]))
  (.l)))]
def k32 : List (Nat × Ent) := [(137,e32_137)]
def e33_137 : Ent := [.m 40101 [v161,v101] (.tup [v144,v407]) (.m 27305 [v108,v101] (.tup [v406,v397]) (.m 14173 [v135,v101] (.tup [v419,v411]) (.o 5440 [v126,v101] (.tup [v148,v442]))
  (.o 24970 [v144,w [182]] (.tup [v89,w [123]])))
  (.m 30350 [v110,v101] (.tup [v178,v422]) (.o 28377 [v147,v101] (.tup [v420,v415]))
  (.l)))
  (.m 53392 [v171,v101] (.tup [v445,v451]) (.m 47816 [v115,w [56]] (.tup [v412,w [4]]) (.o 43858 [v165,v101] (.tup [v170,v403]))
  (.l))
  (.m 64212 [v178,w [90]] (.tup [v99,w [11]]) (.o 55582 [v170,w [132]] (.tup [v409,w [50]]))
  (.l)))]
def k33 : List (Nat × Ent) := [(137,e33_137)]
def e34_137 : Ent := [.m 38775 [v156,v101] (.tup [v174,v429]) (.m 34328 [v148,w [240]] (.tup [v450,w [213]]) (.m 20007 [v119,v101] (.tup [v176,v427]) (.o 9224 [v131,v101] (.tup [v434,v436]))
  (.o 32715 [v139,v101] (.tup [v446,v447])))
  (.m 34966 [v118,v101] (.tup [v166,v435]) (.o 34375 [v153,v101] (.tup [v440,v444]))
  (.l)))
  (.m 57803 [v176,w [380]] (.tup [v424,w [160]]) (.m 44239 [v166,w [306]] (.tup [v98,w [109]]) (.o 40839 [v162,v101] (.tup [v177,v426]))
  (.l))
  (.m 61149 [v177,w [462]] (.tup [v87,w [109]]) (.o 58389 [v175,v101] (.tup [v430,v438]))
  (.l)))]
def k34 : List (Nat × Ent) := [(137,e34_137)]
def e35_137 : Ent := [.m 40547 [v160,v101] (.tup [v134,v439]) (.m 17279 [v136,v101] (.tup [v456,v458]) (.m 12258 [v134,w [650]] (.tup [v97,w [138]]) (.o 2084 [v125,v101] (.tup [v463,v455]))
  (.o 12628 [v133,v101] (.tup [v469,v454])))
  (.m 38681 [v159,w [756]] (.tup [v448,w [10]]) (.o 36738 [v158,v101] (.tup [v449,v441]))
  (.l)))
  (.m 51739 [v154,v101] (.tup [v443,v432]) (.m 51674 [v167,v101] (.tup [v159,v431]) (.o 47737 [v168,v101] (.tup [v462,v461]))
  (.l))
  (.m 63154 [v174,w [552]] (.tup [v437,w [265]]) (.o 56232 [v173,v101] (.tup [v472,v452]))
  (.l)))]
def k35 : List (Nat × Ent) := [(137,e35_137)]
def e36_137 : Ent := [.m 34597 [v152,v129] (.tup [w [1],v130]) (.m 25039 [v140,v101] (.tup [w [56633202],v459]) (.m 7299 [v129,v130] (.tup [w [2],v172]) (.o 5280 [v123,v124] (.tup [w [707],v163]))
  (.o 10197 [v120,v101] (.tup [w [27724],v468])))
  (.m 33158 [v151,v101] (.tup [.vsl false 1 [u 72107633],v457]) (.o 25826 [v146,v101] (.tup [w [35300],v470]))
  (.l)))
  (.m 44723 [v163,v152] (.tup [w [2],v129]) (.m 41825 [v155,v101] (.tup [v466,v453]) (.o 36995 [v157,v101] (.tup [w [10],v471]))
  (.l))
  (.m 63640 [v179,v101] (.tup [w [14],v465]) (.o 57055 [v124,v163] (.tup [w [9],v152]))
  (.l)))]
def k36 : List (Nat × Ent) := [(137,e36_137)]
def e37_137 : Ent := [.m 50829 [v237,v216] (.tup [w [8],v192]) (.m 29216 [v216,v192] (.tup [w [2],v193]) (.m 6359 [v121,v122] (.tup [w [1],v169]) (.o 5525 [v192,v193] (.tup [w [28],v219]))
  (.o 22849 [v141,v142] (.tup [w [2],v237])))
  (.m 44914 [v193,v219] (.tup [w [2],v220]) (.o 31816 [v219,v220] (.tup [w [1],v202]))
  (.l)))
  (.m 57201 [v130,v172] (.tup [w [1],v121]) (.m 53398 [v172,v121] (.tup [w [5],v122]) (.o 52228 [v169,v141] (.tup [w [2],v142]))
  (.l))
  (.m 57833 [v142,v237] (.tup [w [3],v216]) (.o 57769 [v122,v169] (.tup [w [1],v141]))
  (.l)))]
def k37 : List (Nat × Ent) := [(137,e37_137)]
def e38_137 : Ent := [.m 52819 [v235,v236] (.tup [w [2],v214]) (.m 39810 [v225,v226] (.tup [w [1],v232]) (.m 19888 [v202,v198] (.tup [w [3],v199]) (.o 15909 [v198,v199] (.tup [v473,v235]))
  (.o 25830 [v214,v215] (.tup [w [1],v233])))
  (.m 48413 [v233,v225] (.tup [w [2],v226]) (.o 42522 [v226,v232] (.tup [w [2],v196]))
  (.l)))
  (.m 60317 [v220,v202] (.tup [w [1],v198]) (.m 57878 [v236,v214] (.tup [w [13],v215]) (.o 55846 [v215,v233] (.tup [w [3],v225]))
  (.l))
  (.m 65073 [v232,v196] (.tup [w [1],v197]) (.o 62598 [v199,v235] (.tup [w [1],v236]))
  (.l)))]
def k38 : List (Nat × Ent) := [(137,e38_137)]
def e39_137 : Ent := [.m 31569 [v218,v203] (.tup [w [3],v204]) (.m 22281 [v182,v183] (.tup [w [1],v218]) (.m 19212 [v203,v204] (.tup [w [3],v212]) (.o 18770 [v196,v197] (.tup [w [1],v211]))
  (.o 22111 [v205,v206] (.tup [w [4],v194])))
  (.m 22706 [v212,v213] (.tup [w [1],v238]) (.o 22464 [v211,v182] (.tup [w [4],v183]))
  (.l)))
  (.m 61062 [v183,v218] (.tup [w [6],v203]) (.m 60540 [v204,v212] (.tup [w [4],v213]) (.o 54864 [v238,v205] (.tup [w [2],v206]))
  (.l))
  (.m 65208 [v197,v211] (.tup [w [8],v182]) (.o 62232 [v213,v238] (.tup [w [1],v205]))
  (.l)))]
def k39 : List (Nat × Ent) := [(137,e39_137)]
def e40_137 : Ent := [.m 31106 [v206,v194] (.tup [w [1],v195]) (.m 16165 [v187,v201] (.tup [w [1],v209]) (.m 589 [v184,v185] (.tup [w [30],v222]) (.o 33 [v186,v187] (.tup [w [3],v201]))
  (.o 7990 [v194,v195] (.tup [w [1],v186])))
  (.m 26862 [v195,v186] (.tup [w [1],v187]) (.o 23088 [v201,v209] (.tup [w [1],v234]))
  (.l)))
  (.m 53563 [v222,v223] (.tup [w [1],v231]) (.m 46680 [v185,v222] (.tup [w [1],v223]) (.o 45170 [v234,v184] (.tup [w [7],v185]))
  (.l))
  (.m 62384 [v223,v231] (.tup [w [5],v227]) (.o 62344 [v209,v234] (.tup [w [1],v184]))
  (.l)))]
def k40 : List (Nat × Ent) := [(137,e40_137)]
def e41_137 : Ent := [.m 36336 [v208,v190] (.tup [w [1],v191]) (.m 22475 [v191,v210] (.tup [.vsl false 1 [u 53],v217]) (.m 7277 [v190,v191] (.tup [w [12],v210]) (.o 4241 [v123,w [16]] (.tup [v228,v390]))
  (.o 9323 [v124,w [16]] (.tup [v229,v390])))
  (.m 34071 [v210,v217] (.tup [w [1],v224]) (.o 29903 [v207,v208] (.tup [w [1],v190]))
  (.l)))
  (.m 40748 [v231,v227] (.tup [w [1],v180]) (.m 37916 [v227,v180] (.tup [w [4],v181]) (.o 36871 [v180,v181] (.tup [w [1],v207]))
  (.l))
  (.m 44515 [v217,v224] (.tup [w [3],v474]) (.o 41240 [v181,v207] (.tup [w [7],v208]))
  (.l)))]
def k41 : List (Nat × Ent) := [(137,e41_137)]
def e42_137 : Ent := [.m 37277 [v228,v229] (.tup [w [707],v475]) (.m 14598 [v200,v257] (.tup [w [1],v260]) (.m 6009 [v243,v241] (.tup [w [2],v242]) (.o 3700 [v188,v189] (.tup [w [1],v200]))
  (.o 12062 [v189,v200] (.tup [w [2],v257])))
  (.m 36864 [v221,v188] (.tup [w [2],v189]) (.o 14788 [v257,v260] (.tup [w [5],v281]))
  (.l)))
  (.m 48976 [v281,v285] (.tup [w [1],v243]) (.m 39650 [v230,v124] (.tup [w [707],v221]) (.o 39108 [v285,v243] (.tup [w [2],v241]))
  (.l))
  (.m 54467 [v124,v221] (.tup [w [9],v188]) (.o 49967 [v260,v281] (.tup [w [1],v285]))
  (.l)))]
def k42 : List (Nat × Ent) := [(137,e42_137)]
def e43_137 : Ent := [.m 48684 [v290,v291] (.tup [w [1],v287]) (.m 35031 [v273,v274] (.tup [w [2],v290]) (.m 12872 [v241,v242] (.tup [w [3],v246]) (.o 1389 [v242,v246] (.tup [w [8],v276]))
  (.o 28839 [v246,v276] (.tup [w [2],v273])))
  (.m 46260 [v287,v288] (.tup [v473,v293]) (.o 36818 [v279,v251] (.tup [w [13],v252]))
  (.l)))
  (.m 64924 [v274,v290] (.tup [w [1],v291]) (.m 64629 [v291,v287] (.tup [w [3],v288]) (.o 57639 [v288,v293] (.tup [w [1],v279]))
  (.l))
  (.m 65301 [v293,v279] (.tup [w [2],v251]) (.o 65285 [v276,v273] (.tup [w [28],v274]))
  (.l)))]
def k43 : List (Nat × Ent) := [(137,e43_137)]
def e44_137 : Ent := [.m 32339 [v277,v278] (.tup [w [1],v280]) (.m 20340 [v261,v262] (.tup [w [6],v270]) (.m 7060 [v251,v252] (.tup [w [1],v247]) (.o 4815 [v247,v248] (.tup [w [2],v283]))
  (.o 20276 [v252,v247] (.tup [w [3],v248])))
  (.m 28183 [v263,v264] (.tup [w [4],v261]) (.o 26312 [v262,v270] (.tup [w [3],v267]))
  (.l)))
  (.m 58869 [v283,v277] (.tup [w [2],v278]) (.m 44734 [v248,v283] (.tup [w [1],v277]) (.o 36570 [v278,v280] (.tup [w [1],v263]))
  (.l))
  (.m 65262 [v264,v261] (.tup [w [1],v262]) (.o 65036 [v280,v263] (.tup [w [8],v264]))
  (.l)))]
def k44 : List (Nat × Ent) := [(137,e44_137)]
def e45_137 : Ent := [.m 45534 [v256,v286] (.tup [w [3],v271]) (.m 23462 [v268,v269] (.tup [w [2],v282]) (.m 17118 [v255,v256] (.tup [w [1],v286]) (.o 9778 [v253,v254] (.tup [w [1],v268]))
  (.o 22128 [v267,v253] (.tup [w [4],v254])))
  (.m 42140 [v270,v267] (.tup [w [3],v253]) (.o 25959 [v271,v272] (.tup [w [1],v249]))
  (.l)))
  (.m 52350 [v282,v292] (.tup [w [1],v255]) (.m 48942 [v292,v255] (.tup [w [1],v256]) (.o 46626 [v269,v282] (.tup [w [4],v292]))
  (.l))
  (.m 55583 [v254,v268] (.tup [w [1],v269]) (.o 54226 [v286,v271] (.tup [w [1],v272]))
  (.l)))]
def k45 : List (Nat × Ent) := [(137,e45_137)]
def e46_137 : Ent := [.m 41865 [v245,v284] (.tup [w [2],v289]) (.m 21245 [v239,v240] (.tup [.vsl false 1 [u 3],v294]) (.m 7656 [v249,v250] (.tup [w [9],v265]) (.o 4497 [v244,v245] (.tup [w [220],v284]))
  (.o 13691 [v258,v259] (.tup [w [2],v239])))
  (.m 25333 [v250,v265] (.tup [w [4],v266]) (.o 22417 [v265,v266] (.tup [w [1],v244]))
  (.l)))
  (.m 47380 [v289,v258] (.tup [w [1],v259]) (.m 47172 [v272,v249] (.tup [w [1],v250]) (.o 45433 [v259,v239] (.tup [w [1],v240]))
  (.l))
  (.m 54749 [v266,v244] (.tup [w [203],v245]) (.o 48908 [v284,v289] (.tup [w [2],v258]))
  (.l)))]
def k46 : List (Nat × Ent) := [(137,e46_137)]
def e47_137 : Ent := [.m 38611 [v230,w [16]] (.tup [v275,v390]) (.o 31235 [v275,v229] (.tup [w [707],v477]))
  (.o 55889 [v240,v294] (.tup [w [1],v476]))]
def e47_144 : Ent := [.m 37835 [v101,v391] (v107) (.m 28342 [w [1000000000000000000],v393] (v101) (.m 16592 [v408,v391] (v112) (.o 2043 [v394,w [2]] (v116))
  (.l))
  (.o 36213 [w [10000000000000000],w [10000000000000000]] (v393)))
  (.m 55370 [v116,w [1]] (v116) (.m 44970 [v392,w [1000000000000000]] (v395) (.o 41698 [w [314159265358979323],w [1000000000000000000]] (v396))
  (.l))
  (.o 63528 [v95,v391] (v117)))]
def k47 : List (Nat × Ent) := [(137,e47_137),(144,e47_144)]
def e48_144 : Ent := [.m 41641 [v412,v391] (v108) (.m 32637 [v406,v391] (v110) (.m 28288 [v414,v391] (v104) (.o 7291 [v99,v391] (v135))
  (.o 29621 [v404,v391] (v105)))
  (.m 37979 [v417,v391] (v109) (.o 37323 [v409,v391] (v147))
  (.l)))
  (.m 56225 [v88,v391] (v111) (.m 50787 [v398,v391] (v100) (.o 48230 [v89,v391] (v171))
  (.l))
  (.m 62505 [v420,v391] (v161) (.o 57358 [v419,v391] (v165))
  (.l)))]
def k48 : List (Nat × Ent) := [(144,e48_144)]
def e49_144 : Ent := [.m 38139 [v97,v391] (v154) (.m 23929 [v437,v391] (v158) (.m 13892 [v87,v391] (v139) (.o 8311 [v434,v391] (v162))
  (.o 22807 [v440,v391] (v119)))
  (.m 32089 [v445,v391] (v126) (.o 27130 [v424,v391] (v131))
  (.l)))
  (.m 58130 [v98,v391] (v153) (.m 47065 [v449,v391] (v160) (.o 45317 [v446,v391] (v156))
  (.l))
  (.m 61893 [v450,v391] (v175) (.o 61561 [v430,v391] (v118))
  (.l)))]
def k49 : List (Nat × Ent) := [(144,e49_144)]
def e50_144 : Ent := [.m 37403 [w [210924120762378],v391] (v133) (.m 21990 [w [378770245945430644],v391] (v125) (.m 11013 [w [297485455515141020],v391] (v136) (.o 2603 [w [19],v391] (v179))
  (.o 17953 [w [91810290],v391] (v151)))
  (.m 37117 [w [72107633],v391] (v140) (.o 26284 [w [131157864828],v391] (v155))
  (.l)))
  (.m 44357 [w [166995380103],v391] (v168) (.m 39319 [v443,v391] (v167) (.o 37884 [w [35300],v391] (v120))
  (.l))
  (.m 61392 [v128,v391] (v173) (.o 47530 [w [44946],v391] (v146))
  (.l)))]
def k50 : List (Nat × Ent) := [(144,e50_144)]
def e51_144 : Ent := [.m 48759 [w [1000000000000000],v393] (v124) (.o 2598 [w [14],v391] (v157))
  (.l)]
def e51_148 : Ent := [.m 38984 [v15,v34] (v15) (.m 38458 [v15,v18] (v15) (.m 38197 [v18,v14] (v18) (.m 18915 [v16,v14] (v16) (.m 18179 [v332,.agg [j 1122,.nils]] (v96) (.o 1584 [v311,.agg [j 992,.nils]] (v312))
  (.l))
  (.m 38196 [v14,v14] (v14) (.o 38195 [v37,v14] (v37))
  (.l)))
  (.m 38200 [v21,v14] (v21) (.m 38199 [v34,v14] (v34) (.o 38198 [v17,v14] (v17))
  (.l))
  (.m 38203 [v39,v14] (v39) (.o 38201 [v20,v14] (v20))
  (.l))))
  (.m 38721 [v15,v17] (v15) (.m 38464 [v20,v18] (v17) (.m 38462 [v34,v18] (v18) (.o 38460 [v18,v18] (v14))
  (.l))
  (.m 38474 [v53,v18] (v39) (.o 38466 [v39,v18] (v34))
  (.l)))
  (.m 38749 [v55,v17] (v19) (.m 38727 [v20,v17] (v18) (.o 38724 [v17,v17] (v14))
  (.l))
  (.o 38902 [v32,v14] (v32)))))
  (.m 40247 [v31,v21] (v28) (.m 39458 [v31,v18] (v25) (.m 39006 [v83,v34] (v12) (.m 38992 [v39,v34] (v18) (.o 38988 [v34,v34] (v14))
  (.l))
  (.m 39195 [v31,v14] (v31) (.o 39016 [v52,v34] (v39))
  (.l)))
  (.m 39692 [v78,v34] (v11) (.m 39607 [v30,v14] (v30) (.o 39516 [v20,v20] (v14))
  (.l))
  (.m 39984 [v31,v34] (v27) (.o 39872 [v74,v18] (v32))
  (.l))))
  (.m 42308 [v353,.agg [j 1406,.nils]] (v86) (.m 42036 [v60,v14] (v60) (.m 40662 [v82,v21] (v26) (.o 40398 [v81,v34] (v29))
  (.l))
  (.m 42156 [v53,v53] (v14) (.o 42140 [v15,v53] (v15))
  (.l)))
  (.m 61455 [v356,.agg [j 870,.nils]] (v91) (.m 55096 [v43,.agg [j 1560,.nils]] (v15) (.o 45875 [v33,v14] (v33))
  (.l))
  (.o 64765 [v357,.agg [j 1260,.nils]] (v358))))),
  .m 38199 [v12,v14] (v12) (.o 38197 [v35,v14] (v35))
  (.o 38460 [v35,v18] (v37))]
def e51_149 : Ent := [.m 39727 [v64] (v45) (.o 9013 [v492] (v12))
  (.l)]
def k51 : List (Nat × Ent) := [(144,e51_144),(148,e51_148),(149,e51_149)]
def e52_149 : Ent := [.m 20333 [v520] (v90) (.m 12846 [v521] (v94) (.o 5357 [v9] (v15))
  (.o 16302 [v497] (v15)))
  (.m 30894 [v499] (v15) (.o 23598 [v500] (v15))
  (.o 30897 [v514] (v37)))]
def e52_151 : Ent := [.m 28869 [v11] (.bool false) (.m 28696 [v12] (.bool false) (.m 28694 [v18] (.bool false) (.m 28693 [v14] (.bool false) (.o 28692 [v15] (.bool false))
  (.l))
  (.o 28695 [v17] (.bool false)))
  (.m 28700 [v19] (.bool false) (.o 28697 [v21] (.bool false))
  (.o 28702 [v23] (.bool false))))
  (.m 29192 [v25] (.bool false) (.m 28975 [v26] (.bool false) (.m 28942 [v27] (.bool false) (.o 28892 [v28] (.bool false))
  (.l))
  (.o 29044 [v29] (.bool false)))
  (.m 29692 [v31] (.bool false) (.o 29399 [v32] (.bool false))
  (.o 30104 [v30] (.bool false)))),
  .m 28696 [v34] (.bool false) (.m 28694 [v35] (.bool false) (.o 28692 [v37] (.bool false))
  (.l))
  (.o 28700 [v39] (.bool false))]
def e52_155 : Ent := [.m 55282 [v18,j 11] (v58) (.m 52923 [v43,j 2] (v44) (.m 52652 [v18,j 1] (v18) (.o 52651 [v14,j 1] (v14))
  (.o 52660 [v43,j 1] (v43)))
  (.m 54501 [v43,j 8] (v47) (.o 53186 [v43,j 3] (v31))
  (.l)))
  (.m 58701 [v18,j 24] (v51) (.m 57131 [v43,j 18] (v46) (.o 56342 [v43,j 15] (v48))
  (.o 58700 [v14,j 24] (v14)))
  (.m 58964 [v18,j 25] (v33) (.o 58963 [v14,j 25] (v14))
  (.l)))]
def e52_156 : Ent := [.o 39607 [v30,v14] (v81)]
def e52_157 : Ent := [.m 43949 [v433,v437] (v164) (.m 20801 [v425,v424] (v145) (.m 15924 [v137,w [1000000]] (v230) (.o 3940 [v396,w [846264338327950288]] (v392))
  (.o 17061 [v413,v412] (v149)))
  (.m 37377 [v402,v404] (v103) (.o 24439 [v401,v409] (v138))
  (.l)))
  (.m 55700 [v460,w [166995380103]] (v150) (.m 47896 [v395,w [419716939937510]] (v394) (.o 43950 [v428,w [378770245945430644]] (v127))
  (.o 52288 [v423,v450] (v132)))
  (.m 64830 [v467,w [44946]] (v143) (.o 58255 [v464,.nils] (v137))
  (.l)))]
def e52_159 : Ent := [.m 19003 [v138,v89] (v423) (.m 15526 [v132,v98] (v425) (.o 9568 [v103,v88] (v413))
  (.l))
  (.m 64055 [v101,v95] (v402) (.o 32979 [v149,v99] (v401))
  (.l))]
def k52 : List (Nat × Ent) := [(149,e52_149),(151,e52_151),(155,e52_155),(156,e52_156),(157,e52_157),(159,e52_159)]
def e53_159 : Ent := [.m 27829 [v145,v87] (v433) (.m 15924 [v137,w [1000000]] (v123) (.o 8243 [v127,v128] (v460))
  (.o 22234 [v143,w [19]] (v464)))
  (.m 44131 [v164,v97] (v428) (.o 32926 [v150,w [91810290]] (v467))
  (.l))]
def e53_163 : Ent := [.m 28714 [v83] (v54) (.m 28694 [v35] (v18) (.o 28692 [v37] (v14))
  (.o 28696 [v12] (v17)))
  (.m 30104 [v30] (v32) (.o 28720 [v55] (v93))
  (.o 30106 [v81] (v78)))]
def e53_196 : Ent := [.m 40798 [v2,v0] (.agg [v2,v2,v0,v0]) (.m 17957 [v0,v36] (.agg [v0,v0,v36,v36]) (.o 15889 [v6,v38] (v596))
  (.l))
  (.m 41855 [v22,v22] (.agg [v22,v22,v22,v22]) (.o 41062 [v0,v1] (v597))
  (.l))]
def e53_206 : Ent := [.m 11349 [j 5,j 1,j 12] (j 0) (.m 11347 [j 3,j 1,j 12] (j 0) (.o 11346 [j 2,j 1,j 12] (j 0))
  (.l))
  (.m 49423 [j 3,j 0,j 256] (j 0) (.o 43068 [j 1,j 1,j 2147483646] (j 0))
  (.l))]
def e53_245 : Ent := [.m 30434 [.flt .f64 4710765210229538816,j 0] (.bool false) (.o 23873 [.flt .f64 4712266410284285952,j 0] (.bool false))
  (.l)]
def e53_247 : Ent := [.m 6739 [.flt .f64 4710765210229538816] (.tup [.flt .f64 4710765210229538816,j 0]) (.o 178 [.flt .f64 4712266410284285952] (.tup [.flt .f64 4712266410284285952,j 0]))
  (.l)]
def k53 : List (Nat × Ent) := [(159,e53_159),(163,e53_163),(196,e53_196),(206,e53_206),(245,e53_245),(247,e53_247)]
def l2_130 : Ent := e31_130
def l2_163 : Ent := e53_163 ++ (l1_163)
def l2_196 : Ent := e53_196
def l2_102 : Ent := e31_102
def l2_71 : Ent := e30_71
def l2_73 : Ent := e30_73
def l2_137 : Ent := e31_137 ++ (e32_137 ++ (e33_137 ++ (e34_137 ++ (e35_137 ++ (e36_137 ++ (e37_137 ++ (e38_137 ++ (e39_137 ++ (e40_137 ++ (e41_137 ++ (e42_137 ++ (e43_137 ++ (e44_137 ++ (e45_137 ++ (e46_137 ++ (e47_137))))))))))))))))
def l2_74 : Ent := e30_74
def l2_206 : Ent := e53_206
def l2_46 : Ent := e29_46
def l2_144 : Ent := e47_144 ++ (e48_144 ++ (e49_144 ++ (e50_144 ++ (e51_144))))
def l2_49 : Ent := e29_49 ++ (e30_49)
def l2_148 : Ent := e51_148
def l2_245 : Ent := e53_245
def l2_149 : Ent := e51_149 ++ (e52_149)
def l2_86 : Ent := e30_86 ++ (e31_86)
def l2_247 : Ent := e53_247
def l2_151 : Ent := e52_151
def l2_155 : Ent := e52_155
def l2_156 : Ent := e52_156
def l2_28 : Ent := e29_28
def l2_157 : Ent := e52_157
def l2_159 : Ent := e52_159 ++ (e53_159)
def t2 : Tr Ent := (.n 149 l2_149 (.n 101 l1_101 (.n 71 l2_71 (.n 49 l2_49 (.n 29 l1_29 (.n 28 l2_28 .l .l) (.n 46 l2_46 .l .l)) (.n 69 l1_69 (.n 59 l1_59 .l .l) .l)) (.n 86 l2_86 (.n 74 l2_74 (.n 73 l2_73 .l .l) .l) (.n 100 l1_100 (.n 99 l1_99 .l .l) .l))) (.n 129 l1_129 (.n 119 l1_119 (.n 118 l1_118 (.n 102 l2_102 .l .l) .l) (.n 125 l1_125 (.n 124 l1_124 .l .l) .l)) (.n 144 l2_144 (.n 137 l2_137 (.n 130 l2_130 .l .l) .l) (.n 148 l2_148 (.n 147 l1_147 .l .l) .l)))) (.n 168 l1_168 (.n 158 l1_158 (.n 155 l2_155 (.n 151 l2_151 (.n 150 l1_150 .l .l) .l) (.n 157 l2_157 (.n 156 l2_156 .l .l) .l)) (.n 164 l1_164 (.n 163 l2_163 (.n 159 l2_159 .l .l) .l) (.n 166 l1_166 (.n 165 l1_165 .l .l) .l))) (.n 231 l1_231 (.n 196 l2_196 (.n 187 l1_187 (.n 172 l1_172 .l .l) .l) (.n 219 l1_219 (.n 206 l2_206 .l .l) .l)) (.n 246 l1_246 (.n 245 l2_245 (.n 238 l1_238 .l .l) .l) (.n 252 l1_252 (.n 247 l2_247 .l .l) .l)))))
def e54_50 : Ent := [.o 36466 [v9,v9] (v9)]
def e54_100 : Ent := [.m 38534 [.agg [j 1,v445],v598] (.agg [j 1,v126]) (.m 20531 [v522,v598] (.agg [j 1,v133]) (.m 9412 [v523,v598] (.agg [j 1,v155]) (.m 3239 [v580,v598] (.agg [j 1,v135]) (.m 1139 [.agg [j 1,v419],v598] (.agg [j 1,v165]) (.o 1081 [v96,v598] (.agg [j 1,v151]))
  (.l))
  (.m 7612 [v579,v598] (.agg [j 1,v153]) (.o 5118 [v524,v598] (.agg [j 1,v125]))
  (.l)))
  (.m 14466 [v599,v598] (.agg [j 1,v175]) (.m 9837 [v48,.agg [j 1,v393]] (v584) (.o 9415 [.agg [j 1,v434],v598] (.agg [j 1,v162]))
  (.l))
  (.m 20245 [v525,v598] (.agg [j 1,v140]) (.o 15100 [.agg [j 1,v417],v598] (.agg [j 1,v109]))
  (.l))))
  (.m 25125 [.agg [j 1,v408],v598] (.agg [j 1,v112]) (.m 21645 [.agg [j 1,v440],v598] (.agg [j 1,v119]) (.m 21012 [v526,v598] (.agg [j 1,v120]) (.o 20968 [v49,v49] (.agg [j 1,v393]))
  (.l))
  (.m 24752 [v576,v598] (.agg [j 1,v171]) (.o 21686 [.agg [j 1,v414],v598] (.agg [j 1,v104]))
  (.l)))
  (.m 30658 [v358,v598] (.agg [j 1,v146]) (.m 27485 [v312,v598] (.agg [j 1,v168]) (.o 26453 [v79,v46] (.agg [j 1,v396]))
  (.l))
  (.m 35756 [v574,v598] (.agg [j 1,v139]) (.o 30765 [v575,v598] (.agg [j 1,v111]))
  (.l)))))
  (.m 46102 [v583,v14] (v583) (.m 44380 [.agg [j 1,v420],v598] (.agg [j 1,v161]) (.m 39915 [.agg [j 1,v443],v598] (.agg [j 1,v167]) (.m 39210 [.agg [j 1,v394],v18] (v583) (.o 39135 [v600,v598] (.agg [j 1,v147]))
  (.l))
  (.m 42749 [v601,v598] (.agg [j 1,v107]) (.o 42033 [.agg [j 1,v398],v598] (.agg [j 1,v100]))
  (.l)))
  (.m 44737 [v602,v598] (.agg [j 1,v131]) (.m 44660 [v603,v598] (.agg [j 1,v105]) (.o 44520 [v91,v598] (.agg [j 1,v173]))
  (.l))
  (.m 45962 [.agg [j 1,v449],v598] (.agg [j 1,v160]) (.o 44885 [.agg [j 1,v446],v598] (.agg [j 1,v156]))
  (.l))))
  (.m 54941 [v46,.agg [j 1,v393]] (v601) (.m 51345 [v577,v598] (.agg [j 1,v117]) (.m 51252 [v86,v598] (.agg [j 1,v179]) (.o 51247 [v527,v598] (.agg [j 1,v157]))
  (.l))
  (.m 54647 [v604,v598] (.agg [j 1,v158]) (.o 51616 [.agg [j 1,v406],v598] (.agg [j 1,v110]))
  (.l)))
  (.m 59662 [v528,v598] (.agg [j 1,v136]) (.m 58192 [.agg [j 1,v430],v598] (.agg [j 1,v118]) (.o 57180 [v578,v598] (.agg [j 1,v154]))
  (.l))
  (.m 63598 [.agg [j 1,v392],v48] (.agg [j 1,v395]) (.o 60912 [v605,v598] (.agg [j 1,v108]))
  (.l)))))]
def e54_101 : Ent := [.m 40037 [v14,v39] (v499) (.m 39511 [v14,v20] (v500) (.m 38985 [v14,v34] (v497) (.o 38459 [v14,v18] (v490))
  (.o 38986 [v18,v34] (v490)))
  (.m 39556 [v78,v31] (v505) (.o 39555 [v32,v31] (v503))
  (.l)))
  (.m 40041 [v21,v39] (v494) (.m 40039 [v17,v39] (v511) (.o 40038 [v18,v39] (v497))
  (.l))
  (.m 40263 [v82,v31] (v491) (.o 40262 [v74,v31] (v501))
  (.l)))]
def k54 : List (Nat × Ent) := [(50,e54_50),(100,e54_100),(101,e54_101)]
def e55_101 : Ent := [.m 38723 [v18,v17] (v509) (.m 38460 [v18,v18] (v8) (.m 26622 [v14,v33] (v529) (.o 7341 [v16,v33] (v495))
  (.o 38458 [v15,v18] (v9)))
  (.m 38721 [v15,v17] (v9) (.o 38462 [v34,v18] (v7))
  (.l)))
  (.m 42142 [v18,v53] (v499) (.m 39516 [v20,v20] (v8) (.o 38984 [v15,v34] (v9))
  (.o 42140 [v15,v53] (v9)))
  (.m 46401 [v33,v17] (v520) (.o 42299 [v60,v18] (v521))
  (.l)))]
def e55_107 : Ent := [.m 9013 [v492] (.bool false) (.m 5361 [v72] (.bool false) (.m 5359 [v62] (.bool false) (.m 5358 [v8] (.bool false) (.o 5357 [v9] (.bool false))
  (.l))
  (.o 5360 [v66] (.bool false)))
  (.m 5367 [v67] (.bool false) (.m 5365 [v68] (.bool false) (.o 5362 [v61] (.bool false))
  (.l))
  (.o 9006 [v490] (.bool false))))
  (.m 46761 [v503] (.bool false) (.m 12655 [v498] (.bool false) (.m 12653 [v489] (.bool false) (.o 10861 [v491] (.bool false))
  (.l))
  (.o 30894 [v499] (.bool false)))
  (.m 62113 [v505] (.bool false) (.m 57349 [v501] (.bool false) (.o 47466 [v502] (.bool false))
  (.l))
  (.o 62288 [v504] (.bool false)))),
  .m 5361 [v65] (.bool false) (.o 5359 [v7] (.bool false))
  (.l)]
def e55_110 : Ent := [.m 2152 [.str [54]] (v20) (.m 2149 [v6] (v17) (.m 2147 [v0] (v14) (.o 2146 [v2] (v15))
  (.o 2148 [v1] (v18)))
  (.m 2151 [v22] (v21) (.o 2150 [v5] (v34))
  (.l)))
  (.m 15521 [v13] (v12) (.m 15007 [v38] (v37) (.o 2154 [v40] (v39))
  (.o 15011 [v84] (v50)))
  (.m 16035 [.str [45,53]] (v19) (.o 15572 [v85] (v60))
  (.l)))]
def e55_119 : Ent := [.m 19324 [.agg [j 1,v396],.agg [j 846264338327950288,.nils]] (.agg [j 1,v392]) (.m 12138 [.agg [j 1,v103],.agg [j (-1),v88]] (.agg [j 1,v413]) (.m 6588 [.agg [j 1,v132],.agg [j (-1),v98]] (.agg [j 1,v425]) (.o 3745 [.agg [j 1,v138],.agg [j (-1),v89]] (.agg [j 1,v423]))
  (.o 10257 [.agg [j 1,v149],.agg [j (-1),v99]] (.agg [j 1,v401])))
  (.m 18235 [.agg [j 1,v425],v602] (.agg [j 1,v145]) (.o 17430 [.agg [j 1,v413],v605] (.agg [j 1,v149]))
  (.l)))
  (.m 53337 [.agg [j 1,v402],v603] (.agg [j 1,v103]) (.m 38684 [.agg [j 1,v395],.agg [j 419716939937510,.nils]] (.agg [j 1,v394]) (.o 31748 [.agg [j 1,v145],.agg [j (-1),v87]] (.agg [j 1,v433]))
  (.o 43670 [.agg [j 1,v423],v599] (.agg [j 1,v132])))
  (.m 58641 [v601,.agg [j (-1),v95]] (.agg [j 1,v402]) (.o 57735 [.agg [j 1,v401],v600] (.agg [j 1,v138]))
  (.l)))]
def k55 : List (Nat × Ent) := [(101,e55_101),(107,e55_107),(110,e55_110),(119,e55_119)]
def e56_119 : Ent := [.m 38930 [v606,v42] (v582) (.m 22725 [.agg [j 1,v428],v524] (.agg [j 1,v127]) (.m 22433 [.agg [j 1,v150],.agg [j (-91810290),.nils]] (.agg [j 1,v467]) (.o 12706 [.agg [j 1,v433],v604] (.agg [j 1,v164]))
  (.l))
  (.m 37110 [v606,.agg [j (-1000000),.nils]] (v581) (.o 29295 [.agg [j 1,v127],v92] (.agg [j 1,v460]))
  (.l)))
  (.m 54689 [.agg [j 1,v143],.agg [j (-19),.nils]] (.agg [j 1,v464]) (.m 45221 [.agg [j 1,v467],v358] (.agg [j 1,v143]) (.o 40224 [.agg [j 1,v464],v15] (v606))
  (.l))
  (.m 63469 [.agg [j 1,v460],v312] (.agg [j 1,v150]) (.o 60309 [.agg [j 1,v164],.agg [j (-1),v97]] (.agg [j 1,v428]))
  (.l)))]
def e56_123 : Ent := [.m 41249 [v530] (.fsl true 1 2 [v1,v0]) (.m 28005 [v531] (.fsl true 1 3 [v0,v2,v4]) (.o 6710 [v532] (.fsl true 1 3 [v2,v0,v3]))
  (.l))
  (.m 55533 [v533] (.fsl true 1 2 [v5,v6]) (.o 48389 [v534] (.fsl true 1 2 [v0,v1]))
  (.l))]
def e56_130 : Ent := [.m 39512 [v35,v20] (v18) (.m 38721 [v37,v17] (v14) (.m 38462 [v12,v18] (v14) (.o 38458 [v37,v18] (v14))
  (.l))
  (.o 38723 [v35,v17] (v14)))
  (.m 40262 [v81,v31] (v34) (.m 40260 [v30,v31] (v14) (.o 39538 [v55,v20] (v17))
  (.l))
  (.o 46370 [v83,v52] (v34)))]
def e56_161 : Ent := [.m 42906 [.vsl true 2 [v1,v1]] (j 0) (.m 42379 [v607] (j 0) (.m 18786 [.vsl true 2 [v22,v84]] (j 0) (.o 5873 [v608] (j 0))
  (.o 30590 [.vsl true 2 [v38,v38]] (j 0)))
  (.m 42642 [.vsl true 2 [v0,v0]] (j 0) (.o 42641 [v609] (j 0))
  (.o 42905 [v569] (j 0))))
  (.m 44486 [.vsl true 2 [v5,v40]] (j 0) (.m 43170 [.vsl true 2 [v6,v6]] (j 0) (.o 43169 [.vsl true 2 [v1,v6]] (j 0))
  (.o 43433 [v610] (j 0)))
  (.m 56805 [.vsl true 2 [v13,v5]] (j 0) (.o 55765 [.vsl true 2 [v38,v1]] (j 0))
  (.o 59923 [v611] (j 0))))]
def e56_164 : Ent := [.m 39132 [v612,.agg [j 90,.nils]] (.tup [v580,v50]) (.m 23221 [.agg [j 1,v100],v601] (.tup [v613,.agg [j 1,v400]]) (.m 12502 [v613,v535] (.tup [v575,.agg [j 18,.nils]]) (.m 2872 [.agg [j 1,v113],v18] (.tup [v598,v14]) (.o 1506 [.agg [j 1,v111],v601] (.tup [.agg [j 1,v417],.agg [j 1,v416]]))
  (.l))
  (.m 16985 [.agg [j 1,v117],v601] (.tup [.agg [j 1,v414],.agg [j 1,v421]]) (.o 15847 [.agg [j 1,v104],v601] (.tup [v614,.agg [j 1,v418]]))
  (.l)))
  (.m 35418 [v615,.agg [j 56,.nils]] (.tup [v605,v34]) (.m 26707 [.agg [j 1,v105],v601] (.tup [.agg [j 1,v398],.agg [j 1,v399]]) (.o 25241 [.agg [j 1,v108],v601] (.tup [.agg [j 1,v406],.agg [j 1,v397]]))
  (.l))
  (.o 37218 [v614,v54] (.tup [v603,v20]))))
  (.m 46891 [v583,v34] (.tup [.agg [j 1,v113],v15]) (.m 44631 [.agg [j 1,v112],v601] (.tup [v616,.agg [j 1,v405]]) (.m 44138 [.agg [j 1,v135],v601] (.tup [.agg [j 1,v419],.agg [j 1,v411]]) (.o 39824 [.agg [j 1,v110],v601] (.tup [v612,.agg [j 1,v422]]))
  (.l))
  (.o 45348 [v616,v18] (.tup [v577,v14])))
  (.m 54294 [.agg [j 1,v165],v601] (.tup [v617,.agg [j 1,v403]]) (.m 51269 [.agg [j 1,v107],v601] (.tup [.agg [j 1,v408],v15]) (.o 47943 [v583,v39] (.tup [v598,v34]))
  (.l))
  (.o 58347 [.agg [j 1,v109],v601] (.tup [v615,.agg [j 1,v410]]))))]
def k56 : List (Nat × Ent) := [(119,e56_119),(123,e56_123),(130,e56_130),(161,e56_161),(164,e56_164)]
def e57_164 : Ent := [.m 30929 [.agg [j 1,v133],v601] (.tup [v311,.agg [j 1,v454]]) (.m 13230 [.agg [j 1,v167],v601] (.tup [v618,.agg [j 1,v431]]) (.m 6609 [.agg [j 1,v139],v601] (.tup [.agg [j 1,v446],.agg [j 1,v447]]) (.m 5343 [.agg [j 1,v129],.agg [j 1,v130]] (.tup [v18,.agg [j 1,v172]]) (.m 3666 [.agg [j 1,v216],.agg [j 1,v192]] (.tup [v18,.agg [j 1,v193]]) (.o 3318 [.agg [j 1,v199],.agg [j 1,v235]] (.tup [v14,.agg [j 1,v236]]))
  (.o 4417 [.agg [j 1,v193],.agg [j 1,v219]] (.tup [v18,.agg [j 1,v220]])))
  (.m 5976 [.agg [j 1,v119],v601] (.tup [v619,.agg [j 1,v427]]) (.o 5494 [v620,.agg [j 462,.nils]] (.tup [v574,.agg [j 109,.nils]]))
  (.o 6417 [.agg [j 1,v171],v601] (.tup [.agg [j 1,v445],.agg [j 1,v451]]))))
  (.m 8933 [.agg [j 1,v118],v601] (.tup [v621,.agg [j 1,v435]]) (.m 7995 [.agg [j 1,v172],.agg [j 1,v121]] (.tup [v21,.agg [j 1,v122]]) (.o 6857 [.agg [j 1,v236],.agg [j 1,v214]] (.tup [v385,.agg [j 1,v215]]))
  (.o 8107 [v622,.agg [j 650,.nils]] (.tup [v578,.agg [j 138,.nils]])))
  (.m 9739 [.agg [j 1,v125],v601] (.tup [v528,.agg [j 1,v455]]) (.o 9243 [.agg [j 1,v136],v601] (.tup [v356,.agg [j 1,v458]]))
  (.o 10208 [.agg [j 1,v175],v601] (.tup [.agg [j 1,v430],.agg [j 1,v438]])))))
  (.m 21468 [v623,.agg [j 182,.nils]] (.tup [v576,.agg [j 123,.nils]]) (.m 18392 [.agg [j 1,v157],v601] (.tup [v43,.agg [j 1,v471]]) (.m 16322 [.agg [j 1,v158],v601] (.tup [.agg [j 1,v449],.agg [j 1,v441]]) (.o 15280 [.agg [j 1,v179],v601] (.tup [v527,.agg [j 1,v465]]))
  (.o 17484 [v621,.agg [j 306,.nils]] (.tup [v579,.agg [j 109,.nils]])))
  (.m 19705 [.agg [j 1,v163],.agg [j 1,v152]] (.tup [v18,.agg [j 1,v129]]) (.o 18972 [.agg [j 1,v140],v601] (.tup [v357,.agg [j 1,v459]]))
  (.o 20207 [.agg [j 1,v121],.agg [j 1,v122]] (.tup [v14,.agg [j 1,v169]]))))
  (.m 27890 [.agg [j 1,v169],.agg [j 1,v141]] (.tup [v18,.agg [j 1,v142]]) (.m 26135 [.agg [j 1,v168],v601] (.tup [v523,.agg [j 1,v461]]) (.o 25369 [.agg [j 1,v130],.agg [j 1,v172]] (.tup [v14,.agg [j 1,v121]]))
  (.o 27885 [.agg [j 1,v156],v601] (.tup [v624,.agg [j 1,v429]])))
  (.m 30325 [.agg [j 1,v154],v601] (.tup [.agg [j 1,v443],.agg [j 1,v432]]) (.o 29390 [.agg [j 1,v146],v601] (.tup [v526,.agg [j 1,v470]]))
  (.l)))))
  (.m 46786 [.agg [j 1,v120],v601] (.tup [v353,.agg [j 1,v468]]) (.m 42059 [.agg [j 1,v198],.agg [j 1,v199]] (.tup [v18,.agg [j 1,v235]]) (.m 32691 [.agg [j 1,v141],.agg [j 1,v142]] (.tup [v18,.agg [j 1,v237]]) (.m 32256 [.agg [j 1,v219],.agg [j 1,v220]] (.tup [v14,.agg [j 1,v202]]) (.o 31596 [v624,.agg [j 552,.nils]] (.tup [v604,.agg [j 265,.nils]]))
  (.o 32606 [.agg [j 1,v173],v601] (.tup [v522,.agg [j 1,v452]])))
  (.m 40200 [.agg [j 1,v202],.agg [j 1,v198]] (.tup [v17,.agg [j 1,v199]]) (.o 35274 [.agg [j 1,v160],v601] (.tup [v622,.agg [j 1,v439]]))
  (.o 40594 [.agg [j 1,v126],v601] (.tup [v625,.agg [j 1,v442]]))))
  (.m 45093 [.agg [j 1,v147],v601] (.tup [.agg [j 1,v420],.agg [j 1,v415]]) (.m 43711 [.agg [j 1,v122],.agg [j 1,v169]] (.tup [v14,.agg [j 1,v141]]) (.o 42928 [.agg [j 1,v152],.agg [j 1,v129]] (.tup [v14,.agg [j 1,v130]]))
  (.o 43783 [.agg [j 1,v155],v601] (.tup [v332,.agg [j 1,v453]])))
  (.m 46549 [.agg [j 1,v162],v601] (.tup [v620,.agg [j 1,v426]]) (.o 46446 [v618,.agg [j 756,.nils]] (.tup [v524,v43]))
  (.l))))
  (.m 57597 [.agg [j 1,v151],v601] (.tup [v525,.agg [j 1,v457]]) (.m 52281 [.agg [j 1,v235],.agg [j 1,v236]] (.tup [v18,.agg [j 1,v214]]) (.m 50063 [.agg [j 1,v153],v601] (.tup [.agg [j 1,v440],.agg [j 1,v444]]) (.o 49018 [.agg [j 1,v161],v601] (.tup [v623,.agg [j 1,v407]]))
  (.o 51549 [v617,.agg [j 132,.nils]] (.tup [v600,.agg [j 50,.nils]])))
  (.m 52971 [.agg [j 1,v131],v601] (.tup [.agg [j 1,v434],.agg [j 1,v436]]) (.o 52492 [v584,.agg [j 1,v163]] (.tup [v536,.agg [j 1,v152]]))
  (.o 53079 [.agg [j 1,v237],.agg [j 1,v216]] (.tup [v39,.agg [j 1,v192]]))))
  (.m 60543 [.agg [j 1,v142],.agg [j 1,v237]] (.tup [v17,.agg [j 1,v216]]) (.m 58578 [v625,.agg [j 240,.nils]] (.tup [v599,.agg [j 213,.nils]]) (.o 58276 [v619,.agg [j 380,.nils]] (.tup [v602,.agg [j 160,.nils]]))
  (.o 58625 [.agg [j 1,v220],.agg [j 1,v202]] (.tup [v14,.agg [j 1,v198]])))
  (.m 64035 [v581,v584] (.tup [v32,.agg [j 1,v163]]) (.o 62949 [.agg [j 1,v192],.agg [j 1,v193]] (.tup [.agg [j 28,.nils],.agg [j 1,v219]]))
  (.l)))))]
def k57 : List (Nat × Ent) := [(164,e57_164)]
def e58_164 : Ent := [.m 35632 [.agg [j 1,v210],.agg [j 1,v217]] (.tup [v14,v341]) (.m 23517 [.agg [j 1,v242],.agg [j 1,v246]] (.tup [v39,.agg [j 1,v276]]) (.m 9680 [.agg [j 1,v184],.agg [j 1,v185]] (.tup [v535,.agg [j 1,v222]]) (.m 6351 [v584,v53] (.tup [v626,v15]) (.m 2037 [.agg [j 1,v209],.agg [j 1,v234]] (.tup [v14,.agg [j 1,v184]]) (.o 427 [.agg [j 1,v238],.agg [j 1,v205]] (.tup [v18,.agg [j 1,v206]]))
  (.o 6224 [.agg [j 1,v234],.agg [j 1,v184]] (.tup [v315,.agg [j 1,v185]])))
  (.m 8250 [.agg [j 1,v196],.agg [j 1,v197]] (.tup [v14,.agg [j 1,v211]]) (.o 7360 [.agg [j 1,v233],.agg [j 1,v225]] (.tup [v18,.agg [j 1,v226]]))
  (.o 9320 [.agg [j 1,v257],.agg [j 1,v260]] (.tup [v21,.agg [j 1,v281]]))))
  (.m 14349 [.agg [j 1,v182],.agg [j 1,v183]] (.tup [v14,.agg [j 1,v218]]) (.m 12557 [.agg [j 1,v223],.agg [j 1,v231]] (.tup [v21,.agg [j 1,v227]]) (.o 10228 [.agg [j 1,v185],.agg [j 1,v222]] (.tup [v14,.agg [j 1,v223]]))
  (.o 13113 [.agg [j 1,v189],.agg [j 1,v200]] (.tup [v18,.agg [j 1,v257]])))
  (.m 22616 [.agg [j 1,v231],.agg [j 1,v227]] (.tup [v14,.agg [j 1,v180]]) (.o 20970 [.agg [j 1,v181],.agg [j 1,v207]] (.tup [v315,.agg [j 1,v208]]))
  (.o 22936 [.agg [j 1,v260],.agg [j 1,v281]] (.tup [v14,.agg [j 1,v285]])))))
  (.m 30027 [.agg [j 1,v201],.agg [j 1,v209]] (.tup [v14,.agg [j 1,v234]]) (.m 26028 [.agg [j 1,v273],.agg [j 1,v274]] (.tup [v18,.agg [j 1,v290]]) (.m 24871 [.agg [j 1,v200],.agg [j 1,v257]] (.tup [v14,.agg [j 1,v260]]) (.o 24387 [.agg [j 1,v281],.agg [j 1,v285]] (.tup [v14,.agg [j 1,v243]]))
  (.o 25367 [.agg [j 1,v274],.agg [j 1,v290]] (.tup [v14,.agg [j 1,v291]])))
  (.m 27058 [v584,.agg [j 1,v221]] (.tup [v536,.agg [j 1,v188]]) (.o 27037 [.agg [j 1,v228],v626] (.tup [v32,.agg [j 1,v475]]))
  (.o 29580 [.agg [j 1,v241],.agg [j 1,v242]] (.tup [v17,.agg [j 1,v246]]))))
  (.m 34538 [.agg [j 1,v197],.agg [j 1,v211]] (.tup [v39,.agg [j 1,v182]]) (.m 30531 [.agg [j 1,v226],.agg [j 1,v232]] (.tup [v18,.agg [j 1,v196]]) (.o 30442 [.agg [j 1,v214],.agg [j 1,v215]] (.tup [v14,.agg [j 1,v233]]))
  (.o 32816 [.agg [j 1,v218],.agg [j 1,v203]] (.tup [v17,.agg [j 1,v204]])))
  (.m 35557 [.agg [j 1,v246],.agg [j 1,v276]] (.tup [v18,.agg [j 1,v273]]) (.o 35160 [.agg [j 1,v205],.agg [j 1,v206]] (.tup [v34,.agg [j 1,v194]]))
  (.l)))))
  (.m 54789 [.agg [j 1,v276],.agg [j 1,v273]] (.tup [.agg [j 28,.nils],.agg [j 1,v274]]) (.m 45726 [v581,v53] (.tup [.agg [j 1,v228],v15]) (.m 41621 [.agg [j 1,v188],.agg [j 1,v189]] (.tup [v14,.agg [j 1,v200]]) (.m 38102 [.agg [j 1,v213],.agg [j 1,v238]] (.tup [v14,.agg [j 1,v205]]) (.o 38006 [.agg [j 1,v225],.agg [j 1,v226]] (.tup [v14,.agg [j 1,v232]]))
  (.o 39774 [.agg [j 1,v195],.agg [j 1,v186]] (.tup [v14,.agg [j 1,v187]])))
  (.m 42089 [.agg [j 1,v206],.agg [j 1,v194]] (.tup [v14,.agg [j 1,v195]]) (.o 41638 [.agg [j 1,v208],.agg [j 1,v190]] (.tup [v14,.agg [j 1,v191]]))
  (.o 43866 [.agg [j 1,v187],.agg [j 1,v201]] (.tup [v14,.agg [j 1,v209]]))))
  (.m 51390 [.agg [j 1,v222],.agg [j 1,v223]] (.tup [v14,.agg [j 1,v231]]) (.m 49943 [.agg [j 1,v285],.agg [j 1,v243]] (.tup [v18,.agg [j 1,v241]]) (.o 49460 [.agg [j 1,v221],.agg [j 1,v188]] (.tup [v18,.agg [j 1,v189]]))
  (.o 51301 [.agg [j 1,v180],.agg [j 1,v181]] (.tup [v14,.agg [j 1,v207]])))
  (.m 53305 [.agg [j 1,v207],.agg [j 1,v208]] (.tup [v14,.agg [j 1,v190]]) (.o 51753 [.agg [j 1,v204],.agg [j 1,v212]] (.tup [v34,.agg [j 1,v213]]))
  (.l))))
  (.m 62130 [.agg [j 1,v215],.agg [j 1,v233]] (.tup [v17,.agg [j 1,v225]]) (.m 59199 [.agg [j 1,v243],.agg [j 1,v241]] (.tup [v18,.agg [j 1,v242]]) (.m 57997 [.agg [j 1,v183],.agg [j 1,v218]] (.tup [v20,.agg [j 1,v203]]) (.o 56034 [.agg [j 1,v194],.agg [j 1,v195]] (.tup [v14,.agg [j 1,v186]]))
  (.o 58975 [.agg [j 1,v203],.agg [j 1,v204]] (.tup [v17,.agg [j 1,v212]])))
  (.m 60603 [.agg [j 1,v212],.agg [j 1,v213]] (.tup [v14,.agg [j 1,v238]]) (.o 60015 [.agg [j 1,v186],.agg [j 1,v187]] (.tup [v17,.agg [j 1,v201]]))
  (.o 61447 [v582,v584] (.tup [v32,.agg [j 1,v221]]))))
  (.m 64554 [.agg [j 1,v232],.agg [j 1,v196]] (.tup [v14,.agg [j 1,v197]]) (.m 63534 [.agg [j 1,v217],v341] (.tup [v17,v342]) (.o 62478 [.agg [j 1,v211],.agg [j 1,v182]] (.tup [v34,.agg [j 1,v183]]))
  (.o 64052 [.agg [j 1,v227],.agg [j 1,v180]] (.tup [v34,.agg [j 1,v181]])))
  (.m 65371 [.agg [j 1,v191],.agg [j 1,v210]] (.tup [.agg [j 53,.nils],.agg [j 1,v217]]) (.o 65078 [.agg [j 1,v190],.agg [j 1,v191]] (.tup [v54,.agg [j 1,v210]]))
  (.l)))))]
def k58 : List (Nat × Ent) := [(164,e58_164)]
def e59_164 : Ent := [.m 33713 [.agg [j 1,v249],.agg [j 1,v250]] (.tup [v536,.agg [j 1,v265]]) (.m 11202 [.agg [j 1,v252],.agg [j 1,v247]] (.tup [v17,.agg [j 1,v248]]) (.m 7261 [.agg [j 1,v247],.agg [j 1,v248]] (.tup [v18,.agg [j 1,v283]]) (.m 3965 [.agg [j 1,v239],.agg [j 1,v240]] (.tup [v17,v355]) (.m 2110 [.agg [j 1,v253],.agg [j 1,v254]] (.tup [v14,.agg [j 1,v268]]) (.o 774 [.agg [j 1,v240],v355] (.tup [v14,v339]))
  (.l))
  (.m 6503 [.agg [j 1,v284],.agg [j 1,v289]] (.tup [v18,.agg [j 1,v258]]) (.o 5406 [.agg [j 1,v283],.agg [j 1,v277]] (.tup [v18,.agg [j 1,v278]]))
  (.l)))
  (.m 9521 [.agg [j 1,v288],.agg [j 1,v293]] (.tup [v14,.agg [j 1,v279]]) (.m 8582 [.agg [j 1,v272],.agg [j 1,v249]] (.tup [v14,.agg [j 1,v250]]) (.o 8007 [.agg [j 1,v251],.agg [j 1,v252]] (.tup [v14,.agg [j 1,v247]]))
  (.l))
  (.m 10495 [.agg [j 1,v275],v626] (.tup [v32,.agg [j 1,v477]]) (.o 9872 [.agg [j 1,v259],.agg [j 1,v239]] (.tup [v14,.agg [j 1,v240]]))
  (.l))))
  (.m 28034 [.agg [j 1,v261],.agg [j 1,v262]] (.tup [v20,.agg [j 1,v270]]) (.m 15445 [.agg [j 1,v292],.agg [j 1,v255]] (.tup [v14,.agg [j 1,v256]]) (.m 13303 [.agg [j 1,v291],.agg [j 1,v287]] (.tup [v17,.agg [j 1,v288]]) (.o 13112 [.agg [j 1,v290],.agg [j 1,v291]] (.tup [v14,.agg [j 1,v287]]))
  (.l))
  (.m 26166 [.agg [j 1,v262],.agg [j 1,v270]] (.tup [v17,.agg [j 1,v267]]) (.o 22598 [.agg [j 1,v248],.agg [j 1,v283]] (.tup [v14,.agg [j 1,v277]]))
  (.l)))
  (.m 30810 [.agg [j 1,v287],.agg [j 1,v288]] (.tup [v18,.agg [j 1,v293]]) (.m 30773 [.agg [j 1,v250],.agg [j 1,v265]] (.tup [v34,.agg [j 1,v266]]) (.o 29196 [.agg [j 1,v286],.agg [j 1,v271]] (.tup [v14,.agg [j 1,v272]]))
  (.l))
  (.o 32421 [.agg [j 1,v255],.agg [j 1,v256]] (.tup [v14,.agg [j 1,v286]])))))
  (.m 54669 [.agg [j 1,v244],.agg [j 1,v245]] (.tup [.agg [j 220,.nils],.agg [j 1,v284]]) (.m 39631 [.agg [j 1,v267],.agg [j 1,v253]] (.tup [v34,.agg [j 1,v254]]) (.m 37362 [.agg [j 1,v279],.agg [j 1,v251]] (.tup [v385,.agg [j 1,v252]]) (.m 36435 [.agg [j 1,v256],.agg [j 1,v286]] (.tup [v17,.agg [j 1,v271]]) (.o 35703 [.agg [j 1,v266],.agg [j 1,v244]] (.tup [.agg [j 203,.nils],.agg [j 1,v245]]))
  (.l))
  (.m 38763 [.agg [j 1,v277],.agg [j 1,v278]] (.tup [v14,.agg [j 1,v280]]) (.o 37659 [.agg [j 1,v278],.agg [j 1,v280]] (.tup [v14,.agg [j 1,v263]]))
  (.l)))
  (.m 48740 [.agg [j 1,v264],.agg [j 1,v261]] (.tup [v14,.agg [j 1,v262]]) (.m 48414 [.agg [j 1,v258],.agg [j 1,v259]] (.tup [v18,.agg [j 1,v239]]) (.o 43138 [v582,v53] (.tup [.agg [j 1,v275],v15]))
  (.l))
  (.m 54303 [.agg [j 1,v245],.agg [j 1,v284]] (.tup [v18,.agg [j 1,v289]]) (.o 50117 [.agg [j 1,v265],.agg [j 1,v266]] (.tup [v14,.agg [j 1,v244]]))
  (.l))))
  (.m 61107 [.agg [j 1,v270],.agg [j 1,v267]] (.tup [v17,.agg [j 1,v253]]) (.m 58997 [.agg [j 1,v293],.agg [j 1,v279]] (.tup [v18,.agg [j 1,v251]]) (.m 58482 [.agg [j 1,v254],.agg [j 1,v268]] (.tup [v14,.agg [j 1,v269]]) (.o 54823 [.agg [j 1,v280],.agg [j 1,v263]] (.tup [v39,.agg [j 1,v264]]))
  (.l))
  (.m 59976 [.agg [j 1,v282],.agg [j 1,v292]] (.tup [v14,.agg [j 1,v255]]) (.o 59592 [.agg [j 1,v263],.agg [j 1,v264]] (.tup [v34,.agg [j 1,v261]]))
  (.l)))
  (.m 63286 [.agg [j 1,v289],.agg [j 1,v258]] (.tup [v14,.agg [j 1,v259]]) (.m 62868 [.agg [j 1,v268],.agg [j 1,v269]] (.tup [v18,.agg [j 1,v282]]) (.o 61547 [.agg [j 1,v269],.agg [j 1,v282]] (.tup [v34,.agg [j 1,v292]]))
  (.l))
  (.o 64369 [.agg [j 1,v271],.agg [j 1,v272]] (.tup [v14,.agg [j 1,v249]])))))]
def e59_180 : Ent := [.o 26326 [j 1,j 3] (.tup [.fsl false 1 3 [j 0,j 2,j 1],j 0])]
def e59_215 : Ent := [.o 1844 [j 3] (j 0)]
def e59_222 : Ent := [.o 48388 [v537] (v538),
  .o 48388 [v538] (v537)]
def e59_223 : Ent := [.m 10849 [v539,v540] (v541) (.o 3138 [v542,v538] (v541))
  (.o 25702 [v543,v544] (v541))]
def e59_233 : Ent := [.m 45317 [v545,.fn (.f 71) [] []] (v66) (.m 31477 [v546,.fn (.f 71) [] []] (v499) (.m 22010 [v547,.fn (.f 71) [] []] (v62) (.o 17253 [v548,.fn (.f 71) [] []] (v62))
  (.l))
  (.o 40917 [v549,.fn (.f 71) [] []] (v63)))
  (.m 53609 [v550,.fn (.f 71) [] []] (v67) (.o 49717 [v551,.fn (.f 71) [] []] (v73))
  (.o 64224 [v552,.fn (.f 71) [] []] (v8)))]
def k59 : List (Nat × Ent) := [(164,e59_164),(180,e59_180),(215,e59_215),(222,e59_222),(223,e59_223),(233,e59_233)]
def e60_233 : Ent := [.m 3103 [v553,.fn (.f 71) [] []] (v65) (.o 737 [.vsl true 2 [j 1,.nils,j 1,.nils,j 1,.nils,j 1,.nils],.fn (.f 71) [] []] (v8))
  (.o 22163 [.vsl true 2 [j 4,.nils,j 1,.nils,j 4,.nils,j 1,.nils],.fn (.f 71) [] []] (v65))]
def e60_234 : Ent := [.m 40917 [v549,.fn (.f 71) [] []] (v63) (.m 22010 [v547,.fn (.f 71) [] []] (v62) (.m 17253 [v548,.fn (.f 71) [] []] (v65) (.o 3103 [v553,.fn (.f 71) [] []] (v65))
  (.l))
  (.o 31477 [v546,.fn (.f 71) [] []] (v490)))
  (.m 53609 [v550,.fn (.f 71) [] []] (v68) (.m 49717 [v551,.fn (.f 71) [] []] (v73) (.o 45317 [v545,.fn (.f 71) [] []] (v66))
  (.l))
  (.o 64224 [v552,.fn (.f 71) [] []] (v8)))]
def e60_236 : Ent := [.o 1844 [j 3] (v31)]
def e60_237 : Ent := [.m 28694 [v18] (v14) (.o 28693 [v14] (v14))
  (.o 63062 [v45] (v74))]
def e60_240 : Ent := [.m 22882 [v554,v554,v8,v9] (.fsl false 4 3 [j 1,.nils,j 1,.nils,j 2,.nils,j 1,.nils,j 3,.nils,j 1,.nils]) (.m 17414 [v555,v556,v8,v72] (.fsl false 4 3 [j 0,.nils,j 1,.nils,j (-2),.nils,j 1,.nils,j (-4),.nils,j 1,.nils]) (.o 6694 [v556,v557,v8,v62] (.fsl false 4 3 [j 1,.nils,j 1,.nils,j 0,.nils,j 1,.nils,j 1,.nils,j 1,.nils]))
  (.l))
  (.m 50957 [v556,v556,v8,v9] (.fsl false 4 3 [j 1,.nils,j 1,.nils,j 2,.nils,j 1,.nils,j 5,.nils,j 1,.nils]) (.o 46012 [v558,v559,v8,v62] (.fsl false 4 3 [j 0,.nils,j 1,.nils,j 0,.nils,j 1,.nils,j 0,.nils,j 1,.nils]))
  (.l))]
def e60_241 : Ent := [.m 35366 [v7,j 24] (v508) (.o 29317 [v7,j 1] (v7))
  (.o 35629 [v7,j 25] (v510))]
def e60_243 : Ent := [.m 36497 [.flt .f64 4712266410284285952,j (-25)] (.flt .f64 4599676419600023552) (.o 30697 [.flt .f64 4710765210229538816,j 1] (.flt .f64 4715268809856909312))
  (.l)]
def k60 : List (Nat × Ent) := [(233,e60_233),(234,e60_234),(236,e60_236),(237,e60_237),(240,e60_240),(241,e60_241),(243,e60_243)]
def l3_161 : Ent := e56_161
def l3_130 : Ent := e56_130 ++ (l2_130)
def l3_100 : Ent := e54_100 ++ (l1_100)
def l3_164 : Ent := e56_164 ++ (e57_164 ++ (e58_164 ++ (e59_164 ++ (l1_164))))
def l3_101 : Ent := e54_101 ++ (e55_101 ++ (l1_101))
def l3_233 : Ent := e59_233 ++ (e60_233)
def l3_234 : Ent := e60_234
def l3_107 : Ent := e55_107
def l3_236 : Ent := e60_236
def l3_237 : Ent := e60_237
def l3_110 : Ent := e55_110
def l3_240 : Ent := e60_240
def l3_241 : Ent := e60_241
def l3_50 : Ent := e54_50
def l3_243 : Ent := e60_243
def l3_180 : Ent := e59_180
def l3_119 : Ent := e55_119 ++ (e56_119 ++ (l1_119))
def l3_215 : Ent := e59_215
def l3_123 : Ent := e56_123
def l3_222 : Ent := e59_222
def l3_223 : Ent := e59_223
def t3 : Tr Ent := (.n 156 l2_156 (.n 110 l3_110 (.n 73 l2_73 (.n 50 l3_50 (.n 46 l2_46 (.n 29 l1_29 (.n 28 l2_28 .l .l) .l) (.n 49 l2_49 .l .l)) (.n 69 l1_69 (.n 59 l1_59 .l .l) (.n 71 l2_71 .l .l))) (.n 100 l3_100 (.n 86 l2_86 (.n 74 l2_74 .l .l) (.n 99 l1_99 .l .l)) (.n 102 l2_102 (.n 101 l3_101 .l .l) (.n 107 l3_107 .l .l)))) (.n 137 l2_137 (.n 124 l1_124 (.n 119 l3_119 (.n 118 l1_118 .l .l) (.n 123 l3_123 .l .l)) (.n 129 l1_129 (.n 125 l1_125 .l .l) (.n 130 l3_130 .l .l))) (.n 149 l2_149 (.n 147 l1_147 (.n 144 l2_144 .l .l) (.n 148 l2_148 .l .l)) (.n 151 l2_151 (.n 150 l1_150 .l .l) (.n 155 l2_155 .l .l))))) (.n 219 l1_219 (.n 166 l1_166 (.n 161 l3_161 (.n 158 l1_158 (.n 157 l2_157 .l .l) (.n 159 l2_159 .l .l)) (.n 164 l3_164 (.n 163 l2_163 .l .l) (.n 165 l1_165 .l .l))) (.n 187 l1_187 (.n 172 l1_172 (.n 168 l1_168 .l .l) (.n 180 l3_180 .l .l)) (.n 206 l2_206 (.n 196 l2_196 .l .l) (.n 215 l3_215 .l .l)))) (.n 238 l1_238 (.n 233 l3_233 (.n 223 l3_223 (.n 222 l3_222 .l .l) (.n 231 l1_231 .l .l)) (.n 236 l3_236 (.n 234 l3_234 .l .l) (.n 237 l3_237 .l .l))) (.n 245 l2_245 (.n 241 l3_241 (.n 240 l3_240 .l .l) (.n 243 l3_243 .l .l)) (.n 247 l2_247 (.n 246 l1_246 .l .l) (.n 252 l1_252 .l .l))))))
def e61_49 : Ent := [.m 17179 [v507,v490] (v521) (.m 13077 [v62,v516] (v8) (.m 4036 [v7,v499] (v497) (.o 4035 [v8,v499] (v499))
  (.o 13075 [v9,v516] (v9)))
  (.m 13338 [v9,v490] (v9) (.o 13081 [v69,v516] (v7))
  (.o 13339 [v8,v490] (v490))))
  (.m 40118 [v560,v9] (v9) (.m 32079 [v7,v497] (v490) (.o 32078 [v8,v497] (v497))
  (.o 32452 [v506,v510] (v520)))
  (.m 56542 [v10,v529] (v495) (.o 55731 [v9,v498] (v9))
  (.o 59383 [v560,v498] (v8))))]
def e61_62 : Ent := [.m 15011 [v84] (v71) (.m 2150 [v5] (v65) (.m 2148 [v1] (v7) (.m 2147 [v0] (v8) (.o 2146 [v2] (v9))
  (.l))
  (.o 2149 [v6] (v66)))
  (.m 2154 [v40] (v68) (.m 2152 [.str [54]] (v73) (.o 2151 [v22] (v61))
  (.l))
  (.o 15007 [v38] (v63))))
  (.m 46079 [v487] (v497) (.m 27639 [v493] (v492) (.m 15572 [v85] (v507) (.o 15521 [v13] (v72))
  (.l))
  (.o 45551 [v488] (v506)))
  (.m 48191 [v483] (v499) (.o 47135 [v486] (v500))
  (.o 54535 [v561] (v562))))]
def e61_73 : Ent := [.m 5365 [v68] (v499) (.m 5361 [v65] (v497) (.o 5359 [v7] (v490))
  (.l))
  (.o 13037 [v510] (v529))]
def e61_74 : Ent := [.m 47411 [v497,v9] (v497) (.m 8472 [v490,v514] (v499) (.m 5876 [v8,v519] (v511) (.o 5013 [v521,v513] (v490))
  (.l))
  (.m 42759 [v497,v515] (v9) (.o 16986 [v516,v490] (v9))
  (.l)))
  (.m 62269 [v514,v8] (v494) (.m 62003 [v499,v9] (v499) (.o 54707 [v500,v9] (v500))
  (.l))
  (.o 64865 [v520,v518] (v509)))]
def e61_86 : Ent := [.m 47135 [v486] (j 0) (.m 45551 [v488] (j 0) (.o 27639 [v493] (j 0))
  (.o 46079 [v487] (j 0)))
  (.m 54535 [v561] (j 0) (.o 48191 [v483] (j 0))
  (.l))]
def e61_101 : Ent := [.m 40260 [v30,v31] (v502) (.m 38459 [v14,v35] (v516) (.o 38458 [v37,v18] (v516))
  (.o 38462 [v12,v18] (v560)))
  (.m 40577 [v93,v23] (v492) (.o 40262 [v81,v31] (v504))
  (.o 46370 [v83,v52] (v514)))]
def k61 : List (Nat × Ent) := [(49,e61_49),(62,e61_62),(73,e61_73),(74,e61_74),(86,e61_86),(101,e61_101)]
def e62_101 : Ent := [.m 38986 [v18,v12] (v498) (.m 38723 [v35,v17] (v498) (.o 38721 [v37,v17] (v489))
  (.l))
  (.o 39512 [v35,v20] (v489))]
def e62_110 : Ent := [.o 6518 [.str [51,49,52,49,53,57,50,54,53,51,53,56,57,55,57,51,50,51,56,52,54,50,54,52,51,51,56,51,50,55,57,53,48,50,56,56,52,49,57,55,49,54,57,51,57,57,51,55,53,49,48]] (.agg [j 1,v394])]
def e62_126 : Ent := [.m 2922 [v610,.vptr [v628]] (j 0) (.m 2130 [v609,.vptr [v629]] (j 0) (.o 1868 [v607,.vptr [v629]] (j 0))
  (.o 2394 [v569,.vptr [v628]] (j 0)))
  (.m 30883 [v608,.vptr [v630]] (j 0) (.o 19412 [v611,.vptr [v630]] (j 0))
  (.l))]
def e62_130 : Ent := [.m 61447 [v582,v584] (v53) (.o 47943 [v583,v39] (v34))
  (.o 64035 [v581,v584] (v53))]
def e62_148 : Ent := [.m 32606 [.agg [j 1,v173],v601] (v522) (.m 13230 [.agg [j 1,v167],v601] (v618) (.m 8107 [v622,.agg [j 650,.nils]] (v578) (.m 5976 [.agg [j 1,v119],v601] (v619) (.m 5494 [v620,.agg [j 462,.nils]] (v574) (.o 1506 [.agg [j 1,v111],v601] (.agg [j 1,v417]))
  (.l))
  (.m 6609 [.agg [j 1,v139],v601] (.agg [j 1,v446]) (.o 6417 [.agg [j 1,v171],v601] (.agg [j 1,v445]))
  (.l)))
  (.m 9739 [.agg [j 1,v125],v601] (v528) (.m 9243 [.agg [j 1,v136],v601] (v356) (.o 8933 [.agg [j 1,v118],v601] (v621))
  (.l))
  (.m 12502 [v613,v535] (v575) (.o 10208 [.agg [j 1,v175],v601] (.agg [j 1,v430]))
  (.l))))
  (.m 23221 [.agg [j 1,v100],v601] (v613) (.m 16985 [.agg [j 1,v117],v601] (.agg [j 1,v414]) (.m 16322 [.agg [j 1,v158],v601] (.agg [j 1,v449]) (.o 15847 [.agg [j 1,v104],v601] (v614))
  (.l))
  (.m 21468 [v623,.agg [j 182,.nils]] (v576) (.o 17484 [v621,.agg [j 306,.nils]] (v579))
  (.l)))
  (.m 27885 [.agg [j 1,v156],v601] (v624) (.m 26707 [.agg [j 1,v105],v601] (.agg [j 1,v398]) (.o 25241 [.agg [j 1,v108],v601] (.agg [j 1,v406]))
  (.l))
  (.m 31596 [v624,.agg [j 552,.nils]] (v604) (.o 30325 [.agg [j 1,v154],v601] (.agg [j 1,v443]))
  (.l)))))
  (.m 46549 [.agg [j 1,v162],v601] (v620) (.m 40594 [.agg [j 1,v126],v601] (v625) (.m 37218 [v614,v54] (v603) (.m 35418 [v615,.agg [j 56,.nils]] (v605) (.o 35274 [.agg [j 1,v160],v601] (v622))
  (.l))
  (.m 39824 [.agg [j 1,v110],v601] (v612) (.o 39132 [v612,.agg [j 90,.nils]] (v580))
  (.l)))
  (.m 45093 [.agg [j 1,v147],v601] (.agg [j 1,v420]) (.m 44631 [.agg [j 1,v112],v601] (v616) (.o 44138 [.agg [j 1,v135],v601] (.agg [j 1,v419]))
  (.l))
  (.m 46446 [v618,.agg [j 756,.nils]] (v524) (.o 45348 [v616,v18] (v577))
  (.l))))
  (.m 52971 [.agg [j 1,v131],v601] (.agg [j 1,v434]) (.m 50063 [.agg [j 1,v153],v601] (.agg [j 1,v440]) (.m 49018 [.agg [j 1,v161],v601] (v623) (.o 46891 [v583,v34] (.agg [j 1,v113]))
  (.l))
  (.m 51549 [v617,.agg [j 132,.nils]] (v600) (.o 51269 [.agg [j 1,v107],v601] (.agg [j 1,v408]))
  (.l)))
  (.m 58347 [.agg [j 1,v109],v601] (v615) (.m 58276 [v619,.agg [j 380,.nils]] (v602) (.o 54294 [.agg [j 1,v165],v601] (v617))
  (.l))
  (.o 58578 [v625,.agg [j 240,.nils]] (v599)))))]
def k62 : List (Nat × Ent) := [(101,e62_101),(110,e62_110),(126,e62_126),(130,e62_130),(148,e62_148)]
def e63_148 : Ent := [.m 30929 [.agg [j 1,v133],v601] (v311) (.m 18972 [.agg [j 1,v140],v601] (v357) (.m 15280 [.agg [j 1,v179],v601] (v527) (.o 6351 [v584,v53] (v626))
  (.o 18392 [.agg [j 1,v157],v601] (v43)))
  (.m 29390 [.agg [j 1,v146],v601] (v526) (.o 26135 [.agg [j 1,v168],v601] (v523))
  (.l)))
  (.m 45726 [v581,v53] (.agg [j 1,v228]) (.m 43783 [.agg [j 1,v155],v601] (v332) (.o 43138 [v582,v53] (.agg [j 1,v275]))
  (.l))
  (.m 57597 [.agg [j 1,v151],v601] (v525) (.o 46786 [.agg [j 1,v120],v601] (v353))
  (.l)))]
def e63_149 : Ent := [.m 38940 [v627] (v598) (.o 5460 [.agg [j 1,v228,j 1,v229]] (v32))
  (.o 54439 [.agg [j 1,v275,j 1,v229]] (v32))]
def e63_155 : Ent := [.m 64758 [v43,j 47] (v584) (.o 26 [v43,j 50] (v601))
  (.l)]
def e63_156 : Ent := [.m 32011 [.agg [j 1,v145],v574] (.agg [j 1,v433]) (.m 10520 [.agg [j 1,v149],v580] (.agg [j 1,v401]) (.m 6851 [.agg [j 1,v132],v579] (.agg [j 1,v425]) (.o 4008 [.agg [j 1,v138],v576] (.agg [j 1,v423]))
  (.l))
  (.m 26273 [.agg [j 1,v127],v91] (.agg [j 1,v460]) (.o 12401 [.agg [j 1,v103],v575] (.agg [j 1,v413]))
  (.l)))
  (.m 50218 [.agg [j 1,v143],v86] (.agg [j 1,v464]) (.m 43214 [.agg [j 1,v150],v96] (.agg [j 1,v467]) (.o 38930 [v606,v42] (v581))
  (.l))
  (.m 60572 [.agg [j 1,v164],v578] (.agg [j 1,v428]) (.o 58904 [v601,v577] (.agg [j 1,v402]))
  (.l)))]
def e63_208 : Ent := [.m 9013 [v492] (.tup [v493,j 0]) (.o 5361 [v72] (.tup [v13,j 0]))
  (.l)]
def e63_214 : Ent := [.m 36994 [v62,v62] (.tup [.agg [v36,v36],j 0]) (.m 29494 [v504,v502] (v631) (.m 29027 [v501,v491] (v632) (.o 389 [v503,v505] (v633))
  (.l))
  (.o 36730 [v8,v8] (.tup [v595,j 0])))
  (.m 38580 [v67,v68] (v634) (.m 37786 [v61,v61] (.tup [.agg [v22,v22],j 0]) (.o 37518 [v9,v65] (.tup [.agg [v2,v5],j 0]))
  (.l))
  (.o 38875 [v499,v490] (v635)))]
def e63_218 : Ent := [.o 29578 [v9,j 2] (.tup [v595,j 0])]
def e63_221 : Ent := [.m 39522 [v538,v543] (v537) (.m 32380 [v539,v543] (v543) (.o 10617 [v539,v539] (v539))
  (.o 32612 [v539,v542] (v542)))
  (.m 60989 [v563,v563] (.agg [j (-2),.nils,j 1,.nils,j 4,.nils,j 1,.nils]) (.o 39754 [v538,v542] (v544))
  (.o 61517 [v538,v538] (v540)))]
def e63_226 : Ent := [.m 35247 [.vsl false 2 [v530,v533]] (.tup [.fsl false 1 2 [v570,v573],j 0]) (.o 23670 [.vsl true 2 [v531,v532]] (.tup [.fsl false 1 2 [v572,v571],j 0]))
  (.o 50231 [.vsl true 1 [v534]] (.tup [.fsl false 1 1 [v569],j 0]))]
def e63_227 : Ent := [.o 1730 [.vsl false 2 [v554,v558]] (.tup [.fsl false 1 1 [v559],.fsl false 1 1 [j 0]])]
def e63_228 : Ent := [.m 1866 [j 25] (v510) (.o 1865 [j 24] (v508))
  (.l)]
def e63_230 : Ent := [.m 36497 [.flt .f64 4712266410284285952,j (-25)] (.flt .f64 4599676419600023552) (.o 30697 [.flt .f64 4710765210229538816,j 1] (.flt .f64 4715268809856909312))
  (.l)]
def e63_235 : Ent := [.o 5359 [v7] (.tup [v8,.bool false])]
def k63 : List (Nat × Ent) := [(148,e63_148),(149,e63_149),(155,e63_155),(156,e63_156),(208,e63_208),(214,e63_214),(218,e63_218),(221,e63_221),(226,e63_226),(227,e63_227),(228,e63_228),(230,e63_230),(235,e63_235)]
def l4_226 : Ent := e63_226
def l4_130 : Ent := e62_130 ++ (l3_130)
def l4_227 : Ent := e63_227
def l4_228 : Ent := e63_228
def l4_101 : Ent := e61_101 ++ (e62_101 ++ (l3_101))
def l4_230 : Ent := e63_230
def l4_73 : Ent := e61_73 ++ (l2_73)
def l4_74 : Ent := e61_74 ++ (l2_74)
def l4_235 : Ent := e63_235
def l4_110 : Ent := e62_110 ++ (l3_110)
def l4_208 : Ent := e63_208
def l4_49 : Ent := e61_49 ++ (l2_49)
def l4_148 : Ent := e62_148 ++ (e63_148 ++ (l2_148))
def l4_149 : Ent := e63_149 ++ (l2_149)
def l4_214 : Ent := e63_214
def l4_86 : Ent := e61_86 ++ (l2_86)
def l4_218 : Ent := e63_218
def l4_155 : Ent := e63_155 ++ (l2_155)
def l4_156 : Ent := e63_156 ++ (l2_156)
def l4_221 : Ent := e63_221
def l4_62 : Ent := e61_62
def l4_126 : Ent := e62_126
def t4 : Tr Ent := (.n 159 l2_159 (.n 118 l1_118 (.n 73 l4_73 (.n 50 l3_50 (.n 46 l2_46 (.n 29 l1_29 (.n 28 l2_28 .l .l) .l) (.n 49 l4_49 .l .l)) (.n 69 l1_69 (.n 62 l4_62 (.n 59 l1_59 .l .l) .l) (.n 71 l2_71 .l .l))) (.n 101 l4_101 (.n 99 l1_99 (.n 86 l4_86 (.n 74 l4_74 .l .l) .l) (.n 100 l3_100 .l .l)) (.n 107 l3_107 (.n 102 l2_102 .l .l) (.n 110 l4_110 .l .l)))) (.n 147 l1_147 (.n 126 l4_126 (.n 124 l1_124 (.n 123 l3_123 (.n 119 l3_119 .l .l) .l) (.n 125 l1_125 .l .l)) (.n 137 l2_137 (.n 130 l4_130 (.n 129 l1_129 .l .l) .l) (.n 144 l2_144 .l .l))) (.n 155 l4_155 (.n 150 l1_150 (.n 149 l4_149 (.n 148 l4_148 .l .l) .l) (.n 151 l2_151 .l .l)) (.n 157 l2_157 (.n 156 l4_156 .l .l) (.n 158 l1_158 .l .l))))) (.n 223 l3_223 (.n 196 l2_196 (.n 166 l1_166 (.n 164 l3_164 (.n 163 l2_163 (.n 161 l3_161 .l .l) .l) (.n 165 l1_165 .l .l)) (.n 180 l3_180 (.n 172 l1_172 (.n 168 l1_168 .l .l) .l) (.n 187 l1_187 .l .l))) (.n 218 l4_218 (.n 214 l4_214 (.n 208 l4_208 (.n 206 l2_206 .l .l) .l) (.n 215 l3_215 .l .l)) (.n 221 l4_221 (.n 219 l1_219 .l .l) (.n 222 l3_222 .l .l)))) (.n 237 l3_237 (.n 231 l1_231 (.n 228 l4_228 (.n 227 l4_227 (.n 226 l4_226 .l .l) .l) (.n 230 l4_230 .l .l)) (.n 235 l4_235 (.n 234 l3_234 (.n 233 l3_233 .l .l) .l) (.n 236 l3_236 .l .l))) (.n 245 l2_245 (.n 241 l3_241 (.n 240 l3_240 (.n 238 l1_238 .l .l) .l) (.n 243 l3_243 .l .l)) (.n 247 l2_247 (.n 246 l1_246 .l .l) (.n 252 l1_252 .l .l))))))
def e64_49 : Ent := [.m 40377 [v516,v8] (v516) (.m 20636 [v498,v490] (v489) (.o 13076 [v8,v516] (v516))
  (.l))
  (.m 55732 [v8,v498] (v498) (.o 40903 [v516,v66] (v560))
  (.l))]
def e64_50 : Ent := [.m 43022 [v497,v497] (v9) (.m 24747 [v521,v512] (v490) (.m 8209 [v490,v511] (v499) (.o 5087 [v8,v494] (v511))
  (.l))
  (.o 25656 [v520,v517] (v509)))
  (.m 62003 [v499,v9] (v499) (.m 54707 [v500,v9] (v500) (.o 47411 [v497,v9] (v497))
  (.l))
  (.o 62006 [v514,v63] (v494)))]
def e64_70 : Ent := [.m 38571 [v8,v68] (v499) (.m 37520 [v7,v65] (v490) (.o 37519 [v8,v65] (v497))
  (.l))
  (.o 38572 [v7,v68] (v497))]
def e64_73 : Ent := [.m 9009 [v560] (v498) (.o 5359 [v62] (v516))
  (.l)]
def e64_74 : Ent := [.m 43764 [v498,v9] (v498) (.m 40114 [v516,v9] (v516) (.o 14127 [v9,v560] (v560))
  (.l))
  (.m 57350 [v562,v515] (v514) (.o 55205 [v9,v489] (v489))
  (.l))]
def e64_88 : Ent := [.m 43433 [v610] (.fsl true 4 2 [j 3,.nils,j 1,.nils,j 4,.nils,j 1,.nils]) (.m 42641 [v609] (.fsl true 4 2 [j 0,.nils,j 1,.nils,j 1,.nils,j 1,.nils]) (.m 42379 [v607] (.fsl true 4 2 [j 1,.nils,j 1,.nils,j 0,.nils,j 1,.nils]) (.o 5873 [v608] (.fsl true 4 3 [j 2,.nils,j 1,.nils,j 4,.nils,j 1,.nils,j 6,.nils,j 1,.nils]))
  (.l))
  (.o 42905 [v569] (.fsl true 4 2 [j 1,.nils,j 1,.nils,j 2,.nils,j 1,.nils])))
  (.m 56805 [.vsl true 2 [v13,v5]] (.fsl true 4 2 [j (-3),.nils,j 1,.nils,j 4,.nils,j 1,.nils]) (.m 55765 [.vsl true 2 [v38,v1]] (.fsl true 4 2 [j (-1),.nils,j 1,.nils,j 2,.nils,j 1,.nils]) (.o 44486 [.vsl true 2 [v5,v40]] (.fsl true 4 2 [j 4,.nils,j 1,.nils,j 8,.nils,j 1,.nils]))
  (.l))
  (.o 59923 [v611] (.fsl true 4 3 [j 1,.nils,j 1,.nils,j 2,.nils,j 1,.nils,j 3,.nils,j 1,.nils])))]
def e64_101 : Ent := [.m 61447 [v582,v584] (.agg [j 1,v275,j 1,v229]) (.o 47943 [v583,v39] (v627))
  (.o 64035 [v581,v584] (.agg [j 1,v228,j 1,v229]))]
def e64_127 : Ent := [.m 24621 [v628,.fn (.f 126) [] [.vptr [v628]]] (j 0) (.o 9239 [v629,.fn (.f 126) [] [.vptr [v629]]] (j 0))
  (.o 57030 [v630,.fn (.f 126) [] [.vptr [v630]]] (j 0))]
def e64_185 : Ent := [.o 28181 [j 15,j (-6)] (.tup [v493,j 0])]
def e64_186 : Ent := [.o 27639 [v493] (.tup [v13,j 0])]
def e64_210 : Ent := [.m 43168 [.agg [v6,v6]] (j 0) (.m 42903 [v591] (j 0) (.m 42640 [v595] (j 0) (.o 30588 [.agg [v38,v38]] (j 0))
  (.l))
  (.m 43167 [.agg [v1,v6]] (j 0) (.o 42904 [.agg [v1,v1]] (j 0))
  (.l)))
  (.m 55763 [v592] (j 0) (.m 44484 [v593] (j 0) (.o 43431 [.agg [v6,v5]] (j 0))
  (.l))
  (.o 56803 [v594] (j 0)))]
def e64_212 : Ent := [.m 42904 [.agg [v1,v1]] (v538) (.m 42640 [v595] (v539) (.o 30588 [.agg [v38,v38]] (v543))
  (.l))
  (.m 55763 [v592] (v563) (.o 43168 [.agg [v6,v6]] (v542))
  (.l))]
def e64_213 : Ent := [.m 48386 [v563] (.agg [j 0,.nils,j 1,.nils,j 4,.nils,j 1,.nils]) (.o 41246 [v539] (v539))
  (.o 48388 [v538] (v540))]
def k64 : List (Nat × Ent) := [(49,e64_49),(50,e64_50),(70,e64_70),(73,e64_73),(74,e64_74),(88,e64_88),(101,e64_101),(127,e64_127),(185,e64_185),(186,e64_186),(210,e64_210),(212,e64_212),(213,e64_213)]
def e65_216 : Ent := [.o 29843 [v7,j 3] (v632)]
def e65_217 : Ent := [.m 7154 [v483,j 3] (j 0) (.m 6624 [v486,j 5] (j 0) (.o 4779 [v487,j 2] (j 0))
  (.l))
  (.o 13498 [v561,j 3] (j 0))]
def e65_224 : Ent := [.m 54375 [v539,v537] (v636) (.o 17654 [v541,v541] (v637))
  (.l)]
def e65_228 : Ent := [.m 1889 [j (-25)] (v529) (.o 1841 [j (-1)] (v490))
  (.l)]
def e65_236 : Ent := [.m 1891 [j 50] (v601) (.o 1888 [j 47] (v584))
  (.l)]
def e65_240 : Ent := [.o 35463 [v564,v564,v516,v9] (.fsl false 4 3 [j 0,.nils,j 1,.nils,j 1,.nils,j 1,.nils,j 2,.nils,j 1,.nils])]
def k65 : List (Nat × Ent) := [(216,e65_216),(217,e65_217),(224,e65_224),(228,e65_228),(236,e65_236),(240,e65_240)]
def l5_224 : Ent := e65_224
def l5_228 : Ent := e65_228 ++ (l4_228)
def l5_101 : Ent := e64_101 ++ (l4_101)
def l5_70 : Ent := e64_70
def l5_73 : Ent := e64_73 ++ (l4_73)
def l5_74 : Ent := e64_74 ++ (l4_74)
def l5_236 : Ent := e65_236 ++ (l3_236)
def l5_240 : Ent := e65_240 ++ (l3_240)
def l5_49 : Ent := e64_49 ++ (l4_49)
def l5_50 : Ent := e64_50 ++ (l3_50)
def l5_210 : Ent := e64_210
def l5_212 : Ent := e64_212
def l5_213 : Ent := e64_213
def l5_216 : Ent := e65_216
def l5_88 : Ent := e64_88
def l5_217 : Ent := e65_217
def l5_185 : Ent := e64_185
def l5_186 : Ent := e64_186
def l5_127 : Ent := e64_127
def t5 : Tr Ent := (.n 164 l3_164 (.n 119 l3_119 (.n 73 l5_73 (.n 59 l1_59 (.n 46 l2_46 (.n 29 l1_29 (.n 28 l2_28 .l .l) .l) (.n 50 l5_50 (.n 49 l5_49 .l .l) .l)) (.n 70 l5_70 (.n 69 l1_69 (.n 62 l4_62 .l .l) .l) (.n 71 l2_71 .l .l))) (.n 101 l5_101 (.n 88 l5_88 (.n 86 l4_86 (.n 74 l5_74 .l .l) .l) (.n 100 l3_100 (.n 99 l1_99 .l .l) .l)) (.n 110 l4_110 (.n 107 l3_107 (.n 102 l2_102 .l .l) .l) (.n 118 l1_118 .l .l)))) (.n 148 l4_148 (.n 129 l1_129 (.n 125 l1_125 (.n 124 l1_124 (.n 123 l3_123 .l .l) .l) (.n 127 l5_127 (.n 126 l4_126 .l .l) .l)) (.n 144 l2_144 (.n 137 l2_137 (.n 130 l4_130 .l .l) .l) (.n 147 l1_147 .l .l))) (.n 157 l2_157 (.n 151 l2_151 (.n 150 l1_150 (.n 149 l4_149 .l .l) .l) (.n 156 l4_156 (.n 155 l4_155 .l .l) .l)) (.n 161 l3_161 (.n 159 l2_159 (.n 158 l1_158 .l .l) .l) (.n 163 l2_163 .l .l))))) (.n 222 l3_222 (.n 208 l4_208 (.n 185 l5_185 (.n 168 l1_168 (.n 166 l1_166 (.n 165 l1_165 .l .l) .l) (.n 180 l3_180 (.n 172 l1_172 .l .l) .l)) (.n 196 l2_196 (.n 187 l1_187 (.n 186 l5_186 .l .l) .l) (.n 206 l2_206 .l .l))) (.n 216 l5_216 (.n 213 l5_213 (.n 212 l5_212 (.n 210 l5_210 .l .l) .l) (.n 215 l3_215 (.n 214 l4_214 .l .l) .l)) (.n 219 l1_219 (.n 218 l4_218 (.n 217 l5_217 .l .l) .l) (.n 221 l4_221 .l .l)))) (.n 236 l5_236 (.n 230 l4_230 (.n 226 l4_226 (.n 224 l5_224 (.n 223 l3_223 .l .l) .l) (.n 228 l5_228 (.n 227 l4_227 .l .l) .l)) (.n 234 l3_234 (.n 233 l3_233 (.n 231 l1_231 .l .l) .l) (.n 235 l4_235 .l .l))) (.n 243 l3_243 (.n 240 l5_240 (.n 238 l1_238 (.n 237 l3_237 .l .l) .l) (.n 241 l3_241 .l .l)) (.n 247 l2_247 (.n 246 l1_246 (.n 245 l2_245 .l .l) .l) (.n 252 l1_252 .l .l))))))
def e66_49 : Ent := [.o 11941 [.agg [j 1,v116,j 1,.nils],v499] (v627)]
def e66_50 : Ent := [.o 57613 [v562,v497] (v514)]
def e66_84 : Ent := [.m 49750 [v629] (j 0) (.o 32020 [v630] (j 0))
  (.o 65132 [v628] (j 0))]
def e66_190 : Ent := [.o 55763 [v592] (.tup [.agg [v2,v5],j 0])]
def e66_191 : Ent := [.m 62761 [v591,.agg [v6,v5]] (.tup [j (-1),j 0]) (.o 58850 [v591,.agg [v1,v6]] (.tup [j 0,j 24]))
  (.l)]
def e66_192 : Ent := [.o 26632 [v1,j 3] (v632)]
def e66_211 : Ent := [.m 37625 [v591,v593,.fn (.f 70) [] []] (v635) (.o 14332 [v592,v594,.fn (.f 49) [] []] (v634))
  (.l)]
def e66_218 : Ent := [.m 48608 [v500,j 5] (v638) (.o 40523 [v497,j 2] (.tup [.agg [v2,v2],j 0]))
  (.l)]
def e66_220 : Ent := [.m 53088 [v596] (j 0) (.o 33922 [v597] (j 0))
  (.l)]
def e66_225 : Ent := [.m 49750 [v629] (.fsl false 1 2 [.vsl true 2 [j 0,.nils,j 1,.nils,j 1,.nils,j 1,.nils],.vsl true 2 [j 1,.nils,j 1,.nils,j 0,.nils,j 1,.nils]]) (.o 32020 [v630] (.fsl false 1 2 [v554,v558]))
  (.o 65132 [v628] (.fsl false 1 2 [.vsl true 2 [j 1,.nils,j 1,.nils,j 2,.nils,j 1,.nils],.vsl true 2 [j 3,.nils,j 1,.nils,j 4,.nils,j 1,.nils]]))]
def e66_227 : Ent := [.o 49312 [.vsl false 2 [v556,v555]] (.tup [.fsl true 1 2 [.vsl false 3 [j 1,.nils,j 1,.nils,j 0,.nils,j 1,.nils,j 1,.nils,j 1,.nils],v557],.fsl false 1 2 [j 0,j 1]])]
def e66_229 : Ent := [.m 20333 [v520] (j 11184811) (.o 12846 [v521] (j 8388608))
  (.l)]
def e66_232 : Ent := [.o 24078 [.flt .f32 1051372203] (v495)]
def e66_240 : Ent := [.m 35092 [v565,v566,v8,v66] (.fsl false 4 3 [j 0,.nils,j 1,.nils,j (-3),.nils,j 2,.nils,j 1,.nils,j 1,.nils]) (.m 32172 [v567,v567,v516,v9] (.fsl false 4 3 [j 1,.nils,j 1,.nils,j (-1),.nils,j 2,.nils,j 0,.nils,j 1,.nils]) (.o 24528 [v566,v532,v8,v490] (.fsl false 4 3 [j 1,.nils,j 1,.nils,j 0,.nils,j 1,.nils,j (-1),.nils,j 3,.nils]))
  (.l))
  (.o 64653 [v568,v568,v498,v9] (.fsl false 4 3 [j 0,.nils,j 1,.nils,j 1,.nils,j 1,.nils,j (-2),.nils,j 3,.nils]))]
def k66 : List (Nat × Ent) := [(49,e66_49),(50,e66_50),(84,e66_84),(190,e66_190),(191,e66_191),(192,e66_192),(211,e66_211),(218,e66_218),(220,e66_220),(225,e66_225),(227,e66_227),(229,e66_229),(232,e66_232),(240,e66_240)]
def l6_192 : Ent := e66_192
def l6_225 : Ent := e66_225
def l6_227 : Ent := e66_227 ++ (l4_227)
def l6_229 : Ent := e66_229
def l6_232 : Ent := e66_232
def l6_240 : Ent := e66_240 ++ (l5_240)
def l6_49 : Ent := e66_49 ++ (l5_49)
def l6_50 : Ent := e66_50 ++ (l5_50)
def l6_211 : Ent := e66_211
def l6_84 : Ent := e66_84
def l6_218 : Ent := e66_218 ++ (l4_218)
def l6_220 : Ent := e66_220
def l6_190 : Ent := e66_190
def l6_191 : Ent := e66_191
def t6 : Tr Ent := (.n 168 l1_168 (.n 123 l3_123 (.n 74 l5_74 (.n 59 l1_59 (.n 46 l2_46 (.n 29 l1_29 (.n 28 l2_28 .l .l) .l) (.n 50 l6_50 (.n 49 l6_49 .l .l) .l)) (.n 70 l5_70 (.n 69 l1_69 (.n 62 l4_62 .l .l) .l) (.n 73 l5_73 (.n 71 l2_71 .l .l) .l))) (.n 101 l5_101 (.n 88 l5_88 (.n 86 l4_86 (.n 84 l6_84 .l .l) .l) (.n 100 l3_100 (.n 99 l1_99 .l .l) .l)) (.n 110 l4_110 (.n 107 l3_107 (.n 102 l2_102 .l .l) .l) (.n 119 l3_119 (.n 118 l1_118 .l .l) .l)))) (.n 150 l1_150 (.n 130 l4_130 (.n 126 l4_126 (.n 125 l1_125 (.n 124 l1_124 .l .l) .l) (.n 129 l1_129 (.n 127 l5_127 .l .l) .l)) (.n 147 l1_147 (.n 144 l2_144 (.n 137 l2_137 .l .l) .l) (.n 149 l4_149 (.n 148 l4_148 .l .l) .l))) (.n 159 l2_159 (.n 156 l4_156 (.n 155 l4_155 (.n 151 l2_151 .l .l) .l) (.n 158 l1_158 (.n 157 l2_157 .l .l) .l)) (.n 164 l3_164 (.n 163 l2_163 (.n 161 l3_161 .l .l) .l) (.n 166 l1_166 (.n 165 l1_165 .l .l) .l))))) (.n 222 l3_222 (.n 210 l5_210 (.n 190 l6_190 (.n 185 l5_185 (.n 180 l3_180 (.n 172 l1_172 .l .l) .l) (.n 187 l1_187 (.n 186 l5_186 .l .l) .l)) (.n 196 l2_196 (.n 192 l6_192 (.n 191 l6_191 .l .l) .l) (.n 208 l4_208 (.n 206 l2_206 .l .l) .l))) (.n 216 l5_216 (.n 213 l5_213 (.n 212 l5_212 (.n 211 l6_211 .l .l) .l) (.n 215 l3_215 (.n 214 l4_214 .l .l) .l)) (.n 219 l1_219 (.n 218 l6_218 (.n 217 l5_217 .l .l) .l) (.n 221 l4_221 (.n 220 l6_220 .l .l) .l)))) (.n 234 l3_234 (.n 228 l5_228 (.n 225 l6_225 (.n 224 l5_224 (.n 223 l3_223 .l .l) .l) (.n 227 l6_227 (.n 226 l4_226 .l .l) .l)) (.n 231 l1_231 (.n 230 l4_230 (.n 229 l6_229 .l .l) .l) (.n 233 l3_233 (.n 232 l6_232 .l .l) .l))) (.n 241 l3_241 (.n 237 l3_237 (.n 236 l5_236 (.n 235 l4_235 .l .l) .l) (.n 240 l6_240 (.n 238 l1_238 .l .l) .l)) (.n 246 l1_246 (.n 245 l2_245 (.n 243 l3_243 .l .l) .l) (.n 252 l1_252 (.n 247 l2_247 .l .l) .l))))))
def e67_189 : Ent := [.o 12095 [v591,v593] (v635)]
def e67_193 : Ent := [.o 6624 [v486,j 5] (v638)]
def e67_195 : Ent := [.o 4779 [v487,j 2] (.tup [.agg [v2,v2,v0,v0],j 0])]
def e67_197 : Ent := [.o 38252 [v597,v596] (v637)]
def e67_198 : Ent := [.o 33922 [v597] (v636)]
def e67_199 : Ent := [.o 33922 [v597] (.tup [.agg [v22,v22],j 0])]
def e67_200 : Ent := [.o 43341 [v628,v629] (.tup [.vsl false 2 [v570,v573],j 0])]
def e67_201 : Ent := [.o 24413 [v628,.vsl true 2 [v22,v84]] (.tup [v569,j 0])]
def e67_202 : Ent := [.m 45551 [v488] (.tup [.flt .f32 1051372203,j 0]) (.o 15572 [v85] (.tup [.flt .f32 1266679808,j 0]))
  (.l)]
def e67_203 : Ent := [.o 24078 [.flt .f32 1051372203] (.tup [v496,j 0])]
def e67_205 : Ent := [.o 32020 [v630] (.tup [j 1,j 0])]
def e67_209 : Ent := [.o 14332 [v592,v594,.fn (.f 49) [] []] (v634)]
def e67_227 : Ent := [.o 17358 [.vsl false 2 [v567,v565]] (.tup [.fsl true 1 2 [v531,v532],.fsl false 1 2 [j 0,j 1]])]
def e67_244 : Ent := [.o 2218 [v499,j 50] (v606)]
def k67 : List (Nat × Ent) := [(189,e67_189),(193,e67_193),(195,e67_195),(197,e67_197),(198,e67_198),(199,e67_199),(200,e67_200),(201,e67_201),(202,e67_202),(203,e67_203),(205,e67_205),(209,e67_209),(227,e67_227),(244,e67_244)]
def l7_193 : Ent := e67_193
def l7_195 : Ent := e67_195
def l7_227 : Ent := e67_227 ++ (l6_227)
def l7_197 : Ent := e67_197
def l7_198 : Ent := e67_198
def l7_199 : Ent := e67_199
def l7_200 : Ent := e67_200
def l7_201 : Ent := e67_201
def l7_202 : Ent := e67_202
def l7_203 : Ent := e67_203
def l7_205 : Ent := e67_205
def l7_209 : Ent := e67_209
def l7_244 : Ent := e67_244
def l7_189 : Ent := e67_189
def t7 : Tr Ent := (.n 190 l6_190 (.n 127 l5_127 (.n 86 l4_86 (.n 62 l4_62 (.n 49 l6_49 (.n 29 l1_29 (.n 28 l2_28 .l .l) (.n 46 l2_46 .l .l)) (.n 59 l1_59 (.n 50 l6_50 .l .l) .l)) (.n 73 l5_73 (.n 70 l5_70 (.n 69 l1_69 .l .l) (.n 71 l2_71 .l .l)) (.n 84 l6_84 (.n 74 l5_74 .l .l) .l))) (.n 110 l4_110 (.n 101 l5_101 (.n 99 l1_99 (.n 88 l5_88 .l .l) (.n 100 l3_100 .l .l)) (.n 107 l3_107 (.n 102 l2_102 .l .l) .l)) (.n 124 l1_124 (.n 119 l3_119 (.n 118 l1_118 .l .l) (.n 123 l3_123 .l .l)) (.n 126 l4_126 (.n 125 l1_125 .l .l) .l)))) (.n 159 l2_159 (.n 149 l4_149 (.n 144 l2_144 (.n 130 l4_130 (.n 129 l1_129 .l .l) (.n 137 l2_137 .l .l)) (.n 148 l4_148 (.n 147 l1_147 .l .l) .l)) (.n 156 l4_156 (.n 151 l2_151 (.n 150 l1_150 .l .l) (.n 155 l4_155 .l .l)) (.n 158 l1_158 (.n 157 l2_157 .l .l) .l))) (.n 172 l1_172 (.n 165 l1_165 (.n 163 l2_163 (.n 161 l3_161 .l .l) (.n 164 l3_164 .l .l)) (.n 168 l1_168 (.n 166 l1_166 .l .l) .l)) (.n 186 l5_186 (.n 185 l5_185 (.n 180 l3_180 .l .l) .l) (.n 189 l7_189 (.n 187 l1_187 .l .l) .l))))) (.n 220 l6_220 (.n 206 l2_206 (.n 198 l7_198 (.n 195 l7_195 (.n 192 l6_192 (.n 191 l6_191 .l .l) (.n 193 l7_193 .l .l)) (.n 197 l7_197 (.n 196 l2_196 .l .l) .l)) (.n 202 l7_202 (.n 200 l7_200 (.n 199 l7_199 .l .l) (.n 201 l7_201 .l .l)) (.n 205 l7_205 (.n 203 l7_203 .l .l) .l))) (.n 214 l4_214 (.n 211 l6_211 (.n 209 l7_209 (.n 208 l4_208 .l .l) (.n 210 l5_210 .l .l)) (.n 213 l5_213 (.n 212 l5_212 .l .l) .l)) (.n 217 l5_217 (.n 216 l5_216 (.n 215 l3_215 .l .l) .l) (.n 219 l1_219 (.n 218 l6_218 .l .l) .l)))) (.n 234 l3_234 (.n 227 l7_227 (.n 224 l5_224 (.n 222 l3_222 (.n 221 l4_221 .l .l) (.n 223 l3_223 .l .l)) (.n 226 l4_226 (.n 225 l6_225 .l .l) .l)) (.n 231 l1_231 (.n 229 l6_229 (.n 228 l5_228 .l .l) (.n 230 l4_230 .l .l)) (.n 233 l3_233 (.n 232 l6_232 .l .l) .l))) (.n 243 l3_243 (.n 238 l1_238 (.n 236 l5_236 (.n 235 l4_235 .l .l) (.n 237 l3_237 .l .l)) (.n 241 l3_241 (.n 240 l6_240 .l .l) .l)) (.n 246 l1_246 (.n 245 l2_245 (.n 244 l7_244 .l .l) .l) (.n 252 l1_252 (.n 247 l2_247 .l .l) .l))))))
def e68_188 : Ent := [.o 54323 [v592,v594] (v634)]
def e68_204 : Ent := [.o 32020 [v630] (.tup [.vsl false 2 [v572,v571],j 0])]
def e68_239 : Ent := [.o 55378 [v499,j 3] (v32)]
def k68 : List (Nat × Ent) := [(188,e68_188),(204,e68_204),(239,e68_239)]
def l8_204 : Ent := e68_204
def l8_188 : Ent := e68_188
def l8_239 : Ent := e68_239
def t8 : Tr Ent := (.n 190 l6_190 (.n 127 l5_127 (.n 86 l4_86 (.n 62 l4_62 (.n 49 l6_49 (.n 29 l1_29 (.n 28 l2_28 .l .l) (.n 46 l2_46 .l .l)) (.n 59 l1_59 (.n 50 l6_50 .l .l) .l)) (.n 73 l5_73 (.n 70 l5_70 (.n 69 l1_69 .l .l) (.n 71 l2_71 .l .l)) (.n 84 l6_84 (.n 74 l5_74 .l .l) .l))) (.n 110 l4_110 (.n 101 l5_101 (.n 99 l1_99 (.n 88 l5_88 .l .l) (.n 100 l3_100 .l .l)) (.n 107 l3_107 (.n 102 l2_102 .l .l) .l)) (.n 124 l1_124 (.n 119 l3_119 (.n 118 l1_118 .l .l) (.n 123 l3_123 .l .l)) (.n 126 l4_126 (.n 125 l1_125 .l .l) .l)))) (.n 159 l2_159 (.n 149 l4_149 (.n 144 l2_144 (.n 130 l4_130 (.n 129 l1_129 .l .l) (.n 137 l2_137 .l .l)) (.n 148 l4_148 (.n 147 l1_147 .l .l) .l)) (.n 156 l4_156 (.n 151 l2_151 (.n 150 l1_150 .l .l) (.n 155 l4_155 .l .l)) (.n 158 l1_158 (.n 157 l2_157 .l .l) .l))) (.n 172 l1_172 (.n 165 l1_165 (.n 163 l2_163 (.n 161 l3_161 .l .l) (.n 164 l3_164 .l .l)) (.n 168 l1_168 (.n 166 l1_166 .l .l) .l)) (.n 187 l1_187 (.n 185 l5_185 (.n 180 l3_180 .l .l) (.n 186 l5_186 .l .l)) (.n 189 l7_189 (.n 188 l8_188 .l .l) .l))))) (.n 220 l6_220 (.n 205 l7_205 (.n 198 l7_198 (.n 195 l7_195 (.n 192 l6_192 (.n 191 l6_191 .l .l) (.n 193 l7_193 .l .l)) (.n 197 l7_197 (.n 196 l2_196 .l .l) .l)) (.n 202 l7_202 (.n 200 l7_200 (.n 199 l7_199 .l .l) (.n 201 l7_201 .l .l)) (.n 204 l8_204 (.n 203 l7_203 .l .l) .l))) (.n 213 l5_213 (.n 210 l5_210 (.n 208 l4_208 (.n 206 l2_206 .l .l) (.n 209 l7_209 .l .l)) (.n 212 l5_212 (.n 211 l6_211 .l .l) .l)) (.n 217 l5_217 (.n 215 l3_215 (.n 214 l4_214 .l .l) (.n 216 l5_216 .l .l)) (.n 219 l1_219 (.n 218 l6_218 .l .l) .l)))) (.n 234 l3_234 (.n 227 l7_227 (.n 224 l5_224 (.n 222 l3_222 (.n 221 l4_221 .l .l) (.n 223 l3_223 .l .l)) (.n 226 l4_226 (.n 225 l6_225 .l .l) .l)) (.n 231 l1_231 (.n 229 l6_229 (.n 228 l5_228 .l .l) (.n 230 l4_230 .l .l)) (.n 233 l3_233 (.n 232 l6_232 .l .l) .l))) (.n 241 l3_241 (.n 238 l1_238 (.n 236 l5_236 (.n 235 l4_235 .l .l) (.n 237 l3_237 .l .l)) (.n 240 l6_240 (.n 239 l8_239 .l .l) .l)) (.n 246 l1_246 (.n 244 l7_244 (.n 243 l3_243 .l .l) (.n 245 l2_245 .l .l)) (.n 252 l1_252 (.n 247 l2_247 .l .l) .l))))))
def e69_218 : Ent := [.m 55381 [v514,j 3] (v631) (.o 55378 [v499,j 3] (v633))
  (.l)]
def k69 : List (Nat × Ent) := [(218,e69_218)]
def l9_218 : Ent := e69_218 ++ (l6_218)
def t9 : Tr Ent := (.n 190 l6_190 (.n 127 l5_127 (.n 86 l4_86 (.n 62 l4_62 (.n 49 l6_49 (.n 29 l1_29 (.n 28 l2_28 .l .l) (.n 46 l2_46 .l .l)) (.n 59 l1_59 (.n 50 l6_50 .l .l) .l)) (.n 73 l5_73 (.n 70 l5_70 (.n 69 l1_69 .l .l) (.n 71 l2_71 .l .l)) (.n 84 l6_84 (.n 74 l5_74 .l .l) .l))) (.n 110 l4_110 (.n 101 l5_101 (.n 99 l1_99 (.n 88 l5_88 .l .l) (.n 100 l3_100 .l .l)) (.n 107 l3_107 (.n 102 l2_102 .l .l) .l)) (.n 124 l1_124 (.n 119 l3_119 (.n 118 l1_118 .l .l) (.n 123 l3_123 .l .l)) (.n 126 l4_126 (.n 125 l1_125 .l .l) .l)))) (.n 159 l2_159 (.n 149 l4_149 (.n 144 l2_144 (.n 130 l4_130 (.n 129 l1_129 .l .l) (.n 137 l2_137 .l .l)) (.n 148 l4_148 (.n 147 l1_147 .l .l) .l)) (.n 156 l4_156 (.n 151 l2_151 (.n 150 l1_150 .l .l) (.n 155 l4_155 .l .l)) (.n 158 l1_158 (.n 157 l2_157 .l .l) .l))) (.n 172 l1_172 (.n 165 l1_165 (.n 163 l2_163 (.n 161 l3_161 .l .l) (.n 164 l3_164 .l .l)) (.n 168 l1_168 (.n 166 l1_166 .l .l) .l)) (.n 187 l1_187 (.n 185 l5_185 (.n 180 l3_180 .l .l) (.n 186 l5_186 .l .l)) (.n 189 l7_189 (.n 188 l8_188 .l .l) .l))))) (.n 220 l6_220 (.n 205 l7_205 (.n 198 l7_198 (.n 195 l7_195 (.n 192 l6_192 (.n 191 l6_191 .l .l) (.n 193 l7_193 .l .l)) (.n 197 l7_197 (.n 196 l2_196 .l .l) .l)) (.n 202 l7_202 (.n 200 l7_200 (.n 199 l7_199 .l .l) (.n 201 l7_201 .l .l)) (.n 204 l8_204 (.n 203 l7_203 .l .l) .l))) (.n 213 l5_213 (.n 210 l5_210 (.n 208 l4_208 (.n 206 l2_206 .l .l) (.n 209 l7_209 .l .l)) (.n 212 l5_212 (.n 211 l6_211 .l .l) .l)) (.n 217 l5_217 (.n 215 l3_215 (.n 214 l4_214 .l .l) (.n 216 l5_216 .l .l)) (.n 219 l1_219 (.n 218 l9_218 .l .l) .l)))) (.n 234 l3_234 (.n 227 l7_227 (.n 224 l5_224 (.n 222 l3_222 (.n 221 l4_221 .l .l) (.n 223 l3_223 .l .l)) (.n 226 l4_226 (.n 225 l6_225 .l .l) .l)) (.n 231 l1_231 (.n 229 l6_229 (.n 228 l5_228 .l .l) (.n 230 l4_230 .l .l)) (.n 233 l3_233 (.n 232 l6_232 .l .l) .l))) (.n 241 l3_241 (.n 238 l1_238 (.n 236 l5_236 (.n 235 l4_235 .l .l) (.n 237 l3_237 .l .l)) (.n 240 l6_240 (.n 239 l8_239 .l .l) .l)) (.n 246 l1_246 (.n 244 l7_244 (.n 243 l3_243 .l .l) (.n 245 l2_245 .l .l)) (.n 252 l1_252 (.n 247 l2_247 .l .l) .l))))))
def e70_193 : Ent := [.o 7154 [v483,j 3] (v633)]
def e70_194 : Ent := [.o 13498 [v561,j 3] (v631)]
def k70 : List (Nat × Ent) := [(193,e70_193),(194,e70_194)]
def l10_193 : Ent := e70_193 ++ (l7_193)
def l10_194 : Ent := e70_194
def t10 : Tr Ent := (.n 191 l6_191 (.n 129 l1_129 (.n 88 l5_88 (.n 69 l1_69 (.n 49 l6_49 (.n 29 l1_29 (.n 28 l2_28 .l .l) (.n 46 l2_46 .l .l)) (.n 59 l1_59 (.n 50 l6_50 .l .l) (.n 62 l4_62 .l .l))) (.n 74 l5_74 (.n 71 l2_71 (.n 70 l5_70 .l .l) (.n 73 l5_73 .l .l)) (.n 86 l4_86 (.n 84 l6_84 .l .l) .l))) (.n 118 l1_118 (.n 102 l2_102 (.n 100 l3_100 (.n 99 l1_99 .l .l) (.n 101 l5_101 .l .l)) (.n 110 l4_110 (.n 107 l3_107 .l .l) .l)) (.n 125 l1_125 (.n 123 l3_123 (.n 119 l3_119 .l .l) (.n 124 l1_124 .l .l)) (.n 127 l5_127 (.n 126 l4_126 .l .l) .l)))) (.n 161 l3_161 (.n 150 l1_150 (.n 147 l1_147 (.n 137 l2_137 (.n 130 l4_130 .l .l) (.n 144 l2_144 .l .l)) (.n 149 l4_149 (.n 148 l4_148 .l .l) .l)) (.n 157 l2_157 (.n 155 l4_155 (.n 151 l2_151 .l .l) (.n 156 l4_156 .l .l)) (.n 159 l2_159 (.n 158 l1_158 .l .l) .l))) (.n 180 l3_180 (.n 166 l1_166 (.n 164 l3_164 (.n 163 l2_163 .l .l) (.n 165 l1_165 .l .l)) (.n 172 l1_172 (.n 168 l1_168 .l .l) .l)) (.n 188 l8_188 (.n 186 l5_186 (.n 185 l5_185 .l .l) (.n 187 l1_187 .l .l)) (.n 190 l6_190 (.n 189 l7_189 .l .l) .l))))) (.n 220 l6_220 (.n 205 l7_205 (.n 198 l7_198 (.n 195 l7_195 (.n 193 l10_193 (.n 192 l6_192 .l .l) (.n 194 l10_194 .l .l)) (.n 197 l7_197 (.n 196 l2_196 .l .l) .l)) (.n 202 l7_202 (.n 200 l7_200 (.n 199 l7_199 .l .l) (.n 201 l7_201 .l .l)) (.n 204 l8_204 (.n 203 l7_203 .l .l) .l))) (.n 213 l5_213 (.n 210 l5_210 (.n 208 l4_208 (.n 206 l2_206 .l .l) (.n 209 l7_209 .l .l)) (.n 212 l5_212 (.n 211 l6_211 .l .l) .l)) (.n 217 l5_217 (.n 215 l3_215 (.n 214 l4_214 .l .l) (.n 216 l5_216 .l .l)) (.n 219 l1_219 (.n 218 l9_218 .l .l) .l)))) (.n 234 l3_234 (.n 227 l7_227 (.n 224 l5_224 (.n 222 l3_222 (.n 221 l4_221 .l .l) (.n 223 l3_223 .l .l)) (.n 226 l4_226 (.n 225 l6_225 .l .l) .l)) (.n 231 l1_231 (.n 229 l6_229 (.n 228 l5_228 .l .l) (.n 230 l4_230 .l .l)) (.n 233 l3_233 (.n 232 l6_232 .l .l) .l))) (.n 241 l3_241 (.n 238 l1_238 (.n 236 l5_236 (.n 235 l4_235 .l .l) (.n 237 l3_237 .l .l)) (.n 240 l6_240 (.n 239 l8_239 .l .l) .l)) (.n 246 l1_246 (.n 244 l7_244 (.n 243 l3_243 .l .l) (.n 245 l2_245 .l .l)) (.n 252 l1_252 (.n 247 l2_247 .l .l) .l))))))
def e71_179 : Ent := [.o 7 [] (.bool true)]
def k71 : List (Nat × Ent) := [(179,e71_179)]
def l11_179 : Ent := e71_179
def t11 : Tr Ent := (.n 190 l6_190 (.n 129 l1_129 (.n 88 l5_88 (.n 69 l1_69 (.n 49 l6_49 (.n 29 l1_29 (.n 28 l2_28 .l .l) (.n 46 l2_46 .l .l)) (.n 59 l1_59 (.n 50 l6_50 .l .l) (.n 62 l4_62 .l .l))) (.n 74 l5_74 (.n 71 l2_71 (.n 70 l5_70 .l .l) (.n 73 l5_73 .l .l)) (.n 86 l4_86 (.n 84 l6_84 .l .l) .l))) (.n 118 l1_118 (.n 102 l2_102 (.n 100 l3_100 (.n 99 l1_99 .l .l) (.n 101 l5_101 .l .l)) (.n 110 l4_110 (.n 107 l3_107 .l .l) .l)) (.n 125 l1_125 (.n 123 l3_123 (.n 119 l3_119 .l .l) (.n 124 l1_124 .l .l)) (.n 127 l5_127 (.n 126 l4_126 .l .l) .l)))) (.n 161 l3_161 (.n 150 l1_150 (.n 147 l1_147 (.n 137 l2_137 (.n 130 l4_130 .l .l) (.n 144 l2_144 .l .l)) (.n 149 l4_149 (.n 148 l4_148 .l .l) .l)) (.n 157 l2_157 (.n 155 l4_155 (.n 151 l2_151 .l .l) (.n 156 l4_156 .l .l)) (.n 159 l2_159 (.n 158 l1_158 .l .l) .l))) (.n 179 l11_179 (.n 166 l1_166 (.n 164 l3_164 (.n 163 l2_163 .l .l) (.n 165 l1_165 .l .l)) (.n 172 l1_172 (.n 168 l1_168 .l .l) .l)) (.n 187 l1_187 (.n 185 l5_185 (.n 180 l3_180 .l .l) (.n 186 l5_186 .l .l)) (.n 189 l7_189 (.n 188 l8_188 .l .l) .l))))) (.n 220 l6_220 (.n 205 l7_205 (.n 198 l7_198 (.n 194 l10_194 (.n 192 l6_192 (.n 191 l6_191 .l .l) (.n 193 l10_193 .l .l)) (.n 196 l2_196 (.n 195 l7_195 .l .l) (.n 197 l7_197 .l .l))) (.n 202 l7_202 (.n 200 l7_200 (.n 199 l7_199 .l .l) (.n 201 l7_201 .l .l)) (.n 204 l8_204 (.n 203 l7_203 .l .l) .l))) (.n 213 l5_213 (.n 210 l5_210 (.n 208 l4_208 (.n 206 l2_206 .l .l) (.n 209 l7_209 .l .l)) (.n 212 l5_212 (.n 211 l6_211 .l .l) .l)) (.n 217 l5_217 (.n 215 l3_215 (.n 214 l4_214 .l .l) (.n 216 l5_216 .l .l)) (.n 219 l1_219 (.n 218 l9_218 .l .l) .l)))) (.n 234 l3_234 (.n 227 l7_227 (.n 224 l5_224 (.n 222 l3_222 (.n 221 l4_221 .l .l) (.n 223 l3_223 .l .l)) (.n 226 l4_226 (.n 225 l6_225 .l .l) .l)) (.n 231 l1_231 (.n 229 l6_229 (.n 228 l5_228 .l .l) (.n 230 l4_230 .l .l)) (.n 233 l3_233 (.n 232 l6_232 .l .l) .l))) (.n 241 l3_241 (.n 238 l1_238 (.n 236 l5_236 (.n 235 l4_235 .l .l) (.n 237 l3_237 .l .l)) (.n 240 l6_240 (.n 239 l8_239 .l .l) .l)) (.n 246 l1_246 (.n 244 l7_244 (.n 243 l3_243 .l .l) (.n 245 l2_245 .l .l)) (.n 252 l1_252 (.n 247 l2_247 .l .l) .l))))))
end VK1
end VE
