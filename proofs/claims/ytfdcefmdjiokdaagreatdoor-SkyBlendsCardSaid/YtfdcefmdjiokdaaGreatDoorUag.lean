import Derived.Test.YtfdcefmdjiokdaaGreatDoorUaf
import Derived.Test.YtfdcefmdjiokdaaGreatDoorUad
set_option linter.all false
set_option maxRecDepth 100000
namespace VE
namespace VK1
def T0:List (Tr cm):=[]
def aq1 {O:bk}:fI O T0:=fI.nil
abbrev j (n:Int):AV:= .int .i64 n
abbrev u (n:Nat):AV:= .int .u64 n
def w (l:List Nat):AV:= .aA true l.length (l.map u)
def v0:AV:= .str [48]
def v1:AV:= .str [51,47,50]
def v2:AV:= .str [49,47,50]
def v3:AV:= .str [49,47,50,52]
def v4:AV:= .str [49]
def v5:AV:= .str [49,47,49,48]
def v6:AV:= .aA true 2 [j 0,j 1]
def v7:AV:= .aA true 2 [j 2,j 3]
def v8:AV:= .aA true 3 [j 0,j 0,j 0]
def v9:AV:= .aA true 4 [j 0,j 0,j 0,j 0]
def v10:AV:= .agg [j 3,.ae,j 2,.ae]
def v11:AV:= .agg [j 1,.ae,j 1,.ae]
def v12:AV:= .agg [j 0,.ae,j 1,.ae]
def cV:AV:= .agg [j 1,.ae,j 2,.ae]
def rT:AV:= .agg [j 1,.ae,j 24,.ae]
def N7:AV:= .agg [j 5,.ae,j 4,.ae]
def TV:AV:= .aA true 2 [j 3,j 2]
def N8:AV:= .aA true 2 [j 1,j 2]
def TW:AV:= .aA true 2 [j 1,j 0]
def ER:AV:= .aA true 2 [j 2,j 4]
def v20:AV:= .str [49,48]
def v21:AV:= .str [53]
def v22:AV:= .agg [j 1,.ae]
def dD:AV:= .agg [j 3,.ae]
def v24:AV:= .agg [j 6,.ae]
def v25:AV:= .agg [j 2,.ae]
def bJ:AV:= .agg [j 0,.ae]
def v27:AV:= .agg [j 4,.ae]
def v28:AV:= .agg [j 5,.ae]
def ES:AV:= .agg [j 14,.ae]
def v30:AV:= .agg [j 10,.ae]
def v31:AV:= .agg [j 8,.ae]
def ET:AV:= .agg [j (-1),.ae]
def v33:AV:= .agg [j 12,.ae]
def EU:AV:= .agg [j 9,.ae]
def v35:AV:= .agg [j 16,.ae]
def v36:AV:= .agg [j 96,.ae]
def v37:AV:= .agg [j 100,.ae]
def v38:AV:= .agg [j 24,.ae]
def TX:AV:= .agg [j (-2),.ae]
def v40:AV:= .agg [j 3,.ae,j 1,.ae]
def TY:AV:= .aA true 5 [j 1,j 1,j 1,j 1,j 1]
def v42:AV:= .agg [j 2,.ae,j 1,.ae]
def mW:AV:= .agg [j 5,.ae,j 1,.ae]
def v44:AV:= .agg [j 10,.ae,j 1,.ae]
def TZ:AV:= .agg [j 8,.ae,j 1,.ae]
def v46:AV:= .agg [j 12,.ae,j 1,.ae]
def v47:AV:= .agg [j (-1),.ae,j 1,.ae]
def v48:AV:= .agg [j 0,j 0,j 1,.ae,j 2,.ae,j 1,.ae,j 2,.ae]
def v49:AV:= .au [j 1,j 0]
def Jq:AV:= .au [j 0,j 0]
def v51:AV:= .agg [j 0,j 0,j 0,.ae,j 1,.ae,j 0,.ae,j 1,.ae]
def CT:AV:= .agg [j 0,j 0,j 0,.ae,j 1,.ae,j 1,.ae,j 2,.ae]
def v53:AV:= .agg [j 1,j 0,j 1,.ae,j 2,.ae,j 0,.ae,j 1,.ae]
def Jr:AV:= .au [j 1,j 1]
def Js:AV:= .au [j 0,j 1]
def CU:AV:= .agg [j 1,j 1,j 0,.ae,j 1,.ae,j 0,.ae,j 1,.ae]
def rU:AV:= .agg [j 1,.ae,j 2,.ae,j 1,.ae,j 1,.ae]
def p9:AV:= .agg [j 0,.ae,j 1,.ae,j 1,.ae,j 2,.ae]
def v59:AV:= .agg [j 1,.ae,j 24,.ae,j 0,.ae,j 1,.ae]
def N9:AV:= .aA false 2 [j 1,.ae,j 1,.ae,j 1,.ae,j 1,.ae]
def Jt:AV:= .aA false 4 [j 1,.ae,j 2,.ae,j 0,.ae,j 1,.ae,j 0,.ae,j 1,.ae,j 0,.ae,j 1,.ae]
def Oa:AV:= .aA true 3 [j 0,j 1,j 0]
def v63:AV:= .agg [j 0,.ae,j 1,.ae,j 0,.ae,j 1,.ae]
def Ua:AV:= .agg [j 1,.ae,j 3,.ae]
def v65:AV:= .agg [j 1,.ae,j 4,.ae]
def EV:AV:= .agg [j 3,.ae,j 4,.ae]
def EW:AV:= .agg [j 7,.ae,j 2,.ae]
def v68:AV:= .agg [j 9,.ae,j 4,.ae]
def v69:AV:= .agg [j 1,.ae,j 8,.ae]
def v70:AV:= .agg [j 1,.ae,j 10,.ae]
def Ub:AV:= .agg [j 1,.ae,j 12,.ae]
def v72:AV:= .aA false 1 [j 1,.ae,j 1,.ae]
def v73:AV:= .aA true 1 [j 1,.ae,j 1,.ae]
def Ob:AV:= .aA true 2 [j 1,.ae,j 1,.ae,j 1,.ae,j 1,.ae]
def v75:AV:= .agg [j 6,.ae,j 1,.ae]
def v76:AV:= .agg [j 4,.ae,j 1,.ae]
def v77:AV:= .agg [j 14,.ae,j 1,.ae]
def Oc:AV:= .agg [j 1,.ae,j 1,.ae,j 0,.ae,j 1,.ae]
def v79:AV:= .agg [j 1,.ae,j 1,.ae,j 0,.ae,j 1,.ae,j 0,.ae,j 1,.ae,j 0,.ae,j 1,.ae]
def v80:AV:= .agg [j 3,.ae,j 2,.ae,j 0,.ae,j 1,.ae]
def CV:AV:= .agg [j 1,.ae,j 2,.ae,j 0,.ae,j 1,.ae]
def v82:AV:= .agg [j 1,.ae,j 2,.ae,j 1,.ae,j 2,.ae]
def v83:AV:= .agg [j 0,.ae,j 1,.ae,j 1,.ae,j 1,.ae]
def v84:AV:= .agg [j 1,.ae,j 10,.ae,j 0,.ae,j 1,.ae]
def v85:AV:= .aA false 1 [j 3,.ae,j 1,.ae]
def Uc:AV:= .agg [j 1,.ae,j 1,.ae,j 1,.ae,j 1,.ae]
def v87:AV:= .agg [v0,v0]
def Od:AV:= .agg [v1,v0]
def Oe:AV:= .agg [v2,v2]
def mr:AV:= .agg [v0,v4]
def v91:AV:= .agg [v4,v0]
def bV:AV:= .aA true 2 [v6,v7]
def v93:AV:= .aA true 2 [v4,v4]
def EX:AV:= .aA true 4 [v2,v0,v0,v0]
def EY:AV:= .agg [v0,v0,v0]
def rV:AV:= .agg [v0,v0,v20]
def zF:AV:= .agg [v5,v0,v0]
def Of:AV:= .au [bJ,bJ]
def EZ:AV:= .au [v22,bJ]
def M2:AV:= .au [v25,bJ]
def Cp:AV:= .au [bJ,v22]
def II:AV:= .aA true 2 [ER,ER]
def M3:AV:= .aA true 2 [TW,TV]
def Sc:AV:= .aA true 2 [N8,N8]
def v105:AV:= .aA true 3 [Oa,Oa,v8]
def M4:AV:= .au [v1,j 0]
def v107:AV:= .aA true 1 [.str [51]]
def Sd:AV:= .aA true 1 [v0,v0]
def v109:AV:= .agg [bV,v21,v4,v2,v0,v0,v2,v0]
def IJ:AV:= .aA true 1 [bV,v21,v4,v2,v0,v0,v2,v0]
def El:AV:= .aA true 1 [v93]
def ig:Nat->List (Nat×cm)->Tr cm
 | 0,_=> .l
 | n+1,l=>match l.drop (l.length/2) with
  | []=> .l
  | a::r=> .n a.1 a.2 (ig n (l.take (l.length/2))) (ig n r)
def Qf {p:Nat->cm->Prop}:∀(n:Nat) (l:List (Nat×cm)),(∀f e,(f,e)∈l->p f e)->(ig n l).kL p
 | 0,_,_=>aL
 | n+1,l,h=>by
  unfold ig
  split
  ·exact aL
  ·rename_i a r hd;have hs:∀x,x∈a::r->x∈l:=fun x hx=>List.mem_of_mem_drop (hd▸hx)
   exact aN (h a.1 a.2 (hs a List.mem_cons_self)) (Qf n _ fun f e q=>h f e (List.mem_of_mem_take q)) (Qf n _ fun f e q=>h f e (hs _ (List.mem_cons_of_mem _ q)))
def lv {O:bk} {P:aF} {L:Lib} (hO:gI O) (hp:O.prog=P) (hl:O.aX=L) {T T':List (Tr cm)} {C:List (Nat×cm)} (hT:fI O T) (h:iO P L T C=true) (NW:fI O T'):fI O (ig 9 C::T'):=by
 subst hp;subst hl;exact fI.cons (Qf 9 C (chunk_ok hO hT h)) NW
def k0:List (Nat×cm):=[(14,[.m 40535 [v0,v0] (v87) (.m 17893 [v1,v0] (Od) (.m 17891 [v2,v0] (.agg [v2,v0]) (.o 9861 [v3,v0] (.agg [v3,v0])) (.l)) (.m 24930 [v2,v2] (Oe) (.o 18154 [v2,v4] (.agg [v2,v4])) (.l))) (.m 47574 [v0,v2] (.agg [v0,v2]) (.m 40798 [v0,v4] (mr) (.o 40536 [v4,v0] (v91)) (.l)) (.o 56238 [v5,v0] (.agg [v5,v0])))]),(15,[.o 7 [] (bV)]),(29,[.m 51556 [v93,v93] (.bool true) (.o 30452 [EX,EX] (.bool true)) (.l)]),(31,[.m 28694 [.bool false,j 12] (j 0) (.m 26327 [.bool false,j 3] (j 0) (.o 26064 [.bool false,j 2] (j 0)) (.o 26853 [.bool false,j 5] (j 0))) (.m 33691 [.bool false,j 31] (j 0) (.o 28957 [.bool false,j 13] (j 0)) (.l))]),(33,[.m 34670 [v8] (j 0) (.m 9480 [.aA true 6 [j 0,j 0,j 0,j 0,j 0,j 0]] (j 0) (.o 3683 [.aA false 1 [j 0]] (j 0)) (.o 27379 [.aA true 2 [j 0,j 0]] (j 0))) (.m 51832 [v9] (j 0) (.o 44227 [.aA true 5 [j 0,j 0,j 0,j 0,j 0]] (j 0)) (.l)),.o 44227 [.aA false 5 [j 0,j 0,j 0,j 0,j 0]] (j 0)]),(38,[.m 25801 [j 2,j 1] (j 3) (.m 25800 [j 1,j 1] (j 2) (.o 25799 [j 0,j 1] (j 1)) (.l)) (.m 25803 [j 4,j 1] (j 5) (.o 25802 [j 3,j 1] (j 4)) (.l))]),(44,[.m 51329 [j 0,j 1,.aH [bV]] (j 2) (.m 51067 [j 1,j 0,.aH [bV]] (j 1) (.o 51066 [j 0,j 0,.aH [bV]] (j 0)) (.l)) (.o 51330 [j 1,j 1,.aH [bV]] (j 3))]),(46,[.m 9008 [v10] (v1) (.m 5358 [v11] (v4) (.o 5357 [v12] (v0)) (.o 9006 [cV] (v2))) (.m 23741 [rT] (v3) (.o 16306 [N7] (.str [53,47,52])) (.l))]),(47,[.m 51329 [j 0,j 1,.aH [bV]] (j 2) (.m 51067 [j 1,j 0,.aH [bV]] (j 1) (.o 51066 [j 0,j 0,.aH [bV]] (j 0)) (.l)) (.o 51330 [j 1,j 1,.aH [bV]] (j 3))]),(48,[.m 51329 [j 0,j 1,.aH [bV]] (j 4) (.m 51067 [j 1,j 0,.aH [bV]] (j 1) (.o 51066 [j 0,j 0,.aH [bV]] (j 0)) (.l)) (.o 51330 [j 1,j 1,.aH [bV]] (j 9))]),(59,[.m 27519 [TV,TV] (.bool true) (.m 26991 [N8,N8] (.bool true) (.o 19169 [TW,TW] (.bool true)) (.l)) (.o 35077 [ER,ER] (.bool true))]),(68,[.m 48449 [EY] (.bool true) (.o 46691 [rV] (.bool false)) (.o 64152 [zF] (.bool true))]),(80,[.o 45199 [v109] (j 4)]),(81,[.o 26588 [j 0,j 4] (j 4)]),(94,[.m 26852 [j 1,.aH [j 1000]] (.bool false) (.o 26851 [j 0,.aH [j 1000]] (.bool false)) (.l)])]
def aq2:iO prog aX T0 k0=true:=by decide+kernel
def k1:List (Nat×cm):=[(94,[.m 26853 [j 2,.aH [j 1000]] (.bool false) (.m 26852 [j 1,.aH [j 100]] (.bool false) (.o 26851 [j 0,.aH [j 100]] (.bool false)) (.l)) (.m 26855 [j 4,.aH [j 1000]] (.bool false) (.o 26854 [j 3,.aH [j 1000]] (.bool false)) (.l))]),(96,[.m 1844 [j 3] (.fn (.f 133) [] [.aH [j 3]]) (.o 1843 [j 2] (.fn (.f 133) [] [.aH [j 2]])) (.l)]),(100,[.m 38722 [v22,dD] (dD) (.m 38201 [v24,v22] (v24) (.m 38196 [v22,v22] (v22) (.m 37934 [v25,bJ] (bJ) (.m 37933 [v22,bJ] (bJ) (.o 37932 [bJ,bJ] (bJ)) (.l)) (.o 38195 [bJ,v22] (bJ))) (.m 38199 [v27,v22] (v27) (.m 38198 [dD,v22] (dD) (.o 38197 [v25,v22] (v25)) (.l)) (.o 38200 [v28,v22] (v28)))) (.m 38460 [v25,v25] (v27) (.m 38458 [bJ,v25] (bJ) (.m 38209 [ES,v22] (ES) (.o 38205 [v30,v22] (v30)) (.l)) (.o 38459 [v22,v25] (v25))) (.m 38474 [.agg [j (-9),.ae],v25] (.agg [j (-18),.ae]) (.o 38462 [v27,v25] (v31)) (.o 38721 [bJ,dD] (bJ))))) (.m 40036 [ET,v31] (.agg [j (-8),.ae]) (.m 38987 [dD,v27] (v33) (.m 38985 [v22,v27] (v27) (.m 38984 [bJ,v27] (bJ) (.o 38724 [dD,dD] (EU)) (.l)) (.o 38986 [v25,v27] (v31))) (.m 39247 [bJ,v28] (bJ) (.m 38991 [.agg [j 7,.ae],v27] (.agg [j 28,.ae]) (.o 38988 [v27,v27] (v35)) (.l)) (.o 39248 [v22,v28] (v28)))) (.m 41096 [v31,v33] (v36) (.m 40572 [v30,v30] (v37) (.m 40563 [v22,v30] (v30) (.o 40562 [bJ,v30] (bJ)) (.l)) (.o 41089 [v22,v33] (v33))) (.m 64232 [bJ,v37] (bJ) (.o 44245 [v22,v38] (v38)) (.o 64233 [v22,v37] (v37))))),.m 38458 [ET,v25] (TX) (.o 38195 [ET,v22] (ET)) (.l)]),(101,[.m 38196 [v22,v22] (v11) (.o 38195 [bJ,v22] (v12)) (.o 38198 [dD,v22] (v40))]),(118,[.m 40564 [v25,v30] (j (-1)) (.o 38196 [v22,v22] (j 0)) (.o 40567 [v28,v30] (j (-1)))]),(119,[.m 38458 [bJ,v25] (v25) (.m 37934 [v25,ET] (v22) (.m 37933 [v22,bJ] (v22) (.o 37932 [bJ,bJ] (bJ)) (.l)) (.o 38195 [bJ,v22] (v22))) (.m 41100 [v33,v33] (v38) (.o 38986 [v25,v27] (v24)) (.o 46902 [.agg [j 28,.ae],.agg [j (-18),.ae]] (v30)))])]
def aq3:iO prog aX T0 k1=true:=by decide+kernel
def k2:List (Nat×cm):=[(119,[.m 38468 [v30,TX] (v31) (.m 38197 [v25,v22] (dD) (.m 37935 [dD,bJ] (dD) (.o 37933 [v22,ET] (bJ)) (.o 38196 [v22,v22] (v25))) (.m 38461 [dD,TX] (v22) (.o 38460 [v25,v25] (v27)) (.l))) (.m 39247 [bJ,v28] (v28) (.m 38984 [bJ,v27] (v27) (.o 38721 [bJ,dD] (dD)) (.l)) (.m 41626 [v33,.agg [j (-8),.ae]] (v27) (.o 40562 [bJ,v30] (v30)) (.l))),.o 38468 [v30,v25] (v33)]),(124,[.m 26590 [.bool false,j 4] (j 0) (.m 26064 [.bool false,j 2] (j 0) (.o 25801 [.bool false,j 1] (j 0)) (.l)) (.m 28694 [.bool false,j 12] (j 0) (.o 26853 [.bool false,j 5] (j 0)) (.l))]),(125,[.m 51832 [v9] (j 0) (.o 27379 [.aA true 2 [j 0,j 0]] (j 0)) (.l)]),(129,[.m 2149 [.str [51]] (.bool true) (.m 2147 [v4] (.bool true) (.o 2146 [v0] (.bool true)) (.o 2148 [.str [50]] (.bool true))) (.m 2151 [v21] (.bool true) (.o 2150 [.str [52]] (.bool true)) (.o 14754 [v20] (.bool true)))]),(134,[.m 26063 [j 1,j 2] (j 1) (.o 26062 [j 0,j 2] (j 0)) (.o 26064 [j 2,j 2] (j 0)),.o 26062 [j (-1),j 2] (j 1)]),(151,[.m 28694 [v25] (.bool false) (.m 28693 [v22] (.bool false) (.o 28692 [bJ] (.bool false)) (.l)) (.m 28716 [v38] (.bool false) (.o 28695 [dD] (.bool false)) (.l))]),(164,[.m 38468 [v30,v25] (.au [v28,bJ]) (.m 38458 [bJ,v25] (Of) (.m 38198 [dD,v22] (.au [dD,bJ]) (.m 38196 [v22,v22] (EZ) (.o 38195 [bJ,v22] (Of)) (.o 38197 [v25,v22] (M2))) (.m 38204 [EU,v22] (.au [EU,bJ]) (.o 38199 [v27,v22] (.au [v27,bJ])) (.l))) (.m 38462 [v27,v25] (M2) (.m 38460 [v25,v25] (EZ) (.o 38459 [v22,v25] (Cp)) (.l)) (.m 38466 [v31,v25] (.au [v27,bJ]) (.o 38464 [v24,v25] (.au [dD,bJ])) (.l)))) (.m 38987 [dD,v27] (.au [bJ,dD]) (.m 38984 [bJ,v27] (Of) (.m 38725 [v27,dD] (.au [v22,v22]) (.o 38472 [ES,v25] (.au [.agg [j 7,.ae],bJ])) (.l)) (.m 38986 [v25,v27] (.au [bJ,v25]) (.o 38985 [v22,v27] (Cp)) (.l))) (.m 38993 [EU,v27] (.au [v25,v22]) (.m 38990 [v24,v27] (.au [v22,v25]) (.o 38988 [v27,v27] (EZ)) (.l)) (.m 40046 [v30,v31] (.au [v22,v25]) (.o 38998 [ES,v27] (.au [dD,v25])) (.l))))])]
def aq4:iO prog aX T0 k2=true:=by decide+kernel
def k3:List (Nat×cm):=[(164,[.m 40037 [v22,v31] (Cp) (.m 38722 [v22,dD] (Cp) (.m 38207 [v33,v22] (.au [v33,bJ]) (.m 38205 [v30,v22] (.au [v30,bJ]) (.o 38203 [v31,v22] (.au [v31,bJ])) (.l)) (.m 38461 [dD,v25] (.au [v22,v22]) (.o 38219 [v38,v22] (.au [v38,bJ])) (.l))) (.m 39252 [v28,v28] (EZ) (.m 39080 [v36,v27] (.au [v38,bJ]) (.o 38724 [dD,dD] (EZ)) (.l)) (.m 39518 [v31,v24] (.au [v22,v25]) (.o 39257 [v30,v28] (M2)) (.l)))) (.m 41089 [v22,v33] (Cp) (.m 40060 [v38,v31] (.au [dD,bJ]) (.m 40052 [v35,v31] (M2) (.o 40042 [v24,v31] (.au [bJ,v24])) (.l)) (.m 40567 [v28,v30] (.au [bJ,v28]) (.o 40563 [v22,v30] (Cp)) (.l))) (.m 44245 [v22,v38] (Cp) (.m 44244 [bJ,v38] (Of) (.o 42164 [v38,v35] (.au [v22,v31])) (.l)) (.m 63184 [v27,v36] (.au [bJ,v27]) (.o 44268 [v38,v38] (EZ)) (.l))))])]
def aq5:iO prog aX T0 k3=true:=by decide+kernel
def T1:List (Tr cm):=ig 9 k0::ig 9 k1::ig 9 k2::ig 9 k3::T0
def k4:List (Nat×cm):=[(21,[.m 47931 [II,II] (.bool true) (.o 9899 [M3,M3] (.bool true)) (.l),.o 9899 [Sc,Sc] (.bool true)]),(23,[.o 7 [] (v109)]),(28,[.o 58093 [.aA false 1 [EX],.aA true 1 [EX]] (.bool true)]),(34,[.m 43068 [j 1,j 1,j 2147483646] (j 0) (.m 25938 [j 2,j 1,j 16] (j 0) (.o 11651 [j 1,j 0,j 1000] (j 0)) (.l)) (.m 55041 [j 1,j (-999999999),j 999999999] (j 0) (.o 55040 [j 0,j (-999999999),j 999999999] (j 0)) (.l))]),(37,[.m 25649 [j 0,TY,.fn (.f 38) [] []] (j 5) (.o 12396 [j 0,.aA false 1 [j 4],.fn (.f 81) [] []] (j 4)) (.l)]),(49,[.m 36730 [v11,v11] (v11) (.m 36468 [v42,v12] (v12) (.m 36467 [v11,v12] (v12) (.o 36466 [v12,v12] (v12)) (.l)) (.o 36729 [v12,v11] (v12))) (.m 37256 [v11,v40] (v40) (.m 37255 [v12,v40] (v12) (.o 36992 [v12,v42] (v12)) (.l)) (.o 37781 [v12,mW] (v12)))]),(63,[.m 31055 [zF,mW] (.bool true) (.o 15352 [EY,mW] (.bool true)) (.l)]),(71,[.m 39101 [mW,v44] (j (-1)) (.o 39098 [v42,v44] (j (-1))) (.l)]),(74,[.m 36730 [v11,v11] (v42) (.m 36469 [v40,v12] (v40) (.m 36467 [v11,v12] (v11) (.o 36466 [v12,v12] (v12)) (.l)) (.o 36729 [v12,v11] (v11))) (.m 37002 [v44,.agg [j (-2),.ae,j 1,.ae]] (TZ) (.o 36731 [v42,v11] (v40)) (.o 37255 [v12,v40] (v40))),.m 37002 [v44,v42] (v46) (.o 36467 [v11,v47] (v12)) (.l)]),(79,[.o 4689 [IJ,.fn (.f 80) [] []] (.cr false 1 1 [j 4])]),(86,[.m 2150 [.str [52]] (j 0) (.m 2147 [v4] (j 0) (.o 2146 [v0] (j 0)) (.o 2149 [.str [51]] (j 0))) (.m 14754 [v20] (j 0) (.o 2151 [v21] (j 0)) (.l))]),(97,[.m 5504 [bV,j 1,j 2] (j 1) (.m 2119 [bV,j 2,j 1] (j 2) (.m 1856 [bV,j 1,j 1] (j 3) (.o 1593 [bV,j (-1),j 1] (j 3)) (.l)) (.o 5241 [bV,j (-1),j 2] (j 1))) (.m 63729 [bV,j 1,j 0] (j 1) (.m 63466 [bV,j (-1),j 0] (j 1) (.o 5767 [bV,j 2,j 2] (j 0)) (.l)) (.o 63992 [bV,j 2,j 0] (j 0))),.m 63466 [bV,j 0,j 0] (j 0) (.m 5241 [bV,j 0,j 2] (j 0) (.o 1593 [bV,j 0,j 1] (j 2)) (.l)) (.m 63992 [bV,j 2,j (-1)] (j 2) (.o 63729 [bV,j 1,j (-1)] (j 3)) (.l)),.o 63466 [bV,j (-1),j (-1)] (j 3),.o 63466 [bV,j 0,j (-1)] (j 2)]),(105,[.m 62435 [v48,j 1,j 2] (v49) (.o 62172 [v48,j 0,j 2] (Jq)) (.l)])]
def aq6:iO prog aX T1 k4=true:=by decide+kernel
def k5:List (Nat×cm):=[(105,[.m 60093 [v51,j 1,j 2] (v49) (.m 51383 [CT,j 0,j 2] (Jq) (.m 5625 [v53,j 2,j 2] (Jr) (.m 5362 [v53,j 1,j 2] (Jq) (.o 5099 [v53,j 0,j 2] (v49)) (.l)) (.o 5888 [v53,j 3,j 2] (Js))) (.m 52172 [CT,j 3,j 2] (Jr) (.m 51909 [CT,j 2,j 2] (Js) (.o 51646 [CT,j 1,j 2] (v49)) (.l)) (.o 59830 [v51,j 0,j 2] (Jq)))) (.m 60620 [CU,j 2,j 2] (v49) (.m 60357 [CU,j 1,j 2] (Js) (.m 60356 [v51,j 2,j 2] (Js) (.o 60094 [CU,j 0,j 2] (Jr)) (.l)) (.o 60619 [v51,j 3,j 2] (Jr))) (.m 62698 [v48,j 2,j 2] (Js) (.o 60883 [CU,j 3,j 2] (Jq)) (.o 62961 [v48,j 3,j 2] (Jr))))]),(107,[.m 9006 [cV] (.bool false) (.m 5358 [v11] (.bool false) (.o 5357 [v12] (.bool false)) (.l)) (.m 23741 [rT] (.bool false) (.o 9008 [v10] (.bool false)) (.l))]),(114,[.m 44894 [rU] (.agg [v2,v4]) (.o 14255 [p9] (.agg [v0,v2])) (.o 52488 [v59] (.agg [v3,v0]))]),(123,[.m 41248 [N9] (.cr true 1 2 [v4,v4]) (.o 19556 [Jt] (.cr true 1 4 [v2,v0,v0,v0])) (.l)]),(130,[.m 38990 [v24,v27] (v25) (.m 38724 [dD,dD] (dD) (.m 38461 [dD,v25] (v22) (.m 38459 [v22,v25] (v22) (.o 38458 [bJ,v25] (v25)) (.o 38460 [v25,v25] (v25))) (.m 38722 [v22,dD] (v22) (.o 38462 [v27,v25] (v25)) (.l))) (.m 38986 [v25,v27] (v25) (.m 38985 [v22,v27] (v22) (.o 38984 [bJ,v27] (v27)) (.l)) (.m 38988 [v27,v27] (v27) (.o 38987 [dD,v27] (v22)) (.l)))) (.m 40567 [v28,v30] (v28) (.m 40042 [v24,v31] (v25) (.m 38998 [ES,v27] (v25) (.o 38993 [EU,v27] (v22)) (.o 40037 [v22,v31] (v22))) (.m 40563 [v22,v30] (v22) (.o 40046 [v30,v31] (v25)) (.l))) (.m 44244 [bJ,v38] (v38) (.m 42164 [v38,v35] (v31) (.o 41089 [v22,v33] (v22)) (.l)) (.m 63184 [v27,v36] (v27) (.o 44245 [v22,v38] (v22)) (.l))))]),(132,[.m 53443 [ER,.fn (.f 94) [] [.aH [j 1000]]] (j (-1)) (.m 53180 [v7,.fn (.f 94) [] [.aH [j 1000]]] (j (-1)) (.o 52652 [v6,.fn (.f 94) [] [.aH [j 1000]]] (j (-1))) (.l)) (.m 59943 [Oa,.fn (.f 94) [] [.aH [j 100]]] (j (-1)) (.o 59680 [v8,.fn (.f 94) [] [.aH [j 100]]] (j (-1))) (.l))]),(149,[.m 9006 [cV] (bJ) (.o 5357 [v12] (bJ)) (.l)])]
def aq7:iO prog aX T1 k5=true:=by decide+kernel
def k6:List (Nat×cm):=[(149,[.m 9008 [v10] (v22) (.o 5358 [v11] (v22)) (.l)]),(155,[.m 52923 [v30,j 2] (v37) (.o 52660 [v30,j 1] (v30)) (.l)])]
def aq8:iO prog aX T1 k6=true:=by decide+kernel
def T2:List (Tr cm):=ig 9 k4::ig 9 k5::ig 9 k6::T1
def k7:List (Nat×cm):=[(36,[.o 1842 [j 1] (j 0)]),(41,[.m 45155 [j 0,j 1,.aH [v105],.aH [bV],.aH [j 1]] (j 2) (.m 44893 [j 1,j 0,.aH [v105],.aH [bV],.aH [j 1]] (j 4) (.o 44892 [j 0,j 0,.aH [v105],.aH [bV],.aH [j 1]] (j 2)) (.l)) (.o 45156 [j 1,j 1,.aH [v105],.aH [bV],.aH [j 1]] (j 4))]),(50,[.m 36730 [v11,v11] (v12) (.m 36467 [v11,v12] (v11) (.o 36466 [v12,v12] (v12)) (.l)) (.o 37002 [v44,v42] (TZ))]),(51,[.m 1842 [j 1] (j 0) (.o 1841 [j 0] (j 0)) (.l)]),(52,[.m 45155 [j 0,j 1,.aH [bV],.aH [j 1],.aH [j 0]] (j 1) (.m 44893 [j 1,j 0,.aH [bV],.aH [j 1],.aH [j 0]] (j 1) (.o 44892 [j 0,j 0,.aH [bV],.aH [j 1],.aH [j 0]] (j 1)) (.l)) (.o 45156 [j 1,j 1,.aH [bV],.aH [j 1],.aH [j 0]] (j 1))]),(53,[.m 42377 [v91] (j 0) (.o 42376 [v87] (j 0)) (.o 42639 [mr] (j 0))]),(57,[.m 9008 [v10] (M4) (.o 9006 [cV] (.au [v2,j 0])) (.l)]),(58,[.m 45155 [j 0,j 1,.aH [bV],.aH [j 1],.aH [j 0]] (j 3) (.m 44893 [j 1,j 0,.aH [bV],.aH [j 1],.aH [j 0]] (j 0) (.o 44892 [j 0,j 0,.aH [bV],.aH [j 1],.aH [j 0]] (j 1)) (.l)) (.o 45156 [j 1,j 1,.aH [bV],.aH [j 1],.aH [j 0]] (j 2))]),(75,[.m 65476 [v63,v11] (v63) (.o 1007 [v63,mW] (v63)) (.l)]),(85,[.o 29001 [v107,.fn (.f 86) [] []] (.cr false 1 1 [j 0])]),(95,[.m 53443 [ER,.fn (.f 94) [] [.aH [j 1000]]] (.bool false) (.m 53180 [v7,.fn (.f 94) [] [.aH [j 1000]]] (.bool false) (.o 52652 [v6,.fn (.f 94) [] [.aH [j 1000]]] (.bool false)) (.l)) (.m 59943 [Oa,.fn (.f 94) [] [.aH [j 100]]] (.bool false) (.o 59680 [v8,.fn (.f 94) [] [.aH [j 100]]] (.bool false)) (.l))]),(101,[.m 38990 [v24,v27] (v10) (.m 38724 [dD,dD] (v11) (.m 38461 [dD,v25] (v10) (.m 38459 [v22,v25] (cV) (.o 38458 [bJ,v25] (v12)) (.o 38460 [v25,v25] (v11))) (.m 38722 [v22,dD] (Ua) (.o 38462 [v27,v25] (v42)) (.l))) (.m 38986 [v25,v27] (cV) (.m 38985 [v22,v27] (v65) (.o 38984 [bJ,v27] (v12)) (.l)) (.m 38988 [v27,v27] (v11) (.o 38987 [dD,v27] (EV)) (.l)))) (.m 40567 [v28,v30] (cV) (.m 40042 [v24,v31] (EV) (.m 38998 [ES,v27] (EW) (.o 38993 [EU,v27] (v68)) (.o 40037 [v22,v31] (v69))) (.m 40563 [v22,v30] (v70) (.o 40046 [v30,v31] (N7)) (.l))) (.m 44244 [bJ,v38] (v12) (.m 42164 [v38,v35] (v10) (.o 41089 [v22,v33] (Ub)) (.l)) (.m 63184 [v27,v36] (rT) (.o 44245 [v22,v38] (rT)) (.l))))]),(106,[.m 47498 [v12,.aA false 4 [j 0,.ae,j 1,.ae,j 0,.ae,j 1,.ae,j 1,.ae,j 1,.ae,j 0,.ae,j 1,.ae],.fn (.f 74) [] []] (v11) (.o 20032 [v12,.aA false 4 [j 3,.ae,j 1,.ae,j 0,.ae,j 1,.ae,j 0,.ae,j 1,.ae,j 0,.ae,j 1,.ae],.fn (.f 74) [] []] (v40)) (.l)]),(110,[.o 2147 [v4] (v22)])]
def aq9:iO prog aX T2 k7=true:=by decide+kernel
def k8:List (Nat×cm):=[(110,[.m 2150 [.str [52]] (v27) (.m 2148 [.str [50]] (v25) (.o 2146 [v0] (bJ)) (.o 2149 [.str [51]] (dD))) (.m 14754 [v20] (v30) (.o 2151 [v21] (v28)) (.l))]),(112,[.o 25238 [v63,v63] (v63)]),(113,[.m 44894 [rU] (.bool false) (.o 14255 [p9] (.bool false)) (.o 52488 [v59] (.bool false))]),(131,[.m 36994 [v72,v73] (v11) (.o 11145 [Ob,Ob] (v42)) (.l)]),(160,[.m 44566 [Jt,.fn (.f 107) [] []] (j (-1)) (.o 737 [N9,.fn (.f 107) [] []] (j (-1))) (.l)]),(161,[.o 42642 [v93] (j 0)])]
def ara:iO prog aX T2 k8=true:=by decide+kernel
def T3:List (Tr cm):=ig 9 k7::ig 9 k8::T2
def k9:List (Nat×cm):=[(32,[.m 57092 [bV,j 1000] (j 0) (.o 28943 [v105,j 100] (j 0)) (.o 61531 [II,j 1000] (j 0))]),(35,[.o 56899 [TY,.fn (.f 36) [] []] (.cr false 1 5 [j 0,j 0,j 0,j 0,j 0])]),(40,[.o 26853 [j 2,.fn (.f 58) [] [.aH [bV],.aH [j 1],.aH [j 0]]] (M3),.o 26853 [j 2,.fn (.f 41) [] [.aH [v105],.aH [bV],.aH [j 1]]] (II)]),(49,[.m 32083 [v75,v65] (v10) (.m 17515 [v10,v10] (v68) (.m 13339 [v11,cV] (cV) (.m 13338 [v12,cV] (v12) (.o 5093 [v70,mW] (cV)) (.l)) (.m 16987 [cV,cV] (v65) (.o 13342 [v76,cV] (v42)) (.l))) (.m 22905 [v11,rT] (rT) (.m 22904 [v12,rT] (v12) (.o 22778 [mW,v70] (cV)) (.l)) (.o 32081 [v76,v65] (v11)))) (.m 47411 [v65,v12] (v12) (.m 40378 [cV,v11] (cV) (.m 40115 [cV,v12] (v12) (.o 32091 [v77,v65] (EW)) (.l)) (.m 40904 [cV,v40] (v10) (.o 40641 [cV,v42] (v11)) (.l))) (.m 48200 [v65,v40] (EV) (.m 47937 [v65,v42] (cV) (.o 47674 [v65,v11] (v65)) (.l)) (.o 55471 [v40,Ua] (v11))))]),(62,[.m 2151 [v21] (mW) (.m 2149 [.str [51]] (v40) (.m 2147 [v4] (v11) (.o 2146 [v0] (v12)) (.l)) (.o 2150 [.str [52]] (v76))) (.m 45023 [v2] (cV) (.m 17849 [v5] (v70) (.o 14754 [v20] (v44)) (.l)) (.o 45025 [v1] (v10)))]),(65,[.m 44894 [rU] (.au [.agg [v2,v4],j 0]) (.o 14255 [p9] (.au [.agg [v0,v2],j 0])) (.o 52488 [v59] (.au [.agg [v3,v0],j 0]))]),(72,[.o 25239 [Oc,v63] (Oc)]),(73,[.m 5365 [TZ] (v69) (.m 5360 [v40] (Ua) (.o 5359 [v42] (cV)) (.o 5361 [v76] (v65))) (.m 5369 [v46] (Ub) (.o 5367 [v44] (v70)) (.l))]),(74,[.m 32077 [v12,v65] (v65) (.m 13338 [v12,cV] (cV) (.m 13076 [v11,.agg [j (-1),.ae,j 2,.ae]] (cV) (.o 1265 [v69,.agg [j (-1),.ae,j 12,.ae]] (rT)) (.l)) (.m 24283 [v65,cV] (EV) (.o 16987 [cV,cV] (v11)) (.l))) (.m 40117 [v10,v47] (cV) (.m 40115 [cV,v12] (cV) (.o 39677 [EW,.agg [j (-9),.ae,j 4,.ae]] (N7)) (.l)) (.o 43550 [EV,EV] (v10)))]),(86,[.m 45023 [v2] (j 0) (.o 17849 [v5] (j 0)) (.o 45025 [v1] (j 0))]),(91,[.o 30369 [v72,.aH [v73]] (v11)])]
def arb:iO prog aX T3 k9=true:=by decide+kernel
def k10:List (Nat×cm):=[(104,[.m 21813 [CU] (v79) (.o 21549 [v51] (v79)) (.l)]),(121,[.o 1866 [Sd,.fn (.f 53) [] []] (.cr false 1 1 [j 0])]),(122,[.m 44566 [Jt,.fn (.f 107) [] []] (.bool false) (.o 737 [N9,.fn (.f 107) [] []] (.bool false)) (.l)]),(126,[.o 2131 [v93,.aH [El]] (j 0)])]
def aot:iO prog aX T3 k10=true:=by decide+kernel
def T4:List (Tr cm):=ig 9 k9::ig 9 k10::T3
def k11:List (Nat×cm):=[(4,[.o 32481 [bV] (j 0)]),(5,[.o 31824 [j 1,j 2,TY] (.au [Sc,j 0])]),(50,[.m 37836 [EW,v68] (N7) (.m 13339 [v11,cV] (cV) (.o 1528 [v69,Ub] (rT)) (.l)) (.m 40380 [v10,v11] (cV) (.o 40115 [cV,v12] (cV)) (.l))]),(53,[.m 26771 [Oe] (j 0) (.m 19734 [Od] (j 0) (.o 19732 [.agg [v2,v0]] (j 0)) (.l)) (.o 58079 [.agg [v5,v0]] (j 0))]),(54,[.m 42376 [v87] (v63) (.m 19734 [Od] (v80) (.o 19732 [.agg [v2,v0]] (CV)) (.o 26771 [Oe] (v82))) (.m 42639 [mr] (v83) (.o 42377 [v91] (Oc)) (.o 58079 [.agg [v5,v0]] (v84)))]),(56,[.o 44745 [CU,bV] (v40)]),(61,[.m 25846 [v21,j 0] (j 0) (.m 25845 [.str [52],j 0] (j 0) (.o 25841 [v0,j 0] (j 0)) (.l)) (.m 38449 [v20,j 0] (j 0) (.o 26105 [v4,j 1] (j 0)) (.l))]),(63,[.o 13594 [rV,mW] (.bool true)]),(70,[.m 37522 [v76,v76] (v11) (.m 36996 [v76,v42] (v42) (.m 36993 [v11,v42] (cV) (.o 36992 [v12,v42] (v12)) (.l)) (.o 37258 [v40,v40] (v11))) (.m 37532 [v77,v76] (EW) (.o 37524 [v75,v76] (v10)) (.o 39101 [mW,v44] (cV)))]),(75,[.m 33840 [v84,mW] (CV) (.m 3604 [CV,v11] (CV) (.o 3341 [CV,v12] (v63)) (.o 10745 [rU,v11] (rU))) (.m 49226 [v83,cV] (p9) (.o 45627 [p9,v11] (p9)) (.o 51652 [Oc,rT] (v59)))]),(78,[.o 42377 [Sd] (j 0)]),(83,[.m 41248 [N9] (.au [v93,j 0]) (.o 19556 [Jt] (.au [EX,j 0])) (.l)]),(88,[.m 42642 [v93] (.cr true 4 2 [j 1,.ae,j 1,.ae,j 1,.ae,j 1,.ae]) (.o 3991 [v107] (.cr true 4 1 [j 3,.ae,j 1,.ae])) (.l)]),(89,[.o 2579 [.aA false 1 [Ob],.aH [v4]] (.cr false 1 1 [v85])]),(92,[.o 63847 [.aA true 2 [v72,v72],.fn (.f 91) [] [.aH [v73]]] (.cr false 4 2 [j 1,.ae,j 1,.ae,j 1,.ae,j 1,.ae])]),(106,[.m 61636 [v12,Jt,.fn (.f 74) [] []] (cV) (.o 47668 [v12,.aA false 4 [j 0,.ae,j 1,.ae,j 1,.ae,j 4,.ae,j 1,.ae,j 2,.ae,j 3,.ae,j 4,.ae],.fn (.f 74) [] []] (v10)) (.l)]),(112,[.m 12900 [rU,CV] (Uc) (.m 9251 [v83,CV] (rU) (.o 5389 [p9,v63] (p9)) (.l)) (.o 36028 [rU,v63] (rU))]),(127,[.o 3973 [El,.fn (.f 126) [] [.aH [El]]] (j 0)])]
def aou:iO prog aX T4 k11=true:=by decide+kernel
def T5:List (Tr cm):=ig 9 k11::T4
def k12:List (Nat×cm):=[(9,[.o 63249 [bV,v105] (.au [II,j 0])]),(20,[.o 63729 [bV,j 1,j 0] (.au [M3,j 0])]),(45,[.o 26853 [j 2,.fn (.f 44) [] [.aH [bV]]] (v10),.o 26853 [j 2,.fn (.f 47) [] [.aH [bV]]] (v10),.o 26853 [j 2,.fn (.f 48) [] [.aH [bV]]] (EW),.o 26853 [j 2,.fn (.f 52) [] [.aH [bV],.aH [j 1],.aH [j 0]]] (v11)]),(60,[.m 48449 [EY] (j 0) (.o 46691 [rV] (j 0)) (.o 64152 [zF] (j 0))]),(64,[.m 13425 [EY,mW,v87] (v63) (.o 5737 [zF,mW,mr] (rU)) (.o 53797 [rV,mW,mr] (p9))]),(84,[.o 44484 [El] (j 0)]),(87,[.o 3973 [El,.fn (.f 88) [] []] (.cr false 1 1 [Ob])]),(90,[.o 39364 [.aA false 1 [v85],.aA true 1 [j 3,.ae,j 1,.ae]] (.cr true 4 1 [j 1,.ae,j 1,.ae])]),(103,[.m 33227 [cV,j 2] (.au [j 0,cV]) (.m 29579 [v11,j 2] (.au [j 1,v12]) (.o 29578 [v12,j 2] (.au [j 0,v12])) (.l)) (.o 33229 [v10,j 2] (.au [j 1,cV]))]),(104,[.m 23891 [v48] (.agg [j 1,.ae,j 4,.ae,j 1,.ae,j 4,.ae,j 1,.ae,j 4,.ae,j 1,.ae,j 4,.ae]) (.o 13102 [CT] (.agg [j 1,.ae,j 2,.ae,j 0,.ae,j 1,.ae,j 1,.ae,j 2,.ae,j 0,.ae,j 1,.ae])) (.o 32339 [v53] (.agg [j 1,.ae,j 2,.ae,j 1,.ae,j 2,.ae,j 0,.ae,j 1,.ae,j 0,.ae,j 1,.ae]))]),(115,[.o 45199 [v109] (j 0)])]
def aov:iO prog aX T5 k12=true:=by decide+kernel
def T6:List (Tr cm):=ig 9 k12::T5
def k13:List (Nat×cm):=[(16,[.o 32481 [bV] (M4)]),(17,[.o 32481 [bV] (.au [.str [53,47,52],j 0])]),(18,[.o 63729 [bV,j 1,j 0] (.au [v4,j 0])]),(22,[.m 61077 [rV,v21,mr] (.au [.agg [v0,v2],j 0]) (.o 13017 [zF,v21,mr] (.au [.agg [v2,v4],j 0])) (.l)]),(25,[.o 12660 [rV,.str [52],v87,v91] (.au [.agg [v3,v0],j 0])]),(27,[.o 53661 [El,v107,v4] (.au [v93,j 0])]),(55,[.m 58325 [v63,j 2] (v51) (.m 42125 [v82,j 2] (v48) (.o 38476 [p9,j 2] (CT)) (.l)) (.m 65467 [Uc,j 2] (CU) (.o 61976 [v80,j 2] (v53)) (.l))]),(56,[.m 46823 [v48,bV] (v10) (.o 36034 [CT,bV] (v11)) (.o 55271 [v53,bV] (cV))]),(66,[.m 62507 [v109,rV,mr,j 0] (j 0) (.o 44889 [v109,zF,mr,j 1] (j 0)) (.l)]),(77,[.o 7939 [.aA true 1 [v0,v0,v0],.fn (.f 60) [] []] (.cr false 1 1 [j 0])]),(116,[.m 44889 [v109,zF,mr,j 1] (Uc) (.o 24084 [v109,EY,v87,j 0] (v63)) (.o 62507 [v109,rV,mr,j 0] (p9))]),(120,[.o 4689 [IJ,.fn (.f 115) [] []] (.cr false 1 1 [j 0])])]
def aow:iO prog aX T6 k13=true:=by decide+kernel
def T7:List (Tr cm):=ig 9 k13::T6
def k14:List (Nat×cm):=[(19,[.m 60666 [bV,Oe] (M4) (.o 44523 [bV,Od] (.au [v2,j 0])) (.l)]),(67,[.m 62507 [v109,rV,mr,j 0] (cV) (.o 44889 [v109,zF,mr,j 1] (v10)) (.l)]),(76,[.o 45200 [IJ] (j 0)]),(82,[.o 45043 [IJ,EY,v87,j 0,j 4] (.cr false 4 4 [j 1,.ae,j 2,.ae,j 0,.ae,j 1,.ae,j 0,.ae,j 1,.ae,j 0,.ae,j 1,.ae])])]
def aox:iO prog aX T7 k14=true:=by decide+kernel
def T8:List (Tr cm):=ig 9 k14::T7
def k15:List (Nat×cm):=[(24,[.m 62507 [v109,rV,mr,j 0] (.au [v2,j 0]) (.o 44889 [v109,zF,mr,j 1] (M4)) (.l)]),(26,[.o 27996 [IJ,.aA true 1 [v0,v0,v0],Sd,j 0] (.au [.cr false 1 1 [EX],j 0])])]
def aoy:iO prog aX T8 k15=true:=by decide+kernel
def T9:List (Tr cm):=ig 9 k15::T8
def Ud:List (Nat×cm):=[(1,[.o 7 [] (.bool true)])]
def aoz:iO prog aX T9 Ud=true:=by decide+kernel
def T10:List (Tr cm):=ig 9 Ud::T9
section
variable {O:bk} (hO:gI O) (hp:O.prog=prog) (hl:O.aX=aX)
include hO hp hl
theorem arc:fI O T1:=have h:=aq1;lv hO hp hl h aq2 (lv hO hp hl h aq3 (lv hO hp hl h aq4 (lv hO hp hl h aq5 h)))
theorem ard:fI O T2:=have h:=arc hO hp hl;lv hO hp hl h aq6 (lv hO hp hl h aq7 (lv hO hp hl h aq8 h))
theorem are:fI O T3:=have h:=ard hO hp hl;lv hO hp hl h aq9 (lv hO hp hl h ara h)
theorem arf:fI O T4:=have h:=are hO hp hl;lv hO hp hl h arb (lv hO hp hl h aot h)
theorem arh:fI O T5:=have h:=arf hO hp hl;lv hO hp hl h aou h
theorem ari:fI O T6:=have h:=arh hO hp hl;lv hO hp hl h aov h
theorem arj:fI O T7:=have h:=ari hO hp hl;lv hO hp hl h aow h
theorem ark:fI O T8:=have h:=arj hO hp hl;lv hO hp hl h aox h
theorem arl:fI O T9:=have h:=ark hO hp hl;lv hO hp hl h aoy h
theorem aoA:fI O T10:=have h:=arl hO hp hl;lv hO hp hl h aoz h
theorem holds:dV O 1 [] (.bool true):=Tr.BH (aoA hO hp hl (ig 9 Ud) (.head _)) (i:=1) rfl _ _ ⟨_,.head _,.inl rfl⟩
end
end VK1
end VE
