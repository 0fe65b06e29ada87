import Derived.Test.YtfdcefmdjiokdaaGreatDoorTaf
import Derived.Test.YtfdcefmdjiokdaaGreatDoorTad
set_option linter.all false
set_option maxRecDepth 100000
namespace VE
namespace VK1
def T0:List (Tr cu):=[]
def asC {O:br}:fL O T0:=fL.nil
abbrev j (n:Int):AV:= .int .i64 n
abbrev u (n:Nat):AV:= .int .u64 n
def w (l:List Nat):AV:= .aC true l.length (l.map u)
def v0:AV:= .str [48]
def v1:AV:= .str [51,47,50]
def v2:AV:= .str [49,47,50]
def v3:AV:= .str [49,47,50,52]
def v4:AV:= .str [49]
def v5:AV:= .str [49,47,49,48]
def v6:AV:= .aC true 2 [j 0,j 1]
def v7:AV:= .aC true 2 [j 2,j 3]
def v8:AV:= .aC true 3 [j 0,j 0,j 0]
def v9:AV:= .aC true 4 [j 0,j 0,j 0,j 0]
def v10:AV:= .agg [j 3,.af,j 2,.af]
def v11:AV:= .agg [j 1,.af,j 1,.af]
def v12:AV:= .agg [j 0,.af,j 1,.af]
def cV:AV:= .agg [j 1,.af,j 2,.af]
def sc:AV:= .agg [j 1,.af,j 24,.af]
def OW:AV:= .agg [j 5,.af,j 4,.af]
def Ve:AV:= .aC true 2 [j 3,j 2]
def OX:AV:= .aC true 2 [j 1,j 2]
def Vg:AV:= .aC true 2 [j 1,j 0]
def FB:AV:= .aC true 2 [j 2,j 4]
def v20:AV:= .str [49,48]
def v21:AV:= .str [53]
def v22:AV:= .agg [j 1,.af]
def dK:AV:= .agg [j 3,.af]
def v24:AV:= .agg [j 6,.af]
def v25:AV:= .agg [j 2,.af]
def bM:AV:= .agg [j 0,.af]
def v27:AV:= .agg [j 4,.af]
def v28:AV:= .agg [j 5,.af]
def FC:AV:= .agg [j 14,.af]
def v30:AV:= .agg [j 10,.af]
def v31:AV:= .agg [j 8,.af]
def FD:AV:= .agg [j (-1),.af]
def v33:AV:= .agg [j 12,.af]
def FE:AV:= .agg [j 9,.af]
def v35:AV:= .agg [j 16,.af]
def v36:AV:= .agg [j 96,.af]
def v37:AV:= .agg [j 100,.af]
def v38:AV:= .agg [j 24,.af]
def Vh:AV:= .agg [j (-2),.af]
def v40:AV:= .agg [j 3,.af,j 1,.af]
def Vi:AV:= .aC true 5 [j 1,j 1,j 1,j 1,j 1]
def v42:AV:= .agg [j 2,.af,j 1,.af]
def nh:AV:= .agg [j 5,.af,j 1,.af]
def v44:AV:= .agg [j 10,.af,j 1,.af]
def Vj:AV:= .agg [j 8,.af,j 1,.af]
def v46:AV:= .agg [j 12,.af,j 1,.af]
def v47:AV:= .agg [j (-1),.af,j 1,.af]
def v48:AV:= .agg [j 0,j 0,j 1,.af,j 2,.af,j 1,.af,j 2,.af]
def v49:AV:= .ap [j 1,j 0]
def Kk:AV:= .ap [j 0,j 0]
def v51:AV:= .agg [j 0,j 0,j 0,.af,j 1,.af,j 0,.af,j 1,.af]
def Ds:AV:= .agg [j 0,j 0,j 0,.af,j 1,.af,j 1,.af,j 2,.af]
def v53:AV:= .agg [j 1,j 0,j 1,.af,j 2,.af,j 0,.af,j 1,.af]
def Kl:AV:= .ap [j 1,j 1]
def Km:AV:= .ap [j 0,j 1]
def Dt:AV:= .agg [j 1,j 1,j 0,.af,j 1,.af,j 0,.af,j 1,.af]
def sd:AV:= .agg [j 1,.af,j 2,.af,j 1,.af,j 1,.af]
def qv:AV:= .agg [j 0,.af,j 1,.af,j 1,.af,j 2,.af]
def v59:AV:= .agg [j 1,.af,j 24,.af,j 0,.af,j 1,.af]
def OY:AV:= .aC false 2 [j 1,.af,j 1,.af,j 1,.af,j 1,.af]
def Kn:AV:= .aC false 4 [j 1,.af,j 2,.af,j 0,.af,j 1,.af,j 0,.af,j 1,.af,j 0,.af,j 1,.af]
def OZ:AV:= .aC true 3 [j 0,j 1,j 0]
def v63:AV:= .agg [j 0,.af,j 1,.af,j 0,.af,j 1,.af]
def Vk:AV:= .agg [j 1,.af,j 3,.af]
def v65:AV:= .agg [j 1,.af,j 4,.af]
def FF:AV:= .agg [j 3,.af,j 4,.af]
def FG:AV:= .agg [j 7,.af,j 2,.af]
def v68:AV:= .agg [j 9,.af,j 4,.af]
def v69:AV:= .agg [j 1,.af,j 8,.af]
def v70:AV:= .agg [j 1,.af,j 10,.af]
def Vm:AV:= .agg [j 1,.af,j 12,.af]
def v72:AV:= .aC false 1 [j 1,.af,j 1,.af]
def v73:AV:= .aC true 1 [j 1,.af,j 1,.af]
def O0:AV:= .aC true 2 [j 1,.af,j 1,.af,j 1,.af,j 1,.af]
def v75:AV:= .agg [j 6,.af,j 1,.af]
def v76:AV:= .agg [j 4,.af,j 1,.af]
def v77:AV:= .agg [j 14,.af,j 1,.af]
def O1:AV:= .agg [j 1,.af,j 1,.af,j 0,.af,j 1,.af]
def v79:AV:= .agg [j 1,.af,j 1,.af,j 0,.af,j 1,.af,j 0,.af,j 1,.af,j 0,.af,j 1,.af]
def v80:AV:= .agg [j 3,.af,j 2,.af,j 0,.af,j 1,.af]
def Du:AV:= .agg [j 1,.af,j 2,.af,j 0,.af,j 1,.af]
def v82:AV:= .agg [j 1,.af,j 2,.af,j 1,.af,j 2,.af]
def v83:AV:= .agg [j 0,.af,j 1,.af,j 1,.af,j 1,.af]
def v84:AV:= .agg [j 1,.af,j 10,.af,j 0,.af,j 1,.af]
def v85:AV:= .aC false 1 [j 3,.af,j 1,.af]
def Vn:AV:= .agg [j 1,.af,j 1,.af,j 1,.af,j 1,.af]
def v87:AV:= .agg [v0,v0]
def O2:AV:= .agg [v1,v0]
def O3:AV:= .agg [v2,v2]
def mG:AV:= .agg [v0,v4]
def v91:AV:= .agg [v4,v0]
def b9:AV:= .aC true 2 [v6,v7]
def v93:AV:= .aC true 2 [v4,v4]
def FH:AV:= .aC true 4 [v2,v0,v0,v0]
def FI:AV:= .agg [v0,v0,v0]
def se:AV:= .agg [v0,v0,v20]
def zO:AV:= .agg [v5,v0,v0]
def O4:AV:= .ap [bM,bM]
def FJ:AV:= .ap [v22,bM]
def NX:AV:= .ap [v25,bM]
def CY:AV:= .ap [bM,v22]
def Jx:AV:= .aC true 2 [FB,FB]
def NY:AV:= .aC true 2 [Vg,Ve]
def Ti:AV:= .aC true 2 [OX,OX]
def v105:AV:= .aC true 3 [OZ,OZ,v8]
def NZ:AV:= .ap [v1,j 0]
def v107:AV:= .aC true 1 [.str [51]]
def Tj:AV:= .aC true 1 [v0,v0]
def v109:AV:= .agg [b9,v21,v4,v2,v0,v0,v2,v0]
def Jy:AV:= .aC true 1 [b9,v21,v4,v2,v0,v0,v2,v0]
def E2:AV:= .aC true 1 [v93]
def iq:Nat->List (Nat×cu)->Tr cu
 | 0,_=> .l
 | n+1,l=>match l.drop (l.length/2) with
  | []=> .l
  | a::r=> .n a.1 a.2 (iq n (l.take (l.length/2))) (iq n r)
def Q1 {p:Nat->cu->Prop}:∀(n:Nat) (l:List (Nat×cu)),(∀f e,(f,e)∈l->p f e)->(iq n l).kX p
 | 0,_,_=>aL
 | n+1,l,h=>by
  unfold iq
  split
  ·exact aL
  ·rename_i a r hd;have hs:∀x,x∈a::r->x∈l:=fun x hx=>List.mem_of_mem_drop (hd▸hx)
   exact aN (h a.1 a.2 (hs a List.mem_cons_self)) (Q1 n _ fun f e q=>h f e (List.mem_of_mem_take q)) (Q1 n _ fun f e q=>h f e (hs _ (List.mem_cons_of_mem _ q)))
def lv {O:br} {P:aG} {L:Lib} (hO:gN O) (hp:O.prog=P) (hl:O.aX=L) {T T':List (Tr cu)} {C:List (Nat×cu)} (hT:fL O T) (h:iV P L T C=true) (OM:fL O T'):fL O (iq 9 C::T'):=by
 subst hp;subst hl;exact fL.cons (Q1 9 C (chunk_ok hO hT h)) OM
def k0:List (Nat×cu):=[(14,[.m 40535 [v0,v0] (v87) (.m 17893 [v1,v0] (O2) (.m 17891 [v2,v0] (.agg [v2,v0]) (.o 9861 [v3,v0] (.agg [v3,v0])) (.l)) (.m 24930 [v2,v2] (O3) (.o 18154 [v2,v4] (.agg [v2,v4])) (.l))) (.m 47574 [v0,v2] (.agg [v0,v2]) (.m 40798 [v0,v4] (mG) (.o 40536 [v4,v0] (v91)) (.l)) (.o 56238 [v5,v0] (.agg [v5,v0])))]),(15,[.o 7 [] (b9)]),(29,[.m 51556 [v93,v93] (.bool true) (.o 30452 [FH,FH] (.bool true)) (.l)]),(31,[.m 28694 [.bool false,j 12] (j 0) (.m 26327 [.bool false,j 3] (j 0) (.o 26064 [.bool false,j 2] (j 0)) (.o 26853 [.bool false,j 5] (j 0))) (.m 33691 [.bool false,j 31] (j 0) (.o 28957 [.bool false,j 13] (j 0)) (.l))]),(33,[.m 34670 [v8] (j 0) (.m 9480 [.aC true 6 [j 0,j 0,j 0,j 0,j 0,j 0]] (j 0) (.o 3683 [.aC false 1 [j 0]] (j 0)) (.o 27379 [.aC true 2 [j 0,j 0]] (j 0))) (.m 51832 [v9] (j 0) (.o 44227 [.aC true 5 [j 0,j 0,j 0,j 0,j 0]] (j 0)) (.l)),.o 44227 [.aC false 5 [j 0,j 0,j 0,j 0,j 0]] (j 0)]),(38,[.m 25801 [j 2,j 1] (j 3) (.m 25800 [j 1,j 1] (j 2) (.o 25799 [j 0,j 1] (j 1)) (.l)) (.m 25803 [j 4,j 1] (j 5) (.o 25802 [j 3,j 1] (j 4)) (.l))]),(44,[.m 51329 [j 0,j 1,.aJ [b9]] (j 2) (.m 51067 [j 1,j 0,.aJ [b9]] (j 1) (.o 51066 [j 0,j 0,.aJ [b9]] (j 0)) (.l)) (.o 51330 [j 1,j 1,.aJ [b9]] (j 3))]),(46,[.m 9008 [v10] (v1) (.m 5358 [v11] (v4) (.o 5357 [v12] (v0)) (.o 9006 [cV] (v2))) (.m 23741 [sc] (v3) (.o 16306 [OW] (.str [53,47,52])) (.l))]),(47,[.m 51329 [j 0,j 1,.aJ [b9]] (j 2) (.m 51067 [j 1,j 0,.aJ [b9]] (j 1) (.o 51066 [j 0,j 0,.aJ [b9]] (j 0)) (.l)) (.o 51330 [j 1,j 1,.aJ [b9]] (j 3))]),(48,[.m 51329 [j 0,j 1,.aJ [b9]] (j 4) (.m 51067 [j 1,j 0,.aJ [b9]] (j 1) (.o 51066 [j 0,j 0,.aJ [b9]] (j 0)) (.l)) (.o 51330 [j 1,j 1,.aJ [b9]] (j 9))]),(59,[.m 27519 [Ve,Ve] (.bool true) (.m 26991 [OX,OX] (.bool true) (.o 19169 [Vg,Vg] (.bool true)) (.l)) (.o 35077 [FB,FB] (.bool true))]),(68,[.m 48449 [FI] (.bool true) (.o 46691 [se] (.bool false)) (.o 64152 [zO] (.bool true))]),(80,[.o 45199 [v109] (j 4)]),(81,[.o 26588 [j 0,j 4] (j 4)]),(94,[.m 26852 [j 1,.aJ [j 1000]] (.bool false) (.o 26851 [j 0,.aJ [j 1000]] (.bool false)) (.l)])]
def asD:iV prog aX T0 k0=true:=by decide+kernel
def k1:List (Nat×cu):=[(94,[.m 26853 [j 2,.aJ [j 1000]] (.bool false) (.m 26852 [j 1,.aJ [j 100]] (.bool false) (.o 26851 [j 0,.aJ [j 100]] (.bool false)) (.l)) (.m 26855 [j 4,.aJ [j 1000]] (.bool false) (.o 26854 [j 3,.aJ [j 1000]] (.bool false)) (.l))]),(96,[.m 1844 [j 3] (.fn (.f 133) [] [.aJ [j 3]]) (.o 1843 [j 2] (.fn (.f 133) [] [.aJ [j 2]])) (.l)]),(100,[.m 38722 [v22,dK] (dK) (.m 38201 [v24,v22] (v24) (.m 38196 [v22,v22] (v22) (.m 37934 [v25,bM] (bM) (.m 37933 [v22,bM] (bM) (.o 37932 [bM,bM] (bM)) (.l)) (.o 38195 [bM,v22] (bM))) (.m 38199 [v27,v22] (v27) (.m 38198 [dK,v22] (dK) (.o 38197 [v25,v22] (v25)) (.l)) (.o 38200 [v28,v22] (v28)))) (.m 38460 [v25,v25] (v27) (.m 38458 [bM,v25] (bM) (.m 38209 [FC,v22] (FC) (.o 38205 [v30,v22] (v30)) (.l)) (.o 38459 [v22,v25] (v25))) (.m 38474 [.agg [j (-9),.af],v25] (.agg [j (-18),.af]) (.o 38462 [v27,v25] (v31)) (.o 38721 [bM,dK] (bM))))) (.m 40036 [FD,v31] (.agg [j (-8),.af]) (.m 38987 [dK,v27] (v33) (.m 38985 [v22,v27] (v27) (.m 38984 [bM,v27] (bM) (.o 38724 [dK,dK] (FE)) (.l)) (.o 38986 [v25,v27] (v31))) (.m 39247 [bM,v28] (bM) (.m 38991 [.agg [j 7,.af],v27] (.agg [j 28,.af]) (.o 38988 [v27,v27] (v35)) (.l)) (.o 39248 [v22,v28] (v28)))) (.m 41096 [v31,v33] (v36) (.m 40572 [v30,v30] (v37) (.m 40563 [v22,v30] (v30) (.o 40562 [bM,v30] (bM)) (.l)) (.o 41089 [v22,v33] (v33))) (.m 64232 [bM,v37] (bM) (.o 44245 [v22,v38] (v38)) (.o 64233 [v22,v37] (v37))))),.m 38458 [FD,v25] (Vh) (.o 38195 [FD,v22] (FD)) (.l)]),(101,[.m 38196 [v22,v22] (v11) (.o 38195 [bM,v22] (v12)) (.o 38198 [dK,v22] (v40))]),(118,[.m 40564 [v25,v30] (j (-1)) (.o 38196 [v22,v22] (j 0)) (.o 40567 [v28,v30] (j (-1)))]),(119,[.m 38458 [bM,v25] (v25) (.m 37934 [v25,FD] (v22) (.m 37933 [v22,bM] (v22) (.o 37932 [bM,bM] (bM)) (.l)) (.o 38195 [bM,v22] (v22))) (.m 41100 [v33,v33] (v38) (.o 38986 [v25,v27] (v24)) (.o 46902 [.agg [j 28,.af],.agg [j (-18),.af]] (v30)))])]
def asE:iV prog aX T0 k1=true:=by decide+kernel
def k2:List (Nat×cu):=[(119,[.m 38468 [v30,Vh] (v31) (.m 38197 [v25,v22] (dK) (.m 37935 [dK,bM] (dK) (.o 37933 [v22,FD] (bM)) (.o 38196 [v22,v22] (v25))) (.m 38461 [dK,Vh] (v22) (.o 38460 [v25,v25] (v27)) (.l))) (.m 39247 [bM,v28] (v28) (.m 38984 [bM,v27] (v27) (.o 38721 [bM,dK] (dK)) (.l)) (.m 41626 [v33,.agg [j (-8),.af]] (v27) (.o 40562 [bM,v30] (v30)) (.l))),.o 38468 [v30,v25] (v33)]),(124,[.m 26590 [.bool false,j 4] (j 0) (.m 26064 [.bool false,j 2] (j 0) (.o 25801 [.bool false,j 1] (j 0)) (.l)) (.m 28694 [.bool false,j 12] (j 0) (.o 26853 [.bool false,j 5] (j 0)) (.l))]),(125,[.m 51832 [v9] (j 0) (.o 27379 [.aC true 2 [j 0,j 0]] (j 0)) (.l)]),(129,[.m 2149 [.str [51]] (.bool true) (.m 2147 [v4] (.bool true) (.o 2146 [v0] (.bool true)) (.o 2148 [.str [50]] (.bool true))) (.m 2151 [v21] (.bool true) (.o 2150 [.str [52]] (.bool true)) (.o 14754 [v20] (.bool true)))]),(134,[.m 26063 [j 1,j 2] (j 1) (.o 26062 [j 0,j 2] (j 0)) (.o 26064 [j 2,j 2] (j 0)),.o 26062 [j (-1),j 2] (j 1)]),(151,[.m 28694 [v25] (.bool false) (.m 28693 [v22] (.bool false) (.o 28692 [bM] (.bool false)) (.l)) (.m 28716 [v38] (.bool false) (.o 28695 [dK] (.bool false)) (.l))]),(164,[.m 38468 [v30,v25] (.ap [v28,bM]) (.m 38458 [bM,v25] (O4) (.m 38198 [dK,v22] (.ap [dK,bM]) (.m 38196 [v22,v22] (FJ) (.o 38195 [bM,v22] (O4)) (.o 38197 [v25,v22] (NX))) (.m 38204 [FE,v22] (.ap [FE,bM]) (.o 38199 [v27,v22] (.ap [v27,bM])) (.l))) (.m 38462 [v27,v25] (NX) (.m 38460 [v25,v25] (FJ) (.o 38459 [v22,v25] (CY)) (.l)) (.m 38466 [v31,v25] (.ap [v27,bM]) (.o 38464 [v24,v25] (.ap [dK,bM])) (.l)))) (.m 38987 [dK,v27] (.ap [bM,dK]) (.m 38984 [bM,v27] (O4) (.m 38725 [v27,dK] (.ap [v22,v22]) (.o 38472 [FC,v25] (.ap [.agg [j 7,.af],bM])) (.l)) (.m 38986 [v25,v27] (.ap [bM,v25]) (.o 38985 [v22,v27] (CY)) (.l))) (.m 38993 [FE,v27] (.ap [v25,v22]) (.m 38990 [v24,v27] (.ap [v22,v25]) (.o 38988 [v27,v27] (FJ)) (.l)) (.m 40046 [v30,v31] (.ap [v22,v25]) (.o 38998 [FC,v27] (.ap [dK,v25])) (.l))))])]
def asF:iV prog aX T0 k2=true:=by decide+kernel
def k3:List (Nat×cu):=[(164,[.m 40037 [v22,v31] (CY) (.m 38722 [v22,dK] (CY) (.m 38207 [v33,v22] (.ap [v33,bM]) (.m 38205 [v30,v22] (.ap [v30,bM]) (.o 38203 [v31,v22] (.ap [v31,bM])) (.l)) (.m 38461 [dK,v25] (.ap [v22,v22]) (.o 38219 [v38,v22] (.ap [v38,bM])) (.l))) (.m 39252 [v28,v28] (FJ) (.m 39080 [v36,v27] (.ap [v38,bM]) (.o 38724 [dK,dK] (FJ)) (.l)) (.m 39518 [v31,v24] (.ap [v22,v25]) (.o 39257 [v30,v28] (NX)) (.l)))) (.m 41089 [v22,v33] (CY) (.m 40060 [v38,v31] (.ap [dK,bM]) (.m 40052 [v35,v31] (NX) (.o 40042 [v24,v31] (.ap [bM,v24])) (.l)) (.m 40567 [v28,v30] (.ap [bM,v28]) (.o 40563 [v22,v30] (CY)) (.l))) (.m 44245 [v22,v38] (CY) (.m 44244 [bM,v38] (O4) (.o 42164 [v38,v35] (.ap [v22,v31])) (.l)) (.m 63184 [v27,v36] (.ap [bM,v27]) (.o 44268 [v38,v38] (FJ)) (.l))))])]
def asG:iV prog aX T0 k3=true:=by decide+kernel
def T1:List (Tr cu):=iq 9 k0::iq 9 k1::iq 9 k2::iq 9 k3::T0
def k4:List (Nat×cu):=[(21,[.m 47931 [Jx,Jx] (.bool true) (.o 9899 [NY,NY] (.bool true)) (.l),.o 9899 [Ti,Ti] (.bool true)]),(23,[.o 7 [] (v109)]),(28,[.o 58093 [.aC false 1 [FH],.aC true 1 [FH]] (.bool true)]),(34,[.m 43068 [j 1,j 1,j 2147483646] (j 0) (.m 25938 [j 2,j 1,j 16] (j 0) (.o 11651 [j 1,j 0,j 1000] (j 0)) (.l)) (.m 55041 [j 1,j (-999999999),j 999999999] (j 0) (.o 55040 [j 0,j (-999999999),j 999999999] (j 0)) (.l))]),(37,[.m 25649 [j 0,Vi,.fn (.f 38) [] []] (j 5) (.o 12396 [j 0,.aC false 1 [j 4],.fn (.f 81) [] []] (j 4)) (.l)]),(49,[.m 36730 [v11,v11] (v11) (.m 36468 [v42,v12] (v12) (.m 36467 [v11,v12] (v12) (.o 36466 [v12,v12] (v12)) (.l)) (.o 36729 [v12,v11] (v12))) (.m 37256 [v11,v40] (v40) (.m 37255 [v12,v40] (v12) (.o 36992 [v12,v42] (v12)) (.l)) (.o 37781 [v12,nh] (v12)))]),(63,[.m 31055 [zO,nh] (.bool true) (.o 15352 [FI,nh] (.bool true)) (.l)]),(71,[.m 39101 [nh,v44] (j (-1)) (.o 39098 [v42,v44] (j (-1))) (.l)]),(74,[.m 36730 [v11,v11] (v42) (.m 36469 [v40,v12] (v40) (.m 36467 [v11,v12] (v11) (.o 36466 [v12,v12] (v12)) (.l)) (.o 36729 [v12,v11] (v11))) (.m 37002 [v44,.agg [j (-2),.af,j 1,.af]] (Vj) (.o 36731 [v42,v11] (v40)) (.o 37255 [v12,v40] (v40))),.m 37002 [v44,v42] (v46) (.o 36467 [v11,v47] (v12)) (.l)]),(79,[.o 4689 [Jy,.fn (.f 80) [] []] (.cf false 1 1 [j 4])]),(86,[.m 2150 [.str [52]] (j 0) (.m 2147 [v4] (j 0) (.o 2146 [v0] (j 0)) (.o 2149 [.str [51]] (j 0))) (.m 14754 [v20] (j 0) (.o 2151 [v21] (j 0)) (.l))]),(97,[.m 5504 [b9,j 1,j 2] (j 1) (.m 2119 [b9,j 2,j 1] (j 2) (.m 1856 [b9,j 1,j 1] (j 3) (.o 1593 [b9,j (-1),j 1] (j 3)) (.l)) (.o 5241 [b9,j (-1),j 2] (j 1))) (.m 63729 [b9,j 1,j 0] (j 1) (.m 63466 [b9,j (-1),j 0] (j 1) (.o 5767 [b9,j 2,j 2] (j 0)) (.l)) (.o 63992 [b9,j 2,j 0] (j 0))),.m 63466 [b9,j 0,j 0] (j 0) (.m 5241 [b9,j 0,j 2] (j 0) (.o 1593 [b9,j 0,j 1] (j 2)) (.l)) (.m 63992 [b9,j 2,j (-1)] (j 2) (.o 63729 [b9,j 1,j (-1)] (j 3)) (.l)),.o 63466 [b9,j (-1),j (-1)] (j 3),.o 63466 [b9,j 0,j (-1)] (j 2)]),(105,[.m 62435 [v48,j 1,j 2] (v49) (.o 62172 [v48,j 0,j 2] (Kk)) (.l)])]
def asH:iV prog aX T1 k4=true:=by decide+kernel
def k5:List (Nat×cu):=[(105,[.m 60093 [v51,j 1,j 2] (v49) (.m 51383 [Ds,j 0,j 2] (Kk) (.m 5625 [v53,j 2,j 2] (Kl) (.m 5362 [v53,j 1,j 2] (Kk) (.o 5099 [v53,j 0,j 2] (v49)) (.l)) (.o 5888 [v53,j 3,j 2] (Km))) (.m 52172 [Ds,j 3,j 2] (Kl) (.m 51909 [Ds,j 2,j 2] (Km) (.o 51646 [Ds,j 1,j 2] (v49)) (.l)) (.o 59830 [v51,j 0,j 2] (Kk)))) (.m 60620 [Dt,j 2,j 2] (v49) (.m 60357 [Dt,j 1,j 2] (Km) (.m 60356 [v51,j 2,j 2] (Km) (.o 60094 [Dt,j 0,j 2] (Kl)) (.l)) (.o 60619 [v51,j 3,j 2] (Kl))) (.m 62698 [v48,j 2,j 2] (Km) (.o 60883 [Dt,j 3,j 2] (Kk)) (.o 62961 [v48,j 3,j 2] (Kl))))]),(107,[.m 9006 [cV] (.bool false) (.m 5358 [v11] (.bool false) (.o 5357 [v12] (.bool false)) (.l)) (.m 23741 [sc] (.bool false) (.o 9008 [v10] (.bool false)) (.l))]),(114,[.m 44894 [sd] (.agg [v2,v4]) (.o 14255 [qv] (.agg [v0,v2])) (.o 52488 [v59] (.agg [v3,v0]))]),(123,[.m 41248 [OY] (.cf true 1 2 [v4,v4]) (.o 19556 [Kn] (.cf true 1 4 [v2,v0,v0,v0])) (.l)]),(130,[.m 38990 [v24,v27] (v25) (.m 38724 [dK,dK] (dK) (.m 38461 [dK,v25] (v22) (.m 38459 [v22,v25] (v22) (.o 38458 [bM,v25] (v25)) (.o 38460 [v25,v25] (v25))) (.m 38722 [v22,dK] (v22) (.o 38462 [v27,v25] (v25)) (.l))) (.m 38986 [v25,v27] (v25) (.m 38985 [v22,v27] (v22) (.o 38984 [bM,v27] (v27)) (.l)) (.m 38988 [v27,v27] (v27) (.o 38987 [dK,v27] (v22)) (.l)))) (.m 40567 [v28,v30] (v28) (.m 40042 [v24,v31] (v25) (.m 38998 [FC,v27] (v25) (.o 38993 [FE,v27] (v22)) (.o 40037 [v22,v31] (v22))) (.m 40563 [v22,v30] (v22) (.o 40046 [v30,v31] (v25)) (.l))) (.m 44244 [bM,v38] (v38) (.m 42164 [v38,v35] (v31) (.o 41089 [v22,v33] (v22)) (.l)) (.m 63184 [v27,v36] (v27) (.o 44245 [v22,v38] (v22)) (.l))))]),(132,[.m 53443 [FB,.fn (.f 94) [] [.aJ [j 1000]]] (j (-1)) (.m 53180 [v7,.fn (.f 94) [] [.aJ [j 1000]]] (j (-1)) (.o 52652 [v6,.fn (.f 94) [] [.aJ [j 1000]]] (j (-1))) (.l)) (.m 59943 [OZ,.fn (.f 94) [] [.aJ [j 100]]] (j (-1)) (.o 59680 [v8,.fn (.f 94) [] [.aJ [j 100]]] (j (-1))) (.l))]),(149,[.m 9006 [cV] (bM) (.o 5357 [v12] (bM)) (.l)])]
def asI:iV prog aX T1 k5=true:=by decide+kernel
def k6:List (Nat×cu):=[(149,[.m 9008 [v10] (v22) (.o 5358 [v11] (v22)) (.l)]),(155,[.m 52923 [v30,j 2] (v37) (.o 52660 [v30,j 1] (v30)) (.l)])]
def asJ:iV prog aX T1 k6=true:=by decide+kernel
def T2:List (Tr cu):=iq 9 k4::iq 9 k5::iq 9 k6::T1
def k7:List (Nat×cu):=[(36,[.o 1842 [j 1] (j 0)]),(41,[.m 45155 [j 0,j 1,.aJ [v105],.aJ [b9],.aJ [j 1]] (j 2) (.m 44893 [j 1,j 0,.aJ [v105],.aJ [b9],.aJ [j 1]] (j 4) (.o 44892 [j 0,j 0,.aJ [v105],.aJ [b9],.aJ [j 1]] (j 2)) (.l)) (.o 45156 [j 1,j 1,.aJ [v105],.aJ [b9],.aJ [j 1]] (j 4))]),(50,[.m 36730 [v11,v11] (v12) (.m 36467 [v11,v12] (v11) (.o 36466 [v12,v12] (v12)) (.l)) (.o 37002 [v44,v42] (Vj))]),(51,[.m 1842 [j 1] (j 0) (.o 1841 [j 0] (j 0)) (.l)]),(52,[.m 45155 [j 0,j 1,.aJ [b9],.aJ [j 1],.aJ [j 0]] (j 1) (.m 44893 [j 1,j 0,.aJ [b9],.aJ [j 1],.aJ [j 0]] (j 1) (.o 44892 [j 0,j 0,.aJ [b9],.aJ [j 1],.aJ [j 0]] (j 1)) (.l)) (.o 45156 [j 1,j 1,.aJ [b9],.aJ [j 1],.aJ [j 0]] (j 1))]),(53,[.m 42377 [v91] (j 0) (.o 42376 [v87] (j 0)) (.o 42639 [mG] (j 0))]),(57,[.m 9008 [v10] (NZ) (.o 9006 [cV] (.ap [v2,j 0])) (.l)]),(58,[.m 45155 [j 0,j 1,.aJ [b9],.aJ [j 1],.aJ [j 0]] (j 3) (.m 44893 [j 1,j 0,.aJ [b9],.aJ [j 1],.aJ [j 0]] (j 0) (.o 44892 [j 0,j 0,.aJ [b9],.aJ [j 1],.aJ [j 0]] (j 1)) (.l)) (.o 45156 [j 1,j 1,.aJ [b9],.aJ [j 1],.aJ [j 0]] (j 2))]),(75,[.m 65476 [v63,v11] (v63) (.o 1007 [v63,nh] (v63)) (.l)]),(85,[.o 29001 [v107,.fn (.f 86) [] []] (.cf false 1 1 [j 0])]),(95,[.m 53443 [FB,.fn (.f 94) [] [.aJ [j 1000]]] (.bool false) (.m 53180 [v7,.fn (.f 94) [] [.aJ [j 1000]]] (.bool false) (.o 52652 [v6,.fn (.f 94) [] [.aJ [j 1000]]] (.bool false)) (.l)) (.m 59943 [OZ,.fn (.f 94) [] [.aJ [j 100]]] (.bool false) (.o 59680 [v8,.fn (.f 94) [] [.aJ [j 100]]] (.bool false)) (.l))]),(101,[.m 38990 [v24,v27] (v10) (.m 38724 [dK,dK] (v11) (.m 38461 [dK,v25] (v10) (.m 38459 [v22,v25] (cV) (.o 38458 [bM,v25] (v12)) (.o 38460 [v25,v25] (v11))) (.m 38722 [v22,dK] (Vk) (.o 38462 [v27,v25] (v42)) (.l))) (.m 38986 [v25,v27] (cV) (.m 38985 [v22,v27] (v65) (.o 38984 [bM,v27] (v12)) (.l)) (.m 38988 [v27,v27] (v11) (.o 38987 [dK,v27] (FF)) (.l)))) (.m 40567 [v28,v30] (cV) (.m 40042 [v24,v31] (FF) (.m 38998 [FC,v27] (FG) (.o 38993 [FE,v27] (v68)) (.o 40037 [v22,v31] (v69))) (.m 40563 [v22,v30] (v70) (.o 40046 [v30,v31] (OW)) (.l))) (.m 44244 [bM,v38] (v12) (.m 42164 [v38,v35] (v10) (.o 41089 [v22,v33] (Vm)) (.l)) (.m 63184 [v27,v36] (sc) (.o 44245 [v22,v38] (sc)) (.l))))]),(106,[.m 47498 [v12,.aC false 4 [j 0,.af,j 1,.af,j 0,.af,j 1,.af,j 1,.af,j 1,.af,j 0,.af,j 1,.af],.fn (.f 74) [] []] (v11) (.o 20032 [v12,.aC false 4 [j 3,.af,j 1,.af,j 0,.af,j 1,.af,j 0,.af,j 1,.af,j 0,.af,j 1,.af],.fn (.f 74) [] []] (v40)) (.l)]),(110,[.o 2147 [v4] (v22)])]
def asK:iV prog aX T2 k7=true:=by decide+kernel
def k8:List (Nat×cu):=[(110,[.m 2150 [.str [52]] (v27) (.m 2148 [.str [50]] (v25) (.o 2146 [v0] (bM)) (.o 2149 [.str [51]] (dK))) (.m 14754 [v20] (v30) (.o 2151 [v21] (v28)) (.l))]),(112,[.o 25238 [v63,v63] (v63)]),(113,[.m 44894 [sd] (.bool false) (.o 14255 [qv] (.bool false)) (.o 52488 [v59] (.bool false))]),(131,[.m 36994 [v72,v73] (v11) (.o 11145 [O0,O0] (v42)) (.l)]),(160,[.m 44566 [Kn,.fn (.f 107) [] []] (j (-1)) (.o 737 [OY,.fn (.f 107) [] []] (j (-1))) (.l)]),(161,[.o 42642 [v93] (j 0)])]
def asL:iV prog aX T2 k8=true:=by decide+kernel
def T3:List (Tr cu):=iq 9 k7::iq 9 k8::T2
def k9:List (Nat×cu):=[(32,[.m 57092 [b9,j 1000] (j 0) (.o 28943 [v105,j 100] (j 0)) (.o 61531 [Jx,j 1000] (j 0))]),(35,[.o 56899 [Vi,.fn (.f 36) [] []] (.cf false 1 5 [j 0,j 0,j 0,j 0,j 0])]),(40,[.o 26853 [j 2,.fn (.f 58) [] [.aJ [b9],.aJ [j 1],.aJ [j 0]]] (NY),.o 26853 [j 2,.fn (.f 41) [] [.aJ [v105],.aJ [b9],.aJ [j 1]]] (Jx)]),(49,[.m 32083 [v75,v65] (v10) (.m 17515 [v10,v10] (v68) (.m 13339 [v11,cV] (cV) (.m 13338 [v12,cV] (v12) (.o 5093 [v70,nh] (cV)) (.l)) (.m 16987 [cV,cV] (v65) (.o 13342 [v76,cV] (v42)) (.l))) (.m 22905 [v11,sc] (sc) (.m 22904 [v12,sc] (v12) (.o 22778 [nh,v70] (cV)) (.l)) (.o 32081 [v76,v65] (v11)))) (.m 47411 [v65,v12] (v12) (.m 40378 [cV,v11] (cV) (.m 40115 [cV,v12] (v12) (.o 32091 [v77,v65] (FG)) (.l)) (.m 40904 [cV,v40] (v10) (.o 40641 [cV,v42] (v11)) (.l))) (.m 48200 [v65,v40] (FF) (.m 47937 [v65,v42] (cV) (.o 47674 [v65,v11] (v65)) (.l)) (.o 55471 [v40,Vk] (v11))))]),(62,[.m 2151 [v21] (nh) (.m 2149 [.str [51]] (v40) (.m 2147 [v4] (v11) (.o 2146 [v0] (v12)) (.l)) (.o 2150 [.str [52]] (v76))) (.m 45023 [v2] (cV) (.m 17849 [v5] (v70) (.o 14754 [v20] (v44)) (.l)) (.o 45025 [v1] (v10)))]),(65,[.m 44894 [sd] (.ap [.agg [v2,v4],j 0]) (.o 14255 [qv] (.ap [.agg [v0,v2],j 0])) (.o 52488 [v59] (.ap [.agg [v3,v0],j 0]))]),(72,[.o 25239 [O1,v63] (O1)]),(73,[.m 5365 [Vj] (v69) (.m 5360 [v40] (Vk) (.o 5359 [v42] (cV)) (.o 5361 [v76] (v65))) (.m 5369 [v46] (Vm) (.o 5367 [v44] (v70)) (.l))]),(74,[.m 32077 [v12,v65] (v65) (.m 13338 [v12,cV] (cV) (.m 13076 [v11,.agg [j (-1),.af,j 2,.af]] (cV) (.o 1265 [v69,.agg [j (-1),.af,j 12,.af]] (sc)) (.l)) (.m 24283 [v65,cV] (FF) (.o 16987 [cV,cV] (v11)) (.l))) (.m 40117 [v10,v47] (cV) (.m 40115 [cV,v12] (cV) (.o 39677 [FG,.agg [j (-9),.af,j 4,.af]] (OW)) (.l)) (.o 43550 [FF,FF] (v10)))]),(86,[.m 45023 [v2] (j 0) (.o 17849 [v5] (j 0)) (.o 45025 [v1] (j 0))]),(91,[.o 30369 [v72,.aJ [v73]] (v11)])]
def asM:iV prog aX T3 k9=true:=by decide+kernel
def k10:List (Nat×cu):=[(104,[.m 21813 [Dt] (v79) (.o 21549 [v51] (v79)) (.l)]),(121,[.o 1866 [Tj,.fn (.f 53) [] []] (.cf false 1 1 [j 0])]),(122,[.m 44566 [Kn,.fn (.f 107) [] []] (.bool false) (.o 737 [OY,.fn (.f 107) [] []] (.bool false)) (.l)]),(126,[.o 2131 [v93,.aJ [E2]] (j 0)])]
def apK:iV prog aX T3 k10=true:=by decide+kernel
def T4:List (Tr cu):=iq 9 k9::iq 9 k10::T3
def k11:List (Nat×cu):=[(4,[.o 32481 [b9] (j 0)]),(5,[.o 31824 [j 1,j 2,Vi] (.ap [Ti,j 0])]),(50,[.m 37836 [FG,v68] (OW) (.m 13339 [v11,cV] (cV) (.o 1528 [v69,Vm] (sc)) (.l)) (.m 40380 [v10,v11] (cV) (.o 40115 [cV,v12] (cV)) (.l))]),(53,[.m 26771 [O3] (j 0) (.m 19734 [O2] (j 0) (.o 19732 [.agg [v2,v0]] (j 0)) (.l)) (.o 58079 [.agg [v5,v0]] (j 0))]),(54,[.m 42376 [v87] (v63) (.m 19734 [O2] (v80) (.o 19732 [.agg [v2,v0]] (Du)) (.o 26771 [O3] (v82))) (.m 42639 [mG] (v83) (.o 42377 [v91] (O1)) (.o 58079 [.agg [v5,v0]] (v84)))]),(56,[.o 44745 [Dt,b9] (v40)]),(61,[.m 25846 [v21,j 0] (j 0) (.m 25845 [.str [52],j 0] (j 0) (.o 25841 [v0,j 0] (j 0)) (.l)) (.m 38449 [v20,j 0] (j 0) (.o 26105 [v4,j 1] (j 0)) (.l))]),(63,[.o 13594 [se,nh] (.bool true)]),(70,[.m 37522 [v76,v76] (v11) (.m 36996 [v76,v42] (v42) (.m 36993 [v11,v42] (cV) (.o 36992 [v12,v42] (v12)) (.l)) (.o 37258 [v40,v40] (v11))) (.m 37532 [v77,v76] (FG) (.o 37524 [v75,v76] (v10)) (.o 39101 [nh,v44] (cV)))]),(75,[.m 33840 [v84,nh] (Du) (.m 3604 [Du,v11] (Du) (.o 3341 [Du,v12] (v63)) (.o 10745 [sd,v11] (sd))) (.m 49226 [v83,cV] (qv) (.o 45627 [qv,v11] (qv)) (.o 51652 [O1,sc] (v59)))]),(78,[.o 42377 [Tj] (j 0)]),(83,[.m 41248 [OY] (.ap [v93,j 0]) (.o 19556 [Kn] (.ap [FH,j 0])) (.l)]),(88,[.m 42642 [v93] (.cf true 4 2 [j 1,.af,j 1,.af,j 1,.af,j 1,.af]) (.o 3991 [v107] (.cf true 4 1 [j 3,.af,j 1,.af])) (.l)]),(89,[.o 2579 [.aC false 1 [O0],.aJ [v4]] (.cf false 1 1 [v85])]),(92,[.o 63847 [.aC true 2 [v72,v72],.fn (.f 91) [] [.aJ [v73]]] (.cf false 4 2 [j 1,.af,j 1,.af,j 1,.af,j 1,.af])]),(106,[.m 61636 [v12,Kn,.fn (.f 74) [] []] (cV) (.o 47668 [v12,.aC false 4 [j 0,.af,j 1,.af,j 1,.af,j 4,.af,j 1,.af,j 2,.af,j 3,.af,j 4,.af],.fn (.f 74) [] []] (v10)) (.l)]),(112,[.m 12900 [sd,Du] (Vn) (.m 9251 [v83,Du] (sd) (.o 5389 [qv,v63] (qv)) (.l)) (.o 36028 [sd,v63] (sd))]),(127,[.o 3973 [E2,.fn (.f 126) [] [.aJ [E2]]] (j 0)])]
def apL:iV prog aX T4 k11=true:=by decide+kernel
def T5:List (Tr cu):=iq 9 k11::T4
def k12:List (Nat×cu):=[(9,[.o 63249 [b9,v105] (.ap [Jx,j 0])]),(20,[.o 63729 [b9,j 1,j 0] (.ap [NY,j 0])]),(45,[.o 26853 [j 2,.fn (.f 44) [] [.aJ [b9]]] (v10),.o 26853 [j 2,.fn (.f 47) [] [.aJ [b9]]] (v10),.o 26853 [j 2,.fn (.f 48) [] [.aJ [b9]]] (FG),.o 26853 [j 2,.fn (.f 52) [] [.aJ [b9],.aJ [j 1],.aJ [j 0]]] (v11)]),(60,[.m 48449 [FI] (j 0) (.o 46691 [se] (j 0)) (.o 64152 [zO] (j 0))]),(64,[.m 13425 [FI,nh,v87] (v63) (.o 5737 [zO,nh,mG] (sd)) (.o 53797 [se,nh,mG] (qv))]),(84,[.o 44484 [E2] (j 0)]),(87,[.o 3973 [E2,.fn (.f 88) [] []] (.cf false 1 1 [O0])]),(90,[.o 39364 [.aC false 1 [v85],.aC true 1 [j 3,.af,j 1,.af]] (.cf true 4 1 [j 1,.af,j 1,.af])]),(103,[.m 33227 [cV,j 2] (.ap [j 0,cV]) (.m 29579 [v11,j 2] (.ap [j 1,v12]) (.o 29578 [v12,j 2] (.ap [j 0,v12])) (.l)) (.o 33229 [v10,j 2] (.ap [j 1,cV]))]),(104,[.m 23891 [v48] (.agg [j 1,.af,j 4,.af,j 1,.af,j 4,.af,j 1,.af,j 4,.af,j 1,.af,j 4,.af]) (.o 13102 [Ds] (.agg [j 1,.af,j 2,.af,j 0,.af,j 1,.af,j 1,.af,j 2,.af,j 0,.af,j 1,.af])) (.o 32339 [v53] (.agg [j 1,.af,j 2,.af,j 1,.af,j 2,.af,j 0,.af,j 1,.af,j 0,.af,j 1,.af]))]),(115,[.o 45199 [v109] (j 0)])]
def apM:iV prog aX T5 k12=true:=by decide+kernel
def T6:List (Tr cu):=iq 9 k12::T5
def k13:List (Nat×cu):=[(16,[.o 32481 [b9] (NZ)]),(17,[.o 32481 [b9] (.ap [.str [53,47,52],j 0])]),(18,[.o 63729 [b9,j 1,j 0] (.ap [v4,j 0])]),(22,[.m 61077 [se,v21,mG] (.ap [.agg [v0,v2],j 0]) (.o 13017 [zO,v21,mG] (.ap [.agg [v2,v4],j 0])) (.l)]),(25,[.o 12660 [se,.str [52],v87,v91] (.ap [.agg [v3,v0],j 0])]),(27,[.o 53661 [E2,v107,v4] (.ap [v93,j 0])]),(55,[.m 58325 [v63,j 2] (v51) (.m 42125 [v82,j 2] (v48) (.o 38476 [qv,j 2] (Ds)) (.l)) (.m 65467 [Vn,j 2] (Dt) (.o 61976 [v80,j 2] (v53)) (.l))]),(56,[.m 46823 [v48,b9] (v10) (.o 36034 [Ds,b9] (v11)) (.o 55271 [v53,b9] (cV))]),(66,[.m 62507 [v109,se,mG,j 0] (j 0) (.o 44889 [v109,zO,mG,j 1] (j 0)) (.l)]),(77,[.o 7939 [.aC true 1 [v0,v0,v0],.fn (.f 60) [] []] (.cf false 1 1 [j 0])]),(116,[.m 44889 [v109,zO,mG,j 1] (Vn) (.o 24084 [v109,FI,v87,j 0] (v63)) (.o 62507 [v109,se,mG,j 0] (qv))]),(120,[.o 4689 [Jy,.fn (.f 115) [] []] (.cf false 1 1 [j 0])])]
def apN:iV prog aX T6 k13=true:=by decide+kernel
def T7:List (Tr cu):=iq 9 k13::T6
def k14:List (Nat×cu):=[(19,[.m 60666 [b9,O3] (NZ) (.o 44523 [b9,O2] (.ap [v2,j 0])) (.l)]),(67,[.m 62507 [v109,se,mG,j 0] (cV) (.o 44889 [v109,zO,mG,j 1] (v10)) (.l)]),(76,[.o 45200 [Jy] (j 0)]),(82,[.o 45043 [Jy,FI,v87,j 0,j 4] (.cf false 4 4 [j 1,.af,j 2,.af,j 0,.af,j 1,.af,j 0,.af,j 1,.af,j 0,.af,j 1,.af])])]
def apO:iV prog aX T7 k14=true:=by decide+kernel
def T8:List (Tr cu):=iq 9 k14::T7
def k15:List (Nat×cu):=[(24,[.m 62507 [v109,se,mG,j 0] (.ap [v2,j 0]) (.o 44889 [v109,zO,mG,j 1] (NZ)) (.l)]),(26,[.o 27996 [Jy,.aC true 1 [v0,v0,v0],Tj,j 0] (.ap [.cf false 1 1 [FH],j 0])])]
def apP:iV prog aX T8 k15=true:=by decide+kernel
def T9:List (Tr cu):=iq 9 k15::T8
def Vo:List (Nat×cu):=[(1,[.o 7 [] (.bool true)])]
def apQ:iV prog aX T9 Vo=true:=by decide+kernel
def T10:List (Tr cu):=iq 9 Vo::T9
section
variable {O:br} (hO:gN O) (hp:O.prog=prog) (hl:O.aX=aX)
include hO hp hl
theorem asN:fL O T1:=have h:=asC;lv hO hp hl h asD (lv hO hp hl h asE (lv hO hp hl h asF (lv hO hp hl h asG h)))
theorem asP:fL O T2:=have h:=asN hO hp hl;lv hO hp hl h asH (lv hO hp hl h asI (lv hO hp hl h asJ h))
theorem asQ:fL O T3:=have h:=asP hO hp hl;lv hO hp hl h asK (lv hO hp hl h asL h)
theorem asR:fL O T4:=have h:=asQ hO hp hl;lv hO hp hl h asM (lv hO hp hl h apK h)
theorem asS:fL O T5:=have h:=asR hO hp hl;lv hO hp hl h apL h
theorem asT:fL O T6:=have h:=asS hO hp hl;lv hO hp hl h apM h
theorem asU:fL O T7:=have h:=asT hO hp hl;lv hO hp hl h apN h
theorem asV:fL O T8:=have h:=asU hO hp hl;lv hO hp hl h apO h
theorem asW:fL O T9:=have h:=asV hO hp hl;lv hO hp hl h apP h
theorem apR:fL O T10:=have h:=asW hO hp hl;lv hO hp hl h apQ h
theorem holds:ep O 1 [] (.bool true):=Tr.B3 (apR hO hp hl (iq 9 Vo) (.head _)) (i:=1) rfl _ _ ⟨_,.head _,.inl rfl⟩
end
end VK1
end VE
