import Derived.Test.YtfdcefmdjiokdaaGreatDoorWaf
set_option linter.all false
set_option maxRecDepth 100000
open Bool renaming true->ycO,false->ycP
namespace VE
namespace VK1
def T0:List (Tr cK):=[]
def aBo{O:bC}:iv O T0:=iv.nil
abbrev j(n:Int):AV:=.int .i64 n
abbrev u(n:Nat):AV:=.int .u64 n
def w(l:List Nat):AV:=.aF ycO l.length (l.map u)
def v0:AV:=.str [48]
def v1:AV:=.str [51,47,50]
def v2:AV:=.str [49,47,50]
def v3:AV:=.str [49,47,50,52]
def v4:AV:=.str [49]
def v5:AV:=.str [49,47,49,48]
def v6:AV:=.aF ycO 2 [j 0,j 1]
def v7:AV:=.aF ycO 2 [j 2,j 3]
def v8:AV:=.aF ycO 3 [j 0,j 0,j 0]
def v9:AV:=.aF ycO 4 [j 0,j 0,j 0,j 0]
def v10:AV:=.agg [j 3,.ae,j 2,.ae]
def v11:AV:=.agg [j 1,.ae,j 1,.ae]
def v12:AV:=.agg [j 0,.ae,j 1,.ae]
def dG:AV:=.agg [j 1,.ae,j 2,.ae]
def Cm:AV:=.agg [j 1,.ae,j 24,.ae]
def Wl:AV:=.agg [j 5,.ae,j 4,.ae]
def v16:AV:=.aF ycO 2 [j 3,j 2]
def Wm:AV:=.aF ycO 2 [j 1,j 2]
def v18:AV:=.aF ycO 2 [j 1,j 0]
def KX:AV:=.aF ycO 2 [j 2,j 4]
def v20:AV:=.str [49,48]
def v21:AV:=.str [53]
def v22:AV:=.agg [j 1,.ae]
def eI:AV:=.agg [j 3,.ae]
def v24:AV:=.agg [j 6,.ae]
def v25:AV:=.agg [j 2,.ae]
def bV:AV:=.agg [j 0,.ae]
def v27:AV:=.agg [j 4,.ae]
def v28:AV:=.agg [j 5,.ae]
def KY:AV:=.agg [j 14,.ae]
def v30:AV:=.agg [j 10,.ae]
def v31:AV:=.agg [j 8,.ae]
def KZ:AV:=.agg [j (-1),.ae]
def v33:AV:=.agg [j 12,.ae]
def K0:AV:=.agg [j 9,.ae]
def v35:AV:=.agg [j 16,.ae]
def v36:AV:=.agg [j 96,.ae]
def v37:AV:=.agg [j 100,.ae]
def v38:AV:=.agg [j 24,.ae]
def v39:AV:=.agg [j (-2),.ae]
def v40:AV:=.agg [j 3,.ae,j 1,.ae]
def v41:AV:=.aF ycO 5 [j 1,j 1,j 1,j 1,j 1]
def v42:AV:=.agg [j 2,.ae,j 1,.ae]
def rO:AV:=.agg [j 5,.ae,j 1,.ae]
def v44:AV:=.agg [j 10,.ae,j 1,.ae]
def v45:AV:=.agg [j 8,.ae,j 1,.ae]
def v46:AV:=.agg [j 12,.ae,j 1,.ae]
def v47:AV:=.agg [j (-1),.ae,j 1,.ae]
def v48:AV:=.agg [j 0,j 0,j 1,.ae,j 2,.ae,j 1,.ae,j 2,.ae]
def v49:AV:=.ax [j 1,j 0]
def P5:AV:=.ax [j 0,j 0]
def v51:AV:=.agg [j 0,j 0,j 0,.ae,j 1,.ae,j 0,.ae,j 1,.ae]
def HU:AV:=.agg [j 0,j 0,j 0,.ae,j 1,.ae,j 1,.ae,j 2,.ae]
def v53:AV:=.agg [j 1,j 0,j 1,.ae,j 2,.ae,j 0,.ae,j 1,.ae]
def P6:AV:=.ax [j 1,j 1]
def P7:AV:=.ax [j 0,j 1]
def HV:AV:=.agg [j 1,j 1,j 0,.ae,j 1,.ae,j 0,.ae,j 1,.ae]
def Cn:AV:=.agg [j 1,.ae,j 2,.ae,j 1,.ae,j 1,.ae]
def A8:AV:=.agg [j 0,.ae,j 1,.ae,j 1,.ae,j 2,.ae]
def v59:AV:=.agg [j 1,.ae,j 24,.ae,j 0,.ae,j 1,.ae]
def Wn:AV:=.aF ycP 2 [j 1,.ae,j 1,.ae,j 1,.ae,j 1,.ae]
def P8:AV:=.aF ycP 4 [j 1,.ae,j 2,.ae,j 0,.ae,j 1,.ae,j 0,.ae,j 1,.ae,j 0,.ae,j 1,.ae]
def Wo:AV:=.aF ycO 3 [j 0,j 1,j 0]
def v63:AV:=.agg [j 0,.ae,j 1,.ae,j 0,.ae,j 1,.ae]
def v64:AV:=.agg [j 1,.ae,j 3,.ae]
def v65:AV:=.agg [j 1,.ae,j 4,.ae]
def K1:AV:=.agg [j 3,.ae,j 4,.ae]
def K2:AV:=.agg [j 7,.ae,j 2,.ae]
def v68:AV:=.agg [j 9,.ae,j 4,.ae]
def v69:AV:=.agg [j 1,.ae,j 8,.ae]
def v70:AV:=.agg [j 1,.ae,j 10,.ae]
def v71:AV:=.agg [j 1,.ae,j 12,.ae]
def v72:AV:=.aF ycP 1 [j 1,.ae,j 1,.ae]
def v73:AV:=.aF ycO 1 [j 1,.ae,j 1,.ae]
def Wp:AV:=.aF ycO 2 [j 1,.ae,j 1,.ae,j 1,.ae,j 1,.ae]
def v75:AV:=.agg [j 6,.ae,j 1,.ae]
def v76:AV:=.agg [j 4,.ae,j 1,.ae]
def v77:AV:=.agg [j 14,.ae,j 1,.ae]
def Wq:AV:=.agg [j 1,.ae,j 1,.ae,j 0,.ae,j 1,.ae]
def v79:AV:=.agg [j 1,.ae,j 1,.ae,j 0,.ae,j 1,.ae,j 0,.ae,j 1,.ae,j 0,.ae,j 1,.ae]
def v80:AV:=.agg [j 3,.ae,j 2,.ae,j 0,.ae,j 1,.ae]
def HW:AV:=.agg [j 1,.ae,j 2,.ae,j 0,.ae,j 1,.ae]
def v82:AV:=.agg [j 1,.ae,j 2,.ae,j 1,.ae,j 2,.ae]
def v83:AV:=.agg [j 0,.ae,j 1,.ae,j 1,.ae,j 1,.ae]
def v84:AV:=.agg [j 1,.ae,j 10,.ae,j 0,.ae,j 1,.ae]
def v85:AV:=.aF ycP 1 [j 3,.ae,j 1,.ae]
def v86:AV:=.agg [j 1,.ae,j 1,.ae,j 1,.ae,j 1,.ae]
def v87:AV:=.agg [v0,v0]
def Wr:AV:=.agg [v1,v0]
def Ws:AV:=.agg [v2,v2]
def qO:AV:=.agg [v0,v4]
def v91:AV:=.agg [v4,v0]
def cw:AV:=.aF ycO 2 [v6,v7]
def v93:AV:=.aF ycO 2 [v4,v4]
def K3:AV:=.aF ycO 4 [v2,v0,v0,v0]
def K4:AV:=.agg [v0,v0,v0]
def Co:AV:=.agg [v0,v0,v20]
def DI:AV:=.agg [v5,v0,v0]
def Wt:AV:=.ax [bV,bV]
def K5:AV:=.ax [v22,bV]
def UY:AV:=.ax [v25,bV]
def Hr:AV:=.ax [bV,v22]
def O5:AV:=.aF ycO 2 [KX,KX]
def UZ:AV:=.aF ycO 2 [v18,v16]
def aa3:AV:=.aF ycO 2 [Wm,Wm]
def v105:AV:=.aF ycO 3 [Wo,Wo,v8]
def U1:AV:=.ax [v1,j 0]
def v107:AV:=.aF ycO 1 [.str [51]]
def aa4:AV:=.aF ycO 1 [v0,v0]
def v109:AV:=.agg [cw,v21,v4,v2,v0,v0,v2,v0]
def O6:AV:=.aF ycO 1 [cw,v21,v4,v2,v0,v0,v2,v0]
def Kg:AV:=.aF ycO 1 [v93]
def jT:Nat->List (Nat×cK)->Tr cK
 | 0,_=>.l
 | n+1,l=>match l.drop (l.length/2) with
  | []=>.l
  | a::r=>.n a.1 a.2 (jT n (l.take (l.length/2))) (jT n r)
def YQ{p:Nat->cK->Prop}:∀(n:Nat) (l:List (Nat×cK)),(∀f e,(f,e)∈l->p f e)->(jT n l).oI p
 | 0,_,_=>aL
 | n+1,l,h=>by
  unfold jT
  split
  .exact aL
  .rename_i a r hd;have hs:∀x,x∈a::r->x∈l:=fun x hx=>List.mem_of_mem_drop (hd▸hx)
   exact aN (h a.1 a.2 (hs a List.mem_cons_self)) (YQ n _ fun f e q=>h f e (List.mem_of_mem_take q)) (YQ n _ fun f e q=>h f e (hs _ (List.mem_cons_of_mem _ q)))
def lv{O:bC}{P:aJ}{L:Lib}(hO:jq O)(hp:O.prog=P)(hl:O.a8=L){T T':List (Tr cK)}{C:List (Nat×cK)}(hT:iv O T)(h:kM P L T C=ycO)(VY:iv O T'):iv O (jT 9 C::T'):=by
 subst hp;subst hl;exact iv.cons (YQ 9 C (chunk_ok hO hT h)) VY
def k0:List (Nat×cK):=[(14,[.m 40535 [v0,v0] (v87) (.m 17893 [v1,v0] (Wr) (.m 17891 [v2,v0] (.agg [v2,v0]) (.o 9861 [v3,v0] (.agg [v3,v0])) (.l)) (.m 24930 [v2,v2] (Ws) (.o 18154 [v2,v4] (.agg [v2,v4])) (.l))) (.m 47574 [v0,v2] (.agg [v0,v2]) (.m 40798 [v0,v4] (qO) (.o 40536 [v4,v0] (v91)) (.l)) (.o 56238 [v5,v0] (.agg [v5,v0])))]),(15,[.o 7 [] (cw)]),(29,[.m 51556 [v93,v93] (.bool ycO) (.o 30452 [K3,K3] (.bool ycO)) (.l)]),(31,[.m 28694 [.bool ycP,j 12] (j 0) (.m 26327 [.bool ycP,j 3] (j 0) (.o 26064 [.bool ycP,j 2] (j 0)) (.o 26853 [.bool ycP,j 5] (j 0))) (.m 33691 [.bool ycP,j 31] (j 0) (.o 28957 [.bool ycP,j 13] (j 0)) (.l))]),(33,[.m 34670 [v8] (j 0) (.m 9480 [.aF ycO 6 [j 0,j 0,j 0,j 0,j 0,j 0]] (j 0) (.o 3683 [.aF ycP 1 [j 0]] (j 0)) (.o 27379 [.aF ycO 2 [j 0,j 0]] (j 0))) (.m 51832 [v9] (j 0) (.o 44227 [.aF ycO 5 [j 0,j 0,j 0,j 0,j 0]] (j 0)) (.l)),.o 44227 [.aF ycP 5 [j 0,j 0,j 0,j 0,j 0]] (j 0)]),(38,[.m 25801 [j 2,j 1] (j 3) (.m 25800 [j 1,j 1] (j 2) (.o 25799 [j 0,j 1] (j 1)) (.l)) (.m 25803 [j 4,j 1] (j 5) (.o 25802 [j 3,j 1] (j 4)) (.l))]),(44,[.m 51329 [j 0,j 1,.aQ [cw]] (j 2) (.m 51067 [j 1,j 0,.aQ [cw]] (j 1) (.o 51066 [j 0,j 0,.aQ [cw]] (j 0)) (.l)) (.o 51330 [j 1,j 1,.aQ [cw]] (j 3))]),(46,[.m 9008 [v10] (v1) (.m 5358 [v11] (v4) (.o 5357 [v12] (v0)) (.o 9006 [dG] (v2))) (.m 23741 [Cm] (v3) (.o 16306 [Wl] (.str [53,47,52])) (.l))]),(47,[.m 51329 [j 0,j 1,.aQ [cw]] (j 2) (.m 51067 [j 1,j 0,.aQ [cw]] (j 1) (.o 51066 [j 0,j 0,.aQ [cw]] (j 0)) (.l)) (.o 51330 [j 1,j 1,.aQ [cw]] (j 3))]),(48,[.m 51329 [j 0,j 1,.aQ [cw]] (j 4) (.m 51067 [j 1,j 0,.aQ [cw]] (j 1) (.o 51066 [j 0,j 0,.aQ [cw]] (j 0)) (.l)) (.o 51330 [j 1,j 1,.aQ [cw]] (j 9))]),(59,[.m 27519 [v16,v16] (.bool ycO) (.m 26991 [Wm,Wm] (.bool ycO) (.o 19169 [v18,v18] (.bool ycO)) (.l)) (.o 35077 [KX,KX] (.bool ycO))]),(68,[.m 48449 [K4] (.bool ycO) (.o 46691 [Co] (.bool ycP)) (.o 64152 [DI] (.bool ycO))]),(80,[.o 45199 [v109] (j 4)]),(81,[.o 26588 [j 0,j 4] (j 4)]),(94,[.m 26852 [j 1,.aQ [j 1000]] (.bool ycP) (.o 26851 [j 0,.aQ [j 1000]] (.bool ycP)) (.l)])]
def aBp:kM prog a8 T0 k0=ycO:=by decide+kernel
def k1:List (Nat×cK):=[(94,[.m 26853 [j 2,.aQ [j 1000]] (.bool ycP) (.m 26852 [j 1,.aQ [j 100]] (.bool ycP) (.o 26851 [j 0,.aQ [j 100]] (.bool ycP)) (.l)) (.m 26855 [j 4,.aQ [j 1000]] (.bool ycP) (.o 26854 [j 3,.aQ [j 1000]] (.bool ycP)) (.l))]),(96,[.m 1844 [j 3] (.fn (.f 133) [] [.aQ [j 3]]) (.o 1843 [j 2] (.fn (.f 133) [] [.aQ [j 2]])) (.l)]),(100,[.m 38722 [v22,eI] (eI) (.m 38201 [v24,v22] (v24) (.m 38196 [v22,v22] (v22) (.m 37934 [v25,bV] (bV) (.m 37933 [v22,bV] (bV) (.o 37932 [bV,bV] (bV)) (.l)) (.o 38195 [bV,v22] (bV))) (.m 38199 [v27,v22] (v27) (.m 38198 [eI,v22] (eI) (.o 38197 [v25,v22] (v25)) (.l)) (.o 38200 [v28,v22] (v28)))) (.m 38460 [v25,v25] (v27) (.m 38458 [bV,v25] (bV) (.m 38209 [KY,v22] (KY) (.o 38205 [v30,v22] (v30)) (.l)) (.o 38459 [v22,v25] (v25))) (.m 38474 [.agg [j (-9),.ae],v25] (.agg [j (-18),.ae]) (.o 38462 [v27,v25] (v31)) (.o 38721 [bV,eI] (bV))))) (.m 40036 [KZ,v31] (.agg [j (-8),.ae]) (.m 38987 [eI,v27] (v33) (.m 38985 [v22,v27] (v27) (.m 38984 [bV,v27] (bV) (.o 38724 [eI,eI] (K0)) (.l)) (.o 38986 [v25,v27] (v31))) (.m 39247 [bV,v28] (bV) (.m 38991 [.agg [j 7,.ae],v27] (.agg [j 28,.ae]) (.o 38988 [v27,v27] (v35)) (.l)) (.o 39248 [v22,v28] (v28)))) (.m 41096 [v31,v33] (v36) (.m 40572 [v30,v30] (v37) (.m 40563 [v22,v30] (v30) (.o 40562 [bV,v30] (bV)) (.l)) (.o 41089 [v22,v33] (v33))) (.m 64232 [bV,v37] (bV) (.o 44245 [v22,v38] (v38)) (.o 64233 [v22,v37] (v37))))),.m 38458 [KZ,v25] (v39) (.o 38195 [KZ,v22] (KZ)) (.l)]),(101,[.m 38196 [v22,v22] (v11) (.o 38195 [bV,v22] (v12)) (.o 38198 [eI,v22] (v40))]),(118,[.m 40564 [v25,v30] (j (-1)) (.o 38196 [v22,v22] (j 0)) (.o 40567 [v28,v30] (j (-1)))]),(119,[.m 38458 [bV,v25] (v25) (.m 37934 [v25,KZ] (v22) (.m 37933 [v22,bV] (v22) (.o 37932 [bV,bV] (bV)) (.l)) (.o 38195 [bV,v22] (v22))) (.m 41100 [v33,v33] (v38) (.o 38986 [v25,v27] (v24)) (.o 46902 [.agg [j 28,.ae],.agg [j (-18),.ae]] (v30)))])]
def aBq:kM prog a8 T0 k1=ycO:=by decide+kernel
def k2:List (Nat×cK):=[(119,[.m 38468 [v30,v39] (v31) (.m 38197 [v25,v22] (eI) (.m 37935 [eI,bV] (eI) (.o 37933 [v22,KZ] (bV)) (.o 38196 [v22,v22] (v25))) (.m 38461 [eI,v39] (v22) (.o 38460 [v25,v25] (v27)) (.l))) (.m 39247 [bV,v28] (v28) (.m 38984 [bV,v27] (v27) (.o 38721 [bV,eI] (eI)) (.l)) (.m 41626 [v33,.agg [j (-8),.ae]] (v27) (.o 40562 [bV,v30] (v30)) (.l))),.o 38468 [v30,v25] (v33)]),(124,[.m 26590 [.bool ycP,j 4] (j 0) (.m 26064 [.bool ycP,j 2] (j 0) (.o 25801 [.bool ycP,j 1] (j 0)) (.l)) (.m 28694 [.bool ycP,j 12] (j 0) (.o 26853 [.bool ycP,j 5] (j 0)) (.l))]),(125,[.m 51832 [v9] (j 0) (.o 27379 [.aF ycO 2 [j 0,j 0]] (j 0)) (.l)]),(129,[.m 2149 [.str [51]] (.bool ycO) (.m 2147 [v4] (.bool ycO) (.o 2146 [v0] (.bool ycO)) (.o 2148 [.str [50]] (.bool ycO))) (.m 2151 [v21] (.bool ycO) (.o 2150 [.str [52]] (.bool ycO)) (.o 14754 [v20] (.bool ycO)))]),(134,[.m 26063 [j 1,j 2] (j 1) (.o 26062 [j 0,j 2] (j 0)) (.o 26064 [j 2,j 2] (j 0)),.o 26062 [j (-1),j 2] (j 1)]),(151,[.m 28694 [v25] (.bool ycP) (.m 28693 [v22] (.bool ycP) (.o 28692 [bV] (.bool ycP)) (.l)) (.m 28716 [v38] (.bool ycP) (.o 28695 [eI] (.bool ycP)) (.l))]),(164,[.m 38468 [v30,v25] (.ax [v28,bV]) (.m 38458 [bV,v25] (Wt) (.m 38198 [eI,v22] (.ax [eI,bV]) (.m 38196 [v22,v22] (K5) (.o 38195 [bV,v22] (Wt)) (.o 38197 [v25,v22] (UY))) (.m 38204 [K0,v22] (.ax [K0,bV]) (.o 38199 [v27,v22] (.ax [v27,bV])) (.l))) (.m 38462 [v27,v25] (UY) (.m 38460 [v25,v25] (K5) (.o 38459 [v22,v25] (Hr)) (.l)) (.m 38466 [v31,v25] (.ax [v27,bV]) (.o 38464 [v24,v25] (.ax [eI,bV])) (.l)))) (.m 38987 [eI,v27] (.ax [bV,eI]) (.m 38984 [bV,v27] (Wt) (.m 38725 [v27,eI] (.ax [v22,v22]) (.o 38472 [KY,v25] (.ax [.agg [j 7,.ae],bV])) (.l)) (.m 38986 [v25,v27] (.ax [bV,v25]) (.o 38985 [v22,v27] (Hr)) (.l))) (.m 38993 [K0,v27] (.ax [v25,v22]) (.m 38990 [v24,v27] (.ax [v22,v25]) (.o 38988 [v27,v27] (K5)) (.l)) (.m 40046 [v30,v31] (.ax [v22,v25]) (.o 38998 [KY,v27] (.ax [eI,v25])) (.l))))])]
def aBr:kM prog a8 T0 k2=ycO:=by decide+kernel
def k3:List (Nat×cK):=[(164,[.m 40037 [v22,v31] (Hr) (.m 38722 [v22,eI] (Hr) (.m 38207 [v33,v22] (.ax [v33,bV]) (.m 38205 [v30,v22] (.ax [v30,bV]) (.o 38203 [v31,v22] (.ax [v31,bV])) (.l)) (.m 38461 [eI,v25] (.ax [v22,v22]) (.o 38219 [v38,v22] (.ax [v38,bV])) (.l))) (.m 39252 [v28,v28] (K5) (.m 39080 [v36,v27] (.ax [v38,bV]) (.o 38724 [eI,eI] (K5)) (.l)) (.m 39518 [v31,v24] (.ax [v22,v25]) (.o 39257 [v30,v28] (UY)) (.l)))) (.m 41089 [v22,v33] (Hr) (.m 40060 [v38,v31] (.ax [eI,bV]) (.m 40052 [v35,v31] (UY) (.o 40042 [v24,v31] (.ax [bV,v24])) (.l)) (.m 40567 [v28,v30] (.ax [bV,v28]) (.o 40563 [v22,v30] (Hr)) (.l))) (.m 44245 [v22,v38] (Hr) (.m 44244 [bV,v38] (Wt) (.o 42164 [v38,v35] (.ax [v22,v31])) (.l)) (.m 63184 [v27,v36] (.ax [bV,v27]) (.o 44268 [v38,v38] (K5)) (.l))))])]
def aBs:kM prog a8 T0 k3=ycO:=by decide+kernel
def T1:List (Tr cK):=jT 9 k0::jT 9 k1::jT 9 k2::jT 9 k3::T0
def k4:List (Nat×cK):=[(21,[.m 47931 [O5,O5] (.bool ycO) (.o 9899 [UZ,UZ] (.bool ycO)) (.l),.o 9899 [aa3,aa3] (.bool ycO)]),(23,[.o 7 [] (v109)]),(28,[.o 58093 [.aF ycP 1 [K3],.aF ycO 1 [K3]] (.bool ycO)]),(34,[.m 43068 [j 1,j 1,j 2147483646] (j 0) (.m 25938 [j 2,j 1,j 16] (j 0) (.o 11651 [j 1,j 0,j 1000] (j 0)) (.l)) (.m 55041 [j 1,j (-999999999),j 999999999] (j 0) (.o 55040 [j 0,j (-999999999),j 999999999] (j 0)) (.l))]),(37,[.m 25649 [j 0,v41,.fn (.f 38) [] []] (j 5) (.o 12396 [j 0,.aF ycP 1 [j 4],.fn (.f 81) [] []] (j 4)) (.l)]),(49,[.m 36730 [v11,v11] (v11) (.m 36468 [v42,v12] (v12) (.m 36467 [v11,v12] (v12) (.o 36466 [v12,v12] (v12)) (.l)) (.o 36729 [v12,v11] (v12))) (.m 37256 [v11,v40] (v40) (.m 37255 [v12,v40] (v12) (.o 36992 [v12,v42] (v12)) (.l)) (.o 37781 [v12,rO] (v12)))]),(63,[.m 31055 [DI,rO] (.bool ycO) (.o 15352 [K4,rO] (.bool ycO)) (.l)]),(71,[.m 39101 [rO,v44] (j (-1)) (.o 39098 [v42,v44] (j (-1))) (.l)]),(74,[.m 36730 [v11,v11] (v42) (.m 36469 [v40,v12] (v40) (.m 36467 [v11,v12] (v11) (.o 36466 [v12,v12] (v12)) (.l)) (.o 36729 [v12,v11] (v11))) (.m 37002 [v44,.agg [j (-2),.ae,j 1,.ae]] (v45) (.o 36731 [v42,v11] (v40)) (.o 37255 [v12,v40] (v40))),.m 37002 [v44,v42] (v46) (.o 36467 [v11,v47] (v12)) (.l)]),(79,[.o 4689 [O6,.fn (.f 80) [] []] (.bR ycP 1 1 [j 4])]),(86,[.m 2150 [.str [52]] (j 0) (.m 2147 [v4] (j 0) (.o 2146 [v0] (j 0)) (.o 2149 [.str [51]] (j 0))) (.m 14754 [v20] (j 0) (.o 2151 [v21] (j 0)) (.l))]),(97,[.m 5504 [cw,j 1,j 2] (j 1) (.m 2119 [cw,j 2,j 1] (j 2) (.m 1856 [cw,j 1,j 1] (j 3) (.o 1593 [cw,j (-1),j 1] (j 3)) (.l)) (.o 5241 [cw,j (-1),j 2] (j 1))) (.m 63729 [cw,j 1,j 0] (j 1) (.m 63466 [cw,j (-1),j 0] (j 1) (.o 5767 [cw,j 2,j 2] (j 0)) (.l)) (.o 63992 [cw,j 2,j 0] (j 0))),.m 63466 [cw,j 0,j 0] (j 0) (.m 5241 [cw,j 0,j 2] (j 0) (.o 1593 [cw,j 0,j 1] (j 2)) (.l)) (.m 63992 [cw,j 2,j (-1)] (j 2) (.o 63729 [cw,j 1,j (-1)] (j 3)) (.l)),.o 63466 [cw,j (-1),j (-1)] (j 3),.o 63466 [cw,j 0,j (-1)] (j 2)]),(105,[.m 62435 [v48,j 1,j 2] (v49) (.o 62172 [v48,j 0,j 2] (P5)) (.l)])]
def aBt:kM prog a8 T1 k4=ycO:=by decide+kernel
def k5:List (Nat×cK):=[(105,[.m 60093 [v51,j 1,j 2] (v49) (.m 51383 [HU,j 0,j 2] (P5) (.m 5625 [v53,j 2,j 2] (P6) (.m 5362 [v53,j 1,j 2] (P5) (.o 5099 [v53,j 0,j 2] (v49)) (.l)) (.o 5888 [v53,j 3,j 2] (P7))) (.m 52172 [HU,j 3,j 2] (P6) (.m 51909 [HU,j 2,j 2] (P7) (.o 51646 [HU,j 1,j 2] (v49)) (.l)) (.o 59830 [v51,j 0,j 2] (P5)))) (.m 60620 [HV,j 2,j 2] (v49) (.m 60357 [HV,j 1,j 2] (P7) (.m 60356 [v51,j 2,j 2] (P7) (.o 60094 [HV,j 0,j 2] (P6)) (.l)) (.o 60619 [v51,j 3,j 2] (P6))) (.m 62698 [v48,j 2,j 2] (P7) (.o 60883 [HV,j 3,j 2] (P5)) (.o 62961 [v48,j 3,j 2] (P6))))]),(107,[.m 9006 [dG] (.bool ycP) (.m 5358 [v11] (.bool ycP) (.o 5357 [v12] (.bool ycP)) (.l)) (.m 23741 [Cm] (.bool ycP) (.o 9008 [v10] (.bool ycP)) (.l))]),(114,[.m 44894 [Cn] (.agg [v2,v4]) (.o 14255 [A8] (.agg [v0,v2])) (.o 52488 [v59] (.agg [v3,v0]))]),(123,[.m 41248 [Wn] (.bR ycO 1 2 [v4,v4]) (.o 19556 [P8] (.bR ycO 1 4 [v2,v0,v0,v0])) (.l)]),(130,[.m 38990 [v24,v27] (v25) (.m 38724 [eI,eI] (eI) (.m 38461 [eI,v25] (v22) (.m 38459 [v22,v25] (v22) (.o 38458 [bV,v25] (v25)) (.o 38460 [v25,v25] (v25))) (.m 38722 [v22,eI] (v22) (.o 38462 [v27,v25] (v25)) (.l))) (.m 38986 [v25,v27] (v25) (.m 38985 [v22,v27] (v22) (.o 38984 [bV,v27] (v27)) (.l)) (.m 38988 [v27,v27] (v27) (.o 38987 [eI,v27] (v22)) (.l)))) (.m 40567 [v28,v30] (v28) (.m 40042 [v24,v31] (v25) (.m 38998 [KY,v27] (v25) (.o 38993 [K0,v27] (v22)) (.o 40037 [v22,v31] (v22))) (.m 40563 [v22,v30] (v22) (.o 40046 [v30,v31] (v25)) (.l))) (.m 44244 [bV,v38] (v38) (.m 42164 [v38,v35] (v31) (.o 41089 [v22,v33] (v22)) (.l)) (.m 63184 [v27,v36] (v27) (.o 44245 [v22,v38] (v22)) (.l))))]),(132,[.m 53443 [KX,.fn (.f 94) [] [.aQ [j 1000]]] (j (-1)) (.m 53180 [v7,.fn (.f 94) [] [.aQ [j 1000]]] (j (-1)) (.o 52652 [v6,.fn (.f 94) [] [.aQ [j 1000]]] (j (-1))) (.l)) (.m 59943 [Wo,.fn (.f 94) [] [.aQ [j 100]]] (j (-1)) (.o 59680 [v8,.fn (.f 94) [] [.aQ [j 100]]] (j (-1))) (.l))]),(149,[.m 9006 [dG] (bV) (.o 5357 [v12] (bV)) (.l)])]
def aBu:kM prog a8 T1 k5=ycO:=by decide+kernel
def k6:List (Nat×cK):=[(149,[.m 9008 [v10] (v22) (.o 5358 [v11] (v22)) (.l)]),(155,[.m 52923 [v30,j 2] (v37) (.o 52660 [v30,j 1] (v30)) (.l)])]
def aBv:kM prog a8 T1 k6=ycO:=by decide+kernel
def T2:List (Tr cK):=jT 9 k4::jT 9 k5::jT 9 k6::T1
def k7:List (Nat×cK):=[(36,[.o 1842 [j 1] (j 0)]),(41,[.m 45155 [j 0,j 1,.aQ [v105],.aQ [cw],.aQ [j 1]] (j 2) (.m 44893 [j 1,j 0,.aQ [v105],.aQ [cw],.aQ [j 1]] (j 4) (.o 44892 [j 0,j 0,.aQ [v105],.aQ [cw],.aQ [j 1]] (j 2)) (.l)) (.o 45156 [j 1,j 1,.aQ [v105],.aQ [cw],.aQ [j 1]] (j 4))]),(50,[.m 36730 [v11,v11] (v12) (.m 36467 [v11,v12] (v11) (.o 36466 [v12,v12] (v12)) (.l)) (.o 37002 [v44,v42] (v45))]),(51,[.m 1842 [j 1] (j 0) (.o 1841 [j 0] (j 0)) (.l)]),(52,[.m 45155 [j 0,j 1,.aQ [cw],.aQ [j 1],.aQ [j 0]] (j 1) (.m 44893 [j 1,j 0,.aQ [cw],.aQ [j 1],.aQ [j 0]] (j 1) (.o 44892 [j 0,j 0,.aQ [cw],.aQ [j 1],.aQ [j 0]] (j 1)) (.l)) (.o 45156 [j 1,j 1,.aQ [cw],.aQ [j 1],.aQ [j 0]] (j 1))]),(53,[.m 42377 [v91] (j 0) (.o 42376 [v87] (j 0)) (.o 42639 [qO] (j 0))]),(57,[.m 9008 [v10] (U1) (.o 9006 [dG] (.ax [v2,j 0])) (.l)]),(58,[.m 45155 [j 0,j 1,.aQ [cw],.aQ [j 1],.aQ [j 0]] (j 3) (.m 44893 [j 1,j 0,.aQ [cw],.aQ [j 1],.aQ [j 0]] (j 0) (.o 44892 [j 0,j 0,.aQ [cw],.aQ [j 1],.aQ [j 0]] (j 1)) (.l)) (.o 45156 [j 1,j 1,.aQ [cw],.aQ [j 1],.aQ [j 0]] (j 2))]),(75,[.m 65476 [v63,v11] (v63) (.o 1007 [v63,rO] (v63)) (.l)]),(85,[.o 29001 [v107,.fn (.f 86) [] []] (.bR ycP 1 1 [j 0])]),(95,[.m 53443 [KX,.fn (.f 94) [] [.aQ [j 1000]]] (.bool ycP) (.m 53180 [v7,.fn (.f 94) [] [.aQ [j 1000]]] (.bool ycP) (.o 52652 [v6,.fn (.f 94) [] [.aQ [j 1000]]] (.bool ycP)) (.l)) (.m 59943 [Wo,.fn (.f 94) [] [.aQ [j 100]]] (.bool ycP) (.o 59680 [v8,.fn (.f 94) [] [.aQ [j 100]]] (.bool ycP)) (.l))]),(101,[.m 38990 [v24,v27] (v10) (.m 38724 [eI,eI] (v11) (.m 38461 [eI,v25] (v10) (.m 38459 [v22,v25] (dG) (.o 38458 [bV,v25] (v12)) (.o 38460 [v25,v25] (v11))) (.m 38722 [v22,eI] (v64) (.o 38462 [v27,v25] (v42)) (.l))) (.m 38986 [v25,v27] (dG) (.m 38985 [v22,v27] (v65) (.o 38984 [bV,v27] (v12)) (.l)) (.m 38988 [v27,v27] (v11) (.o 38987 [eI,v27] (K1)) (.l)))) (.m 40567 [v28,v30] (dG) (.m 40042 [v24,v31] (K1) (.m 38998 [KY,v27] (K2) (.o 38993 [K0,v27] (v68)) (.o 40037 [v22,v31] (v69))) (.m 40563 [v22,v30] (v70) (.o 40046 [v30,v31] (Wl)) (.l))) (.m 44244 [bV,v38] (v12) (.m 42164 [v38,v35] (v10) (.o 41089 [v22,v33] (v71)) (.l)) (.m 63184 [v27,v36] (Cm) (.o 44245 [v22,v38] (Cm)) (.l))))]),(106,[.m 47498 [v12,.aF ycP 4 [j 0,.ae,j 1,.ae,j 0,.ae,j 1,.ae,j 1,.ae,j 1,.ae,j 0,.ae,j 1,.ae],.fn (.f 74) [] []] (v11) (.o 20032 [v12,.aF ycP 4 [j 3,.ae,j 1,.ae,j 0,.ae,j 1,.ae,j 0,.ae,j 1,.ae,j 0,.ae,j 1,.ae],.fn (.f 74) [] []] (v40)) (.l)]),(110,[.o 2147 [v4] (v22)])]
def aBw:kM prog a8 T2 k7=ycO:=by decide+kernel
def k8:List (Nat×cK):=[(110,[.m 2150 [.str [52]] (v27) (.m 2148 [.str [50]] (v25) (.o 2146 [v0] (bV)) (.o 2149 [.str [51]] (eI))) (.m 14754 [v20] (v30) (.o 2151 [v21] (v28)) (.l))]),(112,[.o 25238 [v63,v63] (v63)]),(113,[.m 44894 [Cn] (.bool ycP) (.o 14255 [A8] (.bool ycP)) (.o 52488 [v59] (.bool ycP))]),(131,[.m 36994 [v72,v73] (v11) (.o 11145 [Wp,Wp] (v42)) (.l)]),(160,[.m 44566 [P8,.fn (.f 107) [] []] (j (-1)) (.o 737 [Wn,.fn (.f 107) [] []] (j (-1))) (.l)]),(161,[.o 42642 [v93] (j 0)])]
def aBx:kM prog a8 T2 k8=ycO:=by decide+kernel
def T3:List (Tr cK):=jT 9 k7::jT 9 k8::T2
def k9:List (Nat×cK):=[(32,[.m 57092 [cw,j 1000] (j 0) (.o 28943 [v105,j 100] (j 0)) (.o 61531 [O5,j 1000] (j 0))]),(35,[.o 56899 [v41,.fn (.f 36) [] []] (.bR ycP 1 5 [j 0,j 0,j 0,j 0,j 0])]),(40,[.o 26853 [j 2,.fn (.f 58) [] [.aQ [cw],.aQ [j 1],.aQ [j 0]]] (UZ),.o 26853 [j 2,.fn (.f 41) [] [.aQ [v105],.aQ [cw],.aQ [j 1]]] (O5)]),(49,[.m 32083 [v75,v65] (v10) (.m 17515 [v10,v10] (v68) (.m 13339 [v11,dG] (dG) (.m 13338 [v12,dG] (v12) (.o 5093 [v70,rO] (dG)) (.l)) (.m 16987 [dG,dG] (v65) (.o 13342 [v76,dG] (v42)) (.l))) (.m 22905 [v11,Cm] (Cm) (.m 22904 [v12,Cm] (v12) (.o 22778 [rO,v70] (dG)) (.l)) (.o 32081 [v76,v65] (v11)))) (.m 47411 [v65,v12] (v12) (.m 40378 [dG,v11] (dG) (.m 40115 [dG,v12] (v12) (.o 32091 [v77,v65] (K2)) (.l)) (.m 40904 [dG,v40] (v10) (.o 40641 [dG,v42] (v11)) (.l))) (.m 48200 [v65,v40] (K1) (.m 47937 [v65,v42] (dG) (.o 47674 [v65,v11] (v65)) (.l)) (.o 55471 [v40,v64] (v11))))]),(62,[.m 2151 [v21] (rO) (.m 2149 [.str [51]] (v40) (.m 2147 [v4] (v11) (.o 2146 [v0] (v12)) (.l)) (.o 2150 [.str [52]] (v76))) (.m 45023 [v2] (dG) (.m 17849 [v5] (v70) (.o 14754 [v20] (v44)) (.l)) (.o 45025 [v1] (v10)))]),(65,[.m 44894 [Cn] (.ax [.agg [v2,v4],j 0]) (.o 14255 [A8] (.ax [.agg [v0,v2],j 0])) (.o 52488 [v59] (.ax [.agg [v3,v0],j 0]))]),(72,[.o 25239 [Wq,v63] (Wq)]),(73,[.m 5365 [v45] (v69) (.m 5360 [v40] (v64) (.o 5359 [v42] (dG)) (.o 5361 [v76] (v65))) (.m 5369 [v46] (v71) (.o 5367 [v44] (v70)) (.l))]),(74,[.m 32077 [v12,v65] (v65) (.m 13338 [v12,dG] (dG) (.m 13076 [v11,.agg [j (-1),.ae,j 2,.ae]] (dG) (.o 1265 [v69,.agg [j (-1),.ae,j 12,.ae]] (Cm)) (.l)) (.m 24283 [v65,dG] (K1) (.o 16987 [dG,dG] (v11)) (.l))) (.m 40117 [v10,v47] (dG) (.m 40115 [dG,v12] (dG) (.o 39677 [K2,.agg [j (-9),.ae,j 4,.ae]] (Wl)) (.l)) (.o 43550 [K1,K1] (v10)))]),(86,[.m 45023 [v2] (j 0) (.o 17849 [v5] (j 0)) (.o 45025 [v1] (j 0))]),(91,[.o 30369 [v72,.aQ [v73]] (v11)])]
def aBy:kM prog a8 T3 k9=ycO:=by decide+kernel
def k10:List (Nat×cK):=[(104,[.m 21813 [HV] (v79) (.o 21549 [v51] (v79)) (.l)]),(121,[.o 1866 [aa4,.fn (.f 53) [] []] (.bR ycP 1 1 [j 0])]),(122,[.m 44566 [P8,.fn (.f 107) [] []] (.bool ycP) (.o 737 [Wn,.fn (.f 107) [] []] (.bool ycP)) (.l)]),(126,[.o 2131 [v93,.aQ [Kg]] (j 0)])]
def ayI:kM prog a8 T3 k10=ycO:=by decide+kernel
def T4:List (Tr cK):=jT 9 k9::jT 9 k10::T3
def k11:List (Nat×cK):=[(4,[.o 32481 [cw] (j 0)]),(5,[.o 31824 [j 1,j 2,v41] (.ax [aa3,j 0])]),(50,[.m 37836 [K2,v68] (Wl) (.m 13339 [v11,dG] (dG) (.o 1528 [v69,v71] (Cm)) (.l)) (.m 40380 [v10,v11] (dG) (.o 40115 [dG,v12] (dG)) (.l))]),(53,[.m 26771 [Ws] (j 0) (.m 19734 [Wr] (j 0) (.o 19732 [.agg [v2,v0]] (j 0)) (.l)) (.o 58079 [.agg [v5,v0]] (j 0))]),(54,[.m 42376 [v87] (v63) (.m 19734 [Wr] (v80) (.o 19732 [.agg [v2,v0]] (HW)) (.o 26771 [Ws] (v82))) (.m 42639 [qO] (v83) (.o 42377 [v91] (Wq)) (.o 58079 [.agg [v5,v0]] (v84)))]),(56,[.o 44745 [HV,cw] (v40)]),(61,[.m 25846 [v21,j 0] (j 0) (.m 25845 [.str [52],j 0] (j 0) (.o 25841 [v0,j 0] (j 0)) (.l)) (.m 38449 [v20,j 0] (j 0) (.o 26105 [v4,j 1] (j 0)) (.l))]),(63,[.o 13594 [Co,rO] (.bool ycO)]),(70,[.m 37522 [v76,v76] (v11) (.m 36996 [v76,v42] (v42) (.m 36993 [v11,v42] (dG) (.o 36992 [v12,v42] (v12)) (.l)) (.o 37258 [v40,v40] (v11))) (.m 37532 [v77,v76] (K2) (.o 37524 [v75,v76] (v10)) (.o 39101 [rO,v44] (dG)))]),(75,[.m 33840 [v84,rO] (HW) (.m 3604 [HW,v11] (HW) (.o 3341 [HW,v12] (v63)) (.o 10745 [Cn,v11] (Cn))) (.m 49226 [v83,dG] (A8) (.o 45627 [A8,v11] (A8)) (.o 51652 [Wq,Cm] (v59)))]),(78,[.o 42377 [aa4] (j 0)]),(83,[.m 41248 [Wn] (.ax [v93,j 0]) (.o 19556 [P8] (.ax [K3,j 0])) (.l)]),(88,[.m 42642 [v93] (.bR ycO 4 2 [j 1,.ae,j 1,.ae,j 1,.ae,j 1,.ae]) (.o 3991 [v107] (.bR ycO 4 1 [j 3,.ae,j 1,.ae])) (.l)]),(89,[.o 2579 [.aF ycP 1 [Wp],.aQ [v4]] (.bR ycP 1 1 [v85])]),(92,[.o 63847 [.aF ycO 2 [v72,v72],.fn (.f 91) [] [.aQ [v73]]] (.bR ycP 4 2 [j 1,.ae,j 1,.ae,j 1,.ae,j 1,.ae])]),(106,[.m 61636 [v12,P8,.fn (.f 74) [] []] (dG) (.o 47668 [v12,.aF ycP 4 [j 0,.ae,j 1,.ae,j 1,.ae,j 4,.ae,j 1,.ae,j 2,.ae,j 3,.ae,j 4,.ae],.fn (.f 74) [] []] (v10)) (.l)]),(112,[.m 12900 [Cn,HW] (v86) (.m 9251 [v83,HW] (Cn) (.o 5389 [A8,v63] (A8)) (.l)) (.o 36028 [Cn,v63] (Cn))]),(127,[.o 3973 [Kg,.fn (.f 126) [] [.aQ [Kg]]] (j 0)])]
def ayJ:kM prog a8 T4 k11=ycO:=by decide+kernel
def T5:List (Tr cK):=jT 9 k11::T4
def k12:List (Nat×cK):=[(9,[.o 63249 [cw,v105] (.ax [O5,j 0])]),(20,[.o 63729 [cw,j 1,j 0] (.ax [UZ,j 0])]),(45,[.o 26853 [j 2,.fn (.f 44) [] [.aQ [cw]]] (v10),.o 26853 [j 2,.fn (.f 47) [] [.aQ [cw]]] (v10),.o 26853 [j 2,.fn (.f 48) [] [.aQ [cw]]] (K2),.o 26853 [j 2,.fn (.f 52) [] [.aQ [cw],.aQ [j 1],.aQ [j 0]]] (v11)]),(60,[.m 48449 [K4] (j 0) (.o 46691 [Co] (j 0)) (.o 64152 [DI] (j 0))]),(64,[.m 13425 [K4,rO,v87] (v63) (.o 5737 [DI,rO,qO] (Cn)) (.o 53797 [Co,rO,qO] (A8))]),(84,[.o 44484 [Kg] (j 0)]),(87,[.o 3973 [Kg,.fn (.f 88) [] []] (.bR ycP 1 1 [Wp])]),(90,[.o 39364 [.aF ycP 1 [v85],.aF ycO 1 [j 3,.ae,j 1,.ae]] (.bR ycO 4 1 [j 1,.ae,j 1,.ae])]),(103,[.m 33227 [dG,j 2] (.ax [j 0,dG]) (.m 29579 [v11,j 2] (.ax [j 1,v12]) (.o 29578 [v12,j 2] (.ax [j 0,v12])) (.l)) (.o 33229 [v10,j 2] (.ax [j 1,dG]))]),(104,[.m 23891 [v48] (.agg [j 1,.ae,j 4,.ae,j 1,.ae,j 4,.ae,j 1,.ae,j 4,.ae,j 1,.ae,j 4,.ae]) (.o 13102 [HU] (.agg [j 1,.ae,j 2,.ae,j 0,.ae,j 1,.ae,j 1,.ae,j 2,.ae,j 0,.ae,j 1,.ae])) (.o 32339 [v53] (.agg [j 1,.ae,j 2,.ae,j 1,.ae,j 2,.ae,j 0,.ae,j 1,.ae,j 0,.ae,j 1,.ae]))]),(115,[.o 45199 [v109] (j 0)])]
def ayK:kM prog a8 T5 k12=ycO:=by decide+kernel
def T6:List (Tr cK):=jT 9 k12::T5
def k13:List (Nat×cK):=[(16,[.o 32481 [cw] (U1)]),(17,[.o 32481 [cw] (.ax [.str [53,47,52],j 0])]),(18,[.o 63729 [cw,j 1,j 0] (.ax [v4,j 0])]),(22,[.m 61077 [Co,v21,qO] (.ax [.agg [v0,v2],j 0]) (.o 13017 [DI,v21,qO] (.ax [.agg [v2,v4],j 0])) (.l)]),(25,[.o 12660 [Co,.str [52],v87,v91] (.ax [.agg [v3,v0],j 0])]),(27,[.o 53661 [Kg,v107,v4] (.ax [v93,j 0])]),(55,[.m 58325 [v63,j 2] (v51) (.m 42125 [v82,j 2] (v48) (.o 38476 [A8,j 2] (HU)) (.l)) (.m 65467 [v86,j 2] (HV) (.o 61976 [v80,j 2] (v53)) (.l))]),(56,[.m 46823 [v48,cw] (v10) (.o 36034 [HU,cw] (v11)) (.o 55271 [v53,cw] (dG))]),(66,[.m 62507 [v109,Co,qO,j 0] (j 0) (.o 44889 [v109,DI,qO,j 1] (j 0)) (.l)]),(77,[.o 7939 [.aF ycO 1 [v0,v0,v0],.fn (.f 60) [] []] (.bR ycP 1 1 [j 0])]),(116,[.m 44889 [v109,DI,qO,j 1] (v86) (.o 24084 [v109,K4,v87,j 0] (v63)) (.o 62507 [v109,Co,qO,j 0] (A8))]),(120,[.o 4689 [O6,.fn (.f 115) [] []] (.bR ycP 1 1 [j 0])])]
def ayL:kM prog a8 T6 k13=ycO:=by decide+kernel
def T7:List (Tr cK):=jT 9 k13::T6
def k14:List (Nat×cK):=[(19,[.m 60666 [cw,Ws] (U1) (.o 44523 [cw,Wr] (.ax [v2,j 0])) (.l)]),(67,[.m 62507 [v109,Co,qO,j 0] (dG) (.o 44889 [v109,DI,qO,j 1] (v10)) (.l)]),(76,[.o 45200 [O6] (j 0)]),(82,[.o 45043 [O6,K4,v87,j 0,j 4] (.bR ycP 4 4 [j 1,.ae,j 2,.ae,j 0,.ae,j 1,.ae,j 0,.ae,j 1,.ae,j 0,.ae,j 1,.ae])])]
def ayM:kM prog a8 T7 k14=ycO:=by decide+kernel
def T8:List (Tr cK):=jT 9 k14::T7
def k15:List (Nat×cK):=[(24,[.m 62507 [v109,Co,qO,j 0] (.ax [v2,j 0]) (.o 44889 [v109,DI,qO,j 1] (U1)) (.l)]),(26,[.o 27996 [O6,.aF ycO 1 [v0,v0,v0],aa4,j 0] (.ax [.bR ycP 1 1 [K3],j 0])])]
def ayN:kM prog a8 T8 k15=ycO:=by decide+kernel
def T9:List (Tr cK):=jT 9 k15::T8
def k16:List (Nat×cK):=[(1,[.o 7 [] (.bool ycO)])]
def ayO:kM prog a8 T9 k16=ycO:=by decide+kernel
def T10:List (Tr cK):=jT 9 k16::T9
section
variable {O:bC}(hO:jq O)(hp:O.prog=prog)(hl:O.a8=a8)
include hO hp hl
theorem aBz:iv O T1:=have h:=aBo;lv hO hp hl h aBp (lv hO hp hl h aBq (lv hO hp hl h aBr (lv hO hp hl h aBs h)))
theorem aBA:iv O T2:=have h:=aBz hO hp hl;lv hO hp hl h aBt (lv hO hp hl h aBu (lv hO hp hl h aBv h))
theorem aBB:iv O T3:=have h:=aBA hO hp hl;lv hO hp hl h aBw (lv hO hp hl h aBx h)
theorem aBC:iv O T4:=have h:=aBB hO hp hl;lv hO hp hl h aBy (lv hO hp hl h ayI h)
theorem aBD:iv O T5:=have h:=aBC hO hp hl;lv hO hp hl h ayJ h
theorem aBE:iv O T6:=have h:=aBD hO hp hl;lv hO hp hl h ayK h
theorem aBF:iv O T7:=have h:=aBE hO hp hl;lv hO hp hl h ayL h
theorem aBG:iv O T8:=have h:=aBF hO hp hl;lv hO hp hl h ayM h
theorem aBH:iv O T9:=have h:=aBG hO hp hl;lv hO hp hl h ayN h
theorem ayP:iv O T10:=have h:=aBH hO hp hl;lv hO hp hl h ayO h
theorem holds:fF O 1 [] (.bool ycO):=Tr.Gf (ayP hO hp hl (jT 9 k16) (.head _)) (i:=1) rfl _ _ ⟨_,.head _,.inl rfl⟩
end
end VK1
end VE
