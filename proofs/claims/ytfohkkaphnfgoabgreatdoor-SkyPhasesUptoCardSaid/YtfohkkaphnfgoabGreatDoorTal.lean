import Derived.Test.YtfohkkaphnfgoabGreatDoorTak
import Derived.Test.YtfohkkaphnfgoabGreatDoorTae
import Derived.Test.YtfohkkaphnfgoabGreatDoorTai
set_option linter.all false
set_option maxRecDepth 100000
open Bool renaming and_eq_true→yf,false_eq_true→yC,false_or→wY
open Go renaming IntKind→yZ
open Int renaming ediv_emod_unique→uH,emod_lt_of_pos→wR,gcd→wI,gcd_dvd_left→uK,gcd_dvd_right→uD,mul_ediv_cancel'→tH,natAbs_ediv_of_dvd→vO,reduceEq→vN,tdiv_eq_ediv_of_dvd→tf,tmod_eq_emod_of_nonneg→xB
open List renaming any_cons→yaB,cons_append→xn,drop→xo,drop_eq_getElem_cons→yJ,drop_eq_nil_of_le→yP,drop_zero→yi,getD_eq_getElem?_getD→xU,getElem?_eq_getElem→wH,length_append→yW,length_cons→yu,length_nil→yA,length_take→yQ,map_take→yav,replicate→yH,take_length→xM,take_succ_eq_append_getElem→yT
open Nat renaming add_zero→yV,beq→yt,beq_refl→vm,ble→yB,ble_eq_true_of_le→yz,blt→yI,div_le_self→ve,gcd→wo,gcd_comm→ux,gcd_rec→ybs,le_of_ble_eq_true→yr,le_refl→yv,min_eq_left→xQ,mod_eq_of_lt→yO,mod_lt→xv,mul_one→yj,mul_zero→xE,pow_le_pow_right→xA,pow_succ→xg,reduceAdd→yb,reduceEqDiff→ya,reduceLT→yq,reduceLeDiff→yh,strongRecOn→vQ,zero_add→yd,zero_le→ta
open Option.some renaming injEq→yc
namespace VE
section
open Go (IntKind)
section
variable {P:aI} {L:Lib} {f:cF} {tm:Env} {hp:Hp} {ct:Nat}
def aiM (k:yZ) (n:Int):cellsOf (.int k n)=[.int k n]:=(rfl)
def ahl (b:Bool):cellsOf (.bool b)=[.bool b]:=(rfl)
def aiN (s:List Nat):cellsOf (.str s)=[.str s]:=(rfl)
def ahm:cellsOf .ab=[.ab]:=(rfl)
def aiO (e:Bool) (n:Nat) (cs:List AV):cellsOf (.aH e n cs)=[.aH e n cs]:=(rfl)
def aiP (id o n:Nat):cellsOf (.aE id o n)=[.aE id o n]:=(rfl)
def aiQ (id o:Nat):cellsOf (.ptr id o)=[.ptr id o]:=(rfl)
def akO (g:Fr) (a b:List AV):cellsOf (.fn g a b)=[.fn g a b]:=(rfl)
def aiR (cs:List AV):cellsOf (.agg cs)=cs:=(rfl)
def Hd (k:yZ) (n:Int):br (.int k n)=true:=(rfl)
def akP (b:Bool):br (.bool b)=true:=(rfl)
def Qm (s:List Nat):br (.str s)=true:=(rfl)
def akQ:br .ab=true:=(rfl)
def am6 (e:Bool) (n:Nat) (cs:List AV):br (.aH e n cs)=true:=(rfl)
def am7 (id o n:Nat):br (.aE id o n)=true:=(rfl)
def am8 (id o:Nat):br (.ptr id o)=true:=(rfl)
def apw (g:Fr) (a b:List AV):br (.fn g a b)=true:=(rfl)
def akR:bL []=true:=(rfl)
def XR (v:AV) (r:List AV):bL (v::r)=(br v&&bL r):=(rfl)
def aiS:aK []=true:=(rfl)
def ahn (v:AV) (r:List AV):aK (v::r)=(aX v&&aK r):=(rfl)
def apx (id o:Nat):aX (.ptr id o)=false:=(rfl)
def apy (id o n:Nat):aX (.aE id o n)=false:=(rfl)
def arG (g:Nat) (a b:List AV):aX (.fn (.f g) a b)=(aK a&&aK b):=(rfl)
def asZ (l:Nat) (a b:List AV):aX (.fn (.y l) a b)=false:=(rfl)
def apz (cs:List AV):aX (.agg cs)=aK cs:=(rfl)
def apA (cs:List AV):aX (.aq cs)=aK cs:=(rfl)
def Ax (ct sz:Nat) (cs:List AV):Option (AV×Obj):=bif yt cs.length sz&&bL cs then some (.ptr ct 0,.cells true (aK cs) true sz cs) else none
def apB (sz:Nat) (x:X):cQ tm hp ct (.box sz x)=Ax ct sz (cellsOf (az tm x)):=rfl
def arH {v:AV} (h:br v=true):Ax ct 1 [v]=some (.ptr ct 0,.cells true (aX v&&true) true 1 [v]):=by
 simp [Ax,bL,aK,h]
def aG {cs:List AV} {n:Nat} (hn:cs.length=n) (h:bL cs=true):Ax ct n cs=some (.ptr ct 0,.cells true (aK cs) true n cs):=by
 subst hn;simp [Ax,h]
def fM (hp:Hp) (ct id o sz:Nat) (new:List AV) (q:Option Obj):gh:=
 match q with
 | some (.cells true pu ex z cs)=>bif yt new.length sz&&yB (o+sz) cs.length&&bL new then some (.aq [],bh hp id (.cells true (pu&&aK new) ex z (over o new cs)),ct) else none
 | _=>none
def stV (hp:Hp) (ct sz:Nat) (p:AV) (new:List AV):gh:=match p with | .ptr id o=>fM hp ct id o sz new (aw hp id) | _=>none
def YA (sz:Nat) (x v:X):cW tm hp ct (.st sz x v)=stV hp ct sz (az tm x) (cellsOf (az tm v)):=rfl
def acI (sz id o:Nat) (new:List AV):stV hp ct sz (.ptr id o) new=fM hp ct id o sz new (aw hp id):=rfl
def as0 {v u:AV} {id z:Nat} {pu ex:Bool} (h:br v=true):fM hp ct id 0 1 [v] (some (.cells true pu ex z [u]))=some (.aq [],bh hp id (.cells true (pu&&(aX v&&true)) ex z [v]),ct):=by
 simp [fM,bL,aK,h,over];rfl
def nV {new cs:List AV} {id o sz z:Nat} {pu ex:Bool} (h1:new.length=sz) (h2:o+sz<=cs.length) (h:bL new=true):
  fM hp ct id o sz new (some (.cells true pu ex z cs))=some (.aq [],bh hp id (.cells true (pu&&aK new) ex z (over o new cs)),ct):=by
 subst h1;simp [fM,h,yz h2]
def Mj (ct n sz:Nat) (q:Option (List AV)):Option (AV×Obj):=match q with | some cs=>bif yt cs.length (n*sz) then some (.aE ct 0 n,.cells true (aK cs) true sz cs) else none | none=>none
def am9 (n sz:Nat) (z:List AV) (ps:List (Nat×Nat×X)):cQ tm hp ct (.bH n sz z ps)=Mj ct n sz (fill tm z ps):=by
 simp only [cQ,Mj];cases fill tm z ps<;>rfl
def ana {n sz:Nat} {cs:List AV} (h:cs.length=n*sz):Mj ct n sz (some cs)=some (.aE ct 0 n,.cells true (aK cs) true sz cs):=by
 simp [Mj,h]
def fG (tm:Env) (cs:List AV) (o sz:Nat) (new:List AV) (r:List (Nat×Nat×X)):Option (List AV):=
 bif yt new.length sz&&yB (o+sz) cs.length&&bL new then fill tm (over o new cs) r else none
def akS (cs:List AV):fill tm cs []=some cs:=rfl
def aiT (cs:List AV) (o sz:Nat) (x:X) (r:List (Nat×Nat×X)):fill tm cs ((o,sz,x)::r)=fG tm cs o sz (cellsOf (az tm x)) r:=rfl
def ZI {cs:List AV} {o:Nat} {v:AV} {r:List (Nat×Nat×X)} (h1:o+1<=cs.length) (h2:br v=true):fG tm cs o 1 [v] r=fill tm (over o [v] cs) r:=by
 simp [fG,bL,h2,yz h1]
def jb {cs new:List AV} {o sz:Nat} {r:List (Nat×Nat×X)} (h0:new.length=sz) (h1:o+sz<=cs.length) (h2:bL new=true):fG tm cs o sz new r=fill tm (over o new cs) r:=by
 subst h0;simp [fG,h2,yz h1]
def arI (v u:AV) (r:List AV):over 0 [v] (u::r)=v::r:=rfl
def arJ (v a u:AV) (r:List AV):over 1 [v] (a::u::r)=a::v::r:=rfl
def arK (v a b u:AV) (r:List AV):over 2 [v] (a::b::u::r)=a::b::v::r:=rfl
def arM (v a b c u:AV) (r:List AV):over 3 [v] (a::b::c::u::r)=a::b::c::v::r:=rfl
def arN (v a b c d u:AV) (r:List AV):over 4 [v] (a::b::c::d::u::r)=a::b::c::d::v::r:=rfl
def arO (v a b c d e u:AV) (r:List AV):over 5 [v] (a::b::c::d::e::u::r)=a::b::c::d::e::v::r:=rfl
def sE (ct sz cG:Nat) (zero:List AV) (l c:Option Nat):Option (AV×Obj):=
 match l,c with
 | some l,some c=>bif yB l c&&(yB c room&&(yB (c*cG) room&&(yt zero.length sz&&bL zero))) then some (.aE ct 0 l,.cells true (aK zero) (yt l c) sz (yH l zero).flatten) else none
 | _,_=>none
def apC (sz cG:Nat) (z:List AV) (l c:X):cQ tm hp ct (.fZ sz cG z l c)=sE ct sz cG z (dD (az tm l)) (dD (az tm c)):=by
 simp only [cQ,sE]
 grind
def HK {sz cG l:Nat} {z:List AV} (h1:l<=1099511627776) (h2:l*cG<=1099511627776) (h3:z.length=sz) (h4:bL z=true):
  sE ct sz cG z (some l) (some l)=some (.aE ct 0 l,.cells true (aK z) true sz (yH l z).flatten):=by
 subst h3;simp [sE,h4,yz (show l<=room from h1),yz (show l*cG<=room from h2),yz (yv l)]
def Cr (hp:Hp) (ct sz cG:Nat) (s:AV) (src:Option (Nat×List AV)):gh:=
 match src with
 | none=>none
 | some (m,new)=>
  match s with
  | .ab=>
   bif yt m 0 then some (.ab,hp,ct)
   else bif yB m room&&(yB (m*cG) room&&yI 0 sz) then some (.aE ct 0 m,(ct,.cells true (aK new) false sz new)::hp,ct+1) else none
  | .aH true n cs=>
   bif yt m 0 then some (.aH true n cs,hp,ct)
   else bif yB (n+m) room&&(yB ((n+m)*cG) room&&(yt cs.length (n*sz)&&yI 0 sz)) then some (.aE ct 0 (n+m),(ct,.cells true (aK cs&&aK new) false sz (cs++new))::hp,ct+1) else none
  | .aE id o n=>
   match aw hp id with
   | some (.cells true pu _ z cs)=>
    bif yt z sz&&(yB (n+m) room&&(yB ((n+m)*cG) room&&(yB (o+n*sz) cs.length&&(yI 0 sz&&bL new)))) then
     some (.aE ct 0 (n+m),(ct,.cells true (pu&&aK new) false sz (slice o (n*sz) cs++new))::ep hp id,ct+1)
    else none
   | _=>none
  | _=>none
def aiU (sz cG:Nat) (s x:X):cW tm hp ct (.dl sz cG s x)=Cr hp ct sz cG (az tm s) (rQ hp sz (az tm x)):=by
 simp only [cW,Cr]
 cases rQ hp sz (az tm x) with
 | none=>rfl
 | some q=>obtain ⟨m,new⟩:=q;cases az tm s<;>rfl
def aho (sz id o n:Nat):rQ hp sz (.aE id o n)=oR hp sz (.aE id o n):=rfl
def ahp (sz:Nat) (e:Bool) (n:Nat) (cs:List AV):rQ hp sz (.aH e n cs)=oR hp sz (.aH e n cs):=rfl
def agN (sz:Nat):rQ hp sz .ab=some (0,[]):=rfl
def Oy (o n sz:Nat) (q:Option Obj):Option (Nat×List AV):=match q with | some (.cells _ _ _ _ cs)=>bif yB (o+n*sz) cs.length then some (n,slice o (n*sz) cs) else none | _=>none
def agO (sz id o n:Nat):oR hp sz (.aE id o n)=Oy o n sz (aw hp id):=rfl
def arP (rw pu ex:Bool) (z:Nat) (v:AV):Oy 0 1 1 (some (.cells rw pu ex z [v]))=some (1,[v]):=rfl
def ix {sz cG:Nat} {new:List AV} {m:Nat} (hm:0<m) (h1:m<=1099511627776) (h2:m*cG<=1099511627776) (hs:0<sz):
  Cr hp ct sz cG .ab (some (m,new))=some (.aE ct 0 m,(ct,.cells true (aK new) false sz new)::hp,ct+1):=by
 have e1:yt m 0=false:=gR (by omega);have e2:yI 0 sz=true:=yz hs;simp [Cr,e1,e2,yz (show m<=room from h1),yz (show m*cG<=room from h2)]
def hZ {sz cG id n m:Nat} {pu ex:Bool} {cs new:List AV} (hg:aw hp id=some (.cells true pu ex sz cs)) (hl:cs.length=n*sz) (h1:n+m<=1099511627776) (h2:(n+m)*cG<=1099511627776) (hs:0<sz) (ho:bL new=true):
  Cr hp ct sz cG (.aE id 0 n) (some (m,new))=some (.aE ct 0 (n+m),(ct,.cells true (pu&&aK new) false sz (cs++new))::ep hp id,ct+1):=by
 have e2:yI 0 sz=true:=yz hs;simp only [Cr,hg];simp [e2,ho,yz (show n+m<=room from h1),yz (show (n+m)*cG<=room from h2),<-hl,slice,yz (yv cs.length)]
def adv (n:Nat) (g:Nat) (cap:List AV) (q:Option (List AV×Hp)):Option (AV×Hp):=match q with | some (first,hp)=>(match cB n hp cap with | some (Mt,iV)=>some (.fn (.f g) first Mt,iV) | none=>none) | none=>none
def adw (g:Nat) (first:List AV) (q:Option (List AV×Hp)):Option (AV×Hp):=match q with | some (cap,hp)=>some (.fn (.f g) first cap,hp) | none=>none
def apD (n g:Nat) (first cap:List AV):freeze (n+1) hp (.fn (.f g) first cap)=adv n g cap (cB n hp first):=rfl
def apE (n g:Nat) (first cap:List AV):adv n g cap (some (first,hp))=adw g first (cB n hp cap):=rfl
def apF (g:Nat) (first cap:List AV):adw g first (some (cap,hp))=some (.fn (.f g) first cap,hp):=rfl
def adx (o:Nat) (q:Option (Bool×Nat×List AV×Hp)):Option (AV×Hp):=match q with | some (_,_,cs,hp)=>some (.aO (cs.drop o),hp) | none=>none
def anb (n id o:Nat):freeze (n+1) hp (.ptr id o)=adx o (pH n hp id):=rfl
def apG (o:Nat) (ex:Bool) (sz:Nat) (cs:List AV):adx o (some (ex,sz,cs,hp))=some (.aO (cs.drop o),hp):=rfl
def kL (o k:Nat) (q:Option (Bool×Nat×List AV×Hp)):Option (AV×Hp):=
 match q with
 | some (ex,sz,cs,hp)=>bif yB (o+k*sz) cs.length then some (.aH (ex&&yI 0 sz&&yt (o+k*sz) cs.length) k (slice o (k*sz) cs),hp) else none
 | none=>none
def anc (n id o k:Nat):freeze (n+1) hp (.aE id o k)=kL o k (pH n hp id):=rfl
def pM {sz k:Nat} {cs:List AV} (ex:Bool) (hl:cs.length=k*sz) (hs:0<sz):kL 0 k (some (ex,sz,cs,hp))=some (.aH ex k cs,hp):=by
 have e2:yI 0 sz=true:=yz hs;simp [kL,<-hl,e2,slice,yz (yv cs.length)]
def Sz (n id:Nat) (hp:Hp) (q:Option Obj):Option (Bool×Nat×List AV×Hp):=
 match q with
 | some (.cells rw pu ex sz cs)=>
  bif pu then some (ex,sz,cs,bif rw then bh hp id (.cells false true ex sz cs) else hp)
  else match cB n hp cs with
   | some (dP,an)=>some (ex,sz,dP,bh an id (.cells false false ex sz cs))
   | none=>none
 | _=>none
def ane (n id:Nat):pH (n+1) hp id=Sz n id hp (aw hp id):=rfl
def apH (n id:Nat) (ex:Bool) (sz:Nat) (cs:List AV):Sz n id hp (some (.cells true true ex sz cs))=some (ex,sz,cs,bh hp id (.cells false true ex sz cs)):=rfl
def apI (n id:Nat) (ex:Bool) (sz:Nat) (cs:List AV):Sz n id hp (some (.cells false true ex sz cs))=some (ex,sz,cs,hp):=rfl
def aY (n:Nat) (cs:List AV) (h:cB n hp cs=some (cs,hp)):freeze (n+1) hp (.agg cs)=some (.agg cs,hp):=by
 simp only [freeze,h]
def zA {id n sz:Nat} {ex:Bool} {cs:List AV} (hg:aw hp id=some (.cells true true ex sz cs)) (hl:cs.length=n*sz) (hs:0<sz):result hp (.aE id 0 n)=some (.cp ex sz n cs):=by
 have e2:yI 0 sz=true:=yz hs;simp only [result,rP,hg,yd,<-hl,yz (yv cs.length),yy,e2,Bool.and_true,slice,yi,xM]
 simp
def agd (b:Bool):result hp (.aq [.ab,.bool b])=some (.aq [.ab,.bool b]):=rfl
def age (k:yZ) (b:Int):result hp (.aq [.ab,.int k b])=some (.aq [.ab,.int k b]):=rfl
def agf (e:Bool) (n:Nat) (cs:List AV) (k:yZ) (b:Int):result hp (.aq [.aH e n cs,.int k b])=some (.aq [.aH e n cs,.int k b]):=rfl
def aiV (s:St):nR [] s=some s:=rfl
def UN (t:Nat) (r:List Nat) (tm:Env) (ct base:Nat) (q:Option (AV×Hp)):Option St:=match q with | some (v,hp)=>nR r ⟨(t,v)::tm,hp,ct,base⟩ | none=>none
def ahq (t:Nat) (r:List Nat) (tm:Env) (hp:Hp) (ct base:Nat):nR (t::r) ⟨tm,hp,ct,base⟩=UN t r tm ct base (freeze deep hp (aj tm t)):=by
 simp only [nR,UN];cases freeze deep hp (aj tm t)<;>rfl
def arQ (t:Nat) (r:List Nat) (tm:Env) (ct base:Nat) (v:AV) (hp:Hp):UN t r tm ct base (some (v,hp))=nR r ⟨(t,v)::tm,hp,ct,base⟩:=rfl
end
attribute [go_sem] agd age agf aiM ahl aiN ahm aiO aiP aiQ akO aiR Hd akP Qm akQ am6 am7 am8 apw akR XR
 aiS ahn apx apy arG asZ apz apA apB arH YA acI as0 am9 akS aiT arI arJ arK arM arN arO apC
 aiU aho ahp agN agO arP apD apE apF anb apG anc pM ana ZI ane apH apI aiV ahq arQ
 Bool.and_false Bool.false_and yi eq_self
end
section
open Go (IntKind)
def YB:∀hp:Hp,iN 0 hp=[]
 | []=>rfl
 | (id,o)::r=>by
  have:yI id 0=false:=rfl
  simp only [iN,this,yM,YB r]
def aa8 (f:Nat->Option Nat):∀hp:Hp,lA 0 f hp=[]
 | []=>rfl
 | (id,o)::r=>by
  have:yI id 0=false:=rfl
  simp only [lA,this,yM,aa8 f r]
def pos (seen:List Nat):Nat->Option Nat:=fun id=>lG id seen 0
def SA (tm:Env) (hp:Hp) (seen:List Nat):St:=⟨jV (pos seen) tm,jN hp (pos seen) seen 0 [],seen.length,0⟩
def re (hp:Hp):Nat->List Nat->List Nat->List Nat:=reach hp 0
def ao (live:List Nat) (tm:Env) (hp:Hp) (ct:Nat):bf live ⟨tm,hp,ct,0⟩=SA (dN tm live) hp (re hp 100000 (iS (dN tm live)) []):=by
 have e:∀seen,jM 0 seen=pos seen:=fun seen=>by
  funext id
  have:yI id 0=false:=rfl
  simp only [jM,this,yM,pos]
 simp only [bf,YB,List.append_nil,e,aa8,SA,re,yd]
def aiW:iS []=[]:=rfl
def ahr (i:Nat) (v:AV) (r:Env):iS ((i,v)::r)=refs v++iS r:=rfl
def akT (k:yZ) (n:Int):refs (.int k n)=[]:=rfl
def aiX (b:Bool):refs (.bool b)=[]:=rfl
def akU (s:List Nat):refs (.str s)=[]:=rfl
def aiY:refs .ab=[]:=rfl
def akV (e:Bool) (n:Nat) (cs:List AV):refs (.aH e n cs)=[]:=rfl
def aiZ (cs:List AV):refs (.aO cs)=[]:=rfl
def ahs:refs .undef=[]:=rfl
def akW (id o:Nat):refs (.ptr id o)=[id]:=rfl
def akX (id o n:Nat):refs (.aE id o n)=[id]:=rfl
def anf (g:Nat) (a b:List AV):refs (.fn (.f g) a b)=iR a++iR b:=rfl
def apJ (l:Nat) (a b:List AV):refs (.fn (.y l) a b)=[l]:=rfl
def akY (cs:List AV):refs (.agg cs)=iR cs:=rfl
def ai0:iR []=[]:=rfl
def aht (v:AV) (r:List AV):iR (v::r)=refs v++iR r:=rfl
def Nh (hp:Hp) (n id:Nat) (iC seen:List Nat) (q:Option Obj):List Nat:=match q with | some o=>re hp n (nQ o++iC) (seen++[id]) | none=>re hp n iC seen
def Ni (hp:Hp) (n id:Nat) (iC seen:List Nat) (b:Bool):List Nat:=bif b then re hp n iC seen else Nh hp n id iC seen (aw hp id)
def ang (hp:Hp) (n:Nat) (seen:List Nat):re hp (n+1) [] seen=seen:=rfl
def akZ (hp:Hp) (n id:Nat) (iC seen:List Nat):re hp (n+1) (id::iC) seen=Ni hp n id iC seen (kG id seen):=by
 have:yI id 0=false:=rfl
 simp only [re,reach,this,wY,Ni,Nh]
 cases kG id seen with
 | true=>rfl
 | false=>simp only [yM];cases aw hp id<;>rfl
def apK (hp:Hp) (n id:Nat) (iC seen:List Nat):Ni hp n id iC seen true=re hp n iC seen:=rfl
def apL (hp:Hp) (n id:Nat) (iC seen:List Nat):Ni hp n id iC seen false=Nh hp n id iC seen (aw hp id):=rfl
def apM (hp:Hp) (n id:Nat) (iC seen:List Nat) (o:Obj):Nh hp n id iC seen (some o)=re hp n (nQ o++iC) (seen++[id]):=rfl
def ak0 (i:Nat):kG i []=false:=rfl
def ak1 (i:Nat) (r:List Nat):kG i (i::r)=true:=by simp only [kG,vm,yy]
def ai1 {i j:Nat} (r:List Nat) (h:j≠i):kG i (j::r)=kG i r:=by simp only [kG,gR h,yM]
def anh (rw ex:Bool) (sz:Nat) (cs:List AV):nQ (.cells rw true ex sz cs)=[]:=rfl
def ani (rw ex:Bool) (sz:Nat) (cs:List AV):nQ (.cells rw false ex sz cs)=iR cs:=rfl
def ak2 (tm:Env) (ps:List Nat) (a b:VC) (st:Nat) (pe:sr):nQ (.lp tm ps a b st pe)=iS tm:=rfl
def anj (i:Nat) (r:List Nat) (k:Nat):lG i (i::r) k=some k:=by simp only [lG,vm,yy]
def ak3 {i j:Nat} (r:List Nat) (k:Nat) (h:j≠i):lG i (j::r) k=lG i r (k+1):=by simp only [lG,gR h,yM]
def acJ (o:Nat) (q:Option Nat):AV:=match q with | some j=> .ptr j o | none=> .undef
def acK (o n:Nat) (q:Option Nat):AV:=match q with | some j=> .aE j o n | none=> .undef
def ak4 (s:List Nat):jV (pos s) []=[]:=rfl
def ai2 (s:List Nat) (i:Nat) (v:AV) (r:Env):jV (pos s) ((i,v)::r)=(i,cd (pos s) v)::jV (pos s) r:=rfl
def ank (s:List Nat) (k:yZ) (n:Int):cd (pos s) (.int k n)= .int k n:=rfl
def ak5 (s:List Nat) (b:Bool):cd (pos s) (.bool b)= .bool b:=rfl
def anl (s:List Nat) (t:List Nat):cd (pos s) (.str t)= .str t:=rfl
def ak6 (s:List Nat):cd (pos s) .ab= .ab:=rfl
def anm (s:List Nat) (e:Bool) (n:Nat) (cs:List AV):cd (pos s) (.aH e n cs)= .aH e n cs:=rfl
def ak7 (s:List Nat) (cs:List AV):cd (pos s) (.aO cs)= .aO cs:=rfl
def ai3 (s:List Nat):cd (pos s) .undef= .undef:=rfl
def ann (s:List Nat) (id o:Nat):cd (pos s) (.ptr id o)=acJ o (lG id s 0):=rfl
def ano (s:List Nat) (id o n:Nat):cd (pos s) (.aE id o n)=acK o n (lG id s 0):=rfl
def apN (s:List Nat) (g:Nat) (a b:List AV):cd (pos s) (.fn (.f g) a b)= .fn (.f g) (fu (pos s) a) (fu (pos s) b):=rfl
def anp (s:List Nat) (cs:List AV):cd (pos s) (.agg cs)= .agg (fu (pos s) cs):=rfl
def ak8 (s:List Nat):fu (pos s) []=[]:=rfl
def ai4 (s:List Nat) (v:AV) (r:List AV):fu (pos s) (v::r)=cd (pos s) v::fu (pos s) r:=rfl
def anq (o j:Nat):acJ o (some j)= .ptr j o:=rfl
def anr (o n j:Nat):acK o n (some j)= .aE j o n:=rfl
def SB (hp:Hp) (f:Nat->Option Nat) (r:List Nat) (k:Nat) (acc:Hp) (q:Option Obj):Hp:=match q with | some o=>jN hp f r (k+1) ((k,kF f o)::acc) | none=>jN hp f r (k+1) acc
def ai5 (hp:Hp) (s:List Nat) (k:Nat) (acc:Hp):jN hp (pos s) [] k acc=acc:=rfl
def ahu (hp:Hp) (s:List Nat) (id:Nat) (r:List Nat) (k:Nat) (acc:Hp):jN hp (pos s) (id::r) k acc=SB hp (pos s) r k acc (aw hp id):=by
 simp only [jN,SB];cases aw hp id<;>rfl
def apO (hp:Hp) (s r:List Nat) (k:Nat) (acc:Hp) (o:Obj):SB hp (pos s) r k acc (some o)=jN hp (pos s) r (k+1) ((k,kF (pos s) o)::acc):=rfl
def apP (f:Nat->Option Nat) (rw ex:Bool) (sz:Nat) (cs:List AV):kF f (.cells rw true ex sz cs)= .cells rw true ex sz cs:=rfl
def apQ (f:Nat->Option Nat) (rw ex:Bool) (sz:Nat) (cs:List AV):kF f (.cells rw false ex sz cs)= .cells rw false ex sz (fu f cs):=rfl
def ans (f:Nat->Option Nat) (tm:Env) (ps:List Nat) (a b:VC) (st:Nat) (pe:sr):kF f (.lp tm ps a b st pe)= .lp (jV f tm) ps a b st pe:=rfl
def ant (tm:Env) (hp:Hp) (seen:List Nat):SA tm hp seen=⟨jV (pos seen) tm,jN hp (pos seen) seen 0 [],seen.length,0⟩:=rfl
attribute [go_sem] aiW ahr akT aiX akU aiY akV aiZ ahs akW akX anf apJ akY ai0 aht ang akZ apK apL apM
 ak0 ak1 ai1 anh ani ak2 anj ak3 ak4 ai2 ank ak5 anl ak6 anm ak7 ai3 ann ano apN anp ak8 ai4 anq anr
 ai5 ahu apO apP apQ ans ant yu yA
end
section
open Go (IntKind)
section
variable {P:aI} {L:Lib}
def YC {α:Type} {p:α->Bool} {l:List α} {i:Nat} (h:i<l.length):(l.drop i).any p=(p l[i]||(l.drop (i+1)).any p):=by
 rw [yJ h,yaB]
def as3 (h:Has P L 132 Im) {v:AV} {l:List Int} (hv:bk v l) (hl:l.length<=1000000) {g:Nat} {cap:List AV} {p:Int->Bool} (hc:aK cap=true)
  (hz:∀x hp,cB deep hp (aa x::cap)=some (aa x::cap,hp)) (hg:∀x,ae P L g (aa x::cap) (.bool (p x))):∃n:Int,ae P L 132 [v,.fn (.f g) [] cap] (aa n)/\decide (0<=n)=l.any p:=by
 have JV:aX (.fn (.f g) [] cap)=true:=by simp [aX,aK,hc]
 simp only [ae,deep] at hg hz;have key:=G1 (P:=P) (L:=L) (live:=[0,1,7,8]) (a:=LQ)
  (I:=fun k s=>∃tm ct i,s=⟨tm,[],ct,0⟩/\aj tm 0=v/\aj tm 1= .fn (.f g) [] cap/\aj tm 7=aa l.length/\aj tm 8=aa (i:Nat)/\i+k=l.length/\(l.drop i).any p=l.any p)
  (Q:=fun ex s=>∃tm,s=⟨tm,[],0,0⟩/\((∃n:Int,ex= .ret/\aj tm 4=aa n/\0<=n/\l.any p=true)\/(ex= .exit 0/\l.any p=false))) ?_ l.length
 ·simp only [ae];rw [au h];simp only [go_sem,ya,Im,hv.len];generalize hq:D P L (.loop [0,1,7,8] LQ) _=q;obtain ⟨ex,s,rfl,tm,rfl,h2⟩:=bI hq key ⟨_,_,0,rfl,rfl,rfl,rfl,rfl,by omega,rfl⟩;rcases h2 with ⟨n,rfl,h2,h3,h4⟩ | ⟨rfl,h2⟩
  ·exact ⟨n,by simp only [go_sem,h2],by rw [h4];simpa using h3⟩
  ·exact ⟨-1,by simp only [go_sem],by rw [h2];decide⟩
 ·rintro k s ⟨tm,ct,i,rfl,h0,h1,h7,h8,hk,hf⟩;rw [Kv (by simp only [go_sem,h0,h1,h7,h8,hv.pu,JV])];simp only [go_sem,ya,h0,h1,h7,h8,LQ];by_cases hi:i<l.length
  ·have bU:(i:Int)<l.length:=by omega
   rw [YC hi] at hf
   cases dZ:p l[i] with
   | false=>
    left
    simp only [go_sem,ya,bU,hv.a8 hi,hz,hg,dZ];refine ⟨_,k-1,rfl,by omega,_,_,i+1,rfl,?_⟩;rw [wrap64 (by omega) (by omega)];rw [dZ,wY] at hf;simp only [go_sem,ya];exact ⟨trivial,trivial,trivial,rfl,by omega,hf⟩
   | true=>
    right
    simp only [go_sem,ya,bU,hv.a8 hi,hz,hg,dZ];refine ⟨_,_,rfl,by simp,_,rfl,.inl ⟨i,rfl,?_,by omega,?_⟩⟩
    ·simp only [go_sem]
    ·rw [<-hf,dZ,Bool.true_or]
  ·right
   have bU:¬(i:Int)<l.length:=by omega
   simp only [go_sem,bU];refine ⟨_,_,rfl,by simp,_,rfl,.inr ⟨rfl,?_⟩⟩;rw [<-hf,yP (by omega)];rfl
def s95 (h:Has P L 95 Od) (SC:Has P L 132 Im) {v:AV} {l:List Int} (hv:bk v l) (hl:l.length<=1000000) {g:Nat} {cap:List AV} {p:Int->Bool} (hc:aK cap=true)
  (hz:∀x hp,cB deep hp (aa x::cap)=some (aa x::cap,hp)) (hg:∀x,ae P L g (aa x::cap) (.bool (p x)))
  (ik:∀n hp,freeze (n+500) hp (.fn (.f g) [] cap)=some (.fn (.f g) [] cap,hp)):ae P L 95 [v,.fn (.f g) [] cap] (.bool (l.any p)):=by
 obtain ⟨n,h1,h2⟩:=as3 SC hv hl hc hz hg;unfold ae at h1 ⊢;rw [au h];have as4:∀hp,freeze 998 hp (.fn (.f g) [] cap)=some (.fn (.f g) [] cap,hp):=fun hp=>ik 498 hp
 simp only [go_sem,ya,Od,hv.af,as4,h1,h2]
def s94 (h:Has P L 94 E5) {m:Int} (hm:0<=m) (fK:m<=1000000) (x:Int):ae P L 94 [aa x,.aO [aa m]] (.bool (decide (x< -m\/m<x))):=by
 unfold ae;rw [au h];by_cases h1:x< -m
 ·simp only [go_sem,ya,E5,La,wrap64 (n:=0-m) (by omega) (by omega),show x<0-m by omega,h1,true_or]
 ·by_cases h2:m<x
  ·simp only [go_sem,ya,E5,La,wrap64 (n:=0-m) (by omega) (by omega),show ¬x<0-m by omega,h1,h2,or_true]
  ·simp only [go_sem,ya,E5,La,wrap64 (n:=0-m) (by omega) (by omega),show ¬x<0-m by omega,h1,h2,or_self]
def ak9 (m:Int) (l:List Int):l.any (fun x=>decide (x< -m\/m<x))=fj (-m) m l:=by
 induction l with
 | nil=>rfl
 | cons a r ih=>
  simp only [yaB,fj,ih]
  grind
structure Sq (P:aI) (L:Lib):Prop where
 UO:Has P L 32 Uo
 kT:Has P L 31 A0
 oC:Has P L 33 JG
 h94:Has P L 94 E5
 h95:Has P L 95 Od
 SC:Has P L 132 Im
 h4:Has P L 4 c4
 h9:Has P L 9 c9
def s32 (h:Sq P L) {v:AV} {s:List (List Int)} (hv:eS v s) (hl:s.length<=1000000) (hr:∀i (hi:i<s.length),s[i].length<=1000000) {m:Int} (hm:0<=m) (fK:m<=1000000):
  ae P L 32 [v,aa m] (aa (jf s.length (-m) m s)):=by
 have key:=eh (P:=P) (L:=L) (live:=[0,3,9,10,11]) (a:=L8)
  (I:=fun k st=>∃(i:Nat) (rw:Bool),st=⟨[(0,v),(3,.ptr 0 0),(9,v),(10,aa s.length),(11,aa i)],[(0,.cells rw true true 1 [aa m])],1,0⟩/\i+k=s.length/\jf s.length (-m) m (s.drop i)=jf s.length (-m) m s)
  (Q:=fun ex st=>∃tm hp ct,st=⟨tm,hp,ct,0⟩/\((ex= .ret/\aj tm 4=aa (jf s.length (-m) m s))\/(ex= .exit 0/\jf s.length (-m) m s=0))) ?_
 ·unfold ae;rw [au h.UO];simp only [go_sem,ya,yb,Uo,hv.len];generalize hq:D P L (.loop [0,3,9,10,11] L8) _=q;obtain ⟨ex,st,rfl,tm,hp,ct,rfl,h2⟩:=bI hq (key s.length) ⟨0,true,by simp only [go_sem,ya,yb,ao,aA hv.pu,aF _ hv.pu]<;>rfl,by omega,rfl⟩
  rcases h2 with ⟨rfl,h2⟩ | ⟨rfl,h2⟩
  ·simp only [go_sem,h2]
  ·rw [h2];simp only [go_sem,ao]
 ·rintro k st ⟨i,rw,rfl,hk,hf⟩;simp only [go_sem,ya,L8];by_cases hi:i<s.length
  ·have bU:(i:Int)<s.length:=by omega
   rw [W1 hi] at hf;obtain ⟨r,rest,cw,eZ⟩:=hv.a8 hi;have hc:ae P L 95 [r,.fn (.f 94) [] [.aO [aa m]]] (.bool (fj (-m) m s[i])):=by
    rw [<-ak9];exact s95 h.h95 h.SC cw (hr i hi) rfl (fun x hp=>by simp only [go_sem]) (fun x=>s94 h.h94 hm fK x) (fun n hp=>by simp only [go_sem])
   have gM:∀a b:Int,ae P L 33 [.aH true 2 [.int .i64 a,.int .i64 b]] (aa (bj [a,b])):=fun a b=>zf h.oC (fb true [a,b]) (by simp)
   unfold ae at hc gM;by_cases h1:s[i].length=s.length
   ·have AR:(s[i].length:Int)=s.length:=by omega
    simp only [h1,yaJ,ud,y8] at hf
    cases h2:fj (-m) m s[i] with
    | false=>
     left
     simp only [h2,yC,y8] at hf;cases rw<;>simp only [go_sem,ya,yb,yq,yh,yj,bU,eZ,hc,AR,h2,A3 h.kT,gM,cw.len,cw.af,hv.len,yC,y8,bj,xh]
     all_goals
      refine ⟨_,k-1,rfl,by omega,i+1,false,?_,by omega,hf⟩;rw [wrap64 (by omega) (by omega)];simp only [go_sem,ya,yb,ao,aA hv.pu,aF _ hv.pu];rfl
    | true=>
     right
     simp only [h2,xh] at hf;cases rw<;>simp only [go_sem,ya,yb,yq,yh,yj,bU,eZ,hc,AR,h2,A3 h.kT,gM,cw.len,cw.af,hv.len,yC,y8,bj,xh,vN]
     all_goals
      refine ⟨_,_,rfl,by simp,_,_,_,rfl,.inl ⟨rfl,?_⟩⟩;simp only [go_sem,hf]
   ·right
    have AR:¬(s[i].length:Int)=s.length:=by omega
    simp only [h1,yaJ,uY,xh] at hf;cases h2:fj (-m) m s[i]<;>cases rw<;>simp only [go_sem,ya,yb,yq,yh,yj,bU,eZ,hc,AR,h2,A3 h.kT,gM,cw.len,cw.af,hv.len,yC,y8,bj,xh,vN]
    all_goals
     refine ⟨_,_,rfl,by simp,_,_,_,rfl,.inl ⟨rfl,?_⟩⟩;simp only [go_sem,hf]
  ·right
   have bU:¬(i:Int)<s.length:=by omega
   simp only [go_sem,bU];refine ⟨_,_,rfl,by simp,_,_,_,rfl,.inr ⟨rfl,?_⟩⟩;rw [<-hf,yP (by omega)];rfl
end
end
section
open Go (IntKind)
section
variable {P:aI} {L:Lib}
def s2 (h:Has P L 2 c2) {v:AV} {s:List (List Int)} (hv:eS v s) {n:Nat}:ae P L 2 [v,aa n] (.bool (nP n s)):=by
 have key:=eh (P:=P) (L:=L) (live:=[0,5]) (a:=Ig)
  (I:=fun k st=>∃i:Nat,st=⟨[(0,v),(5,aa i)],[],0,0⟩/\i+k=s.length/\s.length<=18/\oL (s.drop i)=oL s)
  (Q:=fun ex st=>∃tm ct,st=⟨tm,[],ct,0⟩/\((ex= .ret/\aj tm 4= .bool (oL s))\/(ex= .exit 0/\oL s=true))) ?_
 ·unfold ae;rw [au h];unfold nP;by_cases h1:n<s.length
  ·by_cases h2:s.length<=16
   ·simp only [go_sem,ya,c2,hv.len,show (n:Int)<s.length by omega,show (s.length:Int)<=16 by omega];rw [yL (by omega)]
   ·by_cases h3:18<s.length
    ·simp only [go_sem,ya,c2,hv.len,show (n:Int)<s.length by omega,show ¬(s.length:Int)<=16 by omega,show (18:Int)<s.length by omega];rw [yL (by omega)]
    ·simp only [go_sem,ya,c2,hv.len,show (n:Int)<s.length by omega,show ¬(s.length:Int)<=16 by omega,show ¬(18:Int)<s.length by omega];rw [yF (by omega)];generalize hq:D P L (.loop [0,5] Ig) _=q;obtain ⟨ex,st,rfl,tm,ct,rfl,h2⟩:=bI hq (key s.length) ⟨0,by simp only [go_sem,ya,ao,aA hv.pu,aF _ hv.pu]<;>rfl,by omega,by omega,rfl⟩
     rcases h2 with ⟨rfl,h2⟩ | ⟨rfl,h2⟩
     ·simp only [go_sem,h2]
     ·rw [h2];simp only [go_sem]
  ·by_cases h3:18<s.length
   ·simp only [go_sem,ya,c2,hv.len,show ¬(n:Int)<s.length by omega,show (18:Int)<s.length by omega];rw [yL (by omega)]
   ·simp only [go_sem,ya,c2,hv.len,show ¬(n:Int)<s.length by omega,show ¬(18:Int)<s.length by omega];rw [yF (by omega)];generalize hq:D P L (.loop [0,5] Ig) _=q;obtain ⟨ex,st,rfl,tm,ct,rfl,h2⟩:=bI hq (key s.length) ⟨0,by simp only [go_sem,ya,ao,aA hv.pu,aF _ hv.pu]<;>rfl,by omega,by omega,rfl⟩
    rcases h2 with ⟨rfl,h2⟩ | ⟨rfl,h2⟩
    ·simp only [go_sem,h2]
    ·rw [h2];simp only [go_sem]
 ·rintro k st ⟨i,rfl,hk,hl,hf⟩;simp only [go_sem,ya,Ig,hv.len];by_cases hi:i<s.length
  ·have bU:(i:Int)<s.length:=by omega
   rw [af9 hi] at hf;obtain ⟨r,rest,cw,eZ⟩:=hv.a8 hi;by_cases h1:18<s[i].length
   ·right
    rw [yL h1] at hf;simp only [go_sem,ya,bU,eZ,cw.len,show (18:Int)<s[i].length by omega];refine ⟨_,_,rfl,by simp,_,_,rfl,.inl ⟨rfl,?_⟩⟩;simp only [go_sem,<-hf]
   ·left
    rw [yF h1] at hf;simp only [go_sem,ya,bU,eZ,cw.len,show ¬(18:Int)<s[i].length by omega];refine ⟨_,k-1,rfl,by omega,i+1,?_,by omega,hl,hf⟩;rw [wrap64 (by omega) (by omega)];simp only [go_sem,ya,ao,aA hv.pu,aF _ hv.pu]<;>rfl
  ·right
   simp only [go_sem,show ¬(i:Int)<s.length by omega];refine ⟨_,_,rfl,by simp,_,_,rfl,.inr ⟨rfl,?_⟩⟩;rw [<-hf,yP (by omega)];rfl
def s4 (h:Sq P L) {v:AV} {s:List (List Int)} (hv:eS v s) (hl:s.length<=1000000) (hr:∀i (hi:i<s.length),s[i].length<=1000000):ae P L 4 [v] (aa (nE s)):=by
 have hc:=s32 h hv hl hr (m:=1000) (by decide) (by decide);have hf:∀a b c:Int,ae P L 33 [.aH true 3 [.int .i64 a,.int .i64 b,.int .i64 c]] (aa (bj [a,b,c])):=fun a b c=>zf h.oC (fb true [a,b,c]) (by simp)
 unfold ae at hc hf ⊢;rw [au h.h4];simp only [go_sem,ya,yb,yq,yh,yj,c4,hv.len,hv.af,hc,A3 h.kT,hf];unfold nE;by_cases h1:s.length=0
 ·simp [h1,bj]
 ·by_cases h2:16<s.length
  ·simp [h1,h2,bj,show (16:Int)<s.length by omega]
  ·simp only [h1,h2,bj,show ¬(16:Int)<s.length by omega,show ¬(s.length:Int)=0 by omega,yp,yC,y8,xh]
   split<;>simp_all
end
end
section
open Go (IntKind)
section
variable {P:aI} {L:Lib}
def s3 (h:Has P L 3 c3) (ni:Has P L 30 qX) {v:AV} {s:List (List Int)} (hv:eS v s):ae P L 3 [v] (aa (nE s)):=by
 have inner:∀{i:Nat} (hi:i<s.length),s[i].length=s.length->s.length<=16->∀k st,(∃j:Nat,bf [0,3,4] st=⟨[(0,v),(3,aa i),(4,aa j)],[],0,0⟩/\j+k=s.length/\fj (-1000) 1000 (s[i].drop j)=fj (-1000) 1000 s[i])->
   ∃ex st',D P L (.loop [0,3,4] MB) st=some (ex,st')/\∃tm ct,st'=⟨tm,[],ct,0⟩/\((ex= .ret/\aj tm 2=aa 3/\fj (-1000) 1000 s[i]=true)\/(ex= .exit 2/\aj tm 0=v/\aj tm 3=aa i/\fj (-1000) 1000 s[i]=false)):=by
  intro i hi hr hl;intro dq sq;generalize bQ:bf [0,3,4] sq=s0;revert bQ s0 sq dq;apply eO;rintro k st ⟨j,rfl,hk,hf⟩;simp only [go_sem,ya,MB,hv.len];obtain ⟨r,rest,cw,eZ⟩:=hv.a8 hi;by_cases hj:j<s.length
  ·have EV:(j:Int)<s.length:=by omega
   have UP:j<s[i].length:=by omega
   rw [ais UP] at hf;by_cases h1:s[i][j]< -1000\/1000<s[i][j]
   ·right
    rw [yL h1] at hf;simp only [go_sem,ya,EV,eZ,cw.a8 UP,UK ni,h1,xh,vN];refine ⟨_,_,rfl,by simp,_,_,rfl,.inl ⟨rfl,?_,hf.symm⟩⟩;simp only [go_sem]
   ·left
    rw [yF h1] at hf;simp only [go_sem,ya,EV,eZ,cw.a8 UP,UK ni,h1,y8];refine ⟨_,k-1,rfl,by omega,j+1,?_,by omega,hf⟩;rw [wrap64 (by omega) (by omega)];simp only [go_sem,ya,ao,aA hv.pu,aF _ hv.pu]<;>rfl
  ·right
   simp only [go_sem,show ¬(j:Int)<s.length by omega];refine ⟨_,_,rfl,by simp,_,_,rfl,.inr ⟨rfl,?_,?_,?_⟩⟩
   ·simp only [go_sem,ya]
   ·simp only [go_sem,ya]
   ·rw [<-hf,yP (by omega)];rfl
 have key:=eh (P:=P) (L:=L) (live:=[0,3]) (a:=MC)
  (I:=fun k st=>∃i:Nat,st=⟨[(0,v),(3,aa i)],[],0,0⟩/\i+k=s.length/\s.length<=16/\jf s.length (-1000) 1000 (s.drop i)=jf s.length (-1000) 1000 s)
  (Q:=fun ex st=>∃tm ct,st=⟨tm,[],ct,0⟩/\((ex= .ret/\aj tm 2=aa (jf s.length (-1000) 1000 s))\/(ex= .exit 0/\jf s.length (-1000) 1000 s=0))) ?_
 ·unfold ae;rw [au h];unfold nE;by_cases h1:s.length=0
  ·simp only [go_sem,ya,c3,hv.len,show (s.length:Int)=0 by omega];rw [yL h1]
  ·rw [yF h1];by_cases h2:16<s.length
   ·simp only [go_sem,ya,c3,hv.len,show ¬(s.length:Int)=0 by omega,show (16:Int)<s.length by omega];rw [yL h2]
   ·simp only [go_sem,ya,c3,hv.len,show ¬(s.length:Int)=0 by omega,show ¬(16:Int)<s.length by omega];rw [yF h2];generalize hq:D P L (.loop [0,3] MC) _=q;obtain ⟨ex,st,rfl,tm,ct,rfl,h2⟩:=bI hq (key s.length) ⟨0,by simp only [go_sem,ya,ao,aA hv.pu,aF _ hv.pu]<;>rfl,by omega,by omega,rfl⟩
    rcases h2 with ⟨rfl,h2⟩ | ⟨rfl,h2⟩
    ·simp only [go_sem,h2]
    ·rw [h2];simp only [go_sem]
 ·rintro k st ⟨i,rfl,hk,hl,hf⟩;simp only [go_sem,ya,MC,hv.len];by_cases hi:i<s.length
  ·have bU:(i:Int)<s.length:=by omega
   rw [W1 hi] at hf;obtain ⟨r,rest,cw,eZ⟩:=hv.a8 hi;by_cases h1:s[i].length=s.length
   ·simp only [h1,yaJ,ud,y8] at hf;simp only [go_sem,ya,bU,eZ,cw.len,hv.len,show (s[i].length:Int)=s.length by omega];generalize hq:D P L (.loop [0,3,4] MB) _=q;obtain ⟨ex,st,rfl,tm,ct,rfl,h2⟩:=bI hq (inner hi h1 hl s.length) ⟨0,by simp only [go_sem,ya,ao,aA hv.pu,aF _ hv.pu]<;>rfl,by omega,rfl⟩
    rcases h2 with ⟨rfl,h2,h3⟩ | ⟨rfl,h2,h3,h4⟩
    ·right
     rw [yL h3] at hf;exact ⟨_,_,rfl,by simp,_,_,rfl,.inl ⟨rfl,by rw [h2,<-hf]⟩⟩
    ·left
     rw [yF (by simp [h4])] at hf;simp only [go_sem,ya,ao,h2,h3,aA hv.pu,aF _ hv.pu];refine ⟨_,k-1,rfl,by omega,i+1,?_,by omega,hl,hf⟩;rw [wrap64 (by omega) (by omega)];simp only [go_sem,ya,ao,aA hv.pu,aF _ hv.pu]<;>rfl
   ·right
    simp only [h1,yaJ,uY,xh] at hf;simp only [go_sem,ya,bU,eZ,cw.len,hv.len,show ¬(s[i].length:Int)=s.length by omega];refine ⟨_,_,rfl,by simp,_,_,rfl,.inl ⟨rfl,?_⟩⟩;simp only [go_sem,<-hf]
  ·right
   simp only [go_sem,show ¬(i:Int)<s.length by omega];refine ⟨_,_,rfl,by simp,_,_,rfl,.inr ⟨rfl,?_⟩⟩;rw [<-hf,yP (by omega)];rfl
end
end
section
def ahv {lo hi:Int} {l:List Int} (h:fj lo hi l=false) (h0:lo<=0/\0<=hi) (i:Nat):lo<=l.getD i 0/\l.getD i 0<=hi:=by
 by_cases hl:i<l.length
 ·have:=P3 h i hl
  grind
 ·grind
def Wu {n:Nat} {lo hi:Int} {s:List (List Int)} (h:jf n lo hi s=0) (h0:lo<=0/\0<=hi) (c r:Int):lo<=jg s c r/\jg s c r<=hi:=by
 unfold jg;by_cases hl:(r%s.length).toNat<s.length
 ·have:=XN h _ hl
  simp only [xU,wH hl,Option.getD_some];exact ahv this.2 h0 _
 ·grind
end
section
open Go (IntKind)
section
variable {P:aI} {L:Lib}
def oM {k:yZ} {n:Int} (h:0<=n):dD (.int k n)=some n.toNat:=by
 cases n with
 | ofNat n=>rfl
 | negSucc n=>exact absurd h (by simp)
def ala {s:List (List Int)} {n:Nat} (hn:s.length=n) (h0:0<n) (hr:∀i (hi:i<s.length),s[i].length=n) (c r:Int):
  ∃(h1:(r%n).toNat<s.length) (h2:(c%n).toNat<(s[(r%n).toNat]'h1).length),jg s c r=(s[(r%n).toNat]'h1)[(c%n).toNat]'h2:=by
 have a2:=wR r (show (0:Int)<n by omega);have b2:=wR c (show (0:Int)<n by omega);unfold jg
 grind
end
end
section
open Go (IntKind)
section
variable {P:aI} {L:Lib}
def aZ (k id o:Nat):z6 k (.ptr id o)=some (.ptr id (o+k)):=rfl
def bX {α:Type} (a:α) (l:List α):xo 1 (a::l)=l:=rfl
def arS {α:Type} (a b:α) (l:List α):xo 2 (a::b::l)=l:=rfl
def acL {α:Type} (a b c:α) (l:List α):xo 3 (a::b::c::l)=l:=rfl
end
end
section
open Go (IntKind)
section
variable {P:aI} {L:Lib}
abbrev Nm (n:Int):AV:= .agg [aa n,.ab]
def pV (hp:Hp) (ct id:Nat) (a:Int) (x y:AV):fM hp ct id 0 2 [.int .i64 a,.ab] (some (.cells true true true 2 [x,y]))=some (.aq [],bh hp id (.cells true true true 2 [.int .i64 a,.ab]),ct):=rfl
def dK (b:Bool):IT false (some b)=some (.bool b):=by cases b<;>rfl
def aa9 (f:cF) (tm:Env) (hp:Hp) (ct:Nat) (x y:X):bn P L f tm hp ct (.mn [x,y])=rd hp ct (min2 (az tm x) (az tm y)):=by
 simp only [bn,rd,bw,di,zZ]
 grind
def HL (f:cF) (tm:Env) (hp:Hp) (ct:Nat) (x y:X):bn P L f tm hp ct (.mx [x,y])=rd hp ct (max2 (az tm x) (az tm y)):=by
 simp only [bn,rd,bw,di,zZ]
 grind
def YD (k k':yZ) (x y:Int):min2 (.int k x) (.int k' y)=some (.int k (if y<x then y else x)):=rfl
def G2 (k k':yZ) (x y:Int):max2 (.int k x) (.int k' y)=some (.int k (if y>x then y else x)):=rfl
def cA (n:Int):Int:=if n<0 then -1 else if n=0 then 0 else 1
def apR (n:Int):(if (if n<1 then n else 1)> -1 then (if n<1 then n else 1) else -1)=cA n:=by
 unfold cA
 grind
def n117 (h:Has P L 117 MJ) (n:Int):ae P L 117 [aa n] (Nm n):=by
 unfold ae;rw [au h];simp only [go_sem,ya,yb,yh,MJ,aG,yd,pV];rfl
def nW (hp:Hp) (p q:Bool):iU .b (.bool p) (.bool q)=some (p==q):=rfl
end
end
section
open Go (IntKind)
section
variable {P:aI} {L:Lib}
def iM {n:Nat} {sp:List AV->Option AV} (h:L.pure n=some sp) {f:cF} (ak:List AV):bN P L f n ak=sp ak:=by simp only [bN,h]
abbrev U64 (n:Int):AV:= .int .u64 n
def arT {n:Int} (h1:0<=n) (h2:n<18446744073709551616):IntKind.wrap .u64 n=n:=by
 simp only [IntKind.wrap,IntKind.signed,IntKind.bits]
 grind
def aba (n:Int):nX (.toInt .u64) (aa n)=some (U64 (IntKind.wrap .u64 n)):=rfl
def LU (n:Int):nX (.toInt .i64) (U64 n)=some (aa (IntKind.wrap .i64 n)):=rfl
def HM (b:Bool):IT true (some b)=some (.bool (!b)):=by cases b<;>rfl
def cr (a b:AV) (r:List AV):eY 2 true (a::b::r)=some (.agg [a,b]):=rfl
def gF (a b c d:AV) (r:List AV):eY 4 true (a::b::c::d::r)=some (.agg [a,b,c,d]):=rfl
def ai6 {a b:Int} (hb:0<b):(a.tmod b<0->a/b=a.tdiv b-1/\a%b=a.tmod b+b)/\(¬a.tmod b<0->a/b=a.tdiv b/\a%b=a.tmod b):=by
 have h1:=Int.mul_tdiv_add_tmod a b;have h2:a.tmod b<b:=Int.tmod_lt_of_pos a hb;have h3: -b<a.tmod b:=Int.lt_tmod_of_pos a hb;refine ⟨fun h=>(uH hb).2 ⟨?_,?_,?_⟩,fun h=>(uH hb).2 ⟨?_,?_,?_⟩⟩
 ·grind
 ·omega
 ·omega
 ·omega
 ·omega
 ·omega
def alb (a b:Nat) (hb:b≠0):wo b (a%b)=wo a b:=by
 rw [ux b,<-ybs,ux]
end
end
section
def cZ (a b:Int):Int:=a/(wI a b:Nat)
def dd (a b:Int):Int:=b/(wI a b:Nat)
def He {a b:Int} (hb:0<b):(0:Int)<(wI a b:Nat):=by
 have:=Int.gcd_pos_of_ne_zero_right a (show b≠0 by omega)
 omega
def abb (a b:Int):a=(wI a b:Nat)*cZ a b:=(tH (uK a b)).symm
def abc (a b:Int):b=(wI a b:Nat)*dd a b:=(tH (uD a b)).symm
def G3 {a b:Int} (hb:0<b):0<dd a b:=by
 have h1:=He (a:=a) hb;have h2:=abc a b;rcases Int.lt_trichotomy (dd a b) 0 with h | h | h
 ·have:=Int.mul_neg_of_pos_of_neg h1 h;omega
 ·grind
 ·exact h
def YE (a b:Int):(cZ a b).natAbs<=a.natAbs:=by
 unfold cZ;rw [vO (uK a b)];exact ve _ _
def YF (a b:Int):(dd a b).natAbs<=b.natAbs:=by
 unfold dd;rw [vO (uD a b)];exact ve _ _
def n5 (a b:Int):List Nat:=if dd a b=1 then aW (cZ a b) else aW (cZ a b)++[47]++aW (dd a b)
end
section
def acM {a b:Nat} (h:¬a<b):yI a b=false:=by
 cases hb:yI a b with
 | false=>rfl
 | true=>exact absurd (yr hb) (by omega)
def Qn:∀(f n:Nat) (acc:List Nat),n<f->ma f n acc=ma f n []++acc
 | 0,_,_,h=>by omega
 | f+1,n,acc,h=>by
  simp only [ma];by_cases h1:n<10
  ·rw [show yI n 10=true from yz h1];rfl
  ·rw [show yI n 10=false from acM (by omega)];rw [Qn f (n/10) _ (by omega),Qn f (n/10) [48+n%10] (by omega)]
   simp
def PH {f n:Nat} (h:n<10):ma (f+1) n []=[48+n]:=by
 simp only [ma];rw [show yI n 10=true from yz h];rfl
def Qo {f n:Nat} (h:¬n<10) (hf:n<=f):ma (f+1) n []=ma f (n/10) []++[48+n%10]:=by
 rw [<-Qn f (n/10) _ (by omega)];simp only [ma];rw [show yI n 10=false from acM (by omega)];rfl
def alc:∀(n f:Nat),n<f->ma f n []=ax n:=by
 intro n
 induction n using vQ with
 | _ n ih=>
  intro f hf;obtain ⟨g,rfl⟩:∃g,f=g+1:=⟨f-1,by omega⟩;by_cases h:n<10
  ·rw [PH h];unfold ax;rw [PH h]
  ·rw [Qo h (by omega),ih (n/10) (by omega) g (by omega)];unfold ax;rw [Qo h (yv n),ih (n/10) (by omega) n (by omega)];rfl
def nD {n:Nat} (h:n<10):ax n=[48+n]:=PH h
def oO {n:Nat} (h:¬n<10):ax n=ax (n/10)++[48+n%10]:=by
 rw [show ax n=ma (n+1) n [] from rfl,Qo h (yv n),alc (n/10) n (by omega)]
def oP:∀{k n:Nat},n<10^(k+1)->(ax n).length<=k+1
 | 0,n,h=>by rw [nD (by simpa using h)];simp
 | k+1,n,h=>by
  by_cases h1:n<10
  ·rw [nD h1];simp
  ·rw [oO h1,yW]
   have:n/10<10^(k+1):=by
    grind
   have:=oP this
   grind
def KM {n:Nat} (h:n<18446744073709551616):(ax n).length<=20:=oP (k:=19) (by omega)
def jI (n:Nat):aW (n:Int)=ax n:=rfl
def lZ {n:Int} (h:n<0):aW n=45::ax n.natAbs:=by
 cases n with
 | ofNat n=>exact absurd h (by simp)
 | negSucc n=>rfl
def bO:List Nat->Nat
 | []=>0
 | b::r=>if b=47 then 0 else bO r+1
def agP {s:List Nat} {i:Nat} (h:i<s.length):bO (s.drop i)=if s[i]=47 then 0 else bO (s.drop (i+1))+1:=by
 rw [yJ h];rfl
def GR:∀s:List Nat,bO s<=s.length
 | []=>yv _
 | b::r=>by
  unfold bO
  have:=GR r
  grind
def de:List Nat->Bool
 | []=>true
 | b::r=>yB 48 b&&yB b 57&&de r
def Ky:∀(a b:List Nat),de (a++b)=(de a&&de b)
 | [],b=>by simp [de]
 | x::a,b=>by simp [de,Ky a b,Bool.and_assoc]
def GS (n:Nat):de (ax n)=true:=by
 induction n using vQ with
 | _ n ih=>
  by_cases h:n<10
  ·rw [nD h];simp [de];omega
  ·rw [oO h,Ky,ih (n/10) (by omega)];simp [de];omega
def Kz:∀{s:List Nat} (r:List Nat),de s=true->bO (s++r)=s.length+bO r
 | [],r,_=>by simp
 | b::s,r,h=>by
  simp only [de,yf] at h;have h1:=yr h.1.1;simp only [xn,bO,yu];rw [yF (by omega),Kz r h.2];omega
def KA:∀(l:List Nat) (a d:Nat),d<10->cN (l++[48+d]) a=(cN l a).map (fun v=>10*v+d)
 | [],a,d,h=>by
  simp only [List.nil_append,cN];rw [show yB 48 (48+d)=true from yz (by omega),show yB (48+d) 57=true from yz (by omega)]
  simp
 | b::l,a,d,h=>by
  simp only [xn,cN]
  cases (yB 48 b&&yB b 57) with
  | true=>exact KA l _ d h
  | false=>rfl
def Br (n:Nat):cN (ax n) 0=some n:=by
 induction n using vQ with
 | _ n ih=>
  by_cases h:n<10
  ·rw [nD h]
   have:=KA [] 0 n h
   simpa [cN] using this
  ·rw [oO h,KA _ _ _ (by omega),ih (n/10) (by omega)]
   simp;omega
def ai7 {s:List Nat} {i a v:Nat} (h:i<s.length) (hv:cN (s.drop i) a=some v):48<=s[i]/\s[i]<=57/\cN (s.drop (i+1)) (10*a+(s[i]-48))=some v:=by
 rw [yJ h] at hv;simp only [cN] at hv
 cases hb:(yB 48 s[i]&&yB s[i] 57) with
 | false=>rw [hb] at hv;cases hv
 | true=>
  simp_all
def ie:Nat->Nat->List Nat
 | 0,_=>[]
 | k+1,n=>ie k (n/10)++[48+n%10]
def P4:∀k n,(ie k n).length=k
 | 0,_=>rfl
 | k+1,n=>by simp [ie,P4 k]
def Lb:∀(k m r:Nat),0<m->r<10^k->ax (m*10^k+r)=ax m++ie k r
 | 0,m,r,_,h=>by simp at h;subst h;simp [ie]
 | k+1,m,r,hm,h=>by
  have h1:m*10^(k+1)+r=(m*10^k)*10+r:=by grind
  have hp:0<m*10^k:=Nat.mul_pos hm (Nat.pow_pos (by decide));have e1:(m*10^(k+1)+r)/10=m*10^k+r/10:=by omega
  have e2:(m*10^(k+1)+r)%10=r%10:=by omega
  rw [oO (by omega),e1,e2,Lb k m (r/10) hm (by rw [xg] at h;omega)];simp [ie]
def YG:∀(k r a:Nat),r<10^k->cN (ie k r) a=some (a*10^k+r)
 | 0,r,a,h=>by simp at h;subst h;simp [ie,cN]
 | k+1,r,a,h=>by
  rw [ie,KA _ _ _ (xv _ (by decide)),YG k (r/10) a (by omega)];simp only [Option.map_some,yc,xg]
  grind
def ald {m:Nat} (h:1000000000<=m):ax m=ax (m/1000000000)++ie 9 (m%1000000000):=by
 have:=Lb 9 (m/1000000000) (m%1000000000) (by omega) (by omega)
 grind
end
section
open Go (IntKind)
def gX (s:List Nat) (l h:Option Nat):Option AV:=
 match l,h with
 | some l,some h=>bif yB l h&&yB h s.length then some (.str ((s.take h).drop l)) else none
 | _,_=>none
def ew (hp:Hp) (s:List Nat) (tm:Env) (lo hi:Option X):fe hp .str (.str s) tm lo hi=gX s (cI tm 0 lo) (cI tm s.length hi):=by
 unfold gX;simp only [fe]
 grind
def eK (tm:Env) (d:Nat):cI tm d none=some d:=rfl
def du (tm:Env) (d:Nat) (x:X):cI tm d (some x)=dD (az tm x):=rfl
def kB {s:List Nat} {l h:Nat} (h1:l<=h) (h2:h<=s.length):gX s (some l) (some h)=some (.str ((s.take h).drop l)):=by
 simp [gX,yz h1,yz h2]
def fS {a b:List Nat} (h:a.length+b.length<=9223372036854775807):binOp .add (.str a) (.str b)=some (.str (a++b)):=by
 show HP .add a b=_
 simp only [HP,yz h,yy]
def anu (k:yZ) (n:Int):nX (.toInt .i64) (.int k n)=some (aa (IntKind.wrap .i64 n)):=rfl
def iz (a b:List Nat):binOp .eql (.str a) (.str b)=some (.bool (cE a b)):=rfl
def oS {s:List Nat} {i:Nat} (h:i<s.length):mf i (.str s)=some (.int .u8 (s[i]:Nat)):=by
 simp only [mf,wH h]
def W5 {r:Nat} (h:r<10):gX [48,49,50,51,52,53,54,55,56,57] (some r) (some (r+1))=some (.str [48+r]):=by
 have:r=0\/r=1\/r=2\/r=3\/r=4\/r=5\/r=6\/r=7\/r=8\/r=9:=by omega
 rcases this with rfl | rfl | rfl | rfl | rfl | rfl | rfl | rfl | rfl | rfl<;>rfl
section
variable {P:aI} {L:Lib}
def SD (h:Has P L 292 sB) {n:Nat} (hn:n<9223372036854775808):ae P L 292 [aa n,aa 1] (.str (ax n)):=by
 have key:=eh (P:=P) (L:=L) (live:=[0,1,5]) (a:=mG)
  (I:=fun k st=>∃(m:Nat) (s:List Nat),st=⟨[(0,aa m),(1,aa 1),(5,.str s)],[],0,0⟩/\m<=n/\m+(1-s.length)=k/\s.length<=20/\((s=[]/\m=n)\/(0<s.length/\(m=0->s=ax n)/\(0<m->ax n=ax m++s))))
  (Q:=fun ex st=>∃tm ct,st=⟨tm,[],ct,0⟩/\ex= .exit 0/\aj tm 5= .str (ax n)) ?_
 ·unfold ae;rw [au h];simp only [go_sem,sB];generalize hq:D P L (.loop [0,1,5] mG) _=q;obtain ⟨ex,st,rfl,tm,ct,rfl,rfl,h2⟩:=bI hq (key (n+1)) ⟨n,[],by simp only [go_sem,ya,ao]<;>rfl,by omega,rfl,by simp,.inl ⟨rfl,rfl⟩⟩
  simp only [go_sem,ao,h2]
 ·rintro k st ⟨m,s,rfl,hm,hk,hl,hs⟩;by_cases rh:0<m\/s.length<1
  ·left
   have hc:((decide ((0:Int)<m))=true)\/((decide ((0:Int)<m))=false/\((s.length:Nat):Int)<1):=by
    by_cases h0:0<m
    ·exact .inl (xi (by omega))
    ·exact .inr ⟨yX (by omega),by omega⟩
   have hr:((m:Int)).tmod 10=((m%10:Nat):Int):=by rw [xB (by omega)];rfl
   have hq:((m:Int)).tdiv 10=((m/10:Nat):Int):=by rw [Int.tdiv_eq_ediv_of_nonneg (by omega)];rfl
   have hd:=W5 (r:=m%10) (by omega);have fin:∃s' k',D P L mG ⟨[(0,aa m),(1,aa 1),(5,.str s)],[],0,0⟩=some (.normal,s')/\k'<k/\bf [0,1,5] s'=⟨[(0,aa (m/10:Nat)),(1,aa 1),(5,.str ([48+m%10]++s))],[],0,0⟩/\m/10+(1-([48+m%10]++s).length)=k':=by
    rcases hc with hc | ⟨hc,qU⟩
    ·have hc:(0:Int)<m:=of_decide_eq_true hc
     simp only [go_sem,ya,yb,mG,hc,fo _ _ _ (show (10:Int)≠0 by decide),eV _ _ _ (show (10:Int)≠0 by decide),hr,hq,wrapN (n:=m%10+1) (by omega),wrap64 (n:=((m/10:Nat):Int)) (by omega) (by omega),ew,du,show ((m%10:Nat):Int)+1=((m%10+1:Nat):Int) from rfl,hd,fS (a:=[48+m%10]) (b:=s) (by simp;omega)];refine ⟨_,_,rfl,?_,by simp only [go_sem,ya,ao],rfl⟩
     simp;omega
    ·have hc:¬(0:Int)<m:=of_decide_eq_false hc
     simp only [go_sem,ya,yb,mG,hc,qU,fo _ _ _ (show (10:Int)≠0 by decide),eV _ _ _ (show (10:Int)≠0 by decide),hr,hq,wrapN (n:=m%10+1) (by omega),wrap64 (n:=((m/10:Nat):Int)) (by omega) (by omega),ew,du,show ((m%10:Nat):Int)+1=((m%10+1:Nat):Int) from rfl,hd,fS (a:=[48+m%10]) (b:=s) (by simp;omega)];refine ⟨_,_,rfl,?_,by simp only [go_sem,ya,ao],rfl⟩
     simp;omega
   obtain ⟨s',k',f1,f2,f3,f4⟩:=fin;refine ⟨s',k',f1,f2,m/10,[48+m%10]++s,f3,by omega,f4,?_,.inr ⟨by simp,fun h0=>?_,fun h0=>?_⟩⟩
   ·have ayD:=KM (n:=n) (by omega);rcases hs with ⟨rfl,rfl⟩ | ⟨h1,h2,h3⟩
    ·simp
    ·by_cases h0:0<m
     ·have e:=congrArg List.length (h3 h0);have e2:0<(ax m).length:=by
       by_cases h9:m<10
       ·rw [nD h9];simp
       ·rw [oO h9];simp
      simp only [yW] at e
      simp;omega
     ·omega
   ·have h9:m<10:=by omega
    rcases hs with ⟨rfl,rfl⟩ | ⟨h1,h2,h3⟩
    ·rw [nD h9,yO h9];rfl
    ·have:0<m:=by omega
     rw [h3 this,nD h9,yO h9]
   ·have h9:¬m<10:=by omega
    rcases hs with ⟨rfl,rfl⟩ | ⟨h1,h2,h3⟩
    ·rw [oO h9];simp
    ·rw [h3 (by omega),oO h9];simp
  ·right
   simp only [go_sem,ya,mG,show ¬(0:Int)<m by omega,show ¬((s.length:Nat):Int)<1 by omega];refine ⟨_,_,rfl,by simp,_,_,rfl,rfl,?_⟩;simp only [go_sem,ya];rcases hs with ⟨rfl,rfl⟩ | ⟨h1,h2,h3⟩
   ·simp at rh
   ·rw [h2 (by omega)]
def as5 (h:Has P L 291 IC) {a b:Nat} (ha:a<9223372036854775808) (hb:b<9223372036854775808):ae P L 291 [aa a,aa b] (aa (wo a b)):=by
 have key:=eh (P:=P) (L:=L) (live:=[0,1]) (a:=HF)
  (I:=fun k st=>∃x y:Nat,st=⟨[(0,aa x),(1,aa y)],[],0,0⟩/\y=k/\wo x y=wo a b)
  (Q:=fun ex st=>∃tm ct,st=⟨tm,[],ct,0⟩/\ex= .exit 0/\aj tm 0=aa (wo a b)) ?_
 ·unfold ae;rw [au h];simp only [go_sem,IC];generalize hq:D P L (.loop [0,1] HF) _=q;obtain ⟨ex,st,rfl,tm,ct,rfl,rfl,h2⟩:=bI hq (key b) ⟨a,b,by simp only [go_sem,ya,ao]<;>rfl,rfl,rfl⟩
  simp only [go_sem,ao,h2]
 ·rintro k st ⟨x,y,rfl,rfl,hg⟩;by_cases hy:y=0
  ·right
   subst hy;simp only [go_sem,ya,HF,show ¬(0:Int)<((0:Nat):Int) by omega];refine ⟨_,_,rfl,by simp,_,_,rfl,rfl,?_⟩;simp only [go_sem,ya];rw [<-hg,Nat.gcd_zero_right]
  ·left
   have hr:((x:Int)).tmod y=((x%y:Nat):Int):=by rw [xB (by omega)];rfl
   simp only [go_sem,ya,HF,show (0:Int)<y by omega,fo _ _ _ (show (y:Int)≠0 by omega),hr];refine ⟨_,x%y,rfl,xv _ (by omega),y,x%y,by simp only [go_sem,ya,ao],rfl,?_⟩;rw [<-hg,ux y,<-ybs,ux]
end
end
section
open Go (IntKind)
section
variable {P:aI} {L:Lib}
def Cs (h:Has P L 272 Iy) {s:List Nat} (hl:s.length<=1000000000000):ae P L 272 [.str s] (aa (bO s)):=by
 have key:=eh (P:=P) (L:=L) (live:=[0,3]) (a:=DT)
  (I:=fun k st=>∃i:Nat,st=⟨[(0,.str s),(3,aa i)],[],0,0⟩/\i+k=s.length/\i+bO (s.drop i)=bO s)
  (Q:=fun ex st=>∃tm ct,st=⟨tm,[],ct,0⟩/\((ex= .ret/\aj tm 2=aa (bO s))\/(ex= .exit 0/\aj tm 0= .str s/\bO s=s.length))) ?_
 ·unfold ae;rw [au h];simp only [go_sem,Iy];generalize hq:D P L (.loop [0,3] DT) _=q;obtain ⟨ex,st,rfl,tm,ct,rfl,h2⟩:=bI hq (key s.length) ⟨0,by simp only [go_sem,ya,ao]<;>rfl,by omega,by simp⟩
  rcases h2 with ⟨rfl,h2⟩ | ⟨rfl,h2,h3⟩
  ·simp only [go_sem,h2]
  ·simp only [go_sem,ao,h2,h3]
 ·rintro k st ⟨i,rfl,hk,hs⟩;by_cases hi:i<s.length
  ·rw [agP hi] at hs;by_cases h7:s[i]=47
   ·right
    rw [yL h7] at hs;simp only [go_sem,ya,DT,show (i:Int)<s.length by omega,oS hi,show ((s[i]:Nat):Int)=47 by omega];refine ⟨_,_,rfl,by simp,_,_,rfl,.inl ⟨rfl,?_⟩⟩;rw [<-hs];rfl
   ·left
    rw [yF h7] at hs;simp only [go_sem,ya,DT,show (i:Int)<s.length by omega,oS hi,show ¬((s[i]:Nat):Int)=47 by omega];refine ⟨_,k-1,rfl,by omega,i+1,?_,by omega,by omega⟩;rw [wrap64 (by omega) (by omega)];simp only [go_sem,ya,ao]<;>rfl
  ·right
   simp only [go_sem,ya,DT,show ¬(i:Int)<s.length by omega];refine ⟨_,_,rfl,by simp,_,_,rfl,.inr ⟨rfl,by simp only [go_sem,ya],?_⟩⟩;rw [yP (by omega)] at hs;simp only [bO] at hs;omega
def IV (h:Has P L 290 Ez) {s:List Nat} {v:Nat} (hl:s.length<=18) (hv:cN s 0=some v):ae P L 290 [.str s] (aa v):=by
 have key:=eh (P:=P) (L:=L) (live:=[0,3,4]) (a:=HE)
  (I:=fun k st=>∃i a:Nat,st=⟨[(0,.str s),(3,aa a),(4,aa i)],[],0,0⟩/\i+k=s.length/\a<10^i/\cN (s.drop i) a=some v)
  (Q:=fun ex st=>∃tm ct,st=⟨tm,[],ct,0⟩/\ex= .exit 0/\aj tm 3=aa v) ?_
 ·unfold ae;rw [au h];simp only [go_sem,Ez];generalize hq:D P L (.loop [0,3,4] HE) _=q;obtain ⟨ex,st,rfl,tm,ct,rfl,rfl,h2⟩:=bI hq (key s.length) ⟨0,0,by simp only [go_sem,ya,ao]<;>rfl,by omega,by simp,hv⟩
  simp only [go_sem,ao,h2]
 ·rintro k st ⟨i,a,rfl,hk,ha,hs⟩;by_cases hi:i<s.length
  ·left
   obtain ⟨h1,h2,h3⟩:=ai7 hi hs;have hp:10^i<=10^17:=xA (by decide) (by omega);have hb:IntKind.wrap .i64 ((s[i]:Nat):Int)=((s[i]:Nat):Int):=wrap64 (by omega) (by omega)
   simp only [go_sem,ya,HE,show (i:Int)<s.length by omega,oS hi,anu,hb,wrap64 (n:=10*(a:Int)) (by omega) (by omega),wrap64 (n:=10*(a:Int)+(s[i]:Nat)) (by omega) (by omega),wrap64 (n:=10*(a:Int)+(s[i]:Nat)-48) (by omega) (by omega)];refine ⟨_,k-1,rfl,by omega,i+1,10*a+(s[i]-48),?_,by omega,?_,h3⟩
   ·rw [wrap64 (by omega) (by omega),show 10*(a:Int)+(s[i]:Nat)-48=((10*a+(s[i]-48):Nat):Int) by omega];simp only [go_sem,ya,ao]<;>rfl
   ·rw [xg];omega
  ·right
   simp only [go_sem,ya,HE,show ¬(i:Int)<s.length by omega];refine ⟨_,_,rfl,by simp,_,_,rfl,rfl,?_⟩;rw [yP (by omega)] at hs;simp only [cN,yc] at hs;subst hs;simp only [go_sem,ya]
def LB (a:Int):(if 0-a>a then 0-a else a)=(a.natAbs:Int):=by omega
def Lc (a b:Int):a.tdiv (wI a b:Nat)=cZ a b:=tf (uK a b)
def Ld (a b:Int):b.tdiv (wI a b:Nat)=dd a b:=tf (uD a b)
def mC (n:Int):(if n<0 then [45] else [])++ax n.natAbs=aW n:=by
 split
 ·rename_i h;rw [lZ h];rfl
 ·rename_i h;obtain ⟨m,rfl⟩:∃m:Nat,n=m:=⟨n.toNat,by omega⟩;rfl
def ale {n:Int} (h:n.natAbs<18446744073709551616):(aW n).length<=21:=by
 rw [<-mC]
 have:=KM h
 grind
def anv {a b:Int} (hb:0<b):n5 a b=(if 1<dd a b then (aW (cZ a b)++[47])++ax (dd a b).natAbs else aW (cZ a b)):=by
 have h:=G3 (a:=a) hb;unfold n5;by_cases h1:dd a b=1
 ·grind
 ·rw [yF h1,yL (by omega)];obtain ⟨m,hm⟩:∃m:Nat,dd a b=m:=⟨(dd a b).toNat,by omega⟩;rw [hm];rfl
def as6 (h:Has P L 277 Cl) (SE:Has P L 291 IC) (mP:Has P L 292 sB) {a b:Int} (ha: -4000000000000000000<=a/\a<=4000000000000000000) (hb:0<b/\b<=4000000000000000000):
  ae P L 277 [aa a,aa b] (.str (n5 a b)):=by
 have hn:=YE a b;have hd:=YF a b;have hp:=G3 (a:=a) hb.1;have e1:=as5 SE (a:=a.natAbs) (b:=b.natAbs) (by omega) (by omega);have e2:=SD mP (n:=(cZ a b).natAbs) (by omega);have e3:=SD mP (n:=(dd a b).natAbs) (by omega);have hg:=He (a:=a) hb.1;rw [show ((b.natAbs:Nat):Int)=b by omega,show wo a.natAbs b.natAbs=wI a b from rfl] at e1;rw [show (((dd a b).natAbs:Nat):Int)=dd a b by omega] at e3;have mq:=ale (n:=cZ a b) (by omega);have mY:=KM (n:=(cZ a b).natAbs) (by omega);have hl3:=KM (n:=(dd a b).natAbs) (by omega);have hT:=anv (a:=a) hb.1;have hS:=mC (cZ a b);unfold ae at e1 e2 e3 ⊢;rw [au h];by_cases h0:cZ a b<0
 ·rw [yL h0] at hS;by_cases h1:1<dd a b
  ·rw [yL h1] at hT
   simp only [go_sem,ya,Cl,show ¬a< -4000000000000000000 by omega,show ¬4000000000000000000<a by omega,show ¬b< -4000000000000000000 by omega,show ¬4000000000000000000<b by omega,show ¬b<0 by omega,wrap64 (n:=0-a) (by omega) (by omega),HL,G2,LB,e1,eV _ _ _ (show ((wI a b:Nat):Int)≠0 by omega),Lc,Ld,wrap64 (n:=cZ a b) (by omega) (by omega),wrap64 (n:=dd a b) (by omega) (by omega),h0,wrap64 (n:=0-cZ a b) (by omega) (by omega),e2,fS (a:=[45]) (b:=ax (cZ a b).natAbs) (by simp;omega),hS,h1,fS (a:=aW (cZ a b)) (b:=[47]) (by simp;omega),e3,fS (a:=aW (cZ a b)++[47]) (b:=ax (dd a b).natAbs) (by simp;omega),hT]
  ·rw [yF h1] at hT
   simp only [go_sem,ya,Cl,show ¬a< -4000000000000000000 by omega,show ¬4000000000000000000<a by omega,show ¬b< -4000000000000000000 by omega,show ¬4000000000000000000<b by omega,show ¬b<0 by omega,wrap64 (n:=0-a) (by omega) (by omega),HL,G2,LB,e1,eV _ _ _ (show ((wI a b:Nat):Int)≠0 by omega),Lc,Ld,wrap64 (n:=cZ a b) (by omega) (by omega),wrap64 (n:=dd a b) (by omega) (by omega),h0,wrap64 (n:=0-cZ a b) (by omega) (by omega),e2,fS (a:=[45]) (b:=ax (cZ a b).natAbs) (by simp;omega),hS,h1,hT]
 ·rw [yF h0] at hS;by_cases h1:1<dd a b
  ·rw [yL h1] at hT
   simp only [go_sem,ya,Cl,show ¬a< -4000000000000000000 by omega,show ¬4000000000000000000<a by omega,show ¬b< -4000000000000000000 by omega,show ¬4000000000000000000<b by omega,show ¬b<0 by omega,wrap64 (n:=0-a) (by omega) (by omega),HL,G2,LB,e1,eV _ _ _ (show ((wI a b:Nat):Int)≠0 by omega),Lc,Ld,wrap64 (n:=cZ a b) (by omega) (by omega),wrap64 (n:=dd a b) (by omega) (by omega),h0,wrap64 (n:=0-cZ a b) (by omega) (by omega),e2,fS (a:=[]) (b:=ax (cZ a b).natAbs) (by simp;omega),hS,h1,fS (a:=aW (cZ a b)) (b:=[47]) (by simp;omega),e3,fS (a:=aW (cZ a b)++[47]) (b:=ax (dd a b).natAbs) (by simp;omega),hT]
  ·rw [yF h1] at hT
   simp only [go_sem,ya,Cl,show ¬a< -4000000000000000000 by omega,show ¬4000000000000000000<a by omega,show ¬b< -4000000000000000000 by omega,show ¬4000000000000000000<b by omega,show ¬b<0 by omega,wrap64 (n:=0-a) (by omega) (by omega),HL,G2,LB,e1,eV _ _ _ (show ((wI a b:Nat):Int)≠0 by omega),Lc,Ld,wrap64 (n:=cZ a b) (by omega) (by omega),wrap64 (n:=dd a b) (by omega) (by omega),h0,wrap64 (n:=0-cZ a b) (by omega) (by omega),e2,fS (a:=[]) (b:=ax (cZ a b).natAbs) (by simp;omega),hS,h1,hT]
end
end
section
open Go (IntKind)
def TT (n:Int) (d:Nat):List Nat:=aW n++(if d=1 then [] else 47::ax d)
def anw {a b:Int} (hb:0<b):n5 a b=TT (cZ a b) (dd a b).toNat:=by
 have h:=G3 (a:=a) hb;unfold n5 TT;by_cases h1:dd a b=1
 ·grind
 ·rw [yF h1,yF (by omega)];obtain ⟨m,hm⟩:∃m:Nat,dd a b=m:=⟨(dd a b).toNat,by omega⟩;rw [hm,List.append_assoc];rfl
def rI (n:Nat):0<(ax n).length:=by
 by_cases h:n<10
 ·rw [nD h];simp
 ·rw [oO h];simp
def Hf:∀(n:Nat),n<10^(ax n).length:=by
 intro n
 induction n using vQ with
 | _ n ih=>
  by_cases h:n<10
  ·rw [nD h];simpa using h
  ·have:=ih (n/10) (by omega)
   rw [oO h,yW,List.length_singleton,xg];omega
def YH {n:Nat} (h:(ax n).length<=9):n<1000000000:=
 Nat.lt_of_lt_of_le (Hf n) (by simpa using xA (show 0<10 by decide) h)
def Dx (n:Nat):∃b r,ax n=b::r/\48<=b/\b<=57:=by
 cases hq:ax n with
 | nil=>have:=rI n;rw [hq] at this;simp at this
 | cons b r=>
  have:=GS n
  rw [hq] at this;simp only [de,yf] at this
  simp_all
section
variable {P:aI} {L:Lib}
def Ct (s:List Nat):mf 0 (.str (45::s))=some (.int .u8 45):=rfl
def QT (q:Bool) (n:Int) (d:Nat):AV:=if q=true then .aq [aa n,aa d,.bool true] else .aq [aa 0,aa 0,.bool false]
def se (d:Nat):List Nat:=if d=1 then [] else 47::ax d
def ahw (d:Nat):bO (se d)=0:=by unfold se;split<;>rfl
def as7 (h:Has P L 276 nZ) (sF:Has P L 272 Iy) (sG:Has P L 290 Ez) {n:Int} {d:Nat} (hl:(TT n d).length<=20000000000):
  ∃q:Bool,ae P L 276 [.str (TT n d)] (QT q n d)/\(q=true->n.natAbs<1000000000/\d<1000000000):=by
 generalize hs:TT n d=s at hl;by_cases lW:20<s.length
 ·refine ⟨false,?_,fun h=>by cases h⟩;unfold ae;rw [au h];simp only [go_sem,ya,nZ,show (20:Int)<s.length by omega];rfl
 ·have hu:∃u,u=ax n.natAbs++se d:=⟨_,rfl⟩;obtain ⟨u,hu⟩:=hu;have hK:∃K,K=(ax n.natAbs).length:=⟨_,rfl⟩;obtain ⟨K,hK⟩:=hK;have NW:bO u=K:=by rw [hu,Kz _ (GS _),ahw,hK];rfl
  have hlen:u.length=K+(se d).length:=by rw [hu,hK,yW]
  have hp:=rI n.natAbs;obtain ⟨b,r,hb,jo,Fg⟩:=Dx n.natAbs;have CS:(n<0/\s=45::u)\/(¬n<0/\s=u):=by
   by_cases h0:n<0
   ·left;refine ⟨h0,?_⟩;rw [<-hs,hu,TT,lZ h0];rfl
   ·right;refine ⟨h0,?_⟩;rw [<-hs,hu,TT,<-mC,yF h0];rfl
  have hul:u.length<=s.length:=by rcases CS with ⟨_,e⟩ | ⟨_,e⟩<;>rw [e]<;>simp
  have A4:0<u.length:=by omega
  have pv:u[0]=b:=by
   have:u=b::(r++se d):=by rw [hu,hb];rfl
   simp [this]
  have e1:=Cs sF (s:=u) (by omega);rw [NW] at e1;have dU:gX u (some 0) (some K)=some (.str (ax n.natAbs)):=by
   rw [kB (by omega) (by omega),yi,hu,hK,List.take_left]
  unfold ae at e1;by_cases h9:9<K
  ·refine ⟨false,?_,fun h=>by cases h⟩;unfold ae;rw [au h];rcases CS with ⟨h0,e⟩ | ⟨h0,e⟩
   ·have lW:¬20<u.length+1:=by rw [e] at lW;exact lW
    have kj:gX (45::u) (some 1) (some (u.length+1))=some (.str u):=by rw [kB (s:=45::u) (l:=1) (h:=u.length+1) (by omega) (by simp)];simp
    rw [e];simp only [go_sem,ya,nZ,show ¬(20:Int)<((u.length+1:Nat):Int) by omega,show (0:Int)<((u.length+1:Nat):Int) by omega,Ct,ew,eK,du,kj,e1,show (9:Int)<(K:Int) by omega];rfl
   ·rw [e];simp only [go_sem,ya,nZ,show ¬(20:Int)<(u.length:Nat) by omega,show (0:Int)<(u.length:Nat) by omega,oS A4,pv,show ¬((b:Nat):Int)=45 by omega,e1,show (9:Int)<(K:Int) by omega];rfl
  ·by_cases il:10<(se d).length
   ·refine ⟨false,?_,fun h=>by cases h⟩;unfold ae;rw [au h];rcases CS with ⟨h0,e⟩ | ⟨h0,e⟩
    ·have lW:¬20<u.length+1:=by rw [e] at lW;exact lW
     have kj:gX (45::u) (some 1) (some (u.length+1))=some (.str u):=by rw [kB (s:=45::u) (l:=1) (h:=u.length+1) (by omega) (by simp)];simp
     rw [e]
     simp only [go_sem,ya,nZ,show ¬(20:Int)<((u.length+1:Nat):Int) by omega,show (0:Int)<((u.length+1:Nat):Int) by omega,Ct,ew,eK,du,kj,e1,show ¬(9:Int)<(K:Int) by omega,wrap64 (n:=(u.length:Int)-(K:Int)) (by omega) (by omega),show (10:Int)<(u.length:Int)-(K:Int) by omega];rfl
    ·rw [e]
     simp only [go_sem,ya,nZ,show ¬(20:Int)<(u.length:Nat) by omega,show (0:Int)<(u.length:Nat) by omega,oS A4,pv,show ¬((b:Nat):Int)=45 by omega,e1,show ¬(9:Int)<(K:Int) by omega,wrap64 (n:=(u.length:Int)-(K:Int)) (by omega) (by omega),show (10:Int)<(u.length:Int)-(K:Int) by omega];rfl
   ·have e2:=IV sG (s:=ax n.natAbs) (by omega) (Br n.natAbs);unfold ae at e2;have hm:=YH (n:=n.natAbs) (by omega);by_cases hd:d=1
    ·subst hd;have kR:se 1=[]:=rfl;refine ⟨true,?_,fun _=>⟨hm,by decide⟩⟩;rw [kR] at hlen;simp only [yA,yV] at hlen;unfold ae;rw [au h];rcases CS with ⟨h0,e⟩ | ⟨h0,e⟩
     ·have lW:¬20<u.length+1:=by rw [e] at lW;exact lW
      have kj:gX (45::u) (some 1) (some (u.length+1))=some (.str u):=by rw [kB (s:=45::u) (l:=1) (h:=u.length+1) (by omega) (by simp)];simp
      rw [e]
      simp only [go_sem,ya,nZ,show ¬(20:Int)<((u.length+1:Nat):Int) by omega,show (0:Int)<((u.length+1:Nat):Int) by omega,Ct,ew,eK,du,kj,e1,show ¬(9:Int)<(K:Int) by omega,wrap64 (n:=(u.length:Int)-(K:Int)) (by omega) (by omega),show ¬(10:Int)<(u.length:Int)-(K:Int) by omega,dU,e2,show ¬(K:Int)<(u.length:Int) by omega,wrap64 (n:=0-(n.natAbs:Int)) (by omega) (by omega)];rw [show 0-(n.natAbs:Int)=n by omega];rfl
     ·rw [e]
      simp only [go_sem,ya,nZ,show ¬(20:Int)<(u.length:Nat) by omega,show (0:Int)<(u.length:Nat) by omega,oS A4,pv,show ¬((b:Nat):Int)=45 by omega,ew,eK,du,e1,show ¬(9:Int)<(K:Int) by omega,wrap64 (n:=(u.length:Int)-(K:Int)) (by omega) (by omega),show ¬(10:Int)<(u.length:Int)-(K:Int) by omega,dU,e2,show ¬(K:Int)<(u.length:Int) by omega];rw [show (n.natAbs:Int)=n by omega];rfl
    ·have kR:se d=47::ax d:=yF hd;have JW:(se d).length=(ax d).length+1:=by rw [kR];rfl
     have hpd:=rI d;have hd9:=YH (n:=d) (by omega);have e3:=IV sG (s:=ax d) (by omega) (Br d);unfold ae at e3;have qU:gX u (some (K+1)) (some u.length)=some (.str (ax d)):=by
      rw [kB (by omega) (yv _),xM,hu,kR,hK,show (ax n.natAbs).length+1=(ax n.natAbs++[47]).length by simp,show ax n.natAbs++47::ax d=(ax n.natAbs++[47])++ax d by simp,List.drop_left]
     refine ⟨true,?_,fun _=>⟨hm,hd9⟩⟩;unfold ae;rw [au h];rcases CS with ⟨h0,e⟩ | ⟨h0,e⟩
     ·have lW:¬20<u.length+1:=by rw [e] at lW;exact lW
      have kj:gX (45::u) (some 1) (some (u.length+1))=some (.str u):=by rw [kB (s:=45::u) (l:=1) (h:=u.length+1) (by omega) (by simp)];simp
      rw [e]
      simp only [go_sem,ya,nZ,show ¬(20:Int)<((u.length+1:Nat):Int) by omega,show (0:Int)<((u.length+1:Nat):Int) by omega,Ct,ew,eK,du,kj,e1,show ¬(9:Int)<(K:Int) by omega,wrap64 (n:=(u.length:Int)-(K:Int)) (by omega) (by omega),show ¬(10:Int)<(u.length:Int)-(K:Int) by omega,dU,e2,show (K:Int)<(u.length:Int) by omega,wrapN (n:=K+1) (by omega),show (K:Int)+1=((K+1:Nat):Int) from rfl,qU,e3,wrap64 (n:=0-(n.natAbs:Int)) (by omega) (by omega)];rw [show 0-(n.natAbs:Int)=n by omega];rfl
     ·rw [e]
      simp only [go_sem,ya,nZ,show ¬(20:Int)<(u.length:Nat) by omega,show (0:Int)<(u.length:Nat) by omega,oS A4,pv,show ¬((b:Nat):Int)=45 by omega,ew,eK,du,e1,show ¬(9:Int)<(K:Int) by omega,wrap64 (n:=(u.length:Int)-(K:Int)) (by omega) (by omega),show ¬(10:Int)<(u.length:Int)-(K:Int) by omega,dU,e2,show (K:Int)<(u.length:Int) by omega,wrapN (n:=K+1) (by omega),show (K:Int)+1=((K+1:Nat):Int) from rfl,qU,e3];rw [show (n.natAbs:Int)=n by omega];rfl
end
end
section
open Go (IntKind)
section
variable {P:aI} {L:Lib}
def SF (h:Has P L 302 qu) {v:AV} {l:List Int} (hv:bk v l) (i:Nat):ae P L 302 [v,aa i] (aa (l.getD i 0)):=by
 unfold ae;rw [au h];by_cases hi:i<l.length
 ·simp only [go_sem,ya,qu,hv.len,show (i:Int)<l.length by omega,hv.a8 hi];simp [xU,wH hi]
 ·simp only [go_sem,ya,qu,hv.len,show ¬(i:Int)<l.length by omega];simp [xU,List.getElem?_eq_none (Nat.le_of_not_lt hi)]
def ZJ {hp:Hp} {e:Bool} {n:Nat} {cs:List AV} {tm:Env} {h:Nat} {x:X} (hx:cI tm n (some x)=some h) (hh:h<=n):
  fe hp (.sl 1) (.aH e n cs) tm none (some x)=some (.aH (e&&yt h n) h (cs.take h)):=by
 simp only [fe,hx,eK];simp [yz hh,slice];rw [show yB 0 h=true from yz (ta _)];rfl
def Ay (h:Has P L 300 kJ) {v:AV} {l:List Int} (hv:bk v l) (hl:l.length<=20000000000):∃r,ae P L 300 [v] r/\bk r (dL l)/\shut r=r:=by
 rcases hv with ⟨rfl,h0⟩ | ⟨e,rfl⟩
 ·have:l=[]:=by simpa using h0
  subst this;refine ⟨.ab,?_,lh,rfl⟩;unfold ae;rw [au h];simp only [go_sem,ya,kJ,D4,BO,ao,show ¬(0:Int)<0 by decide]
 ·have key:=eh (P:=P) (L:=L) (live:=[0]) (a:=BO)
   (I:=fun k st=>∃(i:Nat) (e:Bool),st=⟨[(0,.aH e i ((l.take i).map aa))],[],0,0⟩/\i<=l.length/\i=k/\dL (l.take i)=dL l)
   (Q:=fun ex st=>∃tm ct,st=⟨tm,[],ct,0⟩/\ex= .exit 0/\∃i e,aj tm 0= .aH e i ((l.take i).map aa)/\i<=l.length/\l.take i=dL l) ?_
  ·have hlen:(l.map aa).length=l.length:=by simp
   rw [hlen];have iD:∃i e',ae P L 300 [.aH e l.length (l.map aa)] (.aH e' i ((l.take i).map aa))/\i<=l.length/\l.take i=dL l:=by
    unfold ae;rw [au h];simp only [go_sem,kJ];generalize hq:D P L (.loop [0] BO) _=q;obtain ⟨ex,st,rfl,tm,ct,rfl,rfl,i,e',h2,h3,h4⟩:=bI hq (key l.length) ⟨l.length,e,by simp only [go_sem,ya,ao,xM],yv _,rfl,by rw [xM]⟩;simp only [go_sem,ao,h2];exact ⟨i,e',rfl,h3,h4⟩
   obtain ⟨i,e',g1,g2,g3⟩:=iD;refine ⟨_,g1,?_,rfl⟩;rw [<-g3]
   have:=fb e' (l.take i)
   rwa [yQ,xQ g2] at this
  ·rintro k st ⟨i,e,rfl,hi,rfl,ht⟩
   cases i with
   | zero=>
    right
    simp only [go_sem,ya,BO,show ¬(0:Int)<((0:Nat):Int) by omega];exact ⟨_,_,rfl,by simp,_,_,rfl,rfl,0,e,by simp only [go_sem,ya],ta _,by simpa [dL] using ht⟩
   | succ i=>
    have JX:i<l.length:=by omega
    have dS:l.take (i+1)=l.take i++[l[i]]:=yT JX;have iI:xo i ((l.take (i+1)).map aa)=[AV.int .i64 l[i]]:=by
     rw [dS,List.map_append,List.drop_left' (by simp;omega)];rfl
    have nj:gU 1 i (.aH e (i+1) ((l.take (i+1)).map aa))=some (.aO [AV.int .i64 l[i]]):=by
     rw [Lz e _ (by omega),yj,iI]
    by_cases h0:l[i]=0
    ·left
     have kM:∀tm x,cI tm (i+1) (some x)=some i->fe [] (.sl 1) (.aH e (i+1) ((l.take (i+1)).map aa)) tm none (some x)=some (.aH (e&&yt i (i+1)) i ((l.take i).map aa)):=fun tm x hx=>by
      rw [ZJ hx (by omega),<-yav,List.take_take,xQ (by omega)]
     simp only [go_sem,ya,BO,show (0:Int)<((i+1:Nat):Int) by omega,show ((i+1:Nat):Int)-1=(i:Int) by omega,wrapN (n:=i) (by omega),nj,h0,kM,du];refine ⟨_,i,rfl,by omega,i,_,by simp only [go_sem,ao]<;>rfl,by omega,rfl,?_⟩
     rw [<-ht,dS,h0,GH]
    ·right
     simp only [go_sem,ya,BO,show (0:Int)<((i+1:Nat):Int) by omega,show ((i+1:Nat):Int)-1=(i:Int) by omega,wrapN (n:=i) (by omega),nj,h0];refine ⟨_,_,rfl,by simp,_,_,rfl,rfl,i+1,e,by simp only [go_sem,ya],by omega,?_⟩;rw [<-ht,dS,KK h0]
end
end
section
open Go (IntKind)
abbrev uc (n:Nat):AV:= .int .u64 (n:Int)
def bG (v:AV) (l:List Nat):Prop:=cY v (l.map uc)
section
variable {v:AV} {l:List Nat}
def bG.len (h:bG v l) {hp:Hp}:gV hp 1 v=some (.int .i64 (l.length:Nat)):=by
 have:=cY.len (hp:=hp) h
 grind
def bG.pu (h:bG v l):aX v=true:=cY.pu h
def bG.af (h:bG v l) (n:Nat) {hp:Hp}:freeze (n+1) hp v=some (v,hp):=cY.af h n
def bG.shut (h:bG v l):VE.shut v=v:=cY.shut h
def bG.bT (h:bG v l):VE.bT v=v:=cY.bT h
def bG.dY (h:bG v l) {hp:Hp}:result hp v=some v:=cY.dY h
def bG.one (h:bG v l):br v=true:=cY.one h
def bG.a8 (h:bG v l) {i:Nat} (hi:i<l.length):gU 1 i v=some (.aO (uc (l.getD i 0)::(l.map uc).drop (i+1))):=by
 have:=cY.a8 h (i:=i) (by simpa using hi)
 grind
def mb (e:Bool) (l:List Nat):bG (.aH e l.length (l.map uc)) l:=by
 have:=LA e (l.map uc)
 rwa [List.length_map] at this
def rJ:bG .ab []:=lh
end
def jG {hp:Hp} {ct id o:Nat} {v:Nat} {ex:Bool} {l:List Nat} (h:o<l.length):fM hp ct id o 1 [.int .u64 (v:Int)] (some (.cells true true ex 1 (l.map uc)))=some (.aq [],bh hp id (.cells true true ex 1 ((l.set o v).map uc)),ct):=by
 rw [nV (by rfl) (by simp;omega) (by rfl)]
 have:over o [uc v] (l.map uc)=(l.set o v).map uc:=by
  simp only [over,yu,yA,yd];rw [List.map_set,List.set_eq_take_append_cons_drop,yL (by simpa using h)]
  simp
 rw [this];rfl
def sf {l:List Nat} {o:Nat} (h:o<l.length):xo o (l.map uc)=uc (l.getD o 0)::xo (o+1) (l.map uc):=by
 rw [yJ (by simpa using h)]
 grind
def anx (n:Nat):(yH n [AV.int .u64 0]).flatten=(yH n 0).map uc:=by simp_all
def Cu (ct:Nat) {n:Nat} (h:n<=100000000000):sE ct 1 8 [.int .u64 0] (some n) (some n)=some (.aE ct 0 n,.cells true true true 1 ((yH n 0).map uc)):=by
 rw [HK (sz:=1) (by omega) (by omega) (by rfl) (by rfl),anx];rfl
def Az (hp:Hp) {n:Nat} {l:List Nat} (h:l.length=n) (ex:Bool):kL 0 n (some (ex,1,l.map uc,hp))=some (.aH ex n (l.map uc),hp):=pM ex (by simp [h]) (by decide)
def acN {n:Nat} (h:n<18446744073709551616):IntKind.wrap .u64 (n:Int)=n:=arT (by omega) (by omega)
section
variable {P:aI} {L:Lib} {f:cF}
def ji {a b:Nat} (h:a<b):yI a b=true:=by simp_all
def BX (h:L.pure 171=some mF) {x y c:Nat} (hx:x<18446744073709551616) (hy:y<18446744073709551616) (hc:c<=1):
  bN P L f 171 [uc x,uc y,uc c]=some (.aq [uc ((x+y+c)%18446744073709551616),uc ((x+y+c)/18446744073709551616)]):=by
 rw [iM h];show (bif yB c 1&&(yI x 18446744073709551616&&yI y 18446744073709551616) then _ else none)=_
 rw [yz hc,ji hx,ji hy];rfl
def QU (h:L.pure 173=some zR) {x y c:Nat} (hx:x<18446744073709551616) (hy:y<18446744073709551616) (hc:c<=1):
  bN P L f 173 [uc x,uc y,uc c]=some (.aq [uc ((x+18446744073709551616*2-y-c)%18446744073709551616),uc (if y+c<=x then 0 else 1)]):=by
 rw [iM h];show (bif yB c 1&&(yI x 18446744073709551616&&yI y 18446744073709551616) then _ else none)=_
 rw [yz hc,ji hx,ji hy];by_cases hh:y+c<=x
 ·rw [yz hh,yL hh];rfl
 ·have:yB (y+c) x=false:=by
   cases hq:yB (y+c) x with
   | false=>rfl
   | true=>exact absurd (yr hq) hh
  grind
def LV (h:L.pure 143=some pR) {x y:Nat} (hx:x<18446744073709551616) (hy:y<18446744073709551616):
  bN P L f 143 [uc x,uc y]=some (.aq [uc (x*y/18446744073709551616),uc (x*y%18446744073709551616)]):=by
 rw [iM h];show (bif yI x 18446744073709551616&&yI y 18446744073709551616 then _ else none)=_
 rw [ji hx,ji hy];rfl
def alf {hp:Hp} {tm:Env} {x:X} (hx:cI tm 0 (some x)=some 0):fe hp (.sl 1) .ab tm none (some x)=some .ab:=by
 simp only [fe,hx,eK]
def AA (h:Has P L 166 An) {v:AV} {l:List Nat} (hv:bG v l) (hl:l.length<=100000000000):∃r,ae P L 166 [v] r/\bG r (dM l):=by
 rcases hv with ⟨rfl,h0⟩ | ⟨e,rfl⟩
 ·have:l=[]:=by simpa using h0
  subst this;refine ⟨.ab,?_,lh⟩;unfold ae;rw [au h];simp only [go_sem,ya,An,D4,BL,ao,show ¬(0:Int)<0 by decide,alf,du]
 ·have key:=eh (P:=P) (L:=L) (live:=[0,3]) (a:=BL)
   (I:=fun k st=>∃(i:Nat),st=⟨[(0,.aH e l.length (l.map uc)),(3,aa i)],[],0,0⟩/\i<=l.length/\i=k/\dM (l.take i)=dM l)
   (Q:=fun ex st=>∃tm ct,st=⟨tm,[],ct,0⟩/\ex= .exit 0/\∃i:Nat,aj tm 0= .aH e l.length (l.map uc)/\aj tm 3=aa i/\i<=l.length/\l.take i=dM l) ?_
  ·have hlen:(l.map uc).length=l.length:=by simp
   rw [hlen];have iD:∃i e',ae P L 166 [.aH e l.length (l.map uc)] (.aH e' i ((l.take i).map uc))/\i<=l.length/\l.take i=dM l:=by
    unfold ae;rw [au h];simp only [go_sem,ya,An];generalize hq:D P L (.loop [0,3] BL) _=q;obtain ⟨ex,st,rfl,tm,ct,rfl,rfl,i,h2,h3,h4,h5⟩:=bI hq (key l.length) ⟨l.length,by simp only [go_sem,ya,ao],yv _,rfl,by rw [xM]⟩;have kM:∀tm x,cI tm l.length (some x)=some i->fe [] (.sl 1) (.aH e l.length (l.map uc)) tm none (some x)=some (.aH (e&&yt i l.length) i ((l.map uc).take i)):=fun tm x hx=>ZJ hx h4
    simp only [go_sem,ya,ao,h2,h3,kM,du];exact ⟨i,_,by rw [yav],h4,h5⟩
   obtain ⟨i,e',g1,g2,g3⟩:=iD;refine ⟨_,g1,?_⟩;rw [<-g3]
   have:=mb e' (l.take i)
   rwa [yQ,xQ g2] at this
  ·rintro k st ⟨i,rfl,hi,rfl,ht⟩
   cases i with
   | zero=>
    right
    simp only [go_sem,ya,BL,show ¬(0:Int)<((0:Nat):Int) by omega];exact ⟨_,_,rfl,by simp,_,_,rfl,rfl,0,by simp only [go_sem,ya],by simp only [go_sem,ya],ta _,by simpa [dM] using ht⟩
   | succ i=>
    have JX:i<l.length:=by omega
    have dS:l.take (i+1)=l.take i++[l[i]]:=yT JX;have nj:=(mb e l).a8 JX;rw [<-gd JX] at nj;by_cases h0:l[i]=0
    ·left
     simp only [go_sem,ya,BL,show (0:Int)<((i+1:Nat):Int) by omega,show ((i+1:Nat):Int)-1=(i:Int) by omega,wrapN (n:=i) (by omega),nj,show ((l[i]:Nat):Int)=0 by omega];refine ⟨_,i,rfl,by omega,i,by simp only [go_sem,ya,ao],by omega,rfl,?_⟩;rw [<-ht,dS,h0,KL]
    ·right
     simp only [go_sem,ya,BL,show (0:Int)<((i+1:Nat):Int) by omega,show ((i+1:Nat):Int)-1=(i:Int) by omega,wrapN (n:=i) (by omega),nj,show ¬((l[i]:Nat):Int)=0 by omega];refine ⟨_,_,rfl,by simp,_,_,rfl,rfl,i+1,by simp only [go_sem,ya],by simp only [go_sem,ya],by omega,?_⟩;rw [<-ht,dS,Dt h0]
end
end
section
open Go (IntKind)
def KN (p b s:Nat):p*(s%b)+p*b*(s/b)=p*s:=by
 rw [Nat.mul_assoc,<-Nat.mul_add,Nat.mod_add_div]
def ai8 {b:Nat} {x y out:List Nat} {i c:Nat} (hi:i<out.length) (hz:out.getD i 0=0) (hv:bv b out+b^i*c=bv b (x.take i)+bv b (y.take i)):
  bv b (out.set i ((x.getD i 0+y.getD i 0+c)%b))+b^(i+1)*((x.getD i 0+y.getD i 0+c)/b)=bv b (x.take (i+1))+bv b (y.take (i+1)):=by
 have h1:=mH (b:=b) (x:=(x.getD i 0+y.getD i 0+c)%b) hi;have h2:=KN (b^i) b (x.getD i 0+y.getD i 0+c);rw [hz,xE,yV] at h1;rw [iP,iP,xg,h1]
 grind
def ai9 {b:Nat} {x y out:List Nat} {i c z c':Nat} (hi:i<out.length) (hz:out.getD i 0=0) (hs:z+y.getD i 0+c=x.getD i 0+b*c') (hv:bv b out+bv b (y.take i)=bv b (x.take i)+b^i*c):
  bv b (out.set i z)+bv b (y.take (i+1))=bv b (x.take (i+1))+b^(i+1)*c':=by
 have h1:=mH (b:=b) (x:=z) hi;rw [hz,xE,yV] at h1;rw [iP,iP,xg,h1]
 grind
section
variable {P:aI} {L:Lib}
def ady (h:Has P L 158 Eu) {v w:AV} {x y:List Nat} (hv:bG v x) (hw:bG w y) (hx:lo 18446744073709551616 x) (hy:lo 18446744073709551616 y) (nx:gm x) (ny:gm y) (lx:x.length<=100000000000) (ly:y.length<=100000000000):
  ae P L 158 [v,w] (aa (dF (bv 18446744073709551616 x) (bv 18446744073709551616 y))):=by
 unfold ae;rw [au h];by_cases hlen:x.length=y.length
 ·have key:=eh (P:=P) (L:=L) (live:=[0,1,5]) (a:=BK)
   (I:=fun k st=>∃j:Nat,st=⟨[(0,v),(1,w),(5,aa ((j:Int)-1))],[],0,0⟩/\j<=x.length/\j=k/\x.drop j=y.drop j)
   (Q:=fun ex st=>∃tm ct,st=⟨tm,[],ct,0⟩/\((ex= .ret/\aj tm 4=aa (dF (bv 18446744073709551616 x) (bv 18446744073709551616 y)))\/(ex= .exit 0/\x=y))) ?_
  ·simp only [go_sem,ya,Eu,hv.len,hw.len,show (x.length:Int)=y.length by omega];generalize hq:D P L (.loop [0,1,5] BK) _=q;obtain ⟨ex,st,rfl,tm,ct,rfl,h2⟩:=bI hq (key x.length) ⟨x.length,by
    rw [wrap64 (by omega) (by omega),hlen]
    simp only [go_sem,ya,ao,aA hv.pu,aF _ hv.pu,aA hw.pu,aF _ hw.pu]<;>rfl,yv _,rfl,by rw [yP (yv _),yP (by omega)]⟩
   rcases h2 with ⟨rfl,h2⟩ | ⟨rfl,h2⟩
   ·simp only [go_sem,h2]
   ·simp only [go_sem,ao];subst h2;simp [dF]
  ·rintro k st ⟨j,rfl,hj,rfl,he⟩
   cases j with
   | zero=>
    right
    simp only [go_sem,ya,BK,show ¬(0:Int)<=((0:Nat):Int)-1 by omega];exact ⟨_,_,rfl,by simp,_,_,rfl,.inr ⟨rfl,by simpa using he⟩⟩
   | succ i=>
    have h1:i<x.length:=by omega
    have h2:i<y.length:=by omega
    have E0:=ZD hx h1 h2 he;have a6:=ZD hy h2 h1 he.symm;by_cases c0:x.getD i 0=y.getD i 0
    ·left
     simp only [go_sem,ya,BK,show ((i+1:Nat):Int)-1=(i:Int) by omega,show (0:Int)<=(i:Int) by omega,hv.a8 h1,hw.a8 h2,c0];refine ⟨_,i,rfl,by omega,i,?_,by omega,rfl,?_⟩
     ·rw [wrap64 (by omega) (by omega)];simp only [go_sem,ya,ao,aA hv.pu,aF _ hv.pu,aA hw.pu,aF _ hw.pu]<;>rfl
     ·rw [yJ h1,yJ h2,he,gd h1,gd h2,c0]
    ·by_cases c1:x.getD i 0<y.getD i 0
     ·right
      simp only [go_sem,ya,BK,show ((i+1:Nat):Int)-1=(i:Int) by omega,show (0:Int)<=(i:Int) by omega,hv.a8 h1,hw.a8 h2,show ¬((x.getD i 0:Nat):Int)=(y.getD i 0:Nat) by omega,show ((x.getD i 0:Nat):Int)<(y.getD i 0:Nat) by omega];refine ⟨_,_,rfl,by simp,_,_,rfl,.inl ⟨rfl,?_⟩⟩;simp only [go_sem];unfold dF;rw [yL (E0 c1)]
     ·right
      simp only [go_sem,ya,BK,show ((i+1:Nat):Int)-1=(i:Int) by omega,show (0:Int)<=(i:Int) by omega,hv.a8 h1,hw.a8 h2,show ¬((x.getD i 0:Nat):Int)=(y.getD i 0:Nat) by omega,show ¬((x.getD i 0:Nat):Int)<(y.getD i 0:Nat) by omega];refine ⟨_,_,rfl,by simp,_,_,rfl,.inl ⟨rfl,?_⟩⟩;simp only [go_sem];unfold dF;rw [yF (by omega),yL (by omega)]
 ·by_cases c1:x.length<y.length
  ·have:=Lx (b:=18446744073709551616) (by decide) hx ny c1
   simp only [go_sem,ya,Eu,hv.len,hw.len,show ¬(x.length:Int)=y.length by omega,show (x.length:Int)<y.length by omega];unfold dF;rw [yL this]
  ·have:=Lx (b:=18446744073709551616) (by decide) hy nx (show y.length<x.length by omega)
   simp only [go_sem,ya,Eu,hv.len,hw.len,show ¬(x.length:Int)=y.length by omega,show ¬(x.length:Int)<y.length by omega];unfold dF;rw [yF (by omega),yL this]
def abd (fY:L.pure 171=some mF) {v w:AV} {x y:List Nat} (hv:bG v x) (hw:bG w y) (hx:lo 18446744073709551616 x) (hy:lo 18446744073709551616 y) (lx:x.length<=99999999999) (ly:y.length<=x.length) {n:Nat} (hn:n=x.length+1):
  ∀k s,(∃(i c:Nat) (out:List Nat),bf [0,1,5,6,21,22] s=⟨[(0,v),(1,w),(5,.aE 0 0 n),(6,uc c),(21,aa x.length),(22,aa i)],[(0,.cells true true true 1 (out.map uc))],1,0⟩/\i+k=x.length/\out.length=n/\c<=1/\lo 18446744073709551616 out/\
    bv 18446744073709551616 out+18446744073709551616^i*c=bv 18446744073709551616 (x.take i)+bv 18446744073709551616 (y.take i)/\(∀m,i<=m->out.getD m 0=0))->
   ∃ex s',D P L (.loop [0,1,5,6,21,22] BJ) s=some (ex,s')/\∃tm c out,s'=⟨tm,[(0,.cells true true true 1 (out.map uc))],1,0⟩/\ex= .exit 0/\aj tm 0=v/\aj tm 5= .aE 0 0 n/\aj tm 6=uc c/\out.length=n/\c<=1/\lo 18446744073709551616 out/\
    bv 18446744073709551616 out+18446744073709551616^x.length*c=bv 18446744073709551616 x+bv 18446744073709551616 y/\out.getD x.length 0=0:=by
 intro dq sq;generalize bQ:bf [0,1,5,6,21,22] sq=s0;revert bQ s0 sq dq;apply eO;rintro k s ⟨i,c,out,rfl,hk,hlen,hc,bi,aQ,fN⟩;by_cases hi:i<x.length
 ·left
  have hz:=fN i (yv _);have jQ:=ai8 (x:=x) (y:=y) (show i<out.length by omega) hz aQ;have gx:=gC (show 0<18446744073709551616 by decide) hx i;have gy:=gC (show 0<18446744073709551616 by decide) hy i;have e1:=BX (P:=P) (f:=D P L) fY gx gy hc;have ex:=hv.a8 hi;generalize x.getD i 0=p at*
  by_cases hj:i<y.length
  ·have ey:=hw.a8 hj;generalize y.getD i 0=q at*
   simp only [go_sem,ya,yj,BJ,hw.len,show (i:Int)<x.length by omega,show (i:Int)<y.length by omega,ex,ey,e1,db 0 0 (show i<n by omega),yd,jG (l:=out) (o:=i) (by omega)]
   refine ⟨_,k-1,rfl,by omega,i+1,(p+q+c)/18446744073709551616,_,?_,by omega,by simp [hlen],by omega,lm bi (x:=(p+q+c)%18446744073709551616) (i:=i) (by omega),jQ,fun m hm=>?_⟩
   ·rw [wrap64 (by omega) (by omega)];simp only [go_sem,ya,yb,ao,aA hv.pu,aF _ hv.pu,aA hw.pu,aF _ hw.pu]<;>rfl
   ·rw [nJ (by omega)];exact fN m (by omega)
  ·have jr:y.getD i 0=0:=QR (by omega);rw [jr] at jQ e1;rw [show (uc 0)=AV.int .u64 0 from rfl] at e1
   simp only [go_sem,ya,yj,BJ,hw.len,show (i:Int)<x.length by omega,show ¬(i:Int)<y.length by omega,ex,e1,db 0 0 (show i<n by omega),yd,jG (l:=out) (o:=i) (by omega)]
   refine ⟨_,k-1,rfl,by omega,i+1,(p+0+c)/18446744073709551616,_,?_,by omega,by simp [hlen],by omega,lm bi (x:=(p+0+c)%18446744073709551616) (i:=i) (by omega),jQ,fun m hm=>?_⟩
   ·rw [wrap64 (by omega) (by omega)];simp only [go_sem,ya,yb,ao,aA hv.pu,aF _ hv.pu,aA hw.pu,aF _ hw.pu]<;>rfl
   ·rw [nJ (by omega)];exact fN m (by omega)
 ·right
  have:i=x.length:=by omega
  subst this;rw [xM,List.take_of_length_le ly] at aQ;simp only [go_sem,ya,BJ,show ¬(x.length:Int)<x.length by omega];exact ⟨_,_,rfl,by simp,_,c,out,rfl,rfl,by simp only [go_sem,ya],by simp only [go_sem,ya],by simp only [go_sem,ya],hlen,hc,bi,aQ,fN _ (yv _)⟩
def as8 (h:Has P L 157 Ir) (lM:Has P L 166 An) (fY:L.pure 171=some mF) {v w:AV} {x y:List Nat} (hv:bG v x) (hw:bG w y) (hx:lo 18446744073709551616 x) (hy:lo 18446744073709551616 y) (lx:x.length<=99999999999) (ly:y.length<=99999999999):
  ∃r out,ae P L 157 [v,w] r/\bG r out/\lo 18446744073709551616 out/\gm out/\bv 18446744073709551616 out=bv 18446744073709551616 x+bv 18446744073709551616 y:=by
 have fin:∀{x y o:List Nat} {n c:Nat},n=x.length+1->x.length<=99999999999->o.length=n->c<=1->lo 18446744073709551616 o->bv 18446744073709551616 o+18446744073709551616^x.length*c=bv 18446744073709551616 x+bv 18446744073709551616 y->o.getD x.length 0=0->
   ∃r,bN P L (D P L) 166 [.aH true n ((o.set x.length c).map uc)]=some r/\bG r (dM (o.set x.length c))/\lo 18446744073709551616 (dM (o.set x.length c))/\gm (dM (o.set x.length c))/\bv 18446744073709551616 (dM (o.set x.length c))=bv 18446744073709551616 x+bv 18446744073709551616 y:=by
  intro x y o n c hn lx hlen hc bi aQ hz;have bh:=mH (b:=18446744073709551616) (l:=o) (i:=x.length) (x:=c) (by omega);rw [hz,xE,yV,aQ] at bh;have as9:lo 18446744073709551616 (o.set x.length c):=lm bi (by omega);have hf:=mb true (o.set x.length c);rw [List.length_set,hlen] at hf;obtain ⟨r,e1,hr⟩:=AA lM hf (by simp;omega);exact ⟨r,e1,hr,zI as9,zH _,by rw [zG];exact bh⟩
 by_cases hl:x.length<y.length
 ·obtain ⟨n,hn⟩:∃n,n=y.length+1:=⟨_,rfl⟩;unfold ae;rw [au h]
  simp only [go_sem,ya,yb,Ir,hv.len,hw.len,show (x.length:Int)<y.length by omega,wrapN (n:=n) (by omega),show (y.length:Int)+1=((y.length+1:Nat):Int) from rfl,<-hn,Cu (n:=n) _ (by omega)];generalize hq:D P L (.loop [0,1,5,6,21,22] BJ) _=q;obtain ⟨ex,s,rfl,tm,c,o,rfl,rfl,t0,t5,t6,hlen,hc,bi,aQ,hz⟩:=bI hq (abd (P:=P) (L:=L) fY hw hv hy hx ly (by omega) hn y.length)
   ⟨0,0,yH n 0,by simp only [go_sem,ya,yb,ao,aA hv.pu,aF _ hv.pu,aA hw.pu,aF _ hw.pu]<;>rfl,by omega,by simp,by omega,D2 (by decide) n,by rw [D3];simp [bv],fun m _=>Bz n m⟩
  obtain ⟨r,e1,hr,f1,f2,f3⟩:=fin hn ly hlen hc bi aQ hz;refine ⟨r,_,?_,hr,f1,f2,by rw [f3];omega⟩
  simp only [go_sem,ya,yj,ao,aA hw.pu,aF _ hw.pu,hw.len,t0,t5,t6,db 0 0 (show y.length<n by omega),yd,jG (l:=o) (o:=y.length) (by omega)]
  simp only [go_sem,Az _ (n:=n) (l:=o.set y.length c) (by simp [hlen]) true,e1,hr.shut,hr.dY]
 ·obtain ⟨n,hn⟩:∃n,n=x.length+1:=⟨_,rfl⟩;unfold ae;rw [au h]
  simp only [go_sem,ya,yb,Ir,hv.len,hw.len,show ¬(x.length:Int)<y.length by omega,wrapN (n:=n) (by omega),show (x.length:Int)+1=((x.length+1:Nat):Int) from rfl,<-hn,Cu (n:=n) _ (by omega)];generalize hq:D P L (.loop [0,1,5,6,21,22] BJ) _=q;obtain ⟨ex,s,rfl,tm,c,o,rfl,rfl,t0,t5,t6,hlen,hc,bi,aQ,hz⟩:=bI hq (abd (P:=P) (L:=L) fY hv hw hx hy lx (by omega) hn x.length)
   ⟨0,0,yH n 0,by simp only [go_sem,ya,yb,ao,aA hv.pu,aF _ hv.pu,aA hw.pu,aF _ hw.pu]<;>rfl,by omega,by simp,by omega,D2 (by decide) n,by rw [D3];simp [bv],fun m _=>Bz n m⟩
  obtain ⟨r,e1,hr,f1,f2,f3⟩:=fin hn lx hlen hc bi aQ hz;refine ⟨r,_,?_,hr,f1,f2,f3⟩
  simp only [go_sem,ya,yj,ao,aA hv.pu,aF _ hv.pu,hv.len,t0,t5,t6,db 0 0 (show x.length<n by omega),yd,jG (l:=o) (o:=x.length) (by omega)]
  simp only [go_sem,Az _ (n:=n) (l:=o.set x.length c) (by simp [hlen]) true,e1,hr.shut,hr.dY]
end
end
end VE
